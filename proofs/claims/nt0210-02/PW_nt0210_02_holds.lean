import PyProof.Rows.All
import Wide.All
import OpenK.AllK
import Wide.FinOn
import PySem.Challenge.RW_nt0210_02
set_option Elab.async false
set_option bootstrap.genMatcherCode false
set_option genSizeOf false
set_option genSizeOfSpec false
set_option genInjectivity false

section
open PySem PySem.W PyProof.Rows
set_option maxRecDepth 100000
set_option maxHeartbeats 8000000
namespace Mine
/-- the top's run on the tree, in one go -/
noncomputable def topRunT (tb : String → Option Builtin) (p : Program) (w : World) (n₀ : Nat) (ann : Option Value) : Nat → SharedT → Thread → Option SharedT
  | 0, _, _ => none
  | n + 1, s, t => match through t with
    | true => some s
    | false => match stepOk n₀ ann t with
      | false => none
      | true => match stepT (denote tb) p w s t with
        | some (s', t') => topRunT tb p w n₀ ann n s' t'
        | none => none
theorem topRunT_of {tb : String → Option Builtin} {p : Program} {w : World} {n₀ : Nat} {ann : Option Value} : ∀ {n : Nat} {s s' : SharedT} {t : Thread}, topRunT tb p w n₀ ann n s t = some s' → topRun tb p w n₀ ann n s.abs t = some s'.abs
  | 0, _, _, _, h => by cases h
  | n + 1, s, s', t, h => by
    unfold topRunT at h
    unfold topRun
    cases ht : through t with
    | true =>
      rw [ht] at h
      cases h
      rfl
    | false =>
      rw [ht] at h
      cases hk : stepOk n₀ ann t with
      | false => rw [hk] at h; cases h
      | true =>
        rw [hk] at h
        cases hs : stepT (denote tb) p w s t with
        | none => rw [hs] at h; cases h
        | some r => obtain ⟨s₂, t₂⟩ := r; rw [hs] at h; rw [stepT_spec hs]; exact topRunT_of h

noncomputable def T0 (P : Params) : BT := ((boot_heap P).objs.toList.foldl (fun (x : BT × Nat) o => (x.1.ins x.2 o, x.2 + 1)) (.nil, 0)).1
noncomputable def S0 (w : World) (os : OsState) : SharedT := ⟨T0 w.params, (boot_heap w.params).objs.size, (boot_heap w.params).life, #[], boot_drawn, boot_toks, os⟩
theorem tree0 : ∀ P, absHeap (T0 P) (boot_heap P).objs.size (boot_heap P).life = boot_heap P := fun P => by kernel_rfl
theorem size0 : ∀ P : Params, (((boot_heap P).isNs mainGlobals && (#[] : Array GenState).size == 0, (boot_heap P).nsMap mainGlobals "__annotations__") : Bool × Option Value) = (true, some (.ref 6)) := fun P => by kernel_rfl

/-- the whole run and all that is looked at behind it -/
noncomputable def runG (p q : Program) (loose : List Str) (lv : List (Str × WData)) (rec : WRecords) (as : List Addr) (N : Nat) (h0 : Heap) (w : World) (s : SharedT) :=
  (topRunT treeTable p w h0.objs.size (some (.ref 6)) N s (topStub p)).map fun s =>
    (staticsOk (importedModules p.main.body) h0 s.abs.heap && namesBound p s.abs.heap && gensDone s.abs && laidKept h0 s.abs.heap, openSeen q loose (importedModules p.main.body) (fun s => xlAt q lv s && recOk rec s) true s.abs, as.map s.abs.heap.get?)
noncomputable def dueG (q : Program) (loose : List Str) (k : Frag) := some (true, openGood q loose, k.map fun p => some p.2)
theorem runG_self : runG = runG := rfl
theorem dueG_self : dueG = dueG := rfl
theorem said_self : OpenLaw.wellSaid = OpenLaw.wellSaid := rfl

noncomputable def XtG (q : Program) (lv : List (Str × WData)) (rec : WRecords) : Shared → Bool := fun s => xlAt q lv s && recOk rec s
noncomputable def YfG (as : List Addr) : Shared → List (Option Obj) := fun s => as.map s.heap.get?
noncomputable def YaG (K : Params → Frag) : World → List (Option Obj) := fun w => (K w.params).map fun p => some p.2
theorem left_of_run {p q : Program} {loose : List Str} {lv : List (Str × WData)} {rec : WRecords} {as : List Addr} {K : Params → Frag} {N : Nat}
    (open_ : ∀ w : World, (fencedOpening treeTable p w N).map (fun s => (s.heap, s.gens, s.drawn, s.toks)) = some (boot_heap w.params, Array.mk [], boot_drawn, boot_toks))
    (run : ∀ (w : World) (os : OsState), runG p q loose lv rec as N (boot_heap w.params) w (S0 w os) = dueG q loose (K w.params)) :
    LeftO p q loose (XtG q lv rec) (YfG as) (YaG K) N := fun w => by
  obtain ⟨⟨h, gs, d, k, os⟩, e, e'⟩ := Option.map_eq_some_iff.mp (open_ w)
  obtain ⟨rfl, rfl, rfl, rfl⟩ : h = boot_heap w.params ∧ gs = Array.mk [] ∧ d = boot_drawn ∧ k = boot_toks := by simpa using e'
  obtain ⟨z1, z3⟩ : _ ∧ _ := by simpa only [Prod.mk.injEq] using size0 w.params
  obtain ⟨s, hr, hl⟩ := Option.map_eq_some_iff.mp (run w os)
  obtain ⟨l1, l2, l3⟩ : _ ∧ _ ∧ _ := by simpa only [Prod.mk.injEq] using hl
  have r := topRunT_of hr
  have hS : (S0 w os).abs = ⟨boot_heap w.params, Array.mk [], boot_drawn, boot_toks, os⟩ := by
    show (⟨absHeap (T0 w.params) (boot_heap w.params).objs.size (boot_heap w.params).life, _, _, _, _⟩ : Shared) = _
    rw [tree0]
    rfl
  rw [hS] at r
  have t : topFrom treeTable p w N ⟨boot_heap w.params, Array.mk [], boot_drawn, boot_toks, os⟩ = some s.abs := by
    unfold topFrom
    dsimp only
    rw [z1, z3, r]
    show (match staticsOk (importedModules p.main.body) (boot_heap w.params) s.abs.heap && namesBound p s.abs.heap && gensDone s.abs && laidKept (boot_heap w.params) s.abs.heap with | true => _ | false => _) = _
    rw [l1]
  unfold openEnds
  rw [e]
  show (topFrom treeTable p w N _).map _ = _
  rw [t]
  exact congrArg some (Prod.ext l2 l3)
end Mine
lay_quick Mine.runG
name_quick mRunG for Mine.runG by Mine.runG_self
lay_quick Mine.dueG
name_quick mDueG for Mine.dueG by Mine.dueG_self
name_quick mSaid for PySem.W.OpenLaw.wellSaid by Mine.said_self

end

section
open PySem PySem.W PyProof.Rows
set_option maxRecDepth 100000
namespace Mine
noncomputable def nthS : List Stmt → Nat → Stmt
  | s :: _, 0 => s
  | _ :: r, n + 1 => nthS r n
  | [], _ => .Pass default
noncomputable def clsS (s : Stmt) (j : Nat) : Stmt := match s with
  | .ClassDef _ _ _ b _ _ _ _ _ _ _ => nthS b j
  | _ => .Pass default
noncomputable def fnO (s : Stmt) (qual mod : String) (mt : Nat) (code : Addr) : Obj := match s with
  | .FunctionDef n a b _ _ _ sc _ _ _ => { cls := .type "function", data := .func { name := n, qualname := Str.ofString qual, params := a, body := .stmts b, scope := sc, globals := 3, closure := [], defaults := .none, kwdefaults := .none, pyModule := .str (Str.ofString mod) mt, code := .ref code } }
  | _ => default
noncomputable def eN (P : Params) (n : String) (t : Nat) (v : Value) : DictEntry := ⟨PyData.keyHash P (Str.ofString n), .str (Str.ofString n) t, v⟩
end Mine

end

section
open PySem PySem.W PyProof.Rows
set_option maxRecDepth 100000
set_option maxHeartbeats 8000000
namespace Mine
noncomputable def q2 : Program := view PySem.Challenge.pw_nt0210_02 [0, 2, 3, 4, 5, 7, 8, 9, 10, 11, 12, 13, 14, 15, 16, 17, 18, 19, 20, 21, 22, 23, 24, 25, 26, 27, 28, 29, 30, 32, 33, 34, 35, 36, 37, 38, 39, 40, 41, 42, 43, 44, 45, 46, 47, 48, 49, 51, 52, 53, 54, 55, 56, 57, 58, 59, 60, 61, 63, 65, 66, 67, 68, 69, 70, 71, 72, 73, 74]
noncomputable def sf (i : Nat) : Stmt := nthS PySem.Challenge.pw_nt0210_02.main.body i
noncomputable def sm (i j : Nat) : Stmt := clsS (nthS PySem.Challenge.pw_nt0210_02.main.body i) j
noncomputable def K2 : Params → Frag := fun P => [
  (2, Obj.mk Value.none none (Data.dict #[eN P "type.__subclasses__.Exception.0" 223 (Value.int 38 0), eN P "type.__subclasses__.Exception.n" 224 (Value.int 1 0)] 2) #[]),
  (3, Obj.mk (Value.type "dict") none (Data.dict #[eN P "__name__" 165 (Value.str (Str.ofString "law_nt0210_02") 1150), eN P "__doc__" 166 Value.none, eN P "__package__" 167 Value.none, eN P "__loader__" 168 (Value.builtin "__main__.__loader__#opaque"), eN P "__spec__" 169 Value.none, eN P "__annotations__" 170 (Value.ref 6), eN P "__builtins__" 171 (Value.ref 4), eN P "__file__" 173 (Value.str (Str.ofString "/claim/cut.py") 172), eN P "__cached__" 174 Value.none, eN P "_wall" 193 (Value.ref 21), eN P "SchemeError" 226 (Value.ref 38), eN P "WrongKind" 255 (Value.ref 58), eN P "OutOfRange" 284 (Value.ref 77), eN P "DivisionByZero" 309 (Value.ref 96), eN P "REACH" 315 (Value.int 65536 314), eN P "Real" 346 (Value.ref 115), eN P "size_of" 353 (Value.ref 126), eN P "sign_of_whole" 360 (Value.ref 133), eN P "zeros_below" 367 (Value.ref 140), eN P "lean" 377 (Value.ref 147), eN P "nearest_shift" 388 (Value.ref 154), eN P "shifted_round" 398 (Value.ref 161), eN P "with_sticky" 406 (Value.ref 168), eN P "rounded" 418 (Value.ref 175), eN P "exact_parts" 425 (Value.ref 182), eN P "place_of" 432 (Value.ref 189), eN P "sign_of" 439 (Value.ref 196), eN P "negative" 446 (Value.ref 203), eN P "magnitude" 453 (Value.ref 210), eN P "compare_magnitudes" 462 (Value.ref 217), eN P "compare_reals" 470 (Value.ref 224), eN P "far_sum" 480 (Value.ref 231), eN P "add_reals" 494 (Value.ref 238), eN P "subtract_reals" 503 (Value.ref 245), eN P "multiply_reals" 512 (Value.ref 252), eN P "divide_reals" 522 (Value.ref 259), eN P "is_whole_real" 529 (Value.ref 266), eN P "whole_of" 536 (Value.ref 273), eN P "Ratio" 569 (Value.ref 290), eN P "is_whole" 576 (Value.ref 301), eN P "is_exact" 583 (Value.ref 308), eN P "is_exact_exact" 584 (Value.ref 308), eN P "top_of" 591 (Value.ref 315), eN P "bottom_of" 598 (Value.ref 322), eN P "gcd_of" 606 (Value.ref 329), eN P "made" 614 (Value.ref 336), eN P "ratio_of" 623 (Value.ref 343), eN P "sign_of_exact" 631 (Value.ref 350), eN P "negate_exact" 638 (Value.ref 357), eN P "add_exact" 651 (Value.ref 364), eN P "subtract_exact" 659 (Value.ref 371), eN P "multiply_exact" 670 (Value.ref 378), eN P "reciprocal_exact" 679 (Value.ref 385), eN P "divide_exact" 687 (Value.ref 392), eN P "compare_exact" 697 (Value.ref 399), eN P "quotient_of" 706 (Value.ref 406), eN P "is_inexact" 715 (Value.ref 413), eN P "sign" 722 (Value.ref 420), eN P "whole_value" 731 (Value.ref 427), eN P "to_exact" 740 (Value.ref 434), eN P "to_exact_numkinds" 741 (Value.ref 434), eN P "to_inexact" 749 (Value.ref 441), eN P "to_inexact_numkinds" 750 (Value.ref 441), eN P "has_inexact" 758 (Value.ref 448), eN P "as_of" 767 (Value.ref 455), eN P "compare" 775 (Value.ref 462), eN P "compare_numkinds" 776 (Value.ref 462), eN P "Tower" 1149 (Value.ref 752), eN P "_law_low" 1161 (Value.ref 763), eN P "_law_near" 1177 (Value.ref 770), eN P "_law_real" 1185 (Value.ref 777), eN P "_law_number" 1198 (Value.ref 784), eN P "_law_fraction" 1205 (Value.ref 791), eN P "_law_shown" 1212 (Value.ref 798), eN P "_law_rounded" 1222 (Value.ref 805), eN P "_law_due" 1239 (Value.ref 812), eN P "_law_told" 1250 (Value.ref 819), eN P "law" 1256 (Value.ref 824)] 78) #[]),
  (34, Obj.mk (Value.type "code") none (Data.fields #[Value.str (Str.ofString "__init__") 208, Value.str (Str.ofString "SchemeError.__init__") 209, Value.str (Str.ofString "/claim/cut.py") 210, Value.int 7 0, Value.int 3 0, Value.int 0 0, Value.int 0 0, Value.int 3 0, Value.ref 29, Value.bool true, Value.int 181 0, Value.ref 30, Value.none, Value.ref 31, Value.ref 32, Value.ref 33, Value.int 214 0, Value.int 7 0, Value.str (Str.ofString "/claim/cut.py") 215]) #[]),
  (35, fnO (sm 2 0) "SchemeError.__init__" "scheme.errors" 194 34),
  (37, Obj.mk (Value.type "dict") none (Data.dict #[eN P "__module__" 203 (Value.str (Str.ofString "scheme.errors") 194), eN P "__firstlineno__" 207 (Value.int 5 206), eN P "__init__" 216 (Value.ref 35), eN P "__static_attributes__" 219 (Value.ref 36), eN P "__weakref__" 221 (Value.ref 39), eN P "__doc__" 222 Value.none] 3) #[]),
  (38, Obj.mk (Value.type "type") none (Data.cls (ClassData.mk (Str.ofString "SchemeError") [Value.type "Exception"] [Value.ref 38, Value.type "Exception", Value.type "BaseException", Value.type "object"] 37 (Str.ofString "SchemeError") true [] [Value.ref 58, Value.ref 77, Value.ref 96] false none false)) #[some (Value.ref 22), none, some (Value.str (Str.ofString "SchemeError") 196), some (Value.str (Str.ofString "SchemeError") 204), some (Value.builtin "Exception.__new__"), some (Value.bool true)]),
  (92, Obj.mk (Value.type "code") none (Data.fields #[Value.str (Str.ofString "__init__") 297, Value.str (Str.ofString "DivisionByZero.__init__") 298, Value.str (Str.ofString "/claim/cut.py") 299, Value.int 26 0, Value.int 2 0, Value.int 0 0, Value.int 0 0, Value.int 3 0, Value.ref 87, Value.bool true, Value.int 181 0, Value.ref 88, Value.none, Value.ref 89, Value.ref 90, Value.ref 91, Value.int 302 0, Value.int 26 0, Value.str (Str.ofString "/claim/cut.py") 303]) #[]),
  (93, fnO (sm 5 0) "DivisionByZero.__init__" "scheme.errors" 194 92),
  (95, Obj.mk (Value.type "dict") none (Data.dict #[eN P "__module__" 292 (Value.str (Str.ofString "scheme.errors") 194), eN P "__firstlineno__" 296 (Value.int 24 295), eN P "__init__" 304 (Value.ref 93), eN P "__static_attributes__" 306 (Value.ref 94), eN P "__doc__" 307 Value.none] 2) #[]),
  (96, Obj.mk (Value.type "type") none (Data.cls (ClassData.mk (Str.ofString "DivisionByZero") [Value.ref 38] [Value.ref 96, Value.ref 38, Value.type "Exception", Value.type "BaseException", Value.type "object"] 95 (Str.ofString "DivisionByZero") true [] [] false none false)) #[some (Value.ref 80), none, some (Value.str (Str.ofString "DivisionByZero") 285), some (Value.str (Str.ofString "DivisionByZero") 293), some (Value.builtin "Exception.__new__"), some (Value.bool true)]),
  (111, Obj.mk (Value.type "code") none (Data.fields #[Value.str (Str.ofString "__init__") 328, Value.str (Str.ofString "Real.__init__") 329, Value.str (Str.ofString "/claim/cut.py") 330, Value.int 33 0, Value.int 3 0, Value.int 0 0, Value.int 0 0, Value.int 3 0, Value.ref 106, Value.bool true, Value.int 181 0, Value.ref 107, Value.none, Value.ref 108, Value.ref 109, Value.ref 110, Value.int 334 0, Value.int 33 0, Value.str (Str.ofString "/claim/cut.py") 335]) #[]),
  (112, fnO (sm 8 0) "Real.__init__" "scheme.binary" 310 111),
  (114, Obj.mk (Value.type "dict") none (Data.dict #[eN P "__module__" 323 (Value.str (Str.ofString "scheme.binary") 310), eN P "__firstlineno__" 327 (Value.int 31 326), eN P "__init__" 336 (Value.ref 112), eN P "__static_attributes__" 339 (Value.ref 113), eN P "__dict__" 341 (Value.ref 116), eN P "__weakref__" 343 (Value.ref 117), eN P "__doc__" 344 Value.none] 4) #[]),
  (115, Obj.mk (Value.type "type") none (Data.cls (ClassData.mk (Str.ofString "Real") [Value.type "object"] [Value.ref 115, Value.type "object"] 114 (Str.ofString "Real") true [] [] false none false)) #[none, none, some (Value.str (Str.ofString "Real") 316), some (Value.str (Str.ofString "Real") 324), some (Value.builtin "object.__new__"), some (Value.bool true)]),
  (125, Obj.mk (Value.type "code") none (Data.fields #[Value.str (Str.ofString "size_of") 347, Value.str (Str.ofString "size_of") 348, Value.str (Str.ofString "/claim/cut.py") 349, Value.int 36 0, Value.int 1 0, Value.int 0 0, Value.int 0 0, Value.int 3 0, Value.ref 120, Value.bool true, Value.int 181 0, Value.ref 121, Value.none, Value.ref 122, Value.ref 123, Value.ref 124, Value.int 351 0, Value.int 36 0, Value.str (Str.ofString "/claim/cut.py") 352]) #[]),
  (126, fnO (sf 9) "size_of" "scheme.binary" 310 125),
  (132, Obj.mk (Value.type "code") none (Data.fields #[Value.str (Str.ofString "sign_of_whole") 354, Value.str (Str.ofString "sign_of_whole") 355, Value.str (Str.ofString "/claim/cut.py") 356, Value.int 38 0, Value.int 1 0, Value.int 0 0, Value.int 0 0, Value.int 3 0, Value.ref 127, Value.bool true, Value.int 181 0, Value.ref 128, Value.none, Value.ref 129, Value.ref 130, Value.ref 131, Value.int 358 0, Value.int 38 0, Value.str (Str.ofString "/claim/cut.py") 359]) #[]),
  (133, fnO (sf 10) "sign_of_whole" "scheme.binary" 310 132),
  (139, Obj.mk (Value.type "code") none (Data.fields #[Value.str (Str.ofString "zeros_below") 361, Value.str (Str.ofString "zeros_below") 362, Value.str (Str.ofString "/claim/cut.py") 363, Value.int 40 0, Value.int 1 0, Value.int 0 0, Value.int 0 0, Value.int 3 0, Value.ref 134, Value.bool true, Value.int 181 0, Value.ref 135, Value.none, Value.ref 136, Value.ref 137, Value.ref 138, Value.int 365 0, Value.int 40 0, Value.str (Str.ofString "/claim/cut.py") 366]) #[]),
  (140, fnO (sf 11) "zeros_below" "scheme.binary" 310 139),
  (146, Obj.mk (Value.type "code") none (Data.fields #[Value.str (Str.ofString "lean") 368, Value.str (Str.ofString "lean") 369, Value.str (Str.ofString "/claim/cut.py") 370, Value.int 42 0, Value.int 2 0, Value.int 0 0, Value.int 0 0, Value.int 3 0, Value.ref 141, Value.bool true, Value.int 181 0, Value.ref 142, Value.none, Value.ref 143, Value.ref 144, Value.ref 145, Value.int 375 0, Value.int 42 0, Value.str (Str.ofString "/claim/cut.py") 376]) #[]),
  (147, fnO (sf 12) "lean" "scheme.binary" 310 146),
  (153, Obj.mk (Value.type "code") none (Data.fields #[Value.str (Str.ofString "nearest_shift") 378, Value.str (Str.ofString "nearest_shift") 379, Value.str (Str.ofString "/claim/cut.py") 380, Value.int 49 0, Value.int 2 0, Value.int 0 0, Value.int 0 0, Value.int 3 0, Value.ref 148, Value.bool true, Value.int 181 0, Value.ref 149, Value.none, Value.ref 150, Value.ref 151, Value.ref 152, Value.int 386 0, Value.int 49 0, Value.str (Str.ofString "/claim/cut.py") 387]) #[]),
  (154, fnO (sf 13) "nearest_shift" "scheme.binary" 310 153),
  (160, Obj.mk (Value.type "code") none (Data.fields #[Value.str (Str.ofString "shifted_round") 389, Value.str (Str.ofString "shifted_round") 390, Value.str (Str.ofString "/claim/cut.py") 391, Value.int 54 0, Value.int 3 0, Value.int 0 0, Value.int 0 0, Value.int 3 0, Value.ref 155, Value.bool true, Value.int 181 0, Value.ref 156, Value.none, Value.ref 157, Value.ref 158, Value.ref 159, Value.int 396 0, Value.int 54 0, Value.str (Str.ofString "/claim/cut.py") 397]) #[]),
  (161, fnO (sf 14) "shifted_round" "scheme.binary" 310 160),
  (167, Obj.mk (Value.type "code") none (Data.fields #[Value.str (Str.ofString "with_sticky") 399, Value.str (Str.ofString "with_sticky") 400, Value.str (Str.ofString "/claim/cut.py") 401, Value.int 59 0, Value.int 2 0, Value.int 0 0, Value.int 0 0, Value.int 3 0, Value.ref 162, Value.bool true, Value.int 181 0, Value.ref 163, Value.none, Value.ref 164, Value.ref 165, Value.ref 166, Value.int 404 0, Value.int 59 0, Value.str (Str.ofString "/claim/cut.py") 405]) #[]),
  (168, fnO (sf 15) "with_sticky" "scheme.binary" 310 167),
  (174, Obj.mk (Value.type "code") none (Data.fields #[Value.str (Str.ofString "rounded") 407, Value.str (Str.ofString "rounded") 408, Value.str (Str.ofString "/claim/cut.py") 409, Value.int 61 0, Value.int 3 0, Value.int 0 0, Value.int 0 0, Value.int 3 0, Value.ref 169, Value.bool true, Value.int 181 0, Value.ref 170, Value.none, Value.ref 171, Value.ref 172, Value.ref 173, Value.int 416 0, Value.int 61 0, Value.str (Str.ofString "/claim/cut.py") 417]) #[]),
  (175, fnO (sf 16) "rounded" "scheme.binary" 310 174),
  (188, Obj.mk (Value.type "code") none (Data.fields #[Value.str (Str.ofString "place_of") 426, Value.str (Str.ofString "place_of") 427, Value.str (Str.ofString "/claim/cut.py") 428, Value.int 74 0, Value.int 1 0, Value.int 0 0, Value.int 0 0, Value.int 3 0, Value.ref 183, Value.bool true, Value.int 181 0, Value.ref 184, Value.none, Value.ref 185, Value.ref 186, Value.ref 187, Value.int 430 0, Value.int 74 0, Value.str (Str.ofString "/claim/cut.py") 431]) #[]),
  (189, fnO (sf 18) "place_of" "scheme.binary" 310 188),
  (195, Obj.mk (Value.type "code") none (Data.fields #[Value.str (Str.ofString "sign_of") 433, Value.str (Str.ofString "sign_of") 434, Value.str (Str.ofString "/claim/cut.py") 435, Value.int 76 0, Value.int 1 0, Value.int 0 0, Value.int 0 0, Value.int 3 0, Value.ref 190, Value.bool true, Value.int 181 0, Value.ref 191, Value.none, Value.ref 192, Value.ref 193, Value.ref 194, Value.int 437 0, Value.int 76 0, Value.str (Str.ofString "/claim/cut.py") 438]) #[]),
  (196, fnO (sf 19) "sign_of" "scheme.binary" 310 195),
  (202, Obj.mk (Value.type "code") none (Data.fields #[Value.str (Str.ofString "negative") 440, Value.str (Str.ofString "negative") 441, Value.str (Str.ofString "/claim/cut.py") 442, Value.int 78 0, Value.int 1 0, Value.int 0 0, Value.int 0 0, Value.int 3 0, Value.ref 197, Value.bool true, Value.int 181 0, Value.ref 198, Value.none, Value.ref 199, Value.ref 200, Value.ref 201, Value.int 444 0, Value.int 78 0, Value.str (Str.ofString "/claim/cut.py") 445]) #[]),
  (203, fnO (sf 20) "negative" "scheme.binary" 310 202),
  (230, Obj.mk (Value.type "code") none (Data.fields #[Value.str (Str.ofString "far_sum") 471, Value.str (Str.ofString "far_sum") 472, Value.str (Str.ofString "/claim/cut.py") 473, Value.int 93 0, Value.int 3 0, Value.int 0 0, Value.int 0 0, Value.int 3 0, Value.ref 225, Value.bool true, Value.int 181 0, Value.ref 226, Value.none, Value.ref 227, Value.ref 228, Value.ref 229, Value.int 478 0, Value.int 93 0, Value.str (Str.ofString "/claim/cut.py") 479]) #[]),
  (231, fnO (sf 24) "far_sum" "scheme.binary" 310 230),
  (237, Obj.mk (Value.type "code") none (Data.fields #[Value.str (Str.ofString "add_reals") 481, Value.str (Str.ofString "add_reals") 482, Value.str (Str.ofString "/claim/cut.py") 483, Value.int 96 0, Value.int 3 0, Value.int 0 0, Value.int 0 0, Value.int 3 0, Value.ref 232, Value.bool true, Value.int 181 0, Value.ref 233, Value.none, Value.ref 234, Value.ref 235, Value.ref 236, Value.int 492 0, Value.int 96 0, Value.str (Str.ofString "/claim/cut.py") 493]) #[]),
  (238, fnO (sf 25) "add_reals" "scheme.binary" 310 237),
  (244, Obj.mk (Value.type "code") none (Data.fields #[Value.str (Str.ofString "subtract_reals") 495, Value.str (Str.ofString "subtract_reals") 496, Value.str (Str.ofString "/claim/cut.py") 497, Value.int 106 0, Value.int 3 0, Value.int 0 0, Value.int 0 0, Value.int 3 0, Value.ref 239, Value.bool true, Value.int 181 0, Value.ref 240, Value.none, Value.ref 241, Value.ref 242, Value.ref 243, Value.int 501 0, Value.int 106 0, Value.str (Str.ofString "/claim/cut.py") 502]) #[]),
  (245, fnO (sf 26) "subtract_reals" "scheme.binary" 310 244),
  (251, Obj.mk (Value.type "code") none (Data.fields #[Value.str (Str.ofString "multiply_reals") 504, Value.str (Str.ofString "multiply_reals") 505, Value.str (Str.ofString "/claim/cut.py") 506, Value.int 108 0, Value.int 3 0, Value.int 0 0, Value.int 0 0, Value.int 3 0, Value.ref 246, Value.bool true, Value.int 181 0, Value.ref 247, Value.none, Value.ref 248, Value.ref 249, Value.ref 250, Value.int 510 0, Value.int 108 0, Value.str (Str.ofString "/claim/cut.py") 511]) #[]),
  (252, fnO (sf 27) "multiply_reals" "scheme.binary" 310 251),
  (258, Obj.mk (Value.type "code") none (Data.fields #[Value.str (Str.ofString "divide_reals") 513, Value.str (Str.ofString "divide_reals") 514, Value.str (Str.ofString "/claim/cut.py") 515, Value.int 110 0, Value.int 3 0, Value.int 0 0, Value.int 0 0, Value.int 3 0, Value.ref 253, Value.bool true, Value.int 181 0, Value.ref 254, Value.none, Value.ref 255, Value.ref 256, Value.ref 257, Value.int 520 0, Value.int 110 0, Value.str (Str.ofString "/claim/cut.py") 521]) #[]),
  (259, fnO (sf 28) "divide_reals" "scheme.binary" 310 258),
  (286, Obj.mk (Value.type "code") none (Data.fields #[Value.str (Str.ofString "__init__") 551, Value.str (Str.ofString "Ratio.__init__") 552, Value.str (Str.ofString "/claim/cut.py") 553, Value.int 122 0, Value.int 3 0, Value.int 0 0, Value.int 0 0, Value.int 3 0, Value.ref 281, Value.bool true, Value.int 181 0, Value.ref 282, Value.none, Value.ref 283, Value.ref 284, Value.ref 285, Value.int 557 0, Value.int 122 0, Value.str (Str.ofString "/claim/cut.py") 558]) #[]),
  (287, fnO (sm 32 0) "Ratio.__init__" "scheme.exact" 537 286),
  (289, Obj.mk (Value.type "dict") none (Data.dict #[eN P "__module__" 546 (Value.str (Str.ofString "scheme.exact") 537), eN P "__firstlineno__" 550 (Value.int 120 549), eN P "__init__" 559 (Value.ref 287), eN P "__static_attributes__" 562 (Value.ref 288), eN P "__dict__" 564 (Value.ref 291), eN P "__weakref__" 566 (Value.ref 292), eN P "__doc__" 567 Value.none] 4) #[]),
  (290, Obj.mk (Value.type "type") none (Data.cls (ClassData.mk (Str.ofString "Ratio") [Value.type "object"] [Value.ref 290, Value.type "object"] 289 (Str.ofString "Ratio") true [] [] false none false)) #[none, none, some (Value.str (Str.ofString "Ratio") 539), some (Value.str (Str.ofString "Ratio") 547), some (Value.builtin "object.__new__"), some (Value.bool true)]),
  (300, Obj.mk (Value.type "code") none (Data.fields #[Value.str (Str.ofString "is_whole") 570, Value.str (Str.ofString "is_whole") 571, Value.str (Str.ofString "/claim/cut.py") 572, Value.int 125 0, Value.int 1 0, Value.int 0 0, Value.int 0 0, Value.int 3 0, Value.ref 295, Value.bool true, Value.int 181 0, Value.ref 296, Value.none, Value.ref 297, Value.ref 298, Value.ref 299, Value.int 574 0, Value.int 125 0, Value.str (Str.ofString "/claim/cut.py") 575]) #[]),
  (301, fnO (sf 33) "is_whole" "scheme.exact" 537 300),
  (307, Obj.mk (Value.type "code") none (Data.fields #[Value.str (Str.ofString "is_exact") 577, Value.str (Str.ofString "is_exact") 578, Value.str (Str.ofString "/claim/cut.py") 579, Value.int 127 0, Value.int 1 0, Value.int 0 0, Value.int 0 0, Value.int 3 0, Value.ref 302, Value.bool true, Value.int 181 0, Value.ref 303, Value.none, Value.ref 304, Value.ref 305, Value.ref 306, Value.int 581 0, Value.int 127 0, Value.str (Str.ofString "/claim/cut.py") 582]) #[]),
  (308, fnO (sf 34) "is_exact" "scheme.exact" 537 307),
  (314, Obj.mk (Value.type "code") none (Data.fields #[Value.str (Str.ofString "top_of") 585, Value.str (Str.ofString "top_of") 586, Value.str (Str.ofString "/claim/cut.py") 587, Value.int 130 0, Value.int 1 0, Value.int 0 0, Value.int 0 0, Value.int 3 0, Value.ref 309, Value.bool true, Value.int 181 0, Value.ref 310, Value.none, Value.ref 311, Value.ref 312, Value.ref 313, Value.int 589 0, Value.int 130 0, Value.str (Str.ofString "/claim/cut.py") 590]) #[]),
  (315, fnO (sf 36) "top_of" "scheme.exact" 537 314),
  (321, Obj.mk (Value.type "code") none (Data.fields #[Value.str (Str.ofString "bottom_of") 592, Value.str (Str.ofString "bottom_of") 593, Value.str (Str.ofString "/claim/cut.py") 594, Value.int 132 0, Value.int 1 0, Value.int 0 0, Value.int 0 0, Value.int 3 0, Value.ref 316, Value.bool true, Value.int 181 0, Value.ref 317, Value.none, Value.ref 318, Value.ref 319, Value.ref 320, Value.int 596 0, Value.int 132 0, Value.str (Str.ofString "/claim/cut.py") 597]) #[]),
  (322, fnO (sf 37) "bottom_of" "scheme.exact" 537 321),
  (328, Obj.mk (Value.type "code") none (Data.fields #[Value.str (Str.ofString "gcd_of") 599, Value.str (Str.ofString "gcd_of") 600, Value.str (Str.ofString "/claim/cut.py") 601, Value.int 134 0, Value.int 2 0, Value.int 0 0, Value.int 0 0, Value.int 3 0, Value.ref 323, Value.bool true, Value.int 181 0, Value.ref 324, Value.none, Value.ref 325, Value.ref 326, Value.ref 327, Value.int 604 0, Value.int 134 0, Value.str (Str.ofString "/claim/cut.py") 605]) #[]),
  (329, fnO (sf 38) "gcd_of" "scheme.exact" 537 328),
  (335, Obj.mk (Value.type "code") none (Data.fields #[Value.str (Str.ofString "made") 607, Value.str (Str.ofString "made") 608, Value.str (Str.ofString "/claim/cut.py") 609, Value.int 139 0, Value.int 2 0, Value.int 0 0, Value.int 0 0, Value.int 3 0, Value.ref 330, Value.bool true, Value.int 181 0, Value.ref 331, Value.none, Value.ref 332, Value.ref 333, Value.ref 334, Value.int 612 0, Value.int 139 0, Value.str (Str.ofString "/claim/cut.py") 613]) #[]),
  (336, fnO (sf 39) "made" "scheme.exact" 537 335),
  (349, Obj.mk (Value.type "code") none (Data.fields #[Value.str (Str.ofString "sign_of_exact") 624, Value.str (Str.ofString "sign_of_exact") 625, Value.str (Str.ofString "/claim/cut.py") 626, Value.int 146 0, Value.int 1 0, Value.int 0 0, Value.int 0 0, Value.int 3 0, Value.ref 344, Value.bool true, Value.int 181 0, Value.ref 345, Value.none, Value.ref 346, Value.ref 347, Value.ref 348, Value.int 629 0, Value.int 146 0, Value.str (Str.ofString "/claim/cut.py") 630]) #[]),
  (350, fnO (sf 41) "sign_of_exact" "scheme.exact" 537 349),
  (356, Obj.mk (Value.type "code") none (Data.fields #[Value.str (Str.ofString "negate_exact") 632, Value.str (Str.ofString "negate_exact") 633, Value.str (Str.ofString "/claim/cut.py") 634, Value.int 149 0, Value.int 1 0, Value.int 0 0, Value.int 0 0, Value.int 3 0, Value.ref 351, Value.bool true, Value.int 181 0, Value.ref 352, Value.none, Value.ref 353, Value.ref 354, Value.ref 355, Value.int 636 0, Value.int 149 0, Value.str (Str.ofString "/claim/cut.py") 637]) #[]),
  (357, fnO (sf 42) "negate_exact" "scheme.exact" 537 356),
  (363, Obj.mk (Value.type "code") none (Data.fields #[Value.str (Str.ofString "add_exact") 639, Value.str (Str.ofString "add_exact") 640, Value.str (Str.ofString "/claim/cut.py") 641, Value.int 151 0, Value.int 2 0, Value.int 0 0, Value.int 0 0, Value.int 3 0, Value.ref 358, Value.bool true, Value.int 181 0, Value.ref 359, Value.none, Value.ref 360, Value.ref 361, Value.ref 362, Value.int 649 0, Value.int 151 0, Value.str (Str.ofString "/claim/cut.py") 650]) #[]),
  (364, fnO (sf 43) "add_exact" "scheme.exact" 537 363),
  (370, Obj.mk (Value.type "code") none (Data.fields #[Value.str (Str.ofString "subtract_exact") 652, Value.str (Str.ofString "subtract_exact") 653, Value.str (Str.ofString "/claim/cut.py") 654, Value.int 159 0, Value.int 2 0, Value.int 0 0, Value.int 0 0, Value.int 3 0, Value.ref 365, Value.bool true, Value.int 181 0, Value.ref 366, Value.none, Value.ref 367, Value.ref 368, Value.ref 369, Value.int 657 0, Value.int 159 0, Value.str (Str.ofString "/claim/cut.py") 658]) #[]),
  (371, fnO (sf 44) "subtract_exact" "scheme.exact" 537 370),
  (377, Obj.mk (Value.type "code") none (Data.fields #[Value.str (Str.ofString "multiply_exact") 660, Value.str (Str.ofString "multiply_exact") 661, Value.str (Str.ofString "/claim/cut.py") 662, Value.int 161 0, Value.int 2 0, Value.int 0 0, Value.int 0 0, Value.int 3 0, Value.ref 372, Value.bool true, Value.int 181 0, Value.ref 373, Value.none, Value.ref 374, Value.ref 375, Value.ref 376, Value.int 668 0, Value.int 161 0, Value.str (Str.ofString "/claim/cut.py") 669]) #[]),
  (378, fnO (sf 45) "multiply_exact" "scheme.exact" 537 377),
  (384, Obj.mk (Value.type "code") none (Data.fields #[Value.str (Str.ofString "reciprocal_exact") 671, Value.str (Str.ofString "reciprocal_exact") 672, Value.str (Str.ofString "/claim/cut.py") 673, Value.int 168 0, Value.int 1 0, Value.int 0 0, Value.int 0 0, Value.int 3 0, Value.ref 379, Value.bool true, Value.int 181 0, Value.ref 380, Value.none, Value.ref 381, Value.ref 382, Value.ref 383, Value.int 677 0, Value.int 168 0, Value.str (Str.ofString "/claim/cut.py") 678]) #[]),
  (385, fnO (sf 46) "reciprocal_exact" "scheme.exact" 537 384),
  (391, Obj.mk (Value.type "code") none (Data.fields #[Value.str (Str.ofString "divide_exact") 680, Value.str (Str.ofString "divide_exact") 681, Value.str (Str.ofString "/claim/cut.py") 682, Value.int 171 0, Value.int 2 0, Value.int 0 0, Value.int 0 0, Value.int 3 0, Value.ref 386, Value.bool true, Value.int 181 0, Value.ref 387, Value.none, Value.ref 388, Value.ref 389, Value.ref 390, Value.int 685 0, Value.int 171 0, Value.str (Str.ofString "/claim/cut.py") 686]) #[]),
  (392, fnO (sf 47) "divide_exact" "scheme.exact" 537 391),
  (412, Obj.mk (Value.type "code") none (Data.fields #[Value.str (Str.ofString "is_inexact") 709, Value.str (Str.ofString "is_inexact") 710, Value.str (Str.ofString "/claim/cut.py") 711, Value.int 180 0, Value.int 1 0, Value.int 0 0, Value.int 0 0, Value.int 3 0, Value.ref 407, Value.bool true, Value.int 181 0, Value.ref 408, Value.none, Value.ref 409, Value.ref 410, Value.ref 411, Value.int 713 0, Value.int 180 0, Value.str (Str.ofString "/claim/cut.py") 714]) #[]),
  (413, fnO (sf 51) "is_inexact" "scheme.numkinds" 707 412),
  (419, Obj.mk (Value.type "code") none (Data.fields #[Value.str (Str.ofString "sign") 716, Value.str (Str.ofString "sign") 717, Value.str (Str.ofString "/claim/cut.py") 718, Value.int 182 0, Value.int 1 0, Value.int 0 0, Value.int 0 0, Value.int 3 0, Value.ref 414, Value.bool true, Value.int 181 0, Value.ref 415, Value.none, Value.ref 416, Value.ref 417, Value.ref 418, Value.int 720 0, Value.int 182 0, Value.str (Str.ofString "/claim/cut.py") 721]) #[]),
  (420, fnO (sf 52) "sign" "scheme.numkinds" 707 419),
  (440, Obj.mk (Value.type "code") none (Data.fields #[Value.str (Str.ofString "to_inexact") 742, Value.str (Str.ofString "to_inexact") 743, Value.str (Str.ofString "/claim/cut.py") 744, Value.int 196 0, Value.int 2 0, Value.int 0 0, Value.int 0 0, Value.int 3 0, Value.ref 435, Value.bool true, Value.int 181 0, Value.ref 436, Value.none, Value.ref 437, Value.ref 438, Value.ref 439, Value.int 747 0, Value.int 196 0, Value.str (Str.ofString "/claim/cut.py") 748]) #[]),
  (441, fnO (sf 56) "to_inexact" "scheme.numkinds" 707 440),
  (475, Obj.mk (Value.type "code") none (Data.fields #[Value.str (Str.ofString "__init__") 791, Value.str (Str.ofString "Tower.__init__") 792, Value.str (Str.ofString "/claim/cut.py") 793, Value.int 218 0, Value.int 2 0, Value.int 0 0, Value.int 0 0, Value.int 3 0, Value.ref 470, Value.bool true, Value.int 181 0, Value.ref 471, Value.none, Value.ref 472, Value.ref 473, Value.ref 474, Value.int 796 0, Value.int 218 0, Value.str (Str.ofString "/claim/cut.py") 797]) #[]),
  (476, fnO (sm 63 0) "Tower.__init__" "scheme.tower" 777 475),
  (573, Obj.mk (Value.type "code") none (Data.fields #[Value.str (Str.ofString "to_inexact") 908, Value.str (Str.ofString "Tower.to_inexact") 909, Value.str (Str.ofString "/claim/cut.py") 910, Value.int 260 0, Value.int 2 0, Value.int 0 0, Value.int 0 0, Value.int 3 0, Value.ref 568, Value.bool true, Value.int 181 0, Value.ref 569, Value.none, Value.ref 570, Value.ref 571, Value.ref 572, Value.int 913 0, Value.int 260 0, Value.str (Str.ofString "/claim/cut.py") 914]) #[]),
  (574, fnO (sm 63 14) "Tower.to_inexact" "scheme.tower" 777 573),
  (580, Obj.mk (Value.type "code") none (Data.fields #[Value.str (Str.ofString "add") 916, Value.str (Str.ofString "Tower.add") 917, Value.str (Str.ofString "/claim/cut.py") 918, Value.int 263 0, Value.int 3 0, Value.int 0 0, Value.int 0 0, Value.int 3 0, Value.ref 575, Value.bool true, Value.int 181 0, Value.ref 576, Value.none, Value.ref 577, Value.ref 578, Value.ref 579, Value.int 922 0, Value.int 263 0, Value.str (Str.ofString "/claim/cut.py") 923]) #[]),
  (581, fnO (sm 63 15) "Tower.add" "scheme.tower" 777 580),
  (587, Obj.mk (Value.type "code") none (Data.fields #[Value.str (Str.ofString "subtract") 925, Value.str (Str.ofString "Tower.subtract") 926, Value.str (Str.ofString "/claim/cut.py") 927, Value.int 268 0, Value.int 3 0, Value.int 0 0, Value.int 0 0, Value.int 3 0, Value.ref 582, Value.bool true, Value.int 181 0, Value.ref 583, Value.none, Value.ref 584, Value.ref 585, Value.ref 586, Value.int 931 0, Value.int 268 0, Value.str (Str.ofString "/claim/cut.py") 932]) #[]),
  (588, fnO (sm 63 16) "Tower.subtract" "scheme.tower" 777 587),
  (594, Obj.mk (Value.type "code") none (Data.fields #[Value.str (Str.ofString "multiply") 934, Value.str (Str.ofString "Tower.multiply") 935, Value.str (Str.ofString "/claim/cut.py") 936, Value.int 273 0, Value.int 3 0, Value.int 0 0, Value.int 0 0, Value.int 3 0, Value.ref 589, Value.bool true, Value.int 181 0, Value.ref 590, Value.none, Value.ref 591, Value.ref 592, Value.ref 593, Value.int 940 0, Value.int 273 0, Value.str (Str.ofString "/claim/cut.py") 941]) #[]),
  (595, fnO (sm 63 17) "Tower.multiply" "scheme.tower" 777 594),
  (601, Obj.mk (Value.type "code") none (Data.fields #[Value.str (Str.ofString "divide") 943, Value.str (Str.ofString "Tower.divide") 944, Value.str (Str.ofString "/claim/cut.py") 945, Value.int 278 0, Value.int 4 0, Value.int 0 0, Value.int 0 0, Value.int 3 0, Value.ref 596, Value.bool true, Value.int 181 0, Value.ref 597, Value.none, Value.ref 598, Value.ref 599, Value.ref 600, Value.int 950 0, Value.int 278 0, Value.str (Str.ofString "/claim/cut.py") 951]) #[]),
  (602, fnO (sm 63 18) "Tower.divide" "scheme.tower" 777 601),
  (751, Obj.mk (Value.type "dict") none (Data.dict #[eN P "__module__" 786 (Value.str (Str.ofString "scheme.tower") 777), eN P "__firstlineno__" 790 (Value.int 216 789), eN P "__init__" 798 (Value.ref 476), eN P "is_number" 806 (Value.ref 483), eN P "is_exact" 814 (Value.ref 490), eN P "is_inexact" 822 (Value.ref 497), eN P "is_integer" 830 (Value.ref 504), eN P "is_zero" 838 (Value.ref 511), eN P "is_positive" 846 (Value.ref 518), eN P "is_negative" 854 (Value.ref 525), eN P "is_odd" 863 (Value.ref 532), eN P "is_even" 872 (Value.ref 539), eN P "compare" 881 (Value.ref 546), eN P "same_number" 890 (Value.ref 553), eN P "chain" 899 (Value.ref 560), eN P "to_exact" 907 (Value.ref 567), eN P "to_inexact" 915 (Value.ref 574), eN P "add" 924 (Value.ref 581), eN P "subtract" 933 (Value.ref 588), eN P "multiply" 942 (Value.ref 595), eN P "divide" 952 (Value.ref 602), eN P "negate" 960 (Value.ref 609), eN P "absolute" 968 (Value.ref 616), eN P "sum_of" 976 (Value.ref 623), eN P "product_of" 984 (Value.ref 630), eN P "difference_of" 992 (Value.ref 637), eN P "divided" 1003 (Value.ref 644), eN P "greatest" 1013 (Value.ref 651), eN P "least" 1021 (Value.ref 658), eN P "whole_pair" 1033 (Value.ref 665), eN P "quotient" 1045 (Value.ref 672), eN P "remainder" 1055 (Value.ref 679), eN P "modulo" 1065 (Value.ref 686), eN P "gcd" 1074 (Value.ref 693), eN P "lcm" 1083 (Value.ref 700), eN P "numerator" 1091 (Value.ref 707), eN P "denominator" 1099 (Value.ref 714), eN P "floor" 1107 (Value.ref 721), eN P "ceiling" 1115 (Value.ref 728), eN P "truncate" 1123 (Value.ref 735), eN P "round_number" 1131 (Value.ref 742), eN P "rationalize" 1140 (Value.ref 749), eN P "__static_attributes__" 1142 (Value.ref 750), eN P "__dict__" 1144 (Value.ref 753), eN P "__weakref__" 1146 (Value.ref 754), eN P "__doc__" 1147 Value.none] 4) #[]),
  (752, Obj.mk (Value.type "type") none (Data.cls (ClassData.mk (Str.ofString "Tower") [Value.type "object"] [Value.ref 752, Value.type "object"] 751 (Str.ofString "Tower") true [] [] false none false)) #[none, none, some (Value.str (Str.ofString "Tower") 779), some (Value.str (Str.ofString "Tower") 787), some (Value.builtin "object.__new__"), some (Value.bool true)]),
  (762, Obj.mk (Value.type "code") none (Data.fields #[Value.str (Str.ofString "_law_low") 1152, Value.str (Str.ofString "_law_low") 1153, Value.str (Str.ofString "/claim/cut.py") 1154, Value.int 361 0, Value.int 2 0, Value.int 0 0, Value.int 0 0, Value.int 3 0, Value.ref 757, Value.bool true, Value.int 181 0, Value.ref 758, Value.none, Value.ref 759, Value.ref 760, Value.ref 761, Value.int 1159 0, Value.int 361 0, Value.str (Str.ofString "/claim/cut.py") 1160]) #[]),
  (763, fnO (sf 65) "_law_low" "law_nt0210_02" 1150 762),
  (769, Obj.mk (Value.type "code") none (Data.fields #[Value.str (Str.ofString "_law_near") 1162, Value.str (Str.ofString "_law_near") 1163, Value.str (Str.ofString "/claim/cut.py") 1164, Value.int 368 0, Value.int 3 0, Value.int 0 0, Value.int 0 0, Value.int 3 0, Value.ref 764, Value.bool true, Value.int 181 0, Value.ref 765, Value.none, Value.ref 766, Value.ref 767, Value.ref 768, Value.int 1175 0, Value.int 368 0, Value.str (Str.ofString "/claim/cut.py") 1176]) #[]),
  (770, fnO (sf 66) "_law_near" "law_nt0210_02" 1150 769),
  (776, Obj.mk (Value.type "code") none (Data.fields #[Value.str (Str.ofString "_law_real") 1178, Value.str (Str.ofString "_law_real") 1179, Value.str (Str.ofString "/claim/cut.py") 1180, Value.int 384 0, Value.int 2 0, Value.int 0 0, Value.int 0 0, Value.int 3 0, Value.ref 771, Value.bool true, Value.int 181 0, Value.ref 772, Value.none, Value.ref 773, Value.ref 774, Value.ref 775, Value.int 1183 0, Value.int 384 0, Value.str (Str.ofString "/claim/cut.py") 1184]) #[]),
  (777, fnO (sf 67) "_law_real" "law_nt0210_02" 1150 776),
  (783, Obj.mk (Value.type "code") none (Data.fields #[Value.str (Str.ofString "_law_number") 1186, Value.str (Str.ofString "_law_number") 1187, Value.str (Str.ofString "/claim/cut.py") 1188, Value.int 390 0, Value.int 2 0, Value.int 0 0, Value.int 0 0, Value.int 3 0, Value.ref 778, Value.bool true, Value.int 181 0, Value.ref 779, Value.none, Value.ref 780, Value.ref 781, Value.ref 782, Value.int 1196 0, Value.int 390 0, Value.str (Str.ofString "/claim/cut.py") 1197]) #[]),
  (784, fnO (sf 68) "_law_number" "law_nt0210_02" 1150 783),
  (790, Obj.mk (Value.type "code") none (Data.fields #[Value.str (Str.ofString "_law_fraction") 1199, Value.str (Str.ofString "_law_fraction") 1200, Value.str (Str.ofString "/claim/cut.py") 1201, Value.int 399 0, Value.int 1 0, Value.int 0 0, Value.int 0 0, Value.int 3 0, Value.ref 785, Value.bool true, Value.int 181 0, Value.ref 786, Value.none, Value.ref 787, Value.ref 788, Value.ref 789, Value.int 1203 0, Value.int 399 0, Value.str (Str.ofString "/claim/cut.py") 1204]) #[]),
  (791, fnO (sf 69) "_law_fraction" "law_nt0210_02" 1150 790),
  (797, Obj.mk (Value.type "code") none (Data.fields #[Value.str (Str.ofString "_law_shown") 1206, Value.str (Str.ofString "_law_shown") 1207, Value.str (Str.ofString "/claim/cut.py") 1208, Value.int 407 0, Value.int 1 0, Value.int 0 0, Value.int 0 0, Value.int 3 0, Value.ref 792, Value.bool true, Value.int 181 0, Value.ref 793, Value.none, Value.ref 794, Value.ref 795, Value.ref 796, Value.int 1210 0, Value.int 407 0, Value.str (Str.ofString "/claim/cut.py") 1211]) #[]),
  (798, fnO (sf 70) "_law_shown" "law_nt0210_02" 1150 797),
  (804, Obj.mk (Value.type "code") none (Data.fields #[Value.str (Str.ofString "_law_rounded") 1213, Value.str (Str.ofString "_law_rounded") 1214, Value.str (Str.ofString "/claim/cut.py") 1215, Value.int 415 0, Value.int 2 0, Value.int 0 0, Value.int 0 0, Value.int 3 0, Value.ref 799, Value.bool true, Value.int 181 0, Value.ref 800, Value.none, Value.ref 801, Value.ref 802, Value.ref 803, Value.int 1220 0, Value.int 415 0, Value.str (Str.ofString "/claim/cut.py") 1221]) #[]),
  (805, fnO (sf 71) "_law_rounded" "law_nt0210_02" 1150 804),
  (811, Obj.mk (Value.type "code") none (Data.fields #[Value.str (Str.ofString "_law_due") 1223, Value.str (Str.ofString "_law_due") 1224, Value.str (Str.ofString "/claim/cut.py") 1225, Value.int 418 0, Value.int 4 0, Value.int 0 0, Value.int 0 0, Value.int 3 0, Value.ref 806, Value.bool true, Value.int 181 0, Value.ref 807, Value.none, Value.ref 808, Value.ref 809, Value.ref 810, Value.int 1237 0, Value.int 418 0, Value.str (Str.ofString "/claim/cut.py") 1238]) #[]),
  (812, fnO (sf 72) "_law_due" "law_nt0210_02" 1150 811),
  (818, Obj.mk (Value.type "code") none (Data.fields #[Value.str (Str.ofString "_law_told") 1240, Value.str (Str.ofString "_law_told") 1241, Value.str (Str.ofString "/claim/cut.py") 1242, Value.int 438 0, Value.int 4 0, Value.int 0 0, Value.int 0 0, Value.int 3 0, Value.ref 813, Value.bool true, Value.int 181 0, Value.ref 814, Value.none, Value.ref 815, Value.ref 816, Value.ref 817, Value.int 1248 0, Value.int 438 0, Value.str (Str.ofString "/claim/cut.py") 1249]) #[]),
  (819, fnO (sf 73) "_law_told" "law_nt0210_02" 1150 818)]
noncomputable def as2 : List Addr := [2, 3, 34, 35, 37, 38, 92, 93, 95, 96, 111, 112, 114, 115, 125, 126, 132, 133, 139, 140, 146, 147, 153, 154, 160, 161, 167, 168, 174, 175, 188, 189, 195, 196, 202, 203, 230, 231, 237, 238, 244, 245, 251, 252, 258, 259, 286, 287, 289, 290, 300, 301, 307, 308, 314, 315, 321, 322, 328, 329, 335, 336, 349, 350, 356, 357, 363, 364, 370, 371, 377, 378, 384, 385, 391, 392, 412, 413, 419, 420, 440, 441, 475, 476, 573, 574, 580, 581, 587, 588, 594, 595, 601, 602, 751, 752, 762, 763, 769, 770, 776, 777, 783, 784, 790, 791, 797, 798, 804, 805, 811, 812, 818, 819]
theorem as2_ok : ∀ P, as2 = (K2 P).map (·.1) := fun _ => rfl
noncomputable def loose2 : List Str := [Str.ofString "REACH", Str.ofString "is_exact_exact", Str.ofString "to_exact_numkinds", Str.ofString "to_inexact_numkinds", Str.ofString "compare_numkinds"]
noncomputable def hlv2 : List (Str × WData) := [(Str.ofString "REACH", WData.int 65536)]
theorem run2_ok : ∀ w os, runG PySem.Challenge.pw_nt0210_02 q2 loose2 hlv2 PySem.Challenge.rw_nt0210_02.row.toRowW.records as2 9696 (boot_heap w.params) w (S0 w os) = dueG q2 loose2 (K2 w.params) := by
  rw [PySem.W.Fast.mRunG_eq, PySem.W.Fast.mDueG_eq]
  intro w os
  kernel_rfl
end Mine

end

section
open PySem PySem.W PyProof.Rows
set_option maxRecDepth 100000
namespace Mine

inductive V where
  | none
  | bool (b : Bool)
  | int (i : Int)
  | str (s : Str)
  | tup (l : List V)
  | lst (l : List V)
  | inst (c : Addr) (ns : List Str) (vs : List V)
  | rng (a b : Int)
  | val (v : Value)

inductive D where
  | v (x : V)
  | m (i : Nat)

noncomputable abbrev Sto := List (List V)

inductive Out (α : Type) where
  | ok (a : α) (st : Sto)
  | exc (x : V) (st : Sto)
  | stuck

noncomputable def Out.bind {α β : Type} : Out α → (α → Sto → Out β) → Out β
  | .ok a st, f => f a st
  | .exc x st, _ => .exc x st
  | .stuck, _ => .stuck

/-- where no exception may come through -/
noncomputable def Out.quiet {α : Type} : Out α → Out α
  | .exc _ _ => .stuck
  | o => o

inductive Fl where
  | next | brk | cont
  | ret (d : D)

noncomputable abbrev En := List (Str × D)

noncomputable def seteq (x y : Str) : Bool := x == y
noncomputable def setE (x : Str) (d : D) : En → En
  | [] => [(x, d)]
  | (y, e) :: r => if x == y then (y, d) :: r else (y, e) :: setE x d r

/-- an own exception class: its parameters, what its base keeps, the word it hands its base -/
structure XcI where
  ps : List Str
  q1 : Str
  q2 : Str
  word : Str

/-- a global's value -/
noncomputable def gV : Value → V
  | .int i _ => .int i
  | v => .val v

structure Cx where
  G : Str → Option Value
  mt : Pos → Bool
  meth : Addr → Str → Option Addr
  attr : Addr → Str → Bool
  able : Value → Bool
  xc : Addr → Option XcI
  esub : Addr → Addr → Option Bool
  hand : Bool

mutual
noncomputable def V.dat : V → Option PyData
  | .none => some .none
  | .bool b => some (.bool b)
  | .int i => some (.int i)
  | .str s => some (.str s)
  | .tup l => (V.dats l).map PyData.tuple
  | .lst l => (V.dats l).map PyData.list
  | .inst _ _ _ => Option.none
  | .rng _ _ => Option.none
  | .val _ => Option.none
noncomputable def V.dats : List V → Option (List PyData)
  | [] => some []
  | x :: xs => match x.dat, V.dats xs with
    | some d, some ds => some (d :: ds)
    | _, _ => Option.none
end

noncomputable def D.dat (st : Sto) : D → Option PyData
  | .v x => x.dat
  | .m i => match st[i]? with
    | some l => (V.dats l).map PyData.list
    | Option.none => Option.none

noncomputable def eqD (a b : D) (st : Sto) : Option Bool :=
  match a.dat st, b.dat st with
  | some x, some y => if SeqAt.shaped x && SeqAt.shaped y then some (PyData.eqv x y) else Option.none
  | _, _ => Option.none

noncomputable def intD : D → Option Int
  | .v (.int i) => some i
  | _ => Option.none
noncomputable def boolD : D → Option Bool
  | .v (.bool b) => some b
  | _ => Option.none
noncomputable def lstD : D → Option (List V)
  | .v (.lst l) => some l
  | _ => Option.none
noncomputable def tupD : D → Option (List V)
  | .v (.tup l) => some l
  | _ => Option.none
noncomputable def cmpI (op : CmpOp) (a b : Int) : Option Bool :=
  match op with
  | .Lt => some (decide (a < b))
  | .LtE => some (decide (a ≤ b))
  | .Gt => some (decide (b < a))
  | .GtE => some (decide (b ≤ a))
  | .Eq => some (a == b)
  | .NotEq => some (a != b)
  | _ => Option.none
noncomputable def cmpE (op : CmpOp) (a b : D) (st : Sto) : Option Bool :=
  match op with
  | .Eq => eqD a b st
  | .NotEq => (eqD a b st).map not
  | _ => Option.none
noncomputable def cmp (op : CmpOp) (a b : D) (st : Sto) : Option Bool :=
  match intD a with
  | some x => (match intD b with
    | some y => cmpI op x y
    | Option.none => cmpE op a b st)
  | Option.none => cmpE op a b st

noncomputable def b2i (b : Bool) : Int := if b then 1 else 0

noncomputable def V.num : V → Option Int
  | .int i => some i
  | .bool b => some (b2i b)
  | _ => Option.none

noncomputable def small (x : Int) : Bool := decide (x.natAbs.log2 < 9000)
noncomputable def mulOk (a b : Int) : Bool := (small a && small b) || decide (a.natAbs.log2 < 60)
noncomputable def dvOk (b : Int) : Bool := decide (b ≠ 0) && small b

noncomputable def binI : Operator → Int → Int → Option Int
  | .Add, a, b => some (a + b)
  | .Sub, a, b => some (a - b)
  | .Mult, a, b => if mulOk a b then some (a * b) else Option.none
  | .FloorDiv, a, b => if dvOk b then some (a.fdiv b) else Option.none
  | .Mod, a, b => if b = 0 then Option.none else some (a.fmod b)
  | .Pow, a, n => if 0 ≤ n ∧ (Builtin.Int.intBits a : Int) * n ≤ 2 ^ 27 then some (a ^ n.toNat) else Option.none
  | .LShift, a, n => if 0 ≤ n ∧ (Builtin.Int.intBits a : Int) + n ≤ 2 ^ 27 then some (a * 2 ^ n.toNat) else Option.none
  | .RShift, a, n => if 0 ≤ n then some (a.fdiv (2 ^ n.toNat)) else Option.none
  | .BitAnd, a, b => some (Builtin.bitAnd a b)
  | _, _, _ => Option.none

noncomputable def szOk (n : Nat) : Bool := decide (n ≤ 2 ^ 20)

noncomputable def subB (a b : D) : Option V :=
  match boolD a, boolD b with
  | some x, some y => some (.int (b2i x - b2i y))
  | _, _ => Option.none
noncomputable def addL (a b : D) : Option V :=
  match lstD a, lstD b with
  | some x, some y => if szOk (x.length + y.length) then some (.lst (x ++ y)) else Option.none
  | _, _ => Option.none
noncomputable def addT (a b : D) : Option V :=
  match tupD a, tupD b with
  | some x, some y => if szOk (x.length + y.length) then some (.tup (x ++ y)) else Option.none
  | _, _ => Option.none
noncomputable def binS (op : Operator) (a b : D) : Option V :=
  match op with
  | .Sub => subB a b
  | .Add => (match addL a b with
    | some v => some v
    | Option.none => addT a b)
  | _ => Option.none
noncomputable def binop (op : Operator) (a b : D) : Option V :=
  match intD a with
  | some x => (match intD b with
    | some y => (binI op x y).map V.int
    | Option.none => binS op a b)
  | Option.none => binS op a b

noncomputable def truth : D → Option Bool
  | .v (.bool b) => some b
  | .v (.int i) => some (i != 0)
  | _ => Option.none

noncomputable def ofO {α : Type} (st : Sto) : Option α → Out α
  | some a => .ok a st
  | Option.none => .stuck

noncomputable def vals : List D → Option (List V)
  | [] => some []
  | .v x :: r => (vals r).map (x :: ·)
  | .m _ :: _ => Option.none

/-- an item by Python's index -/
noncomputable def itemAt (l : List V) (k : Int) : Option V :=
  if -(2 ^ 63) ≤ k ∧ k < 2 ^ 63 then (match seqIndex? k l.length with
    | some j => l[j]?
    | Option.none => Option.none) else Option.none

noncomputable def seqOf (d : D) (st : Sto) : Option (List V) :=
  match d with
  | .v (.lst l) => some l
  | .v (.tup l) => some l
  | .m i => st[i]?
  | _ => Option.none
noncomputable def sub1 (o i : D) (st : Sto) : Option V := (intD i).bind fun k => (seqOf o st).bind fun l => itemAt l k

noncomputable def evs (f : Expr → Sto → Out D) : List Expr → Sto → Out (List D)
  | [], st => .ok [] st
  | e :: es, st => (f e st).bind fun d st => (evs f es st).bind fun ds st => .ok (d :: ds) st

noncomputable def partI : Option Expr → Option (Option Nat)
  | Option.none => some Option.none
  | some (.Constant (.int i) _ _) => if 0 ≤ i then some (some i.toNat) else Option.none
  | _ => Option.none

noncomputable def cutL (l : List V) : Option Nat → Option Nat → Option (List V)
  | Option.none, some n => some (l.take n)
  | some n, Option.none => some (l.drop n)
  | _, _ => Option.none

noncomputable def listM (_ : Str) (_ : Nat) (_ : List D) (_ : Sto) : Out D := .stuck

noncomputable def isStar (e : Expr) : Bool := e.ctorIdx == 22
noncomputable def isAttr (e : Expr) : Bool := e.ctorIdx == 20
noncomputable def isComp (e : Expr) : Bool := e.ctorIdx == 8 || e.ctorIdx == 9 || e.ctorIdx == 10
noncomputable def isDisp (e : Expr) : Bool := e.ctorIdx == 7

noncomputable def oneGen : List Comprehension → Option (Expr × Expr × List Expr)
  | [g] => if g.is_async == 0 then some (g.target, g.iter, g.ifs) else Option.none
  | _ => Option.none
noncomputable def isNm (e : Expr) : Bool := e.ctorIdx == 23
/-- `f()` with a plain name: as a base of an attribute it might be super() -/
noncomputable def isBare : Expr → Bool
  | .Call _ args _ _ => args.isEmpty
  | _ => false
noncomputable def noStar (l : List Expr) : Bool := l.all fun e => !isStar e
noncomputable def noDisp (l : List Expr) : Bool := l.all fun e => !isDisp e
noncomputable def isVal : V → Bool
  | .val _ => true
  | _ => false

noncomputable def badName (x : Str) : Bool := x == Str.ofString "__debug__" || x == Str.ofString "__classdict__"

noncomputable def allInt : List V → Bool
  | [] => true
  | .int _ :: r => allInt r
  | _ :: _ => false

noncomputable def isLoc (sc : Scope) (x : Str) : Bool := sc.names.lookup x == some .local || sc.names.lookup x == some .cell || sc.names.lookup x == some .free

structure In where
  ex : Scope → En → Expr → Sto → Out D
  tt : Scope → En → Expr → Sto → Out Bool
  st : Scope → En → Stmt → Sto → Out (Fl × En)

noncomputable def chain (f : Expr → Sto → Out D) (a : D) : List CmpOp → List Expr → Sto → Out Bool
  | [op], [r], st => (f r st).bind fun b st => ofO st (cmp op a b st)
  | op :: ops, r :: rs, st => (f r st).bind fun b st => match cmp op a b st with
    | some true => chain f b ops rs st
    | some false => .ok false st
    | Option.none => .stuck
  | _, _, _ => .stuck

noncomputable def allT (f : Expr → Sto → Out Bool) : BoolOp → List Expr → Sto → Out Bool
  | .And, [], st => .ok true st
  | .Or, [], st => .ok false st
  | .And, e :: es, st => (f e st).bind fun b st => if b then allT f .And es st else .ok false st
  | .Or, e :: es, st => (f e st).bind fun b st => if b then .ok true st else allT f .Or es st

noncomputable def boolV (f : Expr → Sto → Out D) (op : BoolOp) : List Expr → Sto → Out D
  | [], _ => .stuck
  | [e], st => f e st
  | e :: es, st => (f e st).bind fun d st => match op, truth d with
    | .And, some false => .ok d st
    | .Or, some true => .ok d st
    | _, some _ => boolV f op es st
    | _, Option.none => .stuck

noncomputable def exs (f : En → Stmt → Sto → Out (Fl × En)) : List Stmt → En → Sto → Out (Fl × En)
  | [], ρ, st => .ok (.next, ρ) st
  | s :: r, ρ, st => (f ρ s st).bind fun p st => match p.1 with
    | .next => exs f r p.2 st
    | fl => .ok (fl, p.2) st

noncomputable def whileN (tst : En → Sto → Out Bool) (body : En → Sto → Out (Fl × En)) : Nat → En → Sto → Out (Fl × En)
  | 0, _, _ => .stuck
  | k + 1, ρ, st => (tst ρ st).quiet.bind fun b st => if b then
      (body ρ st).quiet.bind fun p st => match p.1 with
        | .next => whileN tst body k p.2 st
        | .cont => whileN tst body k p.2 st
        | .brk => .ok (.next, p.2) st
        | .ret d => .ok (.ret d, p.2) st
    else .ok (.next, ρ) st

noncomputable def forL (put : V → En → Option En) (body : En → Sto → Out (Fl × En)) : List V → En → Sto → Out (Fl × En)
  | [], ρ, st => .ok (.next, ρ) st
  | x :: r, ρ, st => match put x ρ with
    | Option.none => .stuck
    | some ρ₁ => (body ρ₁ st).quiet.bind fun p st => match p.1 with
      | .next => forL put body r p.2 st
      | .cont => forL put body r p.2 st
      | .brk => .ok (.next, p.2) st
      | .ret d => .ok (.ret d, p.2) st

noncomputable def nameOf : Expr → Option Str
  | .Name x _ => some x
  | _ => Option.none
noncomputable def one {α : Type} : List α → Option α
  | [x] => some x
  | _ => Option.none
/-- names of a tuple of names -/
noncomputable def namesOf : List Expr → Option (List Str)
  | [] => some []
  | e :: r => (match nameOf e with
    | some x => (namesOf r).map (x :: ·)
    | Option.none => Option.none)

noncomputable def distinct : List Str → Bool
  | [] => true
  | x :: r => !r.contains x && distinct r

noncomputable def putAll (sc : Scope) : List Str → List V → En → Option En
  | [], [], ρ => some ρ
  | x :: xs, v :: vs, ρ => if sc.names.lookup x == some .local then putAll sc xs vs (setE x (.v v) ρ) else Option.none
  | _, _, _ => Option.none

noncomputable def envS (sc : Scope) : Env := { scope := sc, locals := 0, globals := 0, cells := [] }

noncomputable def swOk (sc : Scope) (ts : List Expr) (k : Nat) (tp : Pos) (value : Expr) (xs : List Str) : Bool :=
  match swappedStores [.Tuple ts k tp] value (envS sc) with
  | .pure Option.none => true
  | .pure (some ys) => ys == xs
  | _ => false

noncomputable def LIM : Nat := 1000000000

noncomputable def rngL (a b : Int) : List V := (List.range (b - a).toNat).map fun (i : Nat) => V.int (a + (i : Int))

noncomputable def itemsOf : D → Option (List V)
  | .v (.lst l) => some l
  | .v (.tup l) => some l
  | .v (.rng a b) => if a.natAbs ≤ 2 ^ 20 ∧ b.natAbs ≤ 2 ^ 20 then some (rngL a b) else Option.none
  | _ => Option.none

noncomputable def putT (sc : Scope) (t : Expr) (x : V) (ρ : En) : Option En :=
  match t with
  | .Name n _ => putAll sc [n] [x] ρ
  | _ => Option.none

noncomputable def relab (scope sc : Scope) : Scope := relabel scope (envS sc)
noncomputable def compOk (scope sc : Scope) : Bool := scope.kind == .function && scope.names.all fun x => x.2 != .cell && (x.2 != .local || scope.names.lookup x.1 == some .local) &&
  (x.2 != .free || (scope.names.lookup x.1 == some .free && (sc.names.lookup x.1 == some .cell || sc.names.lookup x.1 == some .free)))

noncomputable def tests (f : En → Expr → Sto → Out Bool) (ifs : List Expr) (ρ : En) (st : Sto) : Out Bool :=
  match ifs with
  | [] => .ok true st
  | [c] => f ρ c st
  | _ => .stuck
noncomputable def freeOf (sc : Scope) (ρ : En) : En := ρ.filter fun x => sc.names.lookup x.1 == some .cell || sc.names.lookup x.1 == some .free

noncomputable def compL (put : V → En → Option En) (test : En → Sto → Out Bool) (elt : En → Sto → Out D) : List V → En → List V → Sto → Out (List V)
  | [], _, acc, st => .ok acc st
  | x :: r, ρ, acc, st => match put x ρ with
    | Option.none => .stuck
    | some ρ₁ => (test ρ₁ st).quiet.bind fun b st => if b then (elt ρ₁ st).quiet.bind fun d st => match d with
        | .v y => if szOk acc.length then compL put test elt r ρ₁ (acc ++ [y]) st else .stuck
        | .m _ => .stuck
      else compL put test elt r ρ₁ acc st

noncomputable def isShl : Operator → Bool
  | .LShift => true
  | _ => false

noncomputable def gName (C : Cx) (sc : Scope) (x : Str) : Option Value :=
  if badName x || isLoc sc x then Option.none else if sc.names.lookup x == some .globalImplicit then C.G x else Option.none

noncomputable def retOf : Stmt → Option Expr
  | .Return e _ => e
  | _ => Option.none
noncomputable def ifRet : Stmt → Option (Expr × Expr)
  | .If c a b _ => if b.isEmpty then ((one a).bind retOf).map fun e => (c, e) else Option.none
  | _ => Option.none
/-- a body that only returns -/
noncomputable def retB (ex : Expr → Sto → Out D) (tt : Expr → Sto → Out Bool) : List Stmt → Sto → Out D
  | [], _ => .stuck
  | s :: r, st => (match retOf s with
    | some e => if r.isEmpty then ex e st else .stuck
    | Option.none => (match ifRet s with
      | some p => (tt p.1 st).bind fun b st => if b then ex p.2 st else retB ex tt r st
      | Option.none => .stuck))
noncomputable def hParts : ExceptHandler → Option (Str × Str × Expr)
  | .ExceptHandler t n body _ => (match t.bind nameOf with
    | some x => (match n with
      | some n => ((one body).bind retOf).map fun e => (x, n, e)
      | Option.none => Option.none)
    | Option.none => Option.none)
noncomputable def dropE (x : Str) (ρ : En) : En := ρ.filter fun p => !(p.1 == x)
noncomputable def clauses (C : Cx) (J : Scope → En → Expr → Sto → Out D) (sc : Scope) (ρ : En) (c : Addr) (ns : List Str) (l : List V) : List ExceptHandler → Sto → Out (Fl × En)
  | [], _ => .stuck
  | h :: r, st => (match hParts h with
    | Option.none => .stuck
    | some p => (match gName C sc p.1 with
      | some (.ref hc) => (match C.esub c hc with
        | some true => if sc.names.lookup p.2.1 == some .local then (J sc (setE p.2.1 (.v (.inst c ns l)) ρ) p.2.2 st).quiet.bind fun d st => .ok (.ret d, dropE p.2.1 ρ) st else .stuck
        | some false => clauses C J sc ρ c ns l r st
        | Option.none => .stuck)
      | _ => .stuck))
noncomputable def XcI.ns (xi : XcI) : List Str := xi.q1 :: xi.q2 :: xi.ps
noncomputable def XcI.vs (xi : XcI) (l : List V) : List V := .str xi.word :: .lst l :: l

noncomputable def intM (name : Str) (i : Int) (args : List Expr) (st : Sto) : Out D :=
  if name == Str.ofString "bit_length" && args.isEmpty then .ok (.v (.int (Builtin.Int.intBits i : Nat))) st else .stuck

theorem intD_v {d : D} {i : Int} (h : intD d = some i) : d = .v (.int i) := by
  induction d using Mine.D.casesOn with
  | m _ => (first | subst h | contradiction | (injection h with h; subst h) | cases h)
  | v x => cases x <;> (first | subst h | contradiction | (injection h with h; subst h) | cases h); rfl
theorem seqOf_is {d : D} {st : Sto} {l : List V} (h : seqOf d st = some l) : d = .v (.lst l) ∨ d = .v (.tup l) ∨ ∃ j, d = .m j ∧ st[j]? = some l := by
  induction d using Mine.D.casesOn with
  | m j => exact .inr (.inr ⟨j, rfl, h⟩)
  | v x =>
    induction x using Mine.V.casesOn with
    | lst l => (first | subst h | contradiction | (injection h with h; subst h) | cases h); exact .inl rfl
    | tup l => (first | subst h | contradiction | (injection h with h; subst h) | cases h); exact .inr (.inl rfl)
    | _ => (first | subst h | contradiction | (injection h with h; subst h) | cases h)
/-- one layer; J: how a handler's expression is read -/
noncomputable def step (C : Cx) (Φ : D → List D → Sto → Out D) (J : Scope → En → Expr → Sto → Out D) (I : In) : In where
  ex := fun sc ρ e st => match e with
    | .Constant (.int i) _ _ => .ok (.v (.int i)) st
    | .Constant (.bool b) _ _ => .ok (.v (.bool b)) st
    | .Constant (.str s) _ _ => .ok (.v (.str s)) st
    | .Constant .none _ _ => .ok (.v .none) st
    | .Name x _ => if badName x then .stuck else if isLoc sc x then ofO st (ρ.lookup x) else if sc.names.lookup x == some .globalImplicit then ofO st ((C.G x).map fun v => D.v (gV v)) else .stuck
    | .BinOp l op r _ => if C.hand && isShl op then .stuck else (I.ex sc ρ l st).bind fun a st => (I.ex sc ρ r st).bind fun b st => ofO st ((binop op a b).map D.v)
    | .UnaryOp .Not x _ => (I.ex sc ρ x st).bind fun a st => ofO st ((truth a).map fun b => D.v (.bool (!b)))
    | .IfExp c a b _ => (I.tt sc ρ c st).bind fun t st => if t then I.ex sc ρ a st else I.ex sc ρ b st
    | .BoolOp op vs _ => boolV (I.ex sc ρ) op vs st
    | .Compare l ops cs _ => if noDisp cs && ops.length == cs.length then (I.ex sc ρ l st).bind fun a st => (chain (I.ex sc ρ) a ops cs st).bind fun b st => .ok (.v (.bool b)) st else .stuck
    | .Tuple es _ _ => if noStar es && szOk es.length then (evs (I.ex sc ρ) es st).bind fun ds st => ofO st ((vals ds).map fun l => D.v (.tup l)) else .stuck
    | .List es pos => if noStar es && szOk es.length then (evs (I.ex sc ρ) es st).bind fun ds st => match vals ds with
      | some l => if C.mt pos then .ok (.m st.length) (st ++ [l]) else .ok (.v (.lst l)) st
      | Option.none => .stuck
      else .stuck
    | .Subscript o (.Slice lo hi Option.none _) _ => (I.ex sc ρ o st).bind fun d st => match d, partI lo, partI hi with
      | .v (.lst l), some a, some b => if szOk l.length then ofO st ((cutL l a b).map fun m => D.v (.lst m)) else .stuck
      | _, _, _ => .stuck
    | .Subscript o i _ => if isStar i then .stuck else (I.ex sc ρ o st).bind fun d st => (I.ex sc ρ i st).bind fun k st => ofO st ((sub1 d k st).map D.v)
    | .Attribute o a _ => if isBare o then .stuck else (I.ex sc ρ o st).bind fun d st => match d with
      | .v (.inst c ns vs) => if C.attr c a then (match (ns.zip vs).lookup a with
        | some x => if isVal x then .stuck else .ok (.v x) st
        | Option.none => .stuck) else .stuck
      | _ => .stuck
    | .Call (.Attribute o name ap) args [] pos => if !isBare o && noStar args && decide (args.length < 20) && ap.endLine == pos.line then (I.ex sc ρ o st).bind fun d st => match d with
        | .m i => (evs (I.ex sc ρ) args st).quiet.bind fun ds st => listM name i ds st
        | .v (.int i) => intM name i args st
        | .v (.inst c ns _) => (match C.meth c name with
          | some f => if ns.contains name then .stuck else (evs (I.ex sc ρ) args st).bind fun ds st => Φ (.v (.val (.ref f))) (d :: ds) st
          | Option.none => .stuck)
        | _ => .stuck
      else .stuck
    | .Call f args [] _ => if isAttr f || !noStar args then .stuck else (I.ex sc ρ f st).bind fun d st => match d with
        | .v (.val v) => if C.able v then (evs (I.ex sc ρ) args st).bind fun ds st => Φ d ds st else .stuck
        | _ => .stuck
    | .ListComp elt gens scope pos => (match oneGen gens with
      | some (target, iter, ifs) => if ((compOk scope sc && !isDisp iter) && isNm target) && !C.hand then (I.ex sc ρ iter st).bind fun d st => match itemsOf d with
        | some l => (compL (putT (relab scope sc) target) (tests (I.tt (relab scope sc)) ifs) (fun ρ st => I.ex (relab scope sc) ρ elt st) l (freeOf (relab scope sc) ρ) [] st).bind fun acc st =>
            if C.mt pos then .ok (.m st.length) (st ++ [acc]) else .ok (.v (.lst acc)) st
        | Option.none => .stuck
        else .stuck
      | Option.none => .stuck)
    | _ => .stuck
  tt := fun sc ρ e st => match e with
    | .UnaryOp .Not x _ => (I.tt sc ρ x st).bind fun b st => .ok (!b) st
    | .BoolOp op vs _ => allT (I.tt sc ρ) op vs st
    | .IfExp c a b _ => (I.tt sc ρ c st).bind fun t st => if t then I.tt sc ρ a st else I.tt sc ρ b st
    | .Compare l ops cs _ => if noDisp cs && ops.length == cs.length then (I.ex sc ρ l st).bind fun a st => chain (I.ex sc ρ) a ops cs st else .stuck
    | e => (I.ex sc ρ e st).bind fun d st => ofO st (truth d)
  st := fun sc ρ s st => match s with
    | .Pass _ => .ok (.next, ρ) st
    | .Break _ => .ok (.brk, ρ) st
    | .Continue _ => .ok (.cont, ρ) st
    | .Return (some e) _ => (I.ex sc ρ e st).bind fun d st => .ok (.ret d, ρ) st
    | .Expr e _ => if isComp e then .stuck else (I.ex sc ρ e st).bind fun _ st => .ok (.next, ρ) st
    | .Assign [.Name x _] e _ => if isComp e then .stuck else (I.ex sc ρ e st).bind fun d st => if sc.names.lookup x == some .local then .ok (.next, setE x d ρ) st else .stuck
    | .Assign [.Tuple ts k tp] e _ => if isComp e then .stuck else match namesOf ts with
      | some xs => if distinct xs && swOk sc ts k tp e xs then (I.ex sc ρ e st).bind fun d st => match d with
          | .v (.tup l) => (match putAll sc xs l ρ with
            | some ρ' => .ok (.next, ρ') st
            | Option.none => .stuck)
          | _ => .stuck
        else .stuck
      | Option.none => .stuck
    | .If c a b _ => (I.tt sc ρ c st).bind fun t st => if t then exs (I.st sc) a ρ st else exs (I.st sc) b ρ st
    | .While c b [] _ => whileN (fun ρ st => I.tt sc ρ c st) (fun ρ st => exs (I.st sc) b ρ st) LIM ρ st
    | .For t it b [] _ => if isDisp it then .stuck else (I.ex sc ρ it st).bind fun d st => match itemsOf d with
      | some l => forL (putT sc t) (fun ρ st => exs (I.st sc) b ρ st) l ρ st
      | Option.none => .stuck
    | .Raise (some (.Call (.Name x _) args [] _)) Option.none _ => (match gName C sc x with
      | some (.ref c) => (match C.xc c with
        | some xi => if noStar args then (evs (I.ex sc ρ) args st).bind fun ds st => (match vals ds with
            | some l => if l.length == xi.ps.length then .exc (.inst c xi.ns (xi.vs l)) st else .stuck
            | Option.none => .stuck) else .stuck
        | Option.none => .stuck)
      | _ => .stuck)
    | .Try body (h :: hs) [] [] _ => (match retB (I.ex sc ρ) (I.tt sc ρ) body st with
      | .ok d st => .ok (.ret d, ρ) st
      | .exc (.inst c ns l) st => clauses C J sc ρ c ns l (h :: hs) st
      | _ => .stuck)
    | _ => .stuck

noncomputable def none0 : In := ⟨fun _ _ _ _ => .stuck, fun _ _ _ _ => .stuck, fun _ _ _ _ => .stuck⟩
noncomputable def stuckΦ : D → List D → Sto → Out D := fun _ _ _ => .stuck
noncomputable def stuckJ : Scope → En → Expr → Sto → Out D := fun _ _ _ _ => .stuck
noncomputable def XJ (C : Cx) (Φ : D → List D → Sto → Out D) (J : Scope → En → Expr → Sto → Out D) : Nat → In
  | 0 => none0
  | n + 1 => step C Φ J (XJ C Φ J n)
/-- how a handler's expression is read: no calls, no loops -/
noncomputable def XH (C : Cx) : Scope → En → Expr → Sto → Out D := (XJ { C with hand := true } stuckΦ stuckJ 16).ex
noncomputable def X (C : Cx) (Φ : D → List D → Sto → Out D) (n : Nat) : In := XJ C Φ (XH C) n

structure FnI where
  ps : List Str
  sc : Scope
  body : List Stmt

structure Tab where
  fn : Addr → Option FnI
  cls : Addr → Option (List Str)

noncomputable def arg1 : List D → Option D
  | [d] => some d
  | _ => Option.none
noncomputable def arg2a : List D → Option D
  | [d, _] => some d
  | _ => Option.none
noncomputable def arg2b : List D → Option D
  | [_, e] => some e
  | _ => Option.none
noncomputable def vD : D → Option V
  | .v x => some x
  | _ => Option.none
noncomputable def valD : D → Option Value
  | .v (.val c) => some c
  | _ => Option.none
noncomputable def int1 (ds : List D) : Option Int := (arg1 ds).bind intD
noncomputable def int2 {α : Type} (ds : List D) (k : Int → Int → Option α) : Option α := (arg2a ds).bind fun d => (arg2b ds).bind fun e => (intD d).bind fun a => (intD e).bind fun b => k a b
noncomputable def isiT (T : Tab) (x : V) (t : String) : Option Bool :=
  match x with
  | .int _ => if t == "int" then some true else if t == "bool" then some false else Option.none
  | .bool _ => if t == "int" || t == "bool" then some true else Option.none
  | .inst c _ _ => if (t == "int" || t == "bool") && (T.cls c).isSome then some false else Option.none
  | _ => Option.none
noncomputable def isiR (T : Tab) (x : V) (c : Addr) : Option Bool :=
  match x with
  | .int _ => if (T.cls c).isSome then some false else Option.none
  | .inst c' _ _ => if (T.cls c).isSome && (T.cls c').isSome then some (c == c') else Option.none
  | _ => Option.none
noncomputable def isiV (T : Tab) (x : V) (c : Value) : Option Bool :=
  match c with
  | .type t => isiT T x t
  | .ref c => isiR T x c
  | _ => Option.none
noncomputable def fIsi (T : Tab) (ds : List D) (st : Sto) : Out D := ofO st ((arg2a ds).bind fun d => (arg2b ds).bind fun e => (vD d).bind fun x => (valD e).bind fun c => (isiV T x c).map fun b => D.v (.bool b))
noncomputable def fAbs (ds : List D) (st : Sto) : Out D := ofO st ((int1 ds).map fun i => D.v (.int (if i < 0 then -i else i)))
noncomputable def fMin (ds : List D) (st : Sto) : Out D := ofO st (int2 ds fun a b => some (D.v (.int (if b < a then b else a))))
noncomputable def fMax (ds : List D) (st : Sto) : Out D := ofO st (int2 ds fun a b => some (D.v (.int (if a < b then b else a))))
noncomputable def fDivmod (ds : List D) (st : Sto) : Out D := ofO st (int2 ds fun a b => if dvOk b then some (D.v (.tup [.int (a.fdiv b), .int (a.fmod b)])) else Option.none)
noncomputable def fLen (ds : List D) (st : Sto) : Out D := ofO st ((arg1 ds).bind fun d => (seqOf d st).bind fun l => if szOk l.length then some (D.v (.int l.length)) else Option.none)
noncomputable def intsOf : List V → Option (List Int)
  | [] => some []
  | .int i :: r => (intsOf r).map (i :: ·)
  | _ :: _ => Option.none
noncomputable def fSum (ds : List D) (st : Sto) : Out D := ofO st ((arg1 ds).bind fun d => (lstD d).bind fun l => (intsOf l).map fun ns => D.v (.int ns.sum))
noncomputable def fInt (ds : List D) (st : Sto) : Out D := ofO st ((arg1 ds).bind fun d => (boolD d).map fun b => D.v (.int (b2i b)))
noncomputable def fRange (ds : List D) (st : Sto) : Out D := ofO st (match int1 ds with
  | some b => if b.natAbs < 2 ^ 20 then some (D.v (.rng 0 b)) else Option.none
  | Option.none => int2 ds fun a b => if a.natAbs < 2 ^ 20 ∧ b.natAbs < 2 ^ 20 then some (D.v (.rng a b)) else Option.none)
theorem lstD_v {d : D} {l : List V} (h : lstD d = some l) : d = .v (.lst l) := by
  induction d using Mine.D.casesOn with
  | m _ => (first | subst h | contradiction | (injection h with h; subst h) | cases h)
  | v x => cases x <;> (first | subst h | contradiction | (injection h with h; subst h) | cases h); rfl
theorem tupD_v {d : D} {l : List V} (h : tupD d = some l) : d = .v (.tup l) := by
  induction d using Mine.D.casesOn with
  | m _ => (first | subst h | contradiction | (injection h with h; subst h) | cases h)
  | v x => cases x <;> (first | subst h | contradiction | (injection h with h; subst h) | cases h); rfl
theorem boolD_v {d : D} {b : Bool} (h : boolD d = some b) : d = .v (.bool b) := by
  induction d using Mine.D.casesOn with
  | m _ => (first | subst h | contradiction | (injection h with h; subst h) | cases h)
  | v x => cases x <;> (first | subst h | contradiction | (injection h with h; subst h) | cases h); rfl
theorem valD_v {d : D} {c : Value} (h : valD d = some c) : d = .v (.val c) := by
  induction d using Mine.D.casesOn with
  | m _ => (first | subst h | contradiction | (injection h with h; subst h) | cases h)
  | v x => cases x <;> (first | subst h | contradiction | (injection h with h; subst h) | cases h); rfl
theorem vD_v {d : D} {x : V} (h : vD d = some x) : d = .v x := by
  induction d using Mine.D.casesOn with
  | m _ => (first | subst h | contradiction | (injection h with h; subst h) | cases h)
  | v x => (first | subst h | contradiction | (injection h with h; subst h) | cases h); rfl
theorem arg1_is {ds : List D} {d : D} (h : arg1 ds = some d) : ds = [d] := by
  induction ds using List.casesOn with
  | nil => (first | subst h | contradiction | (injection h with h; subst h) | cases h)
  | cons a r => cases r <;> (first | subst h | contradiction | (injection h with h; subst h) | cases h); rfl
theorem arg2_is {ds : List D} {d e : D} (h : arg2a ds = some d) (h' : arg2b ds = some e) : ds = [d, e] := by
  induction ds using List.casesOn with
  | nil => (first | subst h | contradiction | (injection h with h; subst h) | cases h)
  | cons a r =>
    induction r using List.casesOn with
    | nil => (first | subst h | contradiction | (injection h with h; subst h) | cases h)
    | cons b r => cases r <;> cases h <;> (first | subst h' | contradiction | (injection h' with h'; subst h') | cases h'); rfl
theorem int1_is {ds : List D} {i : Int} (h : int1 ds = some i) : ds = [.v (.int i)] := by
  obtain ⟨d, h1, h2⟩ := Option.bind_eq_some_iff.mp h
  rw [arg1_is h1, intD_v h2]
theorem int2_is {α : Type} {ds : List D} {k : Int → Int → Option α} {r : α} (h : int2 ds k = some r) : ∃ a b, ds = [.v (.int a), .v (.int b)] ∧ k a b = some r := by
  obtain ⟨d, h1, h⟩ := Option.bind_eq_some_iff.mp h
  obtain ⟨e, h2, h⟩ := Option.bind_eq_some_iff.mp h
  obtain ⟨a, h3, h⟩ := Option.bind_eq_some_iff.mp h
  obtain ⟨b, h4, h⟩ := Option.bind_eq_some_iff.mp h
  exact ⟨a, b, by rw [arg2_is h1 h2, intD_v h3, intD_v h4], h⟩

noncomputable def bin1 (T : Tab) (v : Value) (ds : List D) (st : Sto) : Out D :=
  match v with
  | .builtin b =>
    if b == "isinstance" then fIsi T ds st else if b == "abs" then fAbs ds st else if b == "min" then fMin ds st else if b == "max" then fMax ds st
    else if b == "len" then fLen ds st else if b == "divmod" then fDivmod ds st else if b == "sum" then fSum ds st else .stuck
  | .type t => if t == "range" then fRange ds st else if t == "int" then fInt ds st else .stuck
  | _ => .stuck

noncomputable def retn (n : Nat) (d : D) (st : Sto) : Out D :=
  match d with
  | .v x => .ok (.v x) (st.take n)
  | .m i => if i < n then .ok (.m i) (st.take n) else .ok (.m i) st

noncomputable def runBody (C : Cx) (Φ : D → List D → Sto → Out D) (f : FnI) (ds : List D) (st : Sto) : Out D :=
  if f.ps.length = ds.length then
    (exs ((X C Φ 64).st f.sc) f.body (f.ps.zip ds) st).bind fun p st' => match p.1 with
      | .next => retn st.length (.v .none) st'
      | .ret d => retn st.length d st'
      | _ => .stuck
  else .stuck

noncomputable def callS (C : Cx) (T : Tab) (Φ : D → List D → Sto → Out D) (d : D) (ds : List D) (st : Sto) : Out D :=
  match d with
  | .v (.val (.ref a)) => (match T.fn a with
    | some f => runBody C Φ f ds st
    | Option.none => (match T.cls a with
      | some ns => if ns.length = ds.length then ofO st ((vals ds).map fun l => D.v (.inst a ns l)) else .stuck
      | Option.none => .stuck))
  | .v (.val v) => bin1 T v ds st
  | _ => .stuck

noncomputable def R (C : Cx) (T : Tab) : Nat → D → List D → Sto → Out D
  | 0 => fun _ _ _ => .stuck
  | n + 1 => callS C T (R C T n)

end Mine

end

section
open PySem PySem.W PySem.Spec PySem.Calls PyProof.Rows
set_option maxRecDepth 100000
namespace Mine

/-- the entries of an instance's dict bear these names -/
noncomputable def Keyed : List DictEntry → List Str → Prop
  | [], [] => True
  | e :: es, n :: ns => (∃ t, e.key = .str n t) ∧ Keyed es ns
  | _, _ => False

/-- the object stands, but a dict's slots (a frame's) may have been laid -/
noncomputable def At (h : Heap) (a : Addr) (o : Obj) : Prop := h.get? a = some o ∨ ((∃ es n, o.data = .dict es n) ∧ ∃ sl, h.get? a = some { o with slots := sl })
theorem At.of {h : Heap} {a : Addr} {o : Obj} (e : h.get? a = some o) : At h a o := .inl e
theorem At.nd {h : Heap} {a : Addr} {o : Obj} (x : At h a o) (n : ∀ es m, o.data ≠ .dict es m) : h.get? a = some o := x.elim id fun ⟨⟨es, m, q⟩, _⟩ => absurd q (n es m)
theorem At.ex {h : Heap} {a : Addr} {o : Obj} (x : At h a o) : ∃ sl, h.get? a = some { o with slots := sl } := x.elim (fun e => ⟨o.slots, e⟩) (·.2)
theorem At.trans {h h' : Heap} {a : Addr} {o : Obj} (x : At h a o) (k : ∀ o', h.get? a = some o' → At h' a o') : At h' a o := by
  rcases x with e | ⟨d, sl, e⟩
  · exact k o e
  · obtain ⟨sl', e'⟩ := (k _ e).ex
    exact .inr ⟨d, sl', e'⟩

/-- an instance: one of a plain class, or an exception -/
noncomputable def IsI (h : Heap) (x c dx : Addr) : Prop := ∃ o, h.get? x = some o ∧ o.cls = .ref c ∧ o.dict = some dx ∧ notCls o = true ∧ ∀ es m, o.data ≠ .dict es m

mutual
noncomputable def Rep (B : Addr → Prop) (h : Heap) : Value → V → Prop
  | v, .none => v = .none
  | v, .bool b => v = .bool b
  | v, .int i => ∃ t, v = .int i t
  | v, .str s => ∃ t, v = .str s t
  | v, .tup l => ∃ a vs n, v = .ref a ∧ ¬ B a ∧ h.get? a = some ({ cls := .type "tuple", data := .seq (vs.toArray) n } : Obj) ∧ Reps B h vs l
  | v, .lst l => ∃ a o vs n, v = .ref a ∧ ¬ B a ∧ h.get? a = some o ∧ o.cls = .type "list" ∧ o.data = .seq (vs.toArray) n ∧ Reps B h vs l
  | v, .inst c ns l => ∃ x dx es n, v = .ref x ∧ ¬ B x ∧ ¬ B dx ∧ IsI h x c dx ∧ At h dx (dictOf es n) ∧ Keyed es ns ∧ Reps B h (es.map (·.val)) l
  | v, .rng a b => ∃ r t u w, v = .ref r ∧ ¬ B r ∧ IsRange h r a b 1 t u w
  | v, .val x => v = x
noncomputable def Reps (B : Addr → Prop) (h : Heap) : List Value → List V → Prop
  | [], [] => True
  | v :: vs, x :: xs => Rep B h v x ∧ Reps B h vs xs
  | [], _ :: _ => False
  | _ :: _, [] => False
end

noncomputable def RepD (σ : List Addr) (B : Addr → Prop) (h : Heap) (v : Value) : D → Prop
  | .v x => Rep B h v x
  | .m i => ∃ a, σ[i]? = some a ∧ v = .ref a

noncomputable def RepDs (σ : List Addr) (B : Addr → Prop) (h : Heap) : List Value → List D → Prop
  | [], [] => True
  | v :: vs, d :: ds => RepD σ B h v d ∧ RepDs σ B h vs ds
  | _, _ => False

theorem isRange_obj {h h' : Heap} {r a b c t u w} (x : IsRange h r a b c t u w) (k : ∀ o, h.get? r = some o → At h' r o) : IsRange h' r a b c t u w := (k _ x).nd fun _ _ q => nomatch q

mutual
theorem Rep.mono {B B' : Addr → Prop} {h h' : Heap} (k : ∀ a o, h.get? a = some o → ¬ B a → At h' a o ∧ ¬ B' a) : ∀ {x : V} {v : Value}, Rep B h v x → Rep B' h' v x
  | .none, _, r => r
  | .bool _, _, r => r
  | .int _, _, r => r
  | .str _, _, r => r
  | .tup l, v, r => by
    unfold Rep at r ⊢
    obtain ⟨a, vs, n, e, hb, ho, hr⟩ := r
    exact ⟨a, vs, n, e, (k a _ ho hb).2, (k a _ ho hb).1.nd (fun _ _ q => nomatch q), Reps.mono k hr⟩
  | .lst l, v, r => by
    unfold Rep at r ⊢
    obtain ⟨a, o, vs, n, e, hb, ho, hc, hd, hr⟩ := r
    exact ⟨a, o, vs, n, e, (k a o ho hb).2, (k a o ho hb).1.nd fun _ _ q => (by rw [hd] at q; (first | subst q | contradiction | (injection q with q; subst q) | cases q)), hc, hd, Reps.mono k hr⟩
  | .inst c ns l, v, r => by
    unfold Rep at r ⊢
    obtain ⟨x, dx, es, n, e, hb, hb', ho, hd, hk, hr⟩ := r
    obtain ⟨ox, o1, o2, o3, o4, o5⟩ := ho
    exact ⟨x, dx, es, n, e, (k x _ o1 hb).2, (hd.elim (fun q => (k dx _ q hb').2) fun ⟨_, _, q⟩ => (k dx _ q hb').2), ⟨ox, (k x _ o1 hb).1.nd o5, o2, o3, o4, o5⟩, hd.trans fun o' q => (k dx o' q hb').1, hk, Reps.mono k hr⟩
  | .rng a b, v, r => by
    unfold Rep at r ⊢
    obtain ⟨q, t, u, w, e, hb, hr⟩ := r
    exact ⟨q, t, u, w, e, (k q _ hr hb).2, (k q _ hr hb).1.nd fun _ _ q => nomatch q⟩
  | .val _, _, r => r
theorem Reps.mono {B B' : Addr → Prop} {h h' : Heap} (k : ∀ a o, h.get? a = some o → ¬ B a → At h' a o ∧ ¬ B' a) : ∀ {xs : List V} {vs : List Value}, Reps B h vs xs → Reps B' h' vs xs
  | [], [], _ => trivial
  | _ :: _, _ :: _, r => ⟨Rep.mono k r.1, Reps.mono k r.2⟩
  | [], _ :: _, r => r.elim
  | _ :: _, [], r => r.elim
end

theorem Reps.length {B : Addr → Prop} {h : Heap} : ∀ {vs : List Value} {xs : List V}, Reps B h vs xs → vs.length = xs.length
  | [], [], _ => rfl
  | _ :: _, _ :: _, r => congrArg (· + 1) (Reps.length r.2)
  | [], _ :: _, r => r.elim
  | _ :: _, [], r => r.elim
theorem Reps.get {B : Addr → Prop} {h : Heap} : ∀ {vs : List Value} {xs : List V} (_ : Reps B h vs xs) {i : Nat} {x : V}, xs[i]? = some x → ∃ v, vs[i]? = some v ∧ Rep B h v x
  | _ :: _, _ :: _, r, 0, x, e => ⟨_, rfl, by (first | subst e | contradiction | (injection e with e; subst e) | cases e); exact r.1⟩
  | _ :: _, _ :: _, r, i + 1, x, e => by
    obtain ⟨v, a, b⟩ := Reps.get r.2 (i := i) (by simpa using e)
    exact ⟨v, by simpa using a, b⟩
  | [], [], _, _, _, e => by (first | subst e | contradiction | (injection e with e; subst e) | cases e)
  | [], _ :: _, r, _, _, _ => r.elim
  | _ :: _, [], r, _, _, _ => r.elim
theorem Reps.append {B : Addr → Prop} {h : Heap} : ∀ {vs ws : List Value} {xs ys : List V}, Reps B h vs xs → Reps B h ws ys → Reps B h (vs ++ ws) (xs ++ ys)
  | [], _, [], _, _, s => s
  | _ :: _, _, _ :: _, _, r, s => ⟨r.1, Reps.append r.2 s⟩
  | [], _, _ :: _, _, r, _ => r.elim
  | _ :: _, _, [], _, r, _ => r.elim
theorem Reps.take {B : Addr → Prop} {h : Heap} : ∀ {vs : List Value} {xs : List V} (n : Nat), Reps B h vs xs → Reps B h (vs.take n) (xs.take n)
  | _, _, 0, _ => by simp only [List.take_zero]; trivial
  | [], [], _ + 1, _ => trivial
  | _ :: _, _ :: _, n + 1, r => ⟨r.1, Reps.take n r.2⟩
  | [], _ :: _, _, r => r.elim
  | _ :: _, [], _, r => r.elim
theorem Reps.drop {B : Addr → Prop} {h : Heap} : ∀ {vs : List Value} {xs : List V} (n : Nat), Reps B h vs xs → Reps B h (vs.drop n) (xs.drop n)
  | _, _, 0, r => by simpa only [List.drop_zero] using r
  | [], [], _ + 1, _ => trivial
  | _ :: _, _ :: _, n + 1, r => Reps.drop n r.2
  | [], _ :: _, _, r => r.elim
  | _ :: _, [], _, r => r.elim
theorem Reps.set {B : Addr → Prop} {h : Heap} : ∀ {vs : List Value} {xs : List V} (n : Nat) {v : Value} {x : V}, Reps B h vs xs → Rep B h v x → Reps B h (vs.set n v) (xs.set n x)
  | [], [], _, _, _, _, _ => trivial
  | _ :: _, _ :: _, 0, _, _, r, q => ⟨q, r.2⟩
  | _ :: _, _ :: _, n + 1, _, _, r, q => ⟨r.1, Reps.set n r.2 q⟩
  | [], _ :: _, _, _, _, r, _ => r.elim
  | _ :: _, [], _, _, _, r, _ => r.elim

/-- written places kept, none goes -/
noncomputable def Kp (W : Addr → Prop) (h h' : Heap) : Prop := ∀ b o, h.get? b = some o → (¬ W b → At h' b o) ∧ ∃ o', h'.get? b = some o'
theorem Kp.refl {W : Addr → Prop} {h : Heap} : Kp W h h := fun _ o e => ⟨fun _ => .inl e, o, e⟩
theorem Kp.at {W : Addr → Prop} {h h' : Heap} (k : Kp W h h') {b : Addr} {o : Obj} (e : h.get? b = some o) (n : ¬ W b) : At h' b o := (k b o e).1 n
theorem Kp.weak {W W' : Addr → Prop} {h h' : Heap} (k : Kp W h h') (s : ∀ a, W a → W' a) : Kp W' h h' := fun b o e => ⟨fun n => (k b o e).1 fun w => n (s b w), (k b o e).2⟩
theorem Kp.trans {W W' : Addr → Prop} {h h' h'' : Heap} (k : Kp W h h') (k' : Kp W' h' h'') (s : ∀ a, (∃ o, h.get? a = some o) → W' a → W a) : Kp W h h'' := fun b o e =>
  ⟨fun n => (k.at e n).trans fun _ q => k'.at q fun w => n (s b ⟨o, e⟩ w), by
    obtain ⟨o', e'⟩ := (k b o e).2
    exact (k' b o' e').2⟩
theorem Kp.push {W : Addr → Prop} {h : Heap} (o : Obj) : Kp W h (h.push o) := fun _ o' e => ⟨fun _ => .inl (Heap.get?_push_of_some _ e), o', Heap.get?_push_of_some _ e⟩
theorem Kp.all {W : Addr → Prop} {h h' : Heap} (k : ∀ b o, h.get? b = some o → h'.get? b = some o) : Kp W h h' := fun b o e => ⟨fun _ => .inl (k b o e), o, k b o e⟩
theorem Kp.same {W : Addr → Prop} {h h' : Heap} {a : Addr} {o : Obj} (s : Heap.SameBut a h h') (w : W a) (ho : h'.get? a = some o) : Kp W h h' := fun b o' e => by
  by_cases q : b = a
  · subst q; exact ⟨fun n => absurd w n, o, ho⟩
  · exact ⟨fun _ => .inl ((s.2 b q).trans e), o', (s.2 b q).trans e⟩
/-- the end of a thing that was not there at first -/
theorem Kp.fin {W : Addr → Prop} {h h' h'' : Heap} {a : Addr} (k : Kp W h h') (n : h.get? a = none) (x : Heap.ExtBut a h' h'') : Kp W h h'' := fun b o e => by
  have q : b ≠ a := fun q => by rw [q, n] at e; (first | subst e | contradiction | (injection e with e; subst e) | cases e)
  obtain ⟨o', e'⟩ := (k b o e).2
  exact ⟨fun w => (k.at e w).trans fun o'' q' => .inl (x b o'' q q'), o', x b o' q e'⟩

noncomputable def Fresh (σ σ' : List Addr) (h : Heap) : Prop := ∃ e, σ' = σ ++ e ∧ ∀ a ∈ e, h.get? a = none
theorem Fresh.refl {σ : List Addr} {h : Heap} : Fresh σ σ h := ⟨[], by simp, fun _ hx => nomatch hx⟩
theorem Fresh.trans {W : Addr → Prop} {σ σ' σ'' : List Addr} {h h' : Heap} (a : Fresh σ σ' h) (b : Fresh σ' σ'' h') (k : Kp W h h') : Fresh σ σ'' h := by
  obtain ⟨e, rfl, he⟩ := a
  obtain ⟨e', rfl, he'⟩ := b
  refine ⟨e ++ e', by rw [List.append_assoc], fun x hx => (List.mem_append.mp hx).elim (he x) fun q => ?_⟩
  generalize z : h.get? x = zz
  induction zz using Option.casesOn with
  | none => rfl
  | some o =>
    obtain ⟨o', z'⟩ := (k x o z).2
    rw [he' x q] at z'; (first | subst z' | contradiction | (injection z' with z'; subst z') | cases z')
theorem Fresh.low {σ σ' : List Addr} {h : Heap} (a : Fresh σ σ' h) {x : Addr} {o : Obj} (l : h.get? x = some o) (m : x ∈ σ') : x ∈ σ := by
  obtain ⟨e, rfl, he⟩ := a
  rcases List.mem_append.mp m with q | q
  · exact q
  · rw [he x q] at l; (first | subst l | contradiction | (injection l with l; subst l) | cases l)
theorem Fresh.get {σ σ' : List Addr} {h : Heap} (a : Fresh σ σ' h) {i : Nat} {x : Addr} (e : σ[i]? = some x) : σ'[i]? = some x := by
  obtain ⟨e', rfl, _⟩ := a
  rw [List.getElem?_append_left (List.getElem?_eq_some_iff.mp e).1]; exact e
theorem Fresh.sub {σ σ' : List Addr} {h : Heap} (a : Fresh σ σ' h) {x : Addr} (m : x ∈ σ) : x ∈ σ' := by
  obtain ⟨e', rfl, _⟩ := a
  exact List.mem_append_left _ m

noncomputable def Bad (σ Λ : List Addr) (a : Addr) : Prop := a ∈ σ ∨ a ∈ Λ
noncomputable def InL (σ : List Addr) (a : Addr) : Prop := a ∈ σ

theorem Rep.step {σ σ' Λ : List Addr} {h h' : Heap} {v : Value} {x : V} (r : Rep (Bad σ Λ) h v x) (f : Fresh σ σ' h) (k : Kp (Bad σ Λ) h h') : Rep (Bad σ' Λ) h' v x :=
  r.mono fun a o e n => ⟨k.at e n, fun b => n (b.elim (fun q => .inl (f.low e q)) .inr)⟩
theorem Reps.step {σ σ' Λ : List Addr} {h h' : Heap} {v : List Value} {x : List V} (r : Reps (Bad σ Λ) h v x) (f : Fresh σ σ' h) (k : Kp (Bad σ Λ) h h') : Reps (Bad σ' Λ) h' v x :=
  r.mono fun a o e n => ⟨k.at e n, fun b => n (b.elim (fun q => .inl (f.low e q)) .inr)⟩
theorem RepD.step {σ σ' Λ : List Addr} {h h' : Heap} {v : Value} {d : D} (r : RepD σ (Bad σ Λ) h v d) (f : Fresh σ σ' h) (k : Kp (Bad σ Λ) h h') : RepD σ' (Bad σ' Λ) h' v d := by
  induction d using Mine.D.casesOn with
  | v x => exact Rep.step r f k
  | m i => obtain ⟨a, e, q⟩ := r; exact ⟨a, f.get e, q⟩
theorem RepDs.step {σ σ' Λ : List Addr} {h h' : Heap} (f : Fresh σ σ' h) (k : Kp (Bad σ Λ) h h') : ∀ {v : List Value} {d : List D}, RepDs σ (Bad σ Λ) h v d → RepDs σ' (Bad σ' Λ) h' v d
  | [], [], _ => trivial
  | _ :: _, _ :: _, r => ⟨RepD.step r.1 f k, RepDs.step f k r.2⟩
  | [], _ :: _, r => r.elim
  | _ :: _, [], r => r.elim

/-- the store of mutable lists -/
noncomputable def StoreOk (σ Λ : List Addr) (h : Heap) (st : Sto) : Prop :=
  σ.length = st.length ∧ σ.Nodup ∧ ∀ (i : Nat) (a : Addr) (l : List V), σ[i]? = some a → st[i]? = some l → ∃ vs : List Value, h.PlainList a vs.toArray ∧ Reps (Bad σ Λ) h vs l ∧ l.length ≤ 2 ^ 20 + 1
theorem isList_keep {h h' : Heap} {a : Addr} {vs : Array Value} (x : h.IsList a vs) (k : ∀ o, h.get? a = some o → h'.get? a = some o) : h'.IsList a vs := by
  obtain ⟨o, ho, y⟩ := x
  exact ⟨o, k o ho, y⟩

end Mine

end

section
open PySem PySem.W PySem.Spec PySem.Calls PyProof.Rows
set_option maxRecDepth 100000
namespace Mine

structure Wd where
  prog : Program
  w : World
  K : Frag
  base : Heap
  p : Program
  loose : List Str
  mg : Str → Option Value
  mb : Str → Option Value
  X : K.In base
  T : TopRead p loose mg mb base
  live : ∃ o, base.get? (base.objs.size - 1) = some o
  fr : List Addr

theorem ns_at {h h' : Heap} {L : Addr} {m : Str → Option Value} (n : h.Ns L m) (k : ∀ o, h.get? L = some o → At h' L o) : h'.Ns L m := by
  obtain ⟨o, es, ep, ho, r⟩ := n
  obtain ⟨sl, e⟩ := (k o ho).ex
  exact ⟨_, es, ep, e, r⟩

theorem ns_all {h h' : Heap} {L : Addr} (n : ∃ m, h.Ns L m) (k : ∀ b o, h.get? b = some o → h'.get? b = some o) : ∃ m, h'.Ns L m := by
  obtain ⟨m, n⟩ := n
  exact ⟨m, ns_at n fun o e => .inl (k _ _ e)⟩

theorem ns_ex {h h' : Heap} {L : Addr} (n : ∃ m, h.Ns L m) (k : ∀ o, h.get? L = some o → At h' L o) : ∃ m, h'.Ns L m := by
  obtain ⟨m, n⟩ := n
  exact ⟨m, ns_at n k⟩

structure Inv (W : Wd) (σ Λ : List Addr) (h : Heap) (st : Sto) : Prop where
  keep : ∀ b o, W.base.get? b = some o → h.get? b = some o
  new : ∀ a, Bad σ Λ a → W.base.objs.size ≤ a ∧ ∃ o, h.get? a = some o
  store : StoreOk σ Λ h st
  apart : ∀ a ∈ σ, a ∉ Λ
  dic : ∀ a ∈ W.fr, a ∈ Λ ∧ ∃ m, h.Ns a m

/-- what the frame's names hold -/
noncomputable def Vars (Λ : List Addr) (sc : Scope) (env : Env) (ρ : En) (σ : List Addr) (h : Heap) : Prop :=
  ∃ m, h.Ns env.locals m ∧ ∀ x d, ρ.lookup x = some d →
    (sc.names.lookup x = some .local → ∃ v, m x = some v ∧ RepD σ (Bad σ Λ) h v d) ∧
    (sc.names.lookup x = some .cell ∨ sc.names.lookup x = some .free → ∃ c o v, env.cells.lookup x = some c ∧ h.get? c = some o ∧ o.data = .cell (some v) ∧ c ∉ σ ∧ RepD σ (Bad σ Λ) h v d)

structure EnvOk (Λ : List Addr) (sc : Scope) (env : Env) : Prop where
  kind : sc.kind = .function
  scope : env.scope = sc
  globals : env.globals = mainGlobals
  builtins : env.builtins = builtinsNs
  loc : env.locals ∈ Λ
  cin : ∀ x c, env.cells.lookup x = some c → c ∈ Λ
  cells : ∀ x, sc.names.lookup x = some .cell ∨ sc.names.lookup x = some .free → ∃ c, env.cells.lookup x = some c

/-- the frames of the stack are known -/
noncomputable def Stk (A : Around) (W : Wd) : Prop := ∃ l, A.frames = some l ∧ ∀ env ∈ l, env.scope.kind ≠ .module ∧ ∃ L, env.frame = some L ∧ L ∈ W.fr

noncomputable def FrOk (W : Wd) (l : List Env) : Prop := ∀ env ∈ l, env.scope.kind ≠ .module ∧ ∃ L, env.frame = some L ∧ L ∈ W.fr
/-- the frame at hand is the top one -/
noncomputable def TopOk (A : Around) (W : Wd) (env : Env) : Prop := ∃ outer L, A.frames = some (env :: outer) ∧ FrOk W (env :: outer) ∧ env.frame = some L

/-- an exception on its way: raised at heap h, now at h' -/
structure Flown (W : Wd) (B : Addr → Prop) (h h' : Heap) (e : Addr) (c : Addr) (ns : List Str) (l : List V) : Prop where
  keep : (∀ b o, h.get? b = some o → b ≠ e → At h' b o) ∧ ∀ b o, W.base.get? b = some o → h'.get? b = some o
  here : (∃ o, h.get? e = some o) ∧ ¬ B e ∧ e ∉ W.fr ∧ W.base.get? e = none
  obj : ∃ dx oe vs a0, h'.get? e = some oe ∧ oe.cls = .ref c ∧ oe.dict = some dx ∧ oe.data = .fields vs ∧ vs[0]? = some a0 ∧
    (vs[1]? = some .none ∨ ∃ T oT ts, vs[1]? = some (.ref T) ∧ h.get? T = none ∧ h'.get? T = some oT ∧ oT.data = .fields ts ∧ ts[3]? = some .none) ∧
    ∃ es n, dx ≠ e ∧ ¬ B dx ∧ At h dx (dictOf es n) ∧ Keyed es ns ∧ Reps (fun a => B a ∨ a = e) h (es.map (·.val)) l

noncomputable def FlyV (W : Wd) (B : Addr → Prop) (h h' : Heap) (e : Addr) : V → Prop
  | .inst c ns l => Flown W B h h' e c ns l
  | _ => False

noncomputable def Po {α β : Type} (W : Wd) (Λ : List Addr) (X : Addr → Prop) (Rel : List Addr → Heap → β → α → Prop) (E : Value → Shared → Prop) (σ : List Addr) (s : Shared) (r : Out α) (Q : β → Shared → Prop) : Prop :=
  match r with
  | .ok a st' => ∀ σ' h' tk b, Fresh σ σ' s.heap → Kp (fun x => x ∈ σ ∨ X x) s.heap h' → Inv W σ' Λ h' st' → Rel σ' h' b a → Q b { s with heap := h', toks := tk }
  | .exc x st' => ∀ σ' hr h' tk e, Fresh σ σ' s.heap → Kp (fun x => x ∈ σ ∨ X x) s.heap hr → Inv W σ' (e :: Λ) hr st' → s.heap.get? e = none → FlyV W (Bad σ' Λ) hr h' e x → E (.ref e) { s with heap := h', toks := tk }
  | .stuck => False

noncomputable def NoX : Addr → Prop := fun _ => False
noncomputable def relD (Λ : List Addr) : List Addr → Heap → Value → D → Prop := fun σ h v d => RepD σ (Bad σ Λ) h v d
noncomputable def relDs (Λ : List Addr) : List Addr → Heap → List Value → List D → Prop := fun σ h v d => RepDs σ (Bad σ Λ) h v d
noncomputable def relB : List Addr → Heap → Bool → Bool → Prop := fun _ _ b c => b = c

section
variable {α α' β β' : Type} {W : Wd} {Λ : List Addr} {X X' : Addr → Prop} {Rel : List Addr → Heap → β → α → Prop} {Rel' : List Addr → Heap → β' → α' → Prop} {E : Value → Shared → Prop} {σ : List Addr} {s : Shared}

theorem Kp.none {W : Addr → Prop} {h h' : Heap} (k : Kp W h h') {e : Addr} (n : h'.get? e = none) : h.get? e = none := by
  generalize z : h.get? e = zz
  induction zz using Option.casesOn with
  | none => rfl
  | some o =>
    obtain ⟨o', z'⟩ := (k e o z).2
    rw [n] at z'; (first | subst z' | contradiction | (injection z' with z'; subst z') | cases z')
theorem Po.shift {r : Out α} {Q : β → Shared → Prop} {σ' : List Addr} {h' : Heap} {tk : Nat} (H : Po W Λ X Rel E σ s r Q) (f : Fresh σ σ' s.heap) (k : Kp (fun x => x ∈ σ ∨ X x) s.heap h') :
    Po W Λ X Rel E σ' { s with heap := h', toks := tk } r Q := by
  have kk : ∀ {h'' : Heap}, Kp (fun x => x ∈ σ' ∨ X x) h' h'' → Kp (fun x => x ∈ σ ∨ X x) s.heap h'' := fun k' => k.trans k' fun a l q => q.elim (fun q => .inl (l.elim fun _ e => f.low e q)) .inr
  induction r using Mine.Out.casesOn with
  | ok a st' =>
    intro σ'' h'' tk'' b f' k' i r'
    exact H σ'' h'' tk'' b (f.trans f' k) (kk k') i r'
  | exc x st' =>
    intro σ'' hr h'' tk'' e f' k' i n x'
    exact H σ'' hr h'' tk'' e (f.trans f' k) (kk k') i (k.none n) x'
  | stuck => exact H
theorem Po.weak {r : Out α} {Q : β → Shared → Prop} (H : Po W Λ X' Rel E σ s r Q) (hX : ∀ a, X a → X' a) : Po W Λ X Rel E σ s r Q := by
  induction r using Mine.Out.casesOn with
  | ok a st' => intro σ' h' tk b f k i r'; exact H σ' h' tk b f (k.weak fun a q => q.elim .inl fun q => .inr (hX a q)) i r'
  | exc x st' => intro σ' hr h' tk e f k i n x'; exact H σ' hr h' tk e f (k.weak fun a q => q.elim .inl fun q => .inr (hX a q)) i n x'
  | stuck => exact H
theorem Po.seq {r : Out α} {f : α → Sto → Out α'} {Q' : β' → Shared → Prop} {Q : β → Shared → Prop} (hX : ∀ a, X a → X' a) (H : Po W Λ X' Rel' E σ s (r.bind f) Q')
    (k : ∀ a st' σ' h' tk b, Fresh σ σ' s.heap → Kp (fun x => x ∈ σ ∨ X x) s.heap h' → Inv W σ' Λ h' st' → Rel σ' h' b a →
      Po W Λ X' Rel' E σ' { s with heap := h', toks := tk } (f a st') Q' → Q b { s with heap := h', toks := tk }) :
    Po W Λ X Rel E σ s r Q := by
  induction r using Mine.Out.casesOn with
  | ok a st' =>
    intro σ' h' tk b f1 k1 i1 r1
    exact k a st' σ' h' tk b f1 k1 i1 r1 (Po.shift H f1 (k1.weak fun a q => q.elim .inl fun q => .inr (hX a q)))
  | exc x st' => intro σ' hr h' tk e f k i n x'; exact H σ' hr h' tk e f (k.weak fun a q => q.elim .inl fun q => .inr (hX a q)) i n x'
  | stuck => exact H
theorem Po.seq0 {r : Out α} {f : α → Sto → Out α'} {Q' : β' → Shared → Prop} {Q : β → Shared → Prop} (H : Po W Λ X Rel' E σ s (r.bind f) Q')
    (k : ∀ a st' σ' h' tk b, Fresh σ σ' s.heap → Kp (fun x => x ∈ σ ∨ X x) s.heap h' → Inv W σ' Λ h' st' → Rel σ' h' b a →
      Po W Λ X Rel' E σ' { s with heap := h', toks := tk } (f a st') Q' → Q b { s with heap := h', toks := tk }) :
    Po W Λ X Rel E σ s r Q := Po.seq (fun _ q => q) H k
theorem Po.mono {r : Out α} {Q Q' : β → Shared → Prop} (H : Po W Λ X Rel E σ s r Q) (k : ∀ b s', Q b s' → Q' b s') : Po W Λ X Rel E σ s r Q' := by
  induction r using Mine.Out.casesOn with
  | ok a st' => intro σ' h' tk b f1 k1 i1 r1; exact k _ _ (H σ' h' tk b f1 k1 i1 r1)
  | exc x st' => exact H
  | stuck => exact H
/-- where no exception comes through, any post for exceptions will do -/
theorem Po.quiet {r : Out α} {f : α → Sto → Out α'} {Q' : β' → Shared → Prop} {Q : β → Shared → Prop} {E' : Value → Shared → Prop} (hX : ∀ a, X a → X' a) (H : Po W Λ X' Rel' E σ s (r.quiet.bind f) Q')
    (k : ∀ a st' σ' h' tk b, Fresh σ σ' s.heap → Kp (fun x => x ∈ σ ∨ X x) s.heap h' → Inv W σ' Λ h' st' → Rel σ' h' b a →
      Po W Λ X' Rel' E σ' { s with heap := h', toks := tk } (f a st') Q' → Q b { s with heap := h', toks := tk }) :
    Po W Λ X Rel E' σ s r Q := by
  induction r using Mine.Out.casesOn with
  | ok a st' =>
    intro σ' h' tk b f1 k1 i1 r1
    exact k a st' σ' h' tk b f1 k1 i1 r1 (Po.shift H f1 (k1.weak fun a q => q.elim .inl fun q => .inr (hX a q)))
  | exc x st' => exact H.elim
  | stuck => exact H
theorem Po.now {a : α} {st : Sto} {Q : β → Shared → Prop} {b : β} {tk : Nat} (H : Po W Λ X Rel E σ s (.ok a st) Q) (i : Inv W σ Λ s.heap st) (r : Rel σ s.heap b a) : Q b { s with toks := tk } :=
  H σ s.heap tk b Fresh.refl Kp.refl i r
end

section
variable {W : Wd} {Λ σ σ' : List Addr} {h h' : Heap} {st : Sto}
theorem Inv.size (I : Inv W σ Λ h st) : W.base.objs.size ≤ h.objs.size := by
  obtain ⟨o, e⟩ := W.live
  exact Nat.le_of_pred_lt (Heap.lt_size (I.keep _ _ e))
/-- a change that keeps all that stood -/
theorem Inv.grow (I : Inv W σ Λ h st) (k : ∀ b o, h.get? b = some o → h'.get? b = some o) : Inv W σ Λ h' st := by
  refine ⟨fun b x e => k _ _ (I.keep b x e), fun a b => ⟨(I.new a b).1, ?_⟩, ⟨I.store.1, I.store.2.1, fun i a l e1 e2 => ?_⟩, I.apart, fun a q => ⟨(I.dic a q).1, ns_all (I.dic a q).2 k⟩⟩
  · obtain ⟨o, e⟩ := (I.new a b).2
    exact ⟨o, k _ _ e⟩
  · obtain ⟨vs, q, r, z⟩ := I.store.2.2 i a l e1 e2
    exact ⟨vs, q.at fun o' e => k _ _ e, r.step Fresh.refl (Kp.all k), z⟩
theorem Inv.push (I : Inv W σ Λ h st) (o : Obj) : Inv W σ Λ (h.push o) st := I.grow fun _ _ e => Heap.get?_push_of_some _ e
theorem Inv.sigma (I : Inv W σ Λ h st) {x : Addr} (l : x ∈ Λ) : x ∉ σ := fun q => I.apart x q l
theorem get_size {h : Heap} : h.get? h.objs.size = none := by
  generalize q : h.get? h.objs.size = zz
  induction zz using Option.casesOn with
  | none => rfl
  | some o => exact absurd (Heap.lt_size q) (Nat.lt_irrefl _)
theorem Inv.newAddr (I : Inv W σ Λ h st) : ¬ Bad σ Λ h.objs.size := fun b => by
  obtain ⟨o, e⟩ := (I.new _ b).2
  rw [get_size] at e; (first | subst e | contradiction | (injection e with e; subst e) | cases e)
end

theorem Vars.step {Λ σ σ' : List Addr} {sc : Scope} {env : Env} {ρ : En} {h h' : Heap} (V : Vars Λ sc env ρ σ h) (hl : env.locals ∉ σ) (f : Fresh σ σ' h) (k : Kp (fun x => x ∈ σ ∨ NoX x) h h') : Vars Λ sc env ρ σ' h' := by
  obtain ⟨m, hn, V⟩ := V
  have kb : Kp (Bad σ Λ) h h' := k.weak fun a q => q.elim .inl fun q => q.elim
  refine ⟨m, ?_, fun x d e => ⟨fun q => ?_, fun q => ?_⟩⟩
  · exact ns_at hn fun o ho => k.at ho fun q => q.elim hl fun q => q.elim
  · obtain ⟨v, a, b⟩ := (V x d e).1 q
    exact ⟨v, a, b.step f kb⟩
  · obtain ⟨c, o, v, a, ho, hd, hc, b⟩ := (V x d e).2 q
    exact ⟨c, o, v, a, (k.at ho fun q => q.elim hc fun q => q.elim).nd (fun _ _ q => by rw [hd] at q; (first | subst q | contradiction | (injection q with q; subst q) | cases q)), hd, fun q => hc (f.low ho q), b.step f kb⟩

/-- an expression's soundness -/
noncomputable def SX {α β : Type} (W : Wd) (A : Around) (Λ : List Addr) (X : Addr → Prop) (Rel : List Addr → Heap → β → α → Prop) (pre : List Addr → Heap → Prop) (f : Sto → Out α) (t : Sem β) : Prop :=
  ∀ E σ s st Q, Inv W σ Λ s.heap st → pre σ s.heap → Po W Λ X Rel E σ s (f st) Q → wpAny (model W.prog W.w) A t Q E s

/-- an exception's attributes are got so -/
noncomputable def ExG (K : Frag) (C : Addr) : Prop := findIn K (.ref C) "__getattribute__" = some (some (.builtin "BaseException.__getattribute__")) ∧ findIn K (.ref C) "__getattr__" = some none ∧ subIn K (.ref C) (.type "BaseException") = some true

structure CxOk (W : Wd) (C : Cx) : Prop where
  G : ∀ x v, C.G x = some v → nsIn W.K mainGlobals x = some (some v) ∨ (nsIn W.K mainGlobals x = some none ∧ bootBuiltins x = some v ∧ x ≠ "__name__")
  able : ∀ v, C.able v = true → ∀ (M : Model) h, W.K.In h → ∃ k, (k = Keeper.frame ∨ k = Keeper.machine ∨ k = Keeper.boundFrame) ∧ Looks M h (keeperOf v) k
  meth : ∀ c n f, C.meth c n = some f → plainGet W.K c n = true ∧ findIn W.K (.ref c) n = some (some (.ref f)) ∧ isFn W.K (.ref f) = true ∧ keepIn W.K (.ref f) = true
  attr : ∀ c n, C.attr c n = true → (plainGet W.K c n = true ∨ ExG W.K c) ∧ hasDictIn W.K c = true ∧ ∃ a, findIn W.K (.ref c) n = some a ∧ noGet W.K a = true

noncomputable def IE (W : Wd) (A : Around) (I : In) : Prop := ∀ Λ sc env ρ e, EnvOk Λ sc env → SX W A Λ NoX (relD Λ) (Vars Λ sc env ρ) (I.ex sc ρ e) (eval e env)
noncomputable def IT (W : Wd) (A : Around) (I : In) : Prop := ∀ Λ sc env ρ e, EnvOk Λ sc env → SX W A Λ NoX relB (Vars Λ sc env ρ) (I.tt sc ρ e) (PySem.isTrue e env (eval e env))
noncomputable def CS (W : Wd) (A : Around) (Φ : D → List D → Sto → Out D) : Prop :=
  ∀ Λ d ds v vs, SX W A Λ NoX (relD Λ) (fun σ h => (∃ L m, L ∈ Λ ∧ h.Ns L m) ∧ RepD σ (Bad σ Λ) h v d ∧ RepDs σ (Bad σ Λ) h vs ds) (Φ d ds) (call v vs)

end Mine

end

section
open PySem PySem.W PySem.Spec PySem.Calls PyProof.Rows
set_option maxRecDepth 100000
namespace Mine

theorem bits_of_log2 {x : Int} {n : Nat} (h : x.natAbs.log2 < n) (hn : 0 < n) : Builtin.Int.intBits x ≤ n := by
  unfold Builtin.Int.intBits
  split
  · exact Nat.zero_le _
  · exact h
theorem mul_ok {a b : Int} (h : mulOk a b = true) : IntMulOk a b := by
  unfold mulOk at h
  rcases Bool.or_eq_true_iff.mp h with h | h
  · obtain ⟨h1, h2⟩ := Bool.and_eq_true_iff.mp h
    exact IntMulOk.of_le (bits_of_log2 (of_decide_eq_true h1) (by decide)) (bits_of_log2 (of_decide_eq_true h2) (by decide)) (by decide)
  · exact IntMulOk.of_left (Nat.le_trans (bits_of_log2 (of_decide_eq_true h) (by decide)) (by decide))

structure AOk (A : Around) : Prop where
  units : A.units + 64 < cLine

/-- a News of all that stands beside the base -/
noncomputable def Alls (base : Heap) (L : Addr) (h : Heap) : List (Addr × Obj) :=
  (List.range h.objs.size).filterMap fun a => match h.get? a, base.get? a with
    | some o, none => if a = L then none else some (a, o)
    | _, _ => none
theorem mem_alls {base : Heap} {L : Addr} {h : Heap} {a : Addr} {o : Obj} : (a, o) ∈ Alls base L h ↔ h.get? a = some o ∧ base.get? a = none ∧ a ≠ L := by
  unfold Alls
  rw [List.mem_filterMap]
  constructor
  · rintro ⟨b, _, e⟩
    split at e
    · rename_i o' h1 h2
      split at e
      · (first | subst e | contradiction | (injection e with e; subst e) | cases e)
      · rename_i hne
        (first | subst e | contradiction | (injection e with e; subst e) | cases e)
        exact ⟨h1, h2, hne⟩
    · (first | subst e | contradiction | (injection e with e; subst e) | cases e)
  · rintro ⟨h1, h2, h3⟩
    refine ⟨a, List.mem_range.mpr (Heap.lt_size h1), ?_⟩
    rw [h1, h2]
    simp [h3]
theorem news_alls {base : Heap} {L : Addr} {h : Heap} : News base L h (Alls base L h) := fun p hp => by
  obtain ⟨a, o⟩ := p
  obtain ⟨h1, h2, h3⟩ := mem_alls.mp hp
  exact ⟨h1, h3, h2⟩

section
variable {W : Wd} {A : Around} {Λ σ : List Addr} {E : Value → Shared → Prop} {s : Shared} {st : Sto}

theorem ofO_map {α β : Type} {st : Sto} {o : Option α} {f : α → β} : ofO st (o.map f) = (match o with | some a => .ok (f a) st | none => .stuck) := by cases o <;> rfl

theorem intD_is {d : D} {i : Int} (h : intD d = some i) : d = .v (.int i) := by
  unfold intD at h; split at h <;> (first | subst h | contradiction | (injection h with h; subst h) | cases h); rfl
theorem boolD_is {d : D} {i : Bool} (h : boolD d = some i) : d = .v (.bool i) := by
  unfold boolD at h; split at h <;> (first | subst h | contradiction | (injection h with h; subst h) | cases h); rfl
theorem lstD_is {d : D} {i : List V} (h : lstD d = some i) : d = .v (.lst i) := by
  unfold lstD at h; split at h <;> (first | subst h | contradiction | (injection h with h; subst h) | cases h); rfl
theorem tupD_is {d : D} {i : List V} (h : tupD d = some i) : d = .v (.tup i) := by
  unfold tupD at h; split at h <;> (first | subst h | contradiction | (injection h with h; subst h) | cases h); rfl

theorem binI_sound {op : Operator} {i j z : Int} {t u : Tok} {Q : Value → Shared → Prop} (hh : isShl op = true → A.handled = none) (hz : binI op i j = some z) (fin : Q (.int z s.toks) { s with toks := s.toks + 1 }) : wpAny (model W.prog W.w) A (binaryOp op (.int i t) (.int j u)) Q E s := by
  unfold binI at hz
  split at hz
  · (first | subst hz | contradiction | (injection hz with hz; subst hz) | cases hz); exact add_int fin
  · (first | subst hz | contradiction | (injection hz with hz; subst hz) | cases hz); exact sub_int fin
  · split at hz
    · rename_i hm; (first | subst hz | contradiction | (injection hz with hz; subst hz) | cases hz); exact mul_int fin (mul_ok hm)
    · (first | subst hz | contradiction | (injection hz with hz; subst hz) | cases hz)
  · split at hz
    · rename_i hm
      (first | subst hz | contradiction | (injection hz with hz; subst hz) | cases hz)
      obtain ⟨h1, h2⟩ := Bool.and_eq_true_iff.mp hm
      exact floordiv_int (of_decide_eq_true h1) fin (.inl (PyProof.noPylong_of_log2 (of_decide_eq_true h2)))
    · (first | subst hz | contradiction | (injection hz with hz; subst hz) | cases hz)
  · split at hz
    · (first | subst hz | contradiction | (injection hz with hz; subst hz) | cases hz)
    · rename_i hm; (first | subst hz | contradiction | (injection hz with hz; subst hz) | cases hz); exact mod_int hm fin
  · split at hz
    · rename_i hm; (first | subst hz | contradiction | (injection hz with hz; subst hz) | cases hz); exact pow_int hm.1 hm.2 fin
    · (first | subst hz | contradiction | (injection hz with hz; subst hz) | cases hz)
  · split at hz
    · rename_i hm; (first | subst hz | contradiction | (injection hz with hz; subst hz) | cases hz)
      exact lshift_int_or (hh rfl) (fun q => by omega) (fun _ => hm.2) (fun _ => fin)
    · (first | subst hz | contradiction | (injection hz with hz; subst hz) | cases hz)
  · split at hz
    · rename_i hm; (first | subst hz | contradiction | (injection hz with hz; subst hz) | cases hz); exact rshift_int hm fin
    · (first | subst hz | contradiction | (injection hz with hz; subst hz) | cases hz)
  · (first | subst hz | contradiction | (injection hz with hz; subst hz) | cases hz); exact and_int fin
  · (first | subst hz | contradiction | (injection hz with hz; subst hz) | cases hz)

theorem addL_sound {l1 l2 : List V} {va vb : Value} {Q : Value → Shared → Prop} (I : Inv W σ Λ s.heap st) (ra : Rep (Bad σ Λ) s.heap va (.lst l1)) (rb : Rep (Bad σ Λ) s.heap vb (.lst l2)) (hz : szOk (l1.length + l2.length) = true)
    (H : Po W Λ NoX (relD Λ) E σ s (.ok (D.v (.lst (l1 ++ l2))) st) Q) : wpAny (model W.prog W.w) A (binaryOp .Add va vb) Q E s := by
  unfold Rep at ra rb
  obtain ⟨a1, ⟨c1, dd1, data1, sl1⟩, vs1, n1, rfl, hb1, ho1, hc1, hd1, hr1⟩ := ra
  obtain ⟨a2, ⟨c2, dd2, data2, sl2⟩, vs2, n2, rfl, hb2, ho2, hc2, hd2, hr2⟩ := rb
  simp only at hc1 hd1 hc2 hd2
  subst hc1 hd1 hc2 hd2
  have e : vs1.toArray ++ vs2.toArray = (vs1 ++ vs2).toArray := by simp
  have hz' : vs1.toArray.size + vs2.toArray.size ≤ sizeLine := by
    rw [List.size_toArray, List.size_toArray, hr1.length, hr2.length]
    exact Nat.le_trans (of_decide_eq_true hz) (by decide)
  refine concat_meets ⟨_, ho1, rfl⟩ ⟨_, ho2, rfl⟩ noFill_list_add seq_list_add PySem.F.slot_list_add PySem.F.entry_list_add (PySem.F.args_list_add_2 _ _) (list_addW a1 a2 vs1.toArray vs2.toArray n1 n2 dd1 dd2 sl1 sl2 hz') ⟨ho1, ho2, ?_⟩
  rw [e]
  refine H σ _ s.toks _ Fresh.refl (Kp.push _) (I.push _) ⟨_, _, _, 0, rfl, I.newAddr, Heap.get?_push_size _ rfl, rfl, rfl, ?_⟩
  exact (hr1.append hr2).step Fresh.refl (Kp.push _)

theorem addT_sound {l1 l2 : List V} {va vb : Value} {Q : Value → Shared → Prop} (I : Inv W σ Λ s.heap st) (ra : Rep (Bad σ Λ) s.heap va (.tup l1)) (rb : Rep (Bad σ Λ) s.heap vb (.tup l2)) (hz : szOk (l1.length + l2.length) = true)
    (H : Po W Λ NoX (relD Λ) E σ s (.ok (D.v (.tup (l1 ++ l2))) st) Q) : wpAny (model W.prog W.w) A (binaryOp .Add va vb) Q E s := by
  unfold Rep at ra rb
  obtain ⟨a1, vs1, n1, rfl, hb1, ho1, hr1⟩ := ra
  obtain ⟨a2, vs2, n2, rfl, hb2, ho2, hr2⟩ := rb
  have hz' : vs1.toArray.size + vs2.toArray.size ≤ sizeLine := by
    rw [List.size_toArray, List.size_toArray, hr1.length, hr2.length]
    exact Nat.le_trans (of_decide_eq_true hz) (by decide)
  have hr := hr1.append hr2
  by_cases e1 : vs1.toArray.isEmpty = true
  · refine PySem.concat_meets ⟨_, ho1, rfl⟩ ⟨_, ho2, rfl⟩ noFill_tuple_add seq_tuple_add PySem.F.slot_tuple_add PySem.F.entry_tuple_add (PySem.F.args_tuple_add_2 _ _) (PySem.AutoSeq1.tuple___add___tuple_tuple_0 a1 _ n1 a2 _ n2 e1) ⟨ho1, ho2, ?_⟩
    have : vs1 = [] := by simpa using e1
    subst this
    exact H.now I ⟨a2, vs2, n2, rfl, hb2, ho2, hr⟩
  · by_cases e2 : vs2.toArray.isEmpty = true
    · refine PySem.concat_meets ⟨_, ho1, rfl⟩ ⟨_, ho2, rfl⟩ noFill_tuple_add seq_tuple_add PySem.F.slot_tuple_add PySem.F.entry_tuple_add (PySem.F.args_tuple_add_2 _ _) (PySem.AutoSeq1.tuple___add___tuple_tuple_1 a1 _ n1 a2 _ n2 e1 e2) ⟨ho1, ho2, ?_⟩
      have : vs2 = [] := by simpa using e2
      subst this
      rw [List.append_nil] at hr
      exact H.now I ⟨a1, vs1, n1, rfl, hb1, ho1, hr⟩
    · refine PySem.concat_meets ⟨_, ho1, rfl⟩ ⟨_, ho2, rfl⟩ noFill_tuple_add seq_tuple_add PySem.F.slot_tuple_add PySem.F.entry_tuple_add (PySem.F.args_tuple_add_2 _ _) (PySem.AutoSeq1.tuple___add___tuple_tuple_2 a1 _ n1 a2 _ n2 e1 e2 hz') ⟨ho1, ho2, ?_⟩
      have e : vs1.toArray ++ vs2.toArray = (vs1 ++ vs2).toArray := by simp
      rw [e]
      refine H σ _ s.toks _ Fresh.refl (Kp.push _) (I.push _) ⟨_, _, 0, rfl, I.newAddr, Heap.get?_push_size _ rfl, ?_⟩
      exact hr.step Fresh.refl (Kp.push _)

theorem binS_sound {op : Operator} {a b : D} {x : V} {va vb : Value} {Q : Value → Shared → Prop} (I : Inv W σ Λ s.heap st) (ra : RepD σ (Bad σ Λ) s.heap va a) (rb : RepD σ (Bad σ Λ) s.heap vb b) (hx : binS op a b = some x)
    (H : Po W Λ NoX (relD Λ) E σ s (.ok (D.v x) st) Q) : wpAny (model W.prog W.w) A (binaryOp op va vb) Q E s := by
  unfold binS at hx
  split at hx
  · unfold subB at hx
    split at hx
    · rename_i p q hp hq
      rw [boolD_is hp] at ra
      rw [boolD_is hq] at rb
      have ra : va = .bool p := ra
      have rb : vb = .bool q := rb
      subst ra rb
      (first | subst hx | contradiction | (injection hx with hx; subst hx) | cases hx)
      exact sub_bool (H.now I ⟨_, rfl⟩)
    · (first | subst hx | contradiction | (injection hx with hx; subst hx) | cases hx)
  · split at hx
    · rename_i v hv
      (first | subst hx | contradiction | (injection hx with hx; subst hx) | cases hx)
      unfold addL at hv
      split at hv
      · rename_i p q hp hq
        split at hv
        · rename_i hz
          (first | subst hv | contradiction | (injection hv with hv; subst hv) | cases hv)
          rw [lstD_is hp] at ra
          rw [lstD_is hq] at rb
          exact addL_sound I ra rb hz H
        · (first | subst hv | contradiction | (injection hv with hv; subst hv) | cases hv)
      · (first | subst hv | contradiction | (injection hv with hv; subst hv) | cases hv)
    · unfold addT at hx
      split at hx
      · rename_i p q hp hq
        split at hx
        · rename_i hz
          (first | subst hx | contradiction | (injection hx with hx; subst hx) | cases hx)
          rw [tupD_is hp] at ra
          rw [tupD_is hq] at rb
          exact addT_sound I ra rb hz H
        · (first | subst hx | contradiction | (injection hx with hx; subst hx) | cases hx)
      · (first | subst hx | contradiction | (injection hx with hx; subst hx) | cases hx)
  · (first | subst hx | contradiction | (injection hx with hx; subst hx) | cases hx)

theorem binop_sound {op : Operator} {a b : D} {va vb : Value} {Q : Value → Shared → Prop} (hh : isShl op = true → A.handled = none) (I : Inv W σ Λ s.heap st) (ra : RepD σ (Bad σ Λ) s.heap va a) (rb : RepD σ (Bad σ Λ) s.heap vb b)
    (H : Po W Λ NoX (relD Λ) E σ s (ofO st ((binop op a b).map D.v)) Q) : wpAny (model W.prog W.w) A (binaryOp op va vb) Q E s := by
  rw [ofO_map] at H
  split at H
  · rename_i x hx
    unfold binop at hx
    split at hx
    · rename_i i hi
      split at hx
      · rename_i j hj
        rw [intD_is hi] at ra
        rw [intD_is hj] at rb
        obtain ⟨t, rfl⟩ := ra
        obtain ⟨u, rfl⟩ := rb
        obtain ⟨z, hz, rfl⟩ := Option.map_eq_some_iff.mp hx
        exact binI_sound hh hz (H.now I ⟨_, rfl⟩)
      · exact binS_sound I ra rb hx H
    · exact binS_sound I ra rb hx H
  · exact H.elim

end
end Mine

end

section
open PySem PySem.W PySem.Spec PySem.Calls PyProof.Rows
set_option maxRecDepth 100000
namespace Mine

section
variable {W : Wd} {A : Around} {Λ σ : List Addr} {E : Value → Shared → Prop} {s : Shared} {st : Sto}

theorem truth_sound {d : D} {v : Value} {b : Bool} {B : Addr → Prop} {h : Heap} {Q : Bool → Shared → Prop} (r : RepD σ B h v d) (e : truth d = some b) (q : Q b s) : wpAny (model W.prog W.w) A (truthy v) Q E s := by
  unfold truth at e
  split at e
  · rename_i c
    have r : v = .bool c := r
    subst r; (first | subst e | contradiction | (injection e with e; subst e) | cases e)
    exact wpAny_truthy_bool q
  · obtain ⟨t, rfl⟩ := r
    (first | subst e | contradiction | (injection e with e; subst e) | cases e)
    exact truthy_int q
  · (first | subst e | contradiction | (injection e with e; subst e) | cases e)

mutual
theorem rep_reads {B : Addr → Prop} {h : Heap} : ∀ {x : V} {v : Value} {d : PyData}, Rep B h v x → x.dat = some d → ∃ as, Reads h v d as
  | .none, v, d, r, e => by
    (first | subst e | contradiction | (injection e with e; subst e) | cases e)
    have r : v = .none := r
    subst r; exact ⟨_, .none⟩
  | .bool b, v, d, r, e => by
    (first | subst e | contradiction | (injection e with e; subst e) | cases e)
    have r : v = .bool b := r
    subst r; exact ⟨_, .bool b⟩
  | .int i, v, d, r, e => by
    (first | subst e | contradiction | (injection e with e; subst e) | cases e)
    obtain ⟨t, rfl⟩ := r
    exact ⟨_, .int i t⟩
  | .str x, v, d, r, e => by
    (first | subst e | contradiction | (injection e with e; subst e) | cases e)
    obtain ⟨t, rfl⟩ := r
    exact ⟨_, .str x t⟩
  | .tup l, v, d, r, e => by
    unfold Rep at r
    unfold V.dat at e
    obtain ⟨a, vs, n, rfl, hb, ho, hr⟩ := r
    obtain ⟨ds, he, rfl⟩ := Option.map_eq_some_iff.mp e
    obtain ⟨as, q⟩ := reps_reads hr he
    exact ⟨_, .tuple ho rfl rfl (by simpa using q)⟩
  | .lst l, v, d, r, e => by
    unfold Rep at r
    unfold V.dat at e
    obtain ⟨a, o, vs, n, rfl, hb, ho, hc, hd, hr⟩ := r
    obtain ⟨ds, he, rfl⟩ := Option.map_eq_some_iff.mp e
    obtain ⟨as, q⟩ := reps_reads hr he
    exact ⟨_, .list ho hc hd (by simpa using q)⟩
  | .inst _ _ _, _, _, _, e => by (first | subst e | contradiction | (injection e with e; subst e) | cases e)
  | .rng _ _, _, _, _, e => by (first | subst e | contradiction | (injection e with e; subst e) | cases e)
  | .val _, _, _, _, e => by (first | subst e | contradiction | (injection e with e; subst e) | cases e)
theorem reps_reads {B : Addr → Prop} {h : Heap} : ∀ {xs : List V} {vs : List Value} {ds : List PyData}, Reps B h vs xs → V.dats xs = some ds → ∃ as, ReadsAll h vs ds as
  | [], [], ds, _, e => by (first | subst e | contradiction | (injection e with e; subst e) | cases e); exact ⟨_, .nil⟩
  | x :: xs, v :: vs, ds, r, e => by
    unfold V.dats at e
    split at e
    · rename_i d ds' h1 h2
      (first | subst e | contradiction | (injection e with e; subst e) | cases e)
      obtain ⟨as, q⟩ := rep_reads r.1 h1
      obtain ⟨bs, q'⟩ := reps_reads r.2 h2
      exact ⟨_, .cons q q'⟩
    · (first | subst e | contradiction | (injection e with e; subst e) | cases e)
  | [], _ :: _, _, r, _ => r.elim
  | _ :: _, [], _, r, _ => r.elim
end

theorem dat_reads {d : D} {v : Value} {x : PyData} (I : Inv W σ Λ s.heap st) (r : RepD σ (Bad σ Λ) s.heap v d) (e : d.dat st = some x) : ∃ as, Reads s.heap v x as := by
  induction d using Mine.D.casesOn with
  | v y => exact rep_reads r e
  | m i =>
    obtain ⟨a, ha, rfl⟩ := r
    unfold D.dat at e
    dsimp only at e
    split at e
    · rename_i l hl
      obtain ⟨ds, he, rfl⟩ := Option.map_eq_some_iff.mp e
      obtain ⟨vs, ⟨n, ho⟩, hr, _⟩ := I.store.2.2 i a l ha hl
      obtain ⟨as, q⟩ := reps_reads hr he
      exact ⟨_, .list ho rfl rfl (by simpa using q)⟩
    · (first | subst e | contradiction | (injection e with e; subst e) | cases e)

theorem eqD_sound {a b : D} {va vb : Value} {c : Bool} {Q : Value → Shared → Prop} (hA : AOk A) (I : Inv W σ Λ s.heap st) (ra : RepD σ (Bad σ Λ) s.heap va a) (rb : RepD σ (Bad σ Λ) s.heap vb b)
    (e : eqD a b st = some c) (q : Q (.bool c) s) : wpAny (model W.prog W.w) A (compareOp .Eq va vb) Q E s := by
  unfold eqD at e
  split at e
  · rename_i x y hx hy
    split at e
    · rename_i hs
      obtain ⟨h1, h2⟩ := Bool.and_eq_true_iff.mp hs
      (first | subst e | contradiction | (injection e with e; subst e) | cases e)
      obtain ⟨as, r1⟩ := dat_reads I ra hx
      obtain ⟨bs, r2⟩ := dat_reads I rb hy
      exact SeqAt.compareEq_shaped r1 r2 h1 h2 hA.units q
    · (first | subst e | contradiction | (injection e with e; subst e) | cases e)
  · (first | subst e | contradiction | (injection e with e; subst e) | cases e)
theorem neD_sound {a b : D} {va vb : Value} {c : Bool} {Q : Value → Shared → Prop} (hA : AOk A) (I : Inv W σ Λ s.heap st) (ra : RepD σ (Bad σ Λ) s.heap va a) (rb : RepD σ (Bad σ Λ) s.heap vb b)
    (e : eqD a b st = some c) (q : Q (.bool (!c)) s) : wpAny (model W.prog W.w) A (compareOp .NotEq va vb) Q E s := by
  unfold eqD at e
  split at e
  · rename_i x y hx hy
    split at e
    · rename_i hs
      obtain ⟨h1, h2⟩ := Bool.and_eq_true_iff.mp hs
      (first | subst e | contradiction | (injection e with e; subst e) | cases e)
      obtain ⟨as, r1⟩ := dat_reads I ra hx
      obtain ⟨bs, r2⟩ := dat_reads I rb hy
      exact SeqAt.compareNe_shaped r1 r2 h1 h2 hA.units q
    · (first | subst e | contradiction | (injection e with e; subst e) | cases e)
  · (first | subst e | contradiction | (injection e with e; subst e) | cases e)

theorem cmpE_sound {op : CmpOp} {a b : D} {va vb : Value} {c : Bool} {Q : Value → Shared → Prop} (hA : AOk A) (I : Inv W σ Λ s.heap st) (ra : RepD σ (Bad σ Λ) s.heap va a) (rb : RepD σ (Bad σ Λ) s.heap vb b)
    (e : cmpE op a b st = some c) (q : Q (.bool c) s) : wpAny (model W.prog W.w) A (compareOp op va vb) Q E s := by
  unfold cmpE at e
  split at e
  · exact eqD_sound hA I ra rb e q
  · obtain ⟨z, hz, rfl⟩ := Option.map_eq_some_iff.mp e
    exact neD_sound hA I ra rb hz q
  · (first | subst e | contradiction | (injection e with e; subst e) | cases e)
theorem cmpI_sound {op : CmpOp} {a b : Int} {t u : Tok} {c : Bool} {Q : Value → Shared → Prop} (e : cmpI op a b = some c) (q : Q (.bool c) s) : wpAny (model W.prog W.w) A (compareOp op (.int a t) (.int b u)) Q E s := by
  unfold cmpI at e
  split at e <;> (first | subst e | contradiction | (injection e with e; subst e) | cases e)
  · exact lt_int q
  · exact le_int q
  · exact gt_int q
  · exact ge_int q
  · exact eq_int q
  · exact ne_int q
theorem cmp_sound {op : CmpOp} {a b : D} {va vb : Value} {c : Bool} {Q : Value → Shared → Prop} (hA : AOk A) (I : Inv W σ Λ s.heap st) (ra : RepD σ (Bad σ Λ) s.heap va a) (rb : RepD σ (Bad σ Λ) s.heap vb b)
    (e : cmp op a b st = some c) (q : Q (.bool c) s) : wpAny (model W.prog W.w) A (compareOp op va vb) Q E s := by
  unfold cmp at e
  split at e
  · rename_i x hx
    split at e
    · rename_i y hy
      rw [intD_is hx] at ra
      rw [intD_is hy] at rb
      obtain ⟨t, rfl⟩ := ra
      obtain ⟨u, rfl⟩ := rb
      exact cmpI_sound e q
    · exact cmpE_sound hA I ra rb e q
  · exact cmpE_sound hA I ra rb e q

theorem sub_ops {slice : PySem.Expr} {o i : Value} : ∃ ops, subscripted slice false o i = operate ops (getItem o i) := by
  unfold subscripted
  split
  · exact ⟨_, rfl⟩
  · rename_i h; (first | subst h | contradiction | (injection h with h; subst h) | cases h)
  · exact ⟨_, rfl⟩

theorem seqIndex_spec {k : Int} {n j : Nat} (h : seqIndex? k n = some j) : (0 ≤ k ∧ j = k.toNat) ∨ (k < 0 ∧ -(n : Int) ≤ k ∧ j = (k + n).toNat) := by
  unfold seqIndex? at h
  simp only [Bool.and_eq_true, decide_eq_true_eq] at h
  by_cases hk : k < 0
  · rw [if_pos hk] at h
    split at h
    · (first | subst h | contradiction | (injection h with h; subst h) | cases h); exact .inr ⟨hk, by omega, rfl⟩
    · (first | subst h | contradiction | (injection h with h; subst h) | cases h)
  · rw [if_neg hk] at h
    split at h
    · (first | subst h | contradiction | (injection h with h; subst h) | cases h); exact .inl ⟨by omega, rfl⟩
    · (first | subst h | contradiction | (injection h with h; subst h) | cases h)
theorem list_item {value slice : PySem.Expr} {a : Addr} {vs : List Value} {l : List V} {x : V} {B : Addr → Prop} {k : Int} {u : Tok} {Q : Value → Shared → Prop} (hl : s.heap.IsList a vs.toArray) (hr : Reps B s.heap vs l)
    (e : itemAt l k = some x) (q : ∀ v, Rep B s.heap v x → Q v s) : wpAny (model W.prog W.w) A (subscriptTail value slice (.ref a) (.int k u)) Q E s := by
  obtain ⟨ops, ho⟩ := sub_ops (slice := slice) (o := .ref a) (i := .int k u)
  unfold itemAt at e
  split at e
  · rename_i hk
    split at e
    · rename_i j hj
      obtain ⟨v, hv, rv⟩ := hr.get e
      refine tail_any hl.typeIs slot_list_getitem.lookup ?_ ho
      rw [← hr.length] at hj
      rcases seqIndex_spec hj with ⟨h0, rfl⟩ | ⟨h0, hlo, rfl⟩
      · exact wpAny_getItem_list hl h0 hk.2 (by simpa using hv) (q v rv)
      · exact wpAny_getItem_list_neg hl h0 (by simpa using hlo) hk.1 (by simpa using hv) (q v rv)
    · (first | subst e | contradiction | (injection e with e; subst e) | cases e)
  · (first | subst e | contradiction | (injection e with e; subst e) | cases e)

theorem tup_item {value slice : PySem.Expr} {a : Addr} {vs : List Value} {l : List V} {x : V} {n : Nat} {B : Addr → Prop} {k : Int} {u : Tok} {Q : Value → Shared → Prop} (ht : s.heap.get? a = some ({ cls := .type "tuple", data := .seq (vs.toArray) n } : Obj)) (hr : Reps B s.heap vs l)
    (e : itemAt l k = some x) (q : ∀ v, Rep B s.heap v x → Q v s) : wpAny (model W.prog W.w) A (subscriptTail value slice (.ref a) (.int k u)) Q E s := by
  obtain ⟨ops, ho⟩ := sub_ops (slice := slice) (o := .ref a) (i := .int k u)
  unfold itemAt at e
  split at e
  · rename_i hk
    split at e
    · rename_i j hj
      obtain ⟨v, hv, rv⟩ := hr.get e
      rw [← hr.length] at hj
      have hT : IsTup s.heap a vs.toArray := ⟨_, ht, rfl, n, rfl⟩
      refine tail_any (T := "tuple") ⟨_, ht, rfl⟩ slot_tuple_getitem.lookup ?_ ho
      exact getItem_tuple hT hk.1 hk.2 (by simpa using hj) (by simpa using hv) (q v rv)
    · (first | subst e | contradiction | (injection e with e; subst e) | cases e)
  · (first | subst e | contradiction | (injection e with e; subst e) | cases e)

end
end Mine

end

section
open PySem PySem.W PySem.Spec PySem.Calls PyProof.Rows
set_option maxRecDepth 100000
namespace Mine

theorem star_not {e : PySem.Expr} {rest : List PySem.Expr} {env : Env} (h : isStar e = false) : starEach (e :: rest) env = (false, eval e env) :: starEach rest env := by
  cases e <;> first | rfl | (first | subst h | contradiction | (injection h with h; subst h) | cases h)
theorem star_any : ∀ {es : List PySem.Expr} {env : Env} {pos : Pos}, noStar es = true → (backTo pos (starEach es env)).any (·.1) = false
  | [], _, _, _ => rfl
  | e :: r, env, pos, h => by
    unfold noStar at h
    rw [List.all_cons] at h
    obtain ⟨h1, h2⟩ := Bool.and_eq_true_iff.mp h
    rw [star_not (by simpa using h1)]
    show (false || (backTo pos (starEach r env)).any (·.1)) = false
    rw [star_any h2]; rfl
theorem star_all {es : List PySem.Expr} {env : Env} {pos : Pos} (h : noStar es = true) : (backTo pos (starEach es env)).all (fun x => !x.1) = true := by
  have := star_any (env := env) (pos := pos) h
  rw [List.all_eq_true]
  intro x hx
  rw [List.any_eq_false] at this
  simpa using this x hx

section
variable {W : Wd} {A : Around} {Λ σ : List Addr} {E : Value → Shared → Prop} {s : Shared} {st : Sto} {I : In} {sc : Scope} {env : Env} {ρ : En}

theorem evs_sound (hE : EnvOk Λ sc env) (hI : IE W A I) {pos : Pos} : ∀ (es : List PySem.Expr) {σ : List Addr} {s : Shared} {st : Sto} {Q : List Value → Shared → Prop}, noStar es = true → Inv W σ Λ s.heap st → Vars Λ sc env ρ σ s.heap →
    Po W Λ NoX (relDs Λ) E σ s (evs (I.ex sc ρ) es st) Q → wpAny (model W.prog W.w) A (spliced (backTo pos (starEach es env))) Q E s
  | [], σ, s, st, Q, _, iv, V, H => wpAny_pure (H.now iv trivial)
  | e :: r, σ, s, st, Q, h, iv, V, H => by
    unfold noStar at h
    rw [List.all_cons] at h
    obtain ⟨h1, h2⟩ := Bool.and_eq_true_iff.mp h
    rw [star_not (by simpa using h1)]
    refine spliced_cons ?_
    unfold evs at H
    refine hI Λ sc env ρ e hE E σ s st _ iv V (Po.seq0 H fun d st₁ σ₁ h₁ tk₁ v f₁ k₁ i₁ r₁ H₁ => ?_)
    have V₁ := V.step (iv.sigma hE.loc) f₁ k₁
    refine evs_sound hE hI r h2 i₁ V₁ (Po.seq0 H₁ fun ds st₂ σ₂ h₂ tk₂ vs f₂ k₂ i₂ r₂ H₂ => ?_)
    exact Po.now (b := v :: vs) H₂ i₂ ⟨RepD.step r₁ f₂ (k₂.weak fun a q => q.elim .inl fun q => q.elim), r₂⟩

theorem vals_reps {B : Addr → Prop} {h : Heap} : ∀ {ds : List D} {vs : List Value} {l : List V}, RepDs σ B h vs ds → vals ds = some l → Reps B h vs l
  | [], [], _, _, e => by (first | subst e | contradiction | (injection e with e; subst e) | cases e); trivial
  | .v x :: r, v :: vs, l, q, e => by
    unfold vals at e
    obtain ⟨l', e', rfl⟩ := Option.map_eq_some_iff.mp e
    exact ⟨q.1, vals_reps q.2 e'⟩
  | .m _ :: _, _ :: _, _, _, e => by (first | subst e | contradiction | (injection e with e; subst e) | cases e)
  | _ :: _, [], _, q, _ => q.elim
  | [], _ :: _, _, q, _ => q.elim
theorem evs_length {f : PySem.Expr → Sto → Out D} : ∀ {es : List PySem.Expr} {st st' : Sto} {ds : List D}, evs f es st = .ok ds st' → ds.length = es.length
  | [], _, _, _, e => by (first | subst e | contradiction | (injection e with e; subst e) | cases e); rfl
  | x :: es, st, st', ds, e => by
    unfold evs at e
    generalize h : f x st = zz
    induction zz using Mine.Out.casesOn with
    | ok d st₁ =>
      rw [h] at e
      unfold Out.bind at e
      dsimp only at e
      generalize h' : evs f es st₁ = zz
      induction zz using Mine.Out.casesOn with
      | ok ds' st₂ =>
        rw [h'] at e
        (first | subst e | contradiction | (injection e with e; subst e) | cases e)
        exact congrArg (· + 1) (evs_length h')
      | exc x st => rw [h'] at e; (first | subst e | contradiction | (injection e with e; subst e) | cases e)
      | stuck => rw [h'] at e; (first | subst e | contradiction | (injection e with e; subst e) | cases e)
    | exc x st => rw [h] at e; (first | subst e | contradiction | (injection e with e; subst e) | cases e)
    | stuck => rw [h] at e; (first | subst e | contradiction | (injection e with e; subst e) | cases e)

theorem RepDs.length {B : Addr → Prop} {h : Heap} : ∀ {vs : List Value} {ds : List D}, RepDs σ B h vs ds → vs.length = ds.length
  | [], [], _ => rfl
  | _ :: _, _ :: _, r => congrArg (· + 1) (RepDs.length r.2)
  | [], _ :: _, r => r.elim
  | _ :: _, [], r => r.elim

/-- a new object behind the heap: what it is -/
theorem Inv.tup {σ Λ : List Addr} {h : Heap} {st : Sto} {vs : List Value} {l : List V} (I : Inv W σ Λ h st) (r : Reps (Bad σ Λ) h vs l) : Rep (Bad σ Λ) (h.push { cls := .type "tuple", data := .seq vs.toArray }) (.ref h.objs.size) (.tup l) :=
  ⟨_, _, 0, rfl, I.newAddr, Heap.get?_push_size _ rfl, r.step Fresh.refl (Kp.push _)⟩
theorem Inv.lst {σ Λ : List Addr} {h : Heap} {st : Sto} {vs : List Value} {l : List V} (I : Inv W σ Λ h st) (r : Reps (Bad σ Λ) h vs l) : Rep (Bad σ Λ) (h.push { cls := .type "list", data := .seq vs.toArray }) (.ref h.objs.size) (.lst l) :=
  ⟨_, _, _, 0, rfl, I.newAddr, Heap.get?_push_size _ rfl, rfl, rfl, r.step Fresh.refl (Kp.push _)⟩

/-- a new mutable list -/
theorem Inv.newM {σ Λ : List Addr} {h : Heap} {st : Sto} {vs : List Value} {l : List V} {n : Nat} (I : Inv W σ Λ h st) (r : Reps (Bad σ Λ) h vs l) (hlen : l.length ≤ 2 ^ 20 + 1) :
    Inv W (σ ++ [h.objs.size]) Λ (h.push { cls := .type "list", data := .seq vs.toArray n }) (st ++ [l]) ∧ Fresh σ (σ ++ [h.objs.size]) h := by
  have f : Fresh σ (σ ++ [h.objs.size]) h := ⟨_, rfl, fun a ha => by rw [List.mem_singleton.mp ha]; exact get_size⟩
  have kp : Kp (Bad σ Λ) h (h.push { cls := .type "list", data := .seq vs.toArray n }) := Kp.push _
  refine ⟨⟨fun b x e => Heap.get?_push_of_some _ (I.keep b x e), fun a b => ?_, ⟨?_, ?_, fun i a m e1 e2 => ?_⟩, fun a ha => ?_, fun a q => ⟨(I.dic a q).1, ns_all (I.dic a q).2 fun b o e => Heap.get?_push_of_some _ e⟩⟩, f⟩
  · have old : Bad σ Λ a → W.base.objs.size ≤ a ∧ ∃ o, (h.push { cls := .type "list", data := .seq vs.toArray n }).get? a = some o := fun b => by
      obtain ⟨z, o, e⟩ := I.new a b
      exact ⟨z, o, Heap.get?_push_of_some _ e⟩
    rcases b with b | b
    · rcases List.mem_append.mp b with b | b
      · exact old (.inl b)
      · rw [List.mem_singleton.mp b]; exact ⟨I.size, _, Heap.get?_push_size _ rfl⟩
    · exact old (.inr b)
  · rw [List.length_append, List.length_append, I.store.1]; rfl
  · rw [List.nodup_append]
    refine ⟨I.store.2.1, by simp, fun a ha b hb => ?_⟩
    rw [List.mem_singleton.mp hb]
    intro q
    subst q
    exact I.newAddr (.inl ha)
  · by_cases hi : i < σ.length
    · rw [List.getElem?_append_left hi] at e1
      rw [List.getElem?_append_left (by rw [← I.store.1]; exact hi)] at e2
      obtain ⟨ws, q, r', z⟩ := I.store.2.2 i a m e1 e2
      exact ⟨ws, q.at fun o' e => Heap.get?_push_of_some _ e, r'.step f kp, z⟩
    · have hl := (List.getElem?_eq_some_iff.mp e1).1
      rw [List.length_append] at hl
      have : i = σ.length := by simp at hl; omega
      subst this
      have e1' : a = h.objs.size := by simpa using e1.symm
      rw [I.store.1] at e2
      have e2' : m = l := by simpa using e2.symm
      subst e1' e2'
      exact ⟨vs, ⟨n, Heap.get?_push_size _ rfl⟩, r.step f kp, hlen⟩
  · rcases List.mem_append.mp ha with b | b
    · exact I.apart a b
    · rw [List.mem_singleton.mp b]
      intro q
      exact I.newAddr (.inr q)

/-- a mutable list turned -/
theorem Inv.setM {σ Λ : List Addr} {h h' : Heap} {st : Sto} {vs : List Value} {l : List V} {n i : Nat} {a : Addr} (I : Inv W σ Λ h st) (hi : σ[i]? = some a) (hs : Heap.SameBut a h h')
    (ho : h'.get? a = some { cls := .type "list", data := .seq vs.toArray n }) (r : Reps (Bad σ Λ) h vs l) (hlen : l.length ≤ 2 ^ 20 + 1) : Inv W σ Λ h' (st.set i l) ∧ Kp (InL σ) h h' := by
  have ha : a ∈ σ := List.mem_of_getElem? hi
  have kp : Kp (InL σ) h h' := Kp.same hs ha ho
  have kb : Kp (Bad σ Λ) h h' := kp.weak fun _ q => .inl q
  have hne : ∀ b o, W.base.get? b = some o → b ≠ a := fun b o e q => by
    have := (I.new a (.inl ha)).1
    rw [← q] at this
    exact absurd (Heap.lt_size e) (Nat.not_lt.mpr this)
  refine ⟨⟨fun b o e => (hs.2 b (hne b o e)).trans (I.keep b o e), fun b q => ⟨(I.new b q).1, by
    obtain ⟨o, e⟩ := (I.new b q).2
    exact (kp b o e).2⟩, ⟨by rw [List.length_set]; exact I.store.1, I.store.2.1, fun j b m e1 e2 => ?_⟩, I.apart, fun b q => ⟨(I.dic b q).1, ns_ex (I.dic b q).2 fun o e => .inl ((hs.2 b fun z => I.apart a ha (z ▸ (I.dic b q).1)).trans e)⟩⟩, kp⟩
  by_cases hj : j = i
  · subst hj
    rw [hi] at e1; (first | subst e1 | contradiction | (injection e1 with e1; subst e1) | cases e1)
    rw [List.getElem?_set_self (by have := (List.getElem?_eq_some_iff.mp e2).1; simpa using this)] at e2
    (first | subst e2 | contradiction | (injection e2 with e2; subst e2) | cases e2)
    exact ⟨vs, ⟨n, ho⟩, r.step Fresh.refl kb, hlen⟩
  · rw [List.getElem?_set_ne (Ne.symm hj)] at e2
    obtain ⟨ws, q, r', z⟩ := I.store.2.2 j b m e1 e2
    have hb : b ≠ a := fun e => by
      subst e
      exact hj ((List.getElem?_inj (List.getElem?_eq_some_iff.mp e1).1 I.store.2.1).mp (e1.trans hi.symm))
    exact ⟨ws, q.at fun o' e => (hs.2 b hb).trans e, r'.step Fresh.refl kb, z⟩

end
end Mine

end

section
open PySem PySem.W PySem.Spec PySem.Calls PyProof.Rows
set_option maxRecDepth 100000
namespace Mine

theorem attrBase_call {f : PySem.Expr} {x : PySem.Expr} {args : List PySem.Expr} {kws : List Keyword} {p : Pos} {a : Str} {env : Env} {t : Sem Value} : attributeBase (.Call f (x :: args) kws p) a env t = t := by
  cases f <;> rfl
theorem attrBase_not {o : PySem.Expr} {a : Str} {env : Env} {t : Sem Value} (h : isBare o = false) : attributeBase o a env t = t := by
  induction o using PySem.Expr.casesOn with
  | Call f args kws p =>
    induction args using List.casesOn with
    | nil => (first | subst h | contradiction | (injection h with h; subst h) | cases h)
    | cons _ _ => exact attrBase_call
  | _ => rfl

theorem keyed_find : ∀ {es : List DictEntry} {ns : List Str} (name : Str), Keyed es ns → getL name es = some ((ns.zip (es.map (·.val))).lookup name)
  | [], [], _, _ => rfl
  | e :: es, n :: ns, name, k => by
    obtain ⟨⟨t, he⟩, k'⟩ := k
    have ih := keyed_find name k'
    obtain ⟨hh, kk, vv⟩ := e
    simp only at he
    subst he
    have e1 : (⟨hh, .str n t, vv⟩ : DictEntry).key.isStr name = (n == name) := rfl
    have e2 : (⟨hh, .str n t, vv⟩ : DictEntry).refKey = false := rfl
    unfold getL at ih ⊢
    rw [List.map_cons, List.zip_cons_cons, List.lookup_cons, List.find?_cons, e1, List.any_cons, e2, Bool.false_or]
    cases hb : n == name with
    | true =>
      have : (name == n) = true := by rw [beq_iff_eq] at hb ⊢; exact hb.symm
      rw [this]
    | false =>
      have : (name == n) = false := by rw [beq_eq_false_iff_ne] at hb ⊢; exact fun q => hb q.symm
      rw [this]
      exact ih
  | [], _ :: _, _, k => k.elim
  | _ :: _, [], _, k => k.elim

theorem keyed_rep {B : Addr → Prop} {h : Heap} : ∀ {es : List DictEntry} {ns : List Str} {l : List V} {name : Str} {x : V}, Keyed es ns → Reps B h (es.map (·.val)) l → (ns.zip l).lookup name = some x → ∃ v, getL name es = some (some v) ∧ Rep B h v x
  | [], [], l, name, x, _, r, e => by cases l <;> (first | subst e | contradiction | (injection e with e; subst e) | cases e)
  | e :: es, n :: ns, [], name, x, _, r, _ => r.elim
  | e :: es, n :: ns, y :: l, name, x, k, r, q => by
    rw [keyed_find name k]
    rw [List.map_cons, List.zip_cons_cons, List.lookup_cons]
    rw [List.zip_cons_cons, List.lookup_cons] at q
    obtain ⟨_, k'⟩ := k
    cases hb : name == n with
    | true =>
      rw [hb] at q
      (first | subst q | contradiction | (injection q with q; subst q) | cases q)
      exact ⟨_, rfl, r.1⟩
    | false =>
      rw [hb] at q
      obtain ⟨v, a, b⟩ := keyed_rep k' r.2 q
      rw [keyed_find name k'] at a
      exact ⟨v, a, b⟩
  | [], _ :: _, _, _, _, k, _, _ => k.elim
  | _ :: _, [], _, _, _, k, _, _ => k.elim

theorem inst_at {h : Heap} {x c dx : Addr} {es : List DictEntry} {n : Nat} (I : IsI h x c dx) (D : At h dx (dictOf es n)) : ∃ ox sl, InstAt h x ox c (some { dictOf es n with slots := sl }) := by
  obtain ⟨ox, p1, p2, p3, p4, p5⟩ := I
  obtain ⟨sl, e⟩ := D.ex
  exact ⟨ox, sl, p1, p2, p4, by rw [p3]; exact e⟩

theorem keyed_none : ∀ {es : List DictEntry} {ns : List Str} {name : Str}, Keyed es ns → ns.contains name = false → getL name es = some none
  | es, ns, name, k, h => by
    rw [keyed_find name k]
    congr 1
    rw [List.lookup_eq_none_iff]
    intro p hp
    have := (List.of_mem_zip (a := p.1) (b := p.2) hp).1
    rw [Bool.eq_false_iff] at h
    by_cases q : (name == p.1) = true
    · exact absurd (List.contains_iff_mem.mpr ((beq_iff_eq.mp q) ▸ this)) h
    · simpa using q

theorem handed_rep {B : Addr → Prop} {h : Heap} {v : Value} {x : V} (r : Rep B h v x) (hx : isVal x = false) : handedIn v = true := by
  induction x using Mine.V.casesOn with
  | none => have r : v = .none := r; subst r; rfl
  | bool b => have r : v = .bool b := r; subst r; rfl
  | int i => obtain ⟨t, rfl⟩ := r; rfl
  | str i => obtain ⟨t, rfl⟩ := r; rfl
  | tup l => unfold Rep at r; obtain ⟨a, vs, n, rfl, _⟩ := r; rfl
  | lst l => unfold Rep at r; obtain ⟨a, o, vs, n, rfl, _⟩ := r; rfl
  | inst c ns l => unfold Rep at r; obtain ⟨a, o, vs, n, rfl, _⟩ := r; rfl
  | rng a b => obtain ⟨a, o, vs, n, rfl, _⟩ := r; rfl
  | val v => (first | subst hx | contradiction | (injection hx with hx; subst hx) | cases hx)

section
variable {W : Wd} {A : Around} {Λ σ : List Addr} {E : Value → Shared → Prop} {s : Shared} {st : Sto} {sc : Scope} {env : Env} {ρ : En}

/-- the frame as the library's rules take it -/
theorem frame_of {h : Heap} (iv : Inv W σ Λ h st) (hE : EnvOk Λ sc env) (V : Vars Λ sc env ρ σ h) : ∃ m, Fr W.base env.locals h m := by
  obtain ⟨m, hn, _⟩ := V
  exact ⟨m, ⟨hn, iv.keep, (iv.new _ (.inr hE.loc)).1⟩⟩

theorem gV_rep {B : Addr → Prop} {h : Heap} (v : Value) : Rep B h v (gV v) := by
  cases v <;> first | exact ⟨_, rfl⟩ | exact rfl

theorem name_sound {C : Cx} (hC : CxOk W C) (hE : EnvOk Λ sc env) {x : Str} {pos : Pos} {Q : Value → Shared → Prop} (iv : Inv W σ Λ s.heap st) (V : Vars Λ sc env ρ σ s.heap)
    (H : Po W Λ NoX (relD Λ) E σ s (if badName x then Out.stuck else if isLoc sc x then ofO st (ρ.lookup x) else if sc.names.lookup x == some .globalImplicit then ofO st ((C.G x).map fun v => D.v (gV v)) else .stuck) Q) :
    wpAny (model W.prog W.w) A (eval (.Name x pos) env) Q E s := by
  have hk : env.scope.kind = .function := by rw [hE.scope]; exact hE.kind
  have hkind : ∀ k, sc.names.lookup x = some k → env.kindOf x = some k := fun k e => by unfold Env.kindOf; rw [hE.scope]; exact e
  split at H
  · exact H.elim
  · rename_i hd
    unfold badName at hd
    rw [Bool.or_eq_true, not_or] at hd
    have hd' : (x == ("__debug__" : Str)) = false := by simpa using hd.1
    have hcd : (x == ("__classdict__" : Str)) = false := by simpa using hd.2
    split at H
    · rename_i hl
      generalize hρ : ρ.lookup x = zz
      induction zz using Option.casesOn with
      | none => rw [hρ] at H; exact H.elim
      | some d =>
        rw [hρ] at H
        obtain ⟨m, hn, V⟩ := V
        unfold isLoc at hl
        simp only [Bool.or_eq_true, beq_iff_eq] at hl
        rcases hl with (hl | hl) | hl
        · obtain ⟨v, hv, r⟩ := (V x d hρ).1 hl
          exact wpAny_Name (wpAny_loadName_local hk (hkind _ hl) hn hv (H.now iv r)) hd'
        · obtain ⟨c, o, v, hc, ho, hod, _, r⟩ := (V x d hρ).2 (.inl hl)
          exact wpAny_Name (wpAny_loadName_cell hk (hkind _ hl) hc ⟨o, ho, hod⟩ (H.now iv r)) hd'
        · obtain ⟨c, o, v, hc, ho, hod, _, r⟩ := (V x d hρ).2 (.inr hl)
          exact wpAny_Name (wpAny_loadName_free hk (hkind _ hl) hc ⟨o, ho, hod⟩ (H.now iv r) hcd) hd'
    · split at H
      · rename_i hg
        have hg : sc.names.lookup x = some .globalImplicit := by simpa using hg
        generalize hG : C.G x = zz
        induction zz using Option.casesOn with
        | none => rw [hG] at H; exact H.elim
        | some v =>
          rw [hG] at H
          have fin : Q v s := H.now iv (gV_rep v)
          have gk := W.T.g.keeps iv.keep
          have bk := W.T.b.keeps iv.keep
          rcases hC.G x v hG with e | ⟨e, hb, hn⟩
          · exact Name_function_global hk (hkind _ hg) (loadGlobal_global (by rw [hE.globals]; exact gk) (mg_of W.X W.T.g e) fin) hd'
          · exact Name_function_global hk (hkind _ hg) (loadGlobal_builtin (by rw [hE.globals]; exact gk) (mg_none_of W.X W.T.g e) (by rw [hE.builtins]; exact bk) ((W.T.builtins x hn).trans hb) fin) hd'
      · exact H.elim

theorem eval_call {f : PySem.Expr} {args : List PySem.Expr} {pos : Pos} (h : isAttr f = false) : eval (.Call f args [] pos) env = (eval f env >>= fun v => callWith pos v [] (backTo pos (starEach args env)) []) := by
  cases f <;> first | rfl | (first | subst h | contradiction | (injection h with h; subst h) | cases h)

theorem args_sound {I : In} (hE : EnvOk Λ sc env) (hI : IE W A I) {pos : Pos} {f : Value} {first : List Value} {args : List PySem.Expr} {Q : Value → Shared → Prop} (hns : noStar args = true)
    (hk : ∀ h, W.K.In h → ∃ k, (k = Keeper.frame ∨ k = Keeper.machine ∨ k = Keeper.boundFrame) ∧ Looks (model W.prog W.w) h (keeperOf f) k)
    (iv : Inv W σ Λ s.heap st) (V : Vars Λ sc env ρ σ s.heap)
    (H : Po W Λ NoX (relDs Λ) E σ s (evs (I.ex sc ρ) args st) (fun vs s₁ => W.K.In s₁.heap ∧ wpAny (model W.prog W.w) A (call f (first ++ vs)) Q E s₁)) :
    wpAny (model W.prog W.w) A (callWith pos f first (backTo pos (starEach args env)) []) Q E s := by
  refine callWith_of (P := W.K.In) (by rw [star_any hns]; rfl) hk ?_
  induction args using List.casesOn with
  | nil => exact evalArgs_nil3 (by exact H.now (b := []) (tk := s.toks) iv trivial)
  | cons e r =>
    have he : isStar e = false := by
      unfold noStar at hns
      rw [List.all_cons] at hns
      simpa using (Bool.and_eq_true_iff.mp hns).1
    have q := evs_sound (pos := pos) hE hI (e :: r) hns iv V H
    rw [star_not he] at q ⊢
    exact evalArgs_plain q

end
end Mine

end

section
open PySem PySem.W PySem.Spec PySem.Calls PyProof.Rows
set_option maxRecDepth 100000
namespace Mine

section
variable {W : Wd} {A : Around} {Λ σ : List Addr} {E : Value → Shared → Prop} {s : Shared} {st : Sto} {sc : Scope} {env : Env} {ρ : En}

theorem part_sound {x : Option PySem.Expr} {k : Option Nat} {Q : Value → Shared → Prop} (e : partI x = some k) (q : ∀ v tk, IsPart v (k.map (Nat.cast : Nat → Int)) → Q v { s with toks := tk }) : wpAny (model W.prog W.w) A (evalPart x env) Q E s := by
  unfold partI at e
  split at e
  · (first | subst e | contradiction | (injection e with e; subst e) | cases e)
    exact wpAny_pure (q .none s.toks .none)
  · split at e
    · rename_i i k0 p0 hi
      (first | subst e | contradiction | (injection e with e; subst e) | cases e)
      refine wpAny_Constant_int (k := k0) (pos := p0) (q _ (s.toks + 1) ?_)
      have : (Option.map (Nat.cast : Nat → Int) (some i.toNat)) = some i := by simp; omega
      rw [this]
      exact .int i _
    · (first | subst e | contradiction | (injection e with e; subst e) | cases e)
  · (first | subst e | contradiction | (injection e with e; subst e) | cases e)

theorem slice_sound {I : In} (hE : EnvOk Λ sc env) (hI : IE W A I) {o : PySem.Expr} {lo hi : Option PySem.Expr} {p pos : Pos} {Q : Value → Shared → Prop} (iv : Inv W σ Λ s.heap st) (V : Vars Λ sc env ρ σ s.heap)
    (H : Po W Λ NoX (relD Λ) E σ s ((I.ex sc ρ o st).bind fun d st => match d, partI lo, partI hi with
      | .v (.lst l), some a, some b => if szOk l.length then ofO st ((cutL l a b).map fun m => D.v (.lst m)) else .stuck
      | _, _, _ => .stuck) Q) : wpAny (model W.prog W.w) A (eval (.Subscript o (.Slice lo hi none p) pos) env) Q E s := by
  refine Subscript_ (hI Λ sc env ρ o hE E σ s st _ iv V (Po.seq0 H fun d st₁ σ₁ h₁ tk₁ v f₁ k₁ i₁ r₁ H₁ => ?_))
  split at H₁
  · rename_i l a b ha hb
    split at H₁
    · rename_i hz
      rw [ofO_map] at H₁
      split at H₁
      · rename_i m hm
        refine wpAny_Slice (part_sound ha fun vl tk₂ hl => part_sound hb fun vu tk₃ hu => wpAny_pure ?_)
        obtain ⟨q, ob, vs, n, rfl, hB, ho, hc, hd, hr⟩ := r₁
        have hl1 : h₁.IsList q vs.toArray := ⟨ob, ho, hc, n, hd⟩
        have cut : ∃ ws, slicePick vs.toArray (a.map (Nat.cast : Nat → Int)) (b.map (Nat.cast : Nat → Int)) none = ws.toArray ∧ Reps (Bad σ₁ Λ) h₁ ws m := by
          unfold cutL at hm
          split at hm
          · (first | subst hm | contradiction | (injection hm with hm; subst hm) | cases hm)
            exact ⟨vs.take _, by rw [Option.map_none, Option.map_some, slicePick_upto'], hr.take _⟩
          · (first | subst hm | contradiction | (injection hm with hm; subst hm) | cases hm)
            exact ⟨vs.drop _, by rw [Option.map_none, Option.map_some, slicePick_from'], hr.drop _⟩
          · (first | subst hm | contradiction | (injection hm with hm; subst hm) | cases hm)
        obtain ⟨ws, e, rw'⟩ := cut
        have i₂ := i₁.push { cls := .type "slice", data := .fields #[vl, vu, .none] }
        have r₂ := rw'.step (Λ := Λ) (σ' := σ₁) Fresh.refl (Kp.push ({ cls := .type "slice", data := .fields #[vl, vu, .none] } : Obj))
        have z := i₂.lst r₂
        obtain ⟨ops, hops⟩ := sub_ops (slice := .Slice lo hi none p) (o := .ref q) (i := .ref h₁.objs.size)
        have hl2 : (h₁.push { cls := .type "slice", data := .fields #[vl, vu, .none] }).IsList q vs.toArray := ⟨ob, Heap.get?_push_of_some _ ho, hc, n, hd⟩
        refine tail_any hl2.typeIs slot_list_getitem.lookup (wpAny_getItem_list_slice hl2 (sl := h₁.objs.size) ?_ hl hu .none (by intro q; (first | subst q | contradiction | (injection q with q; subst q) | cases q)) ?_ ?_) hops
        · exact ⟨_, Heap.get?_push_size _ rfl, rfl, rfl⟩
        · dsimp only
          rw [e]
          exact H₁ σ₁ _ tk₃ _ Fresh.refl (Kp.trans (Kp.push _) (Kp.push _) fun _ _ q => q) (i₂.push _) z
        · rw [List.size_toArray, hr.length]
          exact Nat.le_trans (of_decide_eq_true hz) (by decide)
      · exact H₁.elim
    · exact H₁.elim
  · exact H₁.elim

/-- the chain of comparisons -/
theorem marked_not {env : Env} : ∀ {ops : List CmpOp} {cs : List PySem.Expr}, noDisp cs = true → markedEach ops cs (evalEach cs env) = evalEach cs env
  | [], cs, _ => by unfold markedEach; rfl
  | [op], [], _ => rfl
  | [op], [e], h => by
    have h' : isDisp e = false := by simpa [noDisp] using h
    show [markedBehindIn op e (eval e env)] = [eval e env]
    have : behindInMarks op e = false := by cases e <;> first | rfl | (first | subst h' | contradiction | (injection h' with h'; subst h') | cases h')
    unfold markedBehindIn
    rw [this]
  | [op], e :: e' :: r, h => by
    unfold noDisp at h
    rw [List.all_cons] at h
    show eval e env :: markedEach [] (e' :: r) (evalEach (e' :: r) env) = _
    rw [marked_not (ops := []) (by unfold noDisp; exact (Bool.and_eq_true_iff.mp h).2)]
    rfl
  | op :: op' :: ops, [], _ => rfl
  | op :: op' :: ops, e :: r, h => by
    unfold noDisp at h
    rw [List.all_cons] at h
    show eval e env :: markedEach (op' :: ops) r (evalEach r env) = _
    rw [marked_not (by unfold noDisp; exact (Bool.and_eq_true_iff.mp h).2)]
    rfl

theorem chain_sound {I : In} (hA : AOk A) (hE : EnvOk Λ sc env) (hI : IE W A I) {pos : Pos} : ∀ {ops : List CmpOp} {cs : List PySem.Expr} {a : D} {va : Value} {σ : List Addr} {s : Shared} {st : Sto} {Q : Value → Shared → Prop},
    ops.length = cs.length → Inv W σ Λ s.heap st → Vars Λ sc env ρ σ s.heap → RepD σ (Bad σ Λ) s.heap va a →
    Po W Λ NoX relB E σ s (chain (I.ex sc ρ) a ops cs st) (fun b s' => Q (.bool b) s') → wpAny (model W.prog W.w) A (compareChain pos va ops (evalEach cs env)) Q E s
  | [op], [r], a, va, σ, s, st, Q, _, iv, V, ra, H => by
    show wpAny _ _ (holding [va] (eval r env) >>= fun rv => standAt pos >>= fun _ => operate [va, rv] (compareOp op va rv)) _ _ _
    unfold chain at H
    refine wpAny_bind (wpAny_holding (hI Λ sc env ρ r hE E σ s st _ iv V (Po.seq0 H fun d st₁ σ₁ h₁ tk₁ v f₁ k₁ i₁ r₁ H₁ => ?_)))
    refine wpAny_bind (wpAny_standAt (wpAny_operateT ?_))
    generalize hc : cmp op a d st₁ = zz
    induction zz using Option.casesOn with
    | none => rw [hc] at H₁; exact H₁.elim
    | some c =>
      rw [hc] at H₁
      exact cmp_sound hA i₁ (ra.step f₁ (k₁.weak fun a q => q.elim .inl fun q => q.elim)) r₁ hc (H₁.now (b := c) i₁ rfl)
  | op :: op' :: ops, r :: r' :: rs, a, va, σ, s, st, Q, hl, iv, V, ra, H => by
    show wpAny _ _ (holding [va] (eval r env) >>= fun rv => standAt pos >>= fun _ => holding [va, rv] (compareOp op va rv) >>= fun c => release [va, rv] [c] >>= fun _ => holding [c, rv] (truthy c) >>= fun t =>
      if t = true then compareChain pos rv (op' :: ops) (evalEach (r' :: rs) env) else pure c) _ _ _
    unfold chain at H
    refine wpAny_bind (wpAny_holding (hI Λ sc env ρ r hE E σ s st _ iv V (Po.seq0 H fun d st₁ σ₁ h₁ tk₁ v f₁ k₁ i₁ r₁ H₁ => ?_)))
    refine wpAny_bind (wpAny_standAt (wpAny_bind (wpAny_holding ?_)))
    have V₁ := V.step (iv.sigma hE.loc) f₁ k₁
    generalize hc : cmp op a d st₁ = zz
    induction zz using Option.casesOn with
    | none => rw [hc] at H₁; exact H₁.elim
    | some c =>
      rw [hc] at H₁
      refine cmp_sound hA i₁ (ra.step f₁ (k₁.weak fun a q => q.elim .inl fun q => q.elim)) r₁ hc (wpAny_bind (wpAny_release (wpAny_bind (wpAny_holding (wpAny_truthy_bool ?_)))))
      induction c using Bool.casesOn with
      | true => exact chain_sound hA hE hI (by simpa using hl) i₁ V₁ r₁ H₁
      | false => exact wpAny_pure (H₁.now (b := false) i₁ rfl)
  | [], _, _, _, _, _, _, _, _, _, _, _, H => by exact False.elim (by unfold chain at H; exact H)
  | [_], [], _, _, _, _, _, _, hl, _, _, _, _ => by (first | subst hl | contradiction | (injection hl with hl; subst hl) | cases hl)
  | [_], _ :: _ :: _, _, _, _, _, _, _, hl, _, _, _, _ => by (first | subst hl | contradiction | (injection hl with hl; subst hl) | cases hl)
  | _ :: _ :: _, [], _, _, _, _, _, _, hl, _, _, _, _ => by (first | subst hl | contradiction | (injection hl with hl; subst hl) | cases hl)
  | _ :: _ :: _, [_], _, _, _, _, _, _, hl, _, _, _, _ => by (first | subst hl | contradiction | (injection hl with hl; subst hl) | cases hl)

/-- the same where only its truth is asked -/
theorem testChain_sound {I : In} (hA : AOk A) (hE : EnvOk Λ sc env) (hI : IE W A I) {pos : Pos} : ∀ {ops : List CmpOp} {cs : List PySem.Expr} {a : D} {va : Value} {σ : List Addr} {s : Shared} {st : Sto} {Q : Bool → Shared → Prop},
    ops.length = cs.length → Inv W σ Λ s.heap st → Vars Λ sc env ρ σ s.heap → RepD σ (Bad σ Λ) s.heap va a →
    Po W Λ NoX relB E σ s (chain (I.ex sc ρ) a ops cs st) Q → wpAny (model W.prog W.w) A (testChain pos va ops (evalEach cs env)) Q E s
  | [op], [r], a, va, σ, s, st, Q, _, iv, V, ra, H => by
    show wpAny _ _ (holding [va] (eval r env) >>= fun rv => standAt pos >>= fun _ => operate [va, rv] (compareOp op va rv) >>= fun c => holding [c] (truthy c)) _ _ _
    unfold chain at H
    refine wpAny_bind (wpAny_holding (hI Λ sc env ρ r hE E σ s st _ iv V (Po.seq0 H fun d st₁ σ₁ h₁ tk₁ v f₁ k₁ i₁ r₁ H₁ => ?_)))
    refine wpAny_bind (wpAny_standAt (wpAny_bind (wpAny_operateT ?_)))
    generalize hc : cmp op a d st₁ = zz
    induction zz using Option.casesOn with
    | none => rw [hc] at H₁; exact H₁.elim
    | some c =>
      rw [hc] at H₁
      exact cmp_sound hA i₁ (ra.step f₁ (k₁.weak fun a q => q.elim .inl fun q => q.elim)) r₁ hc (wpAny_holding (wpAny_truthy_bool (H₁.now (b := c) i₁ rfl)))
  | op :: op' :: ops, r :: r' :: rs, a, va, σ, s, st, Q, hl, iv, V, ra, H => by
    show wpAny _ _ (holding [va] (eval r env) >>= fun rv => standAt pos >>= fun _ => holding [va, rv] (compareOp op va rv) >>= fun c => release [va, rv] [c] >>= fun _ => holding [c, rv] (truthy c) >>= fun t =>
      if t = true then testChain pos rv (op' :: ops) (evalEach (r' :: rs) env) else pure false) _ _ _
    unfold chain at H
    refine wpAny_bind (wpAny_holding (hI Λ sc env ρ r hE E σ s st _ iv V (Po.seq0 H fun d st₁ σ₁ h₁ tk₁ v f₁ k₁ i₁ r₁ H₁ => ?_)))
    refine wpAny_bind (wpAny_standAt (wpAny_bind (wpAny_holding ?_)))
    have V₁ := V.step (iv.sigma hE.loc) f₁ k₁
    generalize hc : cmp op a d st₁ = zz
    induction zz using Option.casesOn with
    | none => rw [hc] at H₁; exact H₁.elim
    | some c =>
      rw [hc] at H₁
      refine cmp_sound hA i₁ (ra.step f₁ (k₁.weak fun a q => q.elim .inl fun q => q.elim)) r₁ hc (wpAny_bind (wpAny_release (wpAny_bind (wpAny_holding (wpAny_truthy_bool ?_)))))
      induction c using Bool.casesOn with
      | true => exact testChain_sound hA hE hI (by simpa using hl) i₁ V₁ r₁ H₁
      | false => exact wpAny_pure (H₁.now (b := false) i₁ rfl)
  | [], _, _, _, _, _, _, _, _, _, _, _, H => by exact False.elim (by unfold chain at H; exact H)
  | [_], [], _, _, _, _, _, _, hl, _, _, _, _ => by (first | subst hl | contradiction | (injection hl with hl; subst hl) | cases hl)
  | [_], _ :: _ :: _, _, _, _, _, _, _, hl, _, _, _, _ => by (first | subst hl | contradiction | (injection hl with hl; subst hl) | cases hl)
  | _ :: _ :: _, [], _, _, _, _, _, _, hl, _, _, _, _ => by (first | subst hl | contradiction | (injection hl with hl; subst hl) | cases hl)
  | _ :: _ :: _, [_], _, _, _, _, _, _, hl, _, _, _, _ => by (first | subst hl | contradiction | (injection hl with hl; subst hl) | cases hl)

/-- tests joined by and, or -/
theorem allT_sound {I : In} (hE : EnvOk Λ sc env) (hT : IT W A I) : ∀ {op : BoolOp} {es : List PySem.Expr} {σ : List Addr} {s : Shared} {st : Sto} {Q : Bool → Shared → Prop},
    Inv W σ Λ s.heap st → Vars Λ sc env ρ σ s.heap → Po W Λ NoX relB E σ s (allT (I.tt sc ρ) op es st) Q → wpAny (model W.prog W.w) A (allTrue op es env) Q E s
  | .And, [], σ, s, st, Q, iv, V, H => wpAny_pure (H.now (b := true) iv rfl)
  | .Or, [], σ, s, st, Q, iv, V, H => wpAny_pure (H.now (b := false) iv rfl)
  | .And, e :: es, σ, s, st, Q, iv, V, H => by
    unfold allT at H
    refine wpAny_allTrue_And_cons (hT Λ sc env ρ e hE E σ s st _ iv V (Po.seq0 H fun d st₁ σ₁ h₁ tk₁ v f₁ k₁ i₁ r₁ H₁ => ?_))
    have r₁ : v = d := r₁
    subst r₁
    have V₁ := V.step (iv.sigma hE.loc) f₁ k₁
    induction v using Bool.casesOn with
    | true => exact allT_sound hE hT i₁ V₁ H₁
    | false => exact H₁.now (b := false) i₁ rfl
  | .Or, e :: es, σ, s, st, Q, iv, V, H => by
    unfold allT at H
    refine wpAny_allTrue_Or_cons (hT Λ sc env ρ e hE E σ s st _ iv V (Po.seq0 H fun d st₁ σ₁ h₁ tk₁ v f₁ k₁ i₁ r₁ H₁ => ?_))
    have r₁ : v = d := r₁
    subst r₁
    have V₁ := V.step (iv.sigma hE.loc) f₁ k₁
    induction v using Bool.casesOn with
    | true => exact H₁.now (b := true) i₁ rfl
    | false => exact allT_sound hE hT i₁ V₁ H₁

theorem boolV_sound {I : In} (hE : EnvOk Λ sc env) (hI : IE W A I) {op : BoolOp} {pos : Pos} : ∀ {es : List PySem.Expr} {σ : List Addr} {s : Shared} {st : Sto} {Q : Value → Shared → Prop},
    Inv W σ Λ s.heap st → Vars Λ sc env ρ σ s.heap → Po W Λ NoX (relD Λ) E σ s (boolV (I.ex sc ρ) op es st) Q → wpAny (model W.prog W.w) A (boolOp pos op (evalEach es env)) Q E s
  | [], σ, s, st, Q, iv, V, H => by exact False.elim (by unfold boolV at H; exact H)
  | [e], σ, s, st, Q, iv, V, H => hI Λ sc env ρ e hE E σ s st _ iv V H
  | e :: e' :: es, σ, s, st, Q, iv, V, H => by
    show wpAny _ _ (eval e env >>= fun v => standAt pos >>= fun _ => holding [v] (truthy v) >>= fun t => match op, t with
      | .And, false | .Or, true => pure v
      | _, _ => boolOp pos op (evalEach (e' :: es) env)) _ _ _
    unfold boolV at H
    refine wpAny_bind (hI Λ sc env ρ e hE E σ s st _ iv V (Po.seq0 H fun d st₁ σ₁ h₁ tk₁ v f₁ k₁ i₁ r₁ H₁ => ?_))
    refine wpAny_bind (wpAny_standAt (wpAny_bind (wpAny_holding ?_)))
    have V₁ := V.step (iv.sigma hE.loc) f₁ k₁
    generalize ht : truth d = zz
    induction zz using Option.casesOn with
    | none => rw [ht] at H₁; cases op <;> exact H₁.elim
    | some t =>
      rw [ht] at H₁
      refine truth_sound r₁ ht ?_
      cases op <;> (first | subst t | contradiction | (injection t with t; subst t) | cases t)
      · exact wpAny_pure (H₁.now i₁ r₁)
      · exact boolV_sound hE hI i₁ V₁ H₁
      · exact boolV_sound hE hI i₁ V₁ H₁
      · exact wpAny_pure (H₁.now i₁ r₁)

end
end Mine

end

section
open PySem PySem.W PySem.Spec PySem.Calls PyProof.Rows
set_option maxRecDepth 100000
namespace Mine

section
variable {W : Wd} {A : Around} {Λ σ : List Addr} {E : Value → Shared → Prop} {s : Shared} {st : Sto} {sc : Scope} {env : Env} {ρ : En}

theorem eval_attr {o : PySem.Expr} {a : Str} {pos : Pos} : eval (.Attribute o a pos) env = (attributeBase o a env (eval o env) >>= fun v => standAt pos.atName >>= fun _ => holding [v] (getAttr v a true) >>= fun r => letTemporaryGo o v r >>= fun _ => pure r) := rfl
theorem eval_meth {o : PySem.Expr} {name : Str} {ap pos : Pos} {args : List PySem.Expr} : eval (.Call (.Attribute o name ap) args [] pos) env =
    (attributeBase o name env (eval o env) >>= fun ov => standAt ap.atName >>= fun _ => methodCall o name ap pos env ov (args.length + 0) (backTo pos (starEach args env)) []) := rfl

theorem methodCall_sound {s' : Shared} {o : PySem.Expr} {name : Str} {ap pos : Pos} {ov f : Value} {first : List Value} {args : List PySem.Expr} {Q : Value → Shared → Prop} (hns : noStar args = true) (hlen : args.length < 20) (hp : (ap.endLine == pos.line) = true)
    (hm : ∀ (pl : Sem Bool) (Q' : Value × List Value → Shared → Prop), Q' (f, first) s' → wpAny (model W.prog W.w) A (getMethod ov name pl) Q' E s)
    (h : wpAny (model W.prog W.w) A (callWith pos f first (backTo pos (starEach args env)) []) Q E s') :
    wpAny (model W.prog W.w) A (methodCall o name ap pos env ov (args.length + 0) (backTo pos (starEach args env)) []) Q E s := by
  have few : methodCallForm (args.length + 0) (backTo pos (starEach args env)) ([] : List (Option Str × Sem Value)) = true := by
    unfold methodCallForm
    rw [star_all hns]
    simp
    omega
  unfold methodCall
  rw [few]
  refine wpAny_bind (wpAny_holding ?_)
  show wpAny _ _ (getMethod ov name _) _ _ _
  refine hm _ _ ?_
  refine wpAny_bind ?_
  have : methodCallPos true o env ap pos = pure pos := by
    unfold methodCallPos
    rw [if_pos (by rw [hp]; rfl)]
  rw [this]
  exact wpAny_pure h

theorem builtin_keep {i : String} (h : Heap) (_ : W.K.In h) : ∃ k, (k = Keeper.frame ∨ k = Keeper.machine ∨ k = Keeper.boundFrame) ∧ Looks (model W.prog W.w) h (keeperOf (.builtin i)) k :=
  ⟨.machine, .inr (.inl rfl), Looks.of_pure rfl⟩

theorem bases_in {h : Heap} (iv : Inv W σ Λ h st) : W.K.In h := fun a o e => iv.keep _ _ (W.X a o e)

theorem reps_snoc {B : Addr → Prop} {h : Heap} : ∀ {l : List V} {us : List Value} {x : V}, Reps B h us (l ++ [x]) → ∃ up w, us = up ++ [w] ∧ Reps B h up l ∧ Rep B h w x
  | [], [u], x, r => ⟨[], u, rfl, trivial, r.1⟩
  | [], u :: _ :: _, x, r => r.2.elim
  | [], [], x, r => r.elim
  | y :: l, [], x, r => r.elim
  | y :: l, u :: us, x, r => by
    obtain ⟨up, w, rfl, r1, r2⟩ := reps_snoc (l := l) r.2
    exact ⟨u :: up, w, rfl, ⟨r.1, r1⟩, r2⟩

theorem pop_obj {h : Heap} {a : Addr} {p q : List Value} {y : Value} {n k : Nat} (ho : h.get? a = some { cls := .type "list", data := .seq (p ++ y :: q).toArray n }) (hk : k = p.length) :
    ∃ m, (h.update a (Obj.mapSeq fun xs => xs.eraseIdxIfInBounds k)).get? a = some { cls := .type "list", data := .seq (p ++ q).toArray m } := by
  subst hk
  have e : ∀ f : Array Value → Array Value, Obj.mapSeq f ({ cls := .type "list", data := .seq (p ++ y :: q).toArray n } : Obj) =
      { cls := .type "list", data := .seq (f (p ++ y :: q).toArray) (if (f (p ++ y :: q).toArray).size == (p ++ y :: q).toArray.size then n else n + 1) } := fun f => rfl
  have u := Heap.get?_update_self (Obj.mapSeq fun xs => xs.eraseIdxIfInBounds p.length) ho (by rw [e]; rfl)
  rw [e, kl_erase] at u
  exact ⟨_, u⟩

theorem Po.dead {α α' β : Type} {X : Addr → Prop} {Rel : List Addr → Heap → β → α' → Prop} {r : Out α} {f : α → Sto → Out α'} {Q : β → Shared → Prop} (H : Po W Λ X Rel E σ s (r.quiet.bind f) Q) (h : ∀ a st, f a st = .stuck) : False := by
  induction r using Mine.Out.casesOn with
  | ok a st => have : Po W Λ X Rel E σ s (f a st) Q := H; rw [h] at this; exact this
  | exc x st => exact H
  | stuck => exact H

theorem listM_sound {I : In} (hA : AOk A) (hE : EnvOk Λ sc env) (hI : IE W A I) {o : PySem.Expr} {name : Str} {ap pos : Pos} {i : Nat} {ov : Value} {args : List PySem.Expr} {Q : Value → Shared → Prop} (hns : noStar args = true) (hlen : args.length < 20) (hp : (ap.endLine == pos.line) = true)
    (iv : Inv W σ Λ s.heap st) (V : Vars Λ sc env ρ σ s.heap) (r : RepD σ (Bad σ Λ) s.heap ov (.m i))
    (H : Po W Λ NoX (relD Λ) E σ s ((evs (I.ex sc ρ) args st).quiet.bind fun ds st => listM name i ds st) Q) :
    wpAny (model W.prog W.w) A (methodCall o name ap pos env ov (args.length + 0) (backTo pos (starEach args env)) []) Q E s := (Po.dead H fun _ _ => rfl).elim
end
end Mine

end

section
open PySem PySem.W PySem.Spec PySem.Calls PyProof.Rows
set_option maxRecDepth 100000
namespace Mine

section
variable {W : Wd} {A : Around} {Λ σ : List Addr} {E : Value → Shared → Prop} {s : Shared} {st : Sto} {sc : Scope} {env : Env} {ρ : En}

theorem RepDs.reps {B : Addr → Prop} {h : Heap} {σ : List Addr} {ds : List D} {vs : List Value} {l : List V} (q : RepDs σ B h vs ds) (e : vals ds = some l) : Reps B h vs l := vals_reps q e

theorem tuple_sound {I : In} (hE : EnvOk Λ sc env) (hI : IE W A I) {es : List PySem.Expr} {k : Nat} {pos : Pos} {Q : Value → Shared → Prop} (iv : Inv W σ Λ s.heap st) (V : Vars Λ sc env ρ σ s.heap)
    (H : Po W Λ NoX (relD Λ) E σ s (if noStar es && szOk es.length then (evs (I.ex sc ρ) es st).bind fun ds st => ofO st ((vals ds).map fun l => D.v (.tup l)) else .stuck) Q) :
    wpAny (model W.prog W.w) A (eval (.Tuple es k pos) env) Q E s := by
  split at H
  · rename_i hc
    obtain ⟨h1, h2⟩ := Bool.and_eq_true_iff.mp hc
    refine wpAny_Tuple_spliced (evs_sound hE hI es h1 iv V ?_)
    have hlen : ∀ ds st', evs (I.ex sc ρ) es st = .ok ds st' → ds.length ≤ 2 ^ 20 := fun ds st' e => by
      rw [evs_length e]; exact of_decide_eq_true h2
    revert hlen
    refine fun hlen => ?_
    generalize he : evs (I.ex sc ρ) es st = zz
    induction zz using Mine.Out.casesOn with
    | exc x st' => rw [he] at H; exact H
    | stuck => rw [he] at H; exact H
    | ok ds st' =>
      rw [he] at H
      have hl := hlen ds st' he
      intro σ₁ h₁ tk₁ vs f₁ k₁ i₁ r₁
      refine ⟨?_, ?_⟩
      · rw [RepDs.length r₁]; exact Nat.le_trans hl (by decide)
      · have H' : Po W Λ NoX (relD Λ) E σ s (ofO st' ((vals ds).map fun l => D.v (.tup l))) Q := H
        rw [ofO_map] at H'
        split at H'
        · rename_i l hv
          exact H' σ₁ _ tk₁ _ f₁ (k₁.trans (Kp.push _ (W := fun x => x ∈ σ ∨ NoX x)) fun _ _ q => q) (i₁.push _) (i₁.tup (vals_reps r₁ hv))
        · exact H'.elim
  · exact H.elim

theorem list_sound {C : Cx} {I : In} (hE : EnvOk Λ sc env) (hI : IE W A I) {es : List PySem.Expr} {pos : Pos} {Q : Value → Shared → Prop} (iv : Inv W σ Λ s.heap st) (V : Vars Λ sc env ρ σ s.heap)
    (H : Po W Λ NoX (relD Λ) E σ s (if noStar es && szOk es.length then (evs (I.ex sc ρ) es st).bind fun ds st => match vals ds with
      | some l => if C.mt pos then .ok (.m st.length) (st ++ [l]) else .ok (.v (.lst l)) st
      | Option.none => .stuck
      else .stuck) Q) :
    wpAny (model W.prog W.w) A (eval (.List es pos) env) Q E s := by
  split at H
  · rename_i hc
    obtain ⟨h1, h2⟩ := Bool.and_eq_true_iff.mp hc
    refine wpAny_List_spliced (evs_sound hE hI es h1 iv V ?_)
    generalize he : evs (I.ex sc ρ) es st = zz
    induction zz using Mine.Out.casesOn with
    | exc x st' => rw [he] at H; exact H
    | stuck => rw [he] at H; exact H
    | ok ds st' =>
      rw [he] at H
      have hl : ds.length ≤ 2 ^ 20 := by rw [evs_length he]; exact of_decide_eq_true h2
      intro σ₁ h₁ tk₁ vs f₁ k₁ i₁ r₁
      refine ⟨?_, ?_⟩
      · rw [RepDs.length r₁]; exact Nat.le_trans hl (by decide)
      · have H' : Po W Λ NoX (relD Λ) E σ s (match vals ds with
          | some l => if C.mt pos then .ok (.m st'.length) (st' ++ [l]) else .ok (.v (.lst l)) st'
          | Option.none => .stuck) Q := H
        split at H'
        · rename_i l hv
          have rr := vals_reps r₁ hv
          split at H'
          · obtain ⟨i₂, f₂⟩ := i₁.newM (n := 0) rr (by rw [← rr.length, RepDs.length r₁]; exact Nat.le_succ_of_le hl)
            refine H' _ _ tk₁ _ (f₁.trans f₂ k₁) (k₁.trans (Kp.push _ (W := fun x => x ∈ σ ∨ NoX x)) fun _ _ q => q) i₂ ⟨h₁.objs.size, ?_, rfl⟩
            rw [← i₁.store.1]; simp
          · exact H' σ₁ _ tk₁ _ f₁ (k₁.trans (Kp.push _ (W := fun x => x ∈ σ ∨ NoX x)) fun _ _ q => q) (i₁.push _) (i₁.lst rr)
        · exact H'.elim
  · exact H.elim

theorem step_tt {C : Cx} {J : Scope → En → PySem.Expr → Sto → Out D} {I : In} {Φ : D → List D → Sto → Out D} (hA : AOk A) (hI : IE W A I) (hT : IT W A I) : IT W A (step C Φ J I) := by
  intro Λ sc env ρ e hE E σ s st Q iv V H
  have plain : ∀ e, (PySem.isTrue e env (eval e env) = do let v ← eval e env; standAt e.pos; holding [v] (truthy v)) → Po W Λ NoX relB E σ s ((I.ex sc ρ e st).bind fun d st => ofO st (truth d)) Q →
      wpAny (model W.prog W.w) A (PySem.isTrue e env (eval e env)) Q E s := by
    intro e he H
    refine wpAny_isTrue_value (hI Λ sc env ρ e hE E σ s st _ iv V (Po.seq0 H fun d st₁ σ₁ h₁ tk₁ v f₁ k₁ i₁ r₁ H₁ => ?_)) he
    generalize ht : truth d = zz
    induction zz using Option.casesOn with
    | none => rw [ht] at H₁; exact H₁.elim
    | some t => rw [ht] at H₁; exact truth_sound r₁ ht (H₁.now (b := t) i₁ rfl)
  induction e using PySem.Expr.casesOn with
  | UnaryOp op x pos =>
    induction op using PySem.UnaryOp.casesOn with
    | Not =>
      have H : Po W Λ NoX relB E σ s ((I.tt sc ρ x st).bind fun b st => .ok (!b) st) Q := H
      refine wpAny_isTrue_Not (hT Λ sc env ρ x hE E σ s st _ iv V (Po.seq0 H fun d st₁ σ₁ h₁ tk₁ v f₁ k₁ i₁ r₁ H₁ => ?_))
      have r₁ : v = d := r₁
      subst r₁
      exact H₁.now (b := !v) i₁ rfl
    | _ => exact plain _ rfl H
  | BoolOp op vs pos =>
    have H : Po W Λ NoX relB E σ s (allT (I.tt sc ρ) op vs st) Q := H
    exact wpAny_isTrue_BoolOp (allT_sound hE hT iv V H)
  | IfExp c a b pos =>
    have H : Po W Λ NoX relB E σ s ((I.tt sc ρ c st).bind fun t st => if t then I.tt sc ρ a st else I.tt sc ρ b st) Q := H
    show wpAny _ _ (PySem.isTrue c env (eval c env) >>= fun t => if t = true then PySem.isTrue a env (eval a env) else PySem.isTrue b env (eval b env)) _ _ _
    refine wpAny_bind (hT Λ sc env ρ c hE E σ s st _ iv V (Po.seq0 H fun d st₁ σ₁ h₁ tk₁ v f₁ k₁ i₁ r₁ H₁ => ?_))
    have r₁ : v = d := r₁
    subst r₁
    have V₁ := V.step (iv.sigma hE.loc) f₁ k₁
    induction v using Bool.casesOn with
    | true => exact hT Λ sc env ρ a hE E σ₁ _ st₁ _ i₁ V₁ H₁
    | false => exact hT Λ sc env ρ b hE E σ₁ _ st₁ _ i₁ V₁ H₁
  | Compare l ops cs pos =>
    have H : Po W Λ NoX relB E σ s (if noDisp cs && ops.length == cs.length then (I.ex sc ρ l st).bind fun a st => chain (I.ex sc ρ) a ops cs st else .stuck) Q := H
    split at H
    · rename_i hc
      obtain ⟨h1, h2⟩ := Bool.and_eq_true_iff.mp hc
      show wpAny _ _ (eval l env >>= fun v => testChain pos v ops (markedEach ops cs (evalEach cs env))) _ _ _
      rw [marked_not h1]
      refine wpAny_bind (hI Λ sc env ρ l hE E σ s st _ iv V (Po.seq0 H fun d st₁ σ₁ h₁ tk₁ v f₁ k₁ i₁ r₁ H₁ => ?_))
      exact testChain_sound hA hE hI (by simpa using h2) i₁ (V.step (iv.sigma hE.loc) f₁ k₁) r₁ H₁
    · exact H.elim
  | _ => exact plain _ rfl H

end
end Mine

end

section
open PySem PySem.W PySem.Spec PySem.Calls PyProof.Rows
set_option maxRecDepth 100000
namespace Mine

noncomputable def ItSt (B : Addr → Prop) (h : Heap) (it : Addr) (l : List V) : Prop :=
  (∃ (a : Addr) (vs : List Value) (i : Nat), h.IsListIter it a i ∧ h.IsList a vs.toArray ∧ ¬ B a ∧ Reps B h (vs.drop i) l) ∨
  (∃ (a : Addr) (vs : List Value) (i : Nat), h.IsTupleIter it a i ∧ h.IsTuple a vs.toArray ∧ ¬ B a ∧ Reps B h (vs.drop i) l) ∨
  ∃ x left : Int, IsRangeIter h it x left 1 ∧ 0 ≤ left ∧ l = rngL x (x + left)

theorem ItSt.mono {B B' : Addr → Prop} {h h' : Heap} {it : Addr} {l : List V} (x : ItSt B h it l) (k : ∀ a o, h.get? a = some o → ¬ B a → At h' a o ∧ ¬ B' a) (hit : ∀ o, h.get? it = some o → At h' it o) : ItSt B' h' it l := by
  rcases x with ⟨a, vs, i, ⟨o, ho, h1⟩, ⟨o', ho', h2, h3, h4⟩, hb, r⟩ | ⟨a, vs, i, ⟨o, ho, h1⟩, ⟨o', ho', h2, h3, h4⟩, hb, r⟩ | ⟨x, left, h1, h2⟩
  · exact .inl ⟨a, vs, i, ⟨o, (hit o ho).nd fun _ _ q => (by rw [h1.2] at q; (first | subst q | contradiction | (injection q with q; subst q) | cases q)), h1⟩, ⟨o', (k a o' ho' hb).1.nd fun _ _ q => (by rw [h4] at q; (first | subst q | contradiction | (injection q with q; subst q) | cases q)), h2, h3, h4⟩, (k a o' ho' hb).2, r.mono k⟩
  · exact .inr (.inl ⟨a, vs, i, ⟨o, (hit o ho).nd fun _ _ q => (by rw [h1.2] at q; (first | subst q | contradiction | (injection q with q; subst q) | cases q)), h1⟩, ⟨o', (k a o' ho' hb).1.nd fun _ _ q => (by rw [h4] at q; (first | subst q | contradiction | (injection q with q; subst q) | cases q)), h2, h3, h4⟩, (k a o' ho' hb).2, r.mono k⟩)
  · exact .inr (.inr ⟨x, left, (hit _ h1).nd fun _ _ q => (nomatch q), h2⟩)

theorem drop_get {α : Type} {l r : List α} {i : Nat} {x : α} (h : l.drop i = x :: r) : l[i]? = some x ∧ l.drop (i + 1) = r := by
  have h1 : (l.drop i)[0]? = some x := by rw [h]; rfl
  rw [List.getElem?_drop] at h1
  refine ⟨by simpa using h1, ?_⟩
  have : (l.drop i).drop 1 = r := by rw [h]; rfl
  rw [List.drop_drop] at this
  exact this
theorem drop_none {α : Type} {l : List α} {i : Nat} (h : l.drop i = []) : l[i]? = none := by
  have h1 : (l.drop i)[0]? = none := by rw [h]; rfl
  rw [List.getElem?_drop] at h1
  simpa using h1
theorem reps_cons {B : Addr → Prop} {h : Heap} {us : List Value} {x : V} {l : List V} (r : Reps B h us (x :: l)) : ∃ u vs, us = u :: vs ∧ Rep B h u x ∧ Reps B h vs l := by
  induction us using List.casesOn with
  | nil => exact r.elim
  | cons u vs => exact ⟨u, vs, rfl, r.1, r.2⟩
theorem reps_nil {B : Addr → Prop} {h : Heap} {us : List Value} (r : Reps B h us []) : us = [] := by
  induction us using List.casesOn with
  | nil => rfl
  | cons u vs => exact r.elim

theorem rngL_cons {x left : Int} {y : V} {l : List V} (h : rngL x (x + left) = y :: l) : 0 < left ∧ y = .int x ∧ l = rngL (x + 1) (x + 1 + (left - 1)) := by
  unfold rngL at h ⊢
  have e : (x + left - x).toNat = left.toNat := by congr 1; omega
  rw [e] at h
  generalize hn : left.toNat = zz
  induction zz using Nat.casesOn with
  | zero => rw [hn] at h; (first | subst h | contradiction | (injection h with h; subst h) | cases h)
  | succ n =>
    rw [hn, List.range_succ_eq_map, List.map_cons, List.cons.injEq, List.map_map] at h
    have e' : (x + 1 + (left - 1) - (x + 1)).toNat = n := by omega
    rw [e']
    refine ⟨by omega, by rw [← h.1]; simp, ?_⟩
    rw [← h.2]
    apply List.map_congr_left
    intro i _
    simp only [Function.comp]
    congr 1
    push_cast
    omega
theorem rngL_nil {x left : Int} (h : rngL x (x + left) = []) : left ≤ 0 := by
  unfold rngL at h
  have e : (x + left - x).toNat = left.toNat := by congr 1; omega
  rw [e, List.map_eq_nil_iff, List.range_eq_nil] at h
  omega

section
variable {W : Wd} {A : Around} {Λ σ : List Addr} {E : Value → Shared → Prop} {s : Shared} {st : Sto} {sc : Scope} {env : Env} {ρ : En}

theorem it_next {it : Addr} {x : V} {l : List V} {Q : Option Value → Shared → Prop} (hl : it ∈ Λ) (I : ItSt (Bad σ Λ) s.heap it (x :: l))
    (q : ∀ h' tk v, Heap.SameBut it s.heap h' → (∃ o, h'.get? it = some o) → Rep (Bad σ Λ) h' v x → ItSt (Bad σ Λ) h' it l → Q (some v) { s with heap := h', toks := tk }) :
    wpAny (model W.prog W.w) A (pyNext (.ref it)) Q E s := by
  have hb : Bad σ Λ it := .inr hl
  rcases I with ⟨a, vs, i, h1, h2, hB, r⟩ | ⟨a, vs, i, h1, h2, hB, r⟩ | ⟨x', left, h1, h2, h3⟩
  · obtain ⟨u, us, he, r1, r2⟩ := reps_cons r
    obtain ⟨g1, g2⟩ := drop_get he
    refine wpAny_pyNext_list_item h1 h2 (by simpa using g1) fun h' j hs => ?_
    have hne : a ≠ it := fun e => hB (e ▸ hb)
    have al : ∃ o, h'.get? it = some o := by obtain ⟨o, ho, _⟩ := j; exact ⟨o, ho⟩
    obtain ⟨o, ho⟩ := al
    have kp : Kp (Bad σ Λ) s.heap h' := Kp.same hs hb ho
    refine q h' s.toks u hs ⟨o, ho⟩ (r1.step Fresh.refl kp) (.inl ⟨a, vs, i + 1, j, ?_, hB, ?_⟩)
    · obtain ⟨o', ho', z1, z2, z3⟩ := h2
      exact ⟨o', (kp.at ho' hB).nd fun _ _ q => (by rw [z3] at q; (first | subst q | contradiction | (injection q with q; subst q) | cases q)), z1, z2, z3⟩
    · rw [g2]; exact r2.step Fresh.refl kp
  · obtain ⟨u, us, he, r1, r2⟩ := reps_cons r
    obtain ⟨g1, g2⟩ := drop_get he
    refine wpAny_pyNext_tuple_item h1 h2 (by simpa using g1) fun h' j hs => ?_
    have al : ∃ o, h'.get? it = some o := by obtain ⟨o, ho, _⟩ := j; exact ⟨o, ho⟩
    obtain ⟨o, ho⟩ := al
    have kp : Kp (Bad σ Λ) s.heap h' := Kp.same hs hb ho
    refine q h' s.toks u hs ⟨o, ho⟩ (r1.step Fresh.refl kp) (.inr (.inl ⟨a, vs, i + 1, j, ?_, hB, ?_⟩))
    · obtain ⟨o', ho', z1, z2, z3⟩ := h2
      exact ⟨o', (kp.at ho' hB).nd fun _ _ q => (by rw [z3] at q; (first | subst q | contradiction | (injection q with q; subst q) | cases q)), z1, z2, z3⟩
    · rw [g2]; exact r2.step Fresh.refl kp
  · obtain ⟨g1, rfl, g3⟩ := rngL_cons h3.symm
    refine wpAny_pyNext_range_item h1 g1 fun h' j hs => ?_
    exact q h' (s.toks + 1) _ hs ⟨_, j⟩ ⟨_, rfl⟩ (.inr (.inr ⟨x' + 1, left - 1, j, by omega, g3⟩))

theorem it_end {it : Addr} {Q : Option Value → Shared → Prop} (hA : A.handled = none) (I : ItSt (Bad σ Λ) s.heap it [])
    (q : ∀ h', Heap.ExtBut it s.heap h' → Q none { s with heap := h' }) : wpAny (model W.prog W.w) A (pyNext (.ref it)) Q E s := by
  rcases I with ⟨a, vs, i, h1, h2, hB, r⟩ | ⟨a, vs, i, h1, h2, hB, r⟩ | ⟨x', left, h1, h2, h3⟩
  · exact wpAny_pyNext_list_end hA h1 h2 (by simpa using drop_none (reps_nil r)) q
  · exact wpAny_pyNext_tuple_end hA h1 h2 (by simpa using drop_none (reps_nil r)) q
  · exact wpAny_pyNext_range_end hA h1 (rngL_nil h3.symm) q

theorem lam_mv {h h' : Heap} {a : Addr} (n : h.get? a = none) (k : ∀ b o, h.get? b = some o → h'.get? b = some o) : ∀ b o, h.get? b = some o → ¬ Bad σ Λ b → At h' b o ∧ ¬ Bad σ (a :: Λ) b := fun b o e nb => ⟨.inl (k b o e), fun q => q.elim (fun q => nb (.inl q)) fun q => by
    rcases List.mem_cons.mp q with q | q
    · rw [q, n] at e; (first | subst e | contradiction | (injection e with e; subst e) | cases e)
    · exact nb (.inr q)⟩

/-- an iterator that is new: nothing that stood has it -/
theorem it_start {d : D} {v : Value} {l : List V} {Q : Value → Shared → Prop} (iv : Inv W σ Λ s.heap st) (r : RepD σ (Bad σ Λ) s.heap v d) (e : itemsOf d = some l)
    (q : ∀ o, Inv W σ Λ (s.heap.push o) st → (s.heap.push o).get? s.heap.objs.size = some o → ItSt (Bad σ (s.heap.objs.size :: Λ)) (s.heap.push o) s.heap.objs.size l → Q (.ref s.heap.objs.size) { s with heap := s.heap.push o }) :
    wpAny (model W.prog W.w) A (pyIter v) Q E s := by
  have mv : ∀ o, ∀ b o', s.heap.get? b = some o' → ¬ Bad σ Λ b → At (s.heap.push o) b o' ∧ ¬ Bad σ (s.heap.objs.size :: Λ) b := fun o => lam_mv get_size fun b o' e => Heap.get?_push_of_some _ e
  unfold itemsOf at e
  split at e
  · rename_i l'
    cases e
    have r : Rep (Bad σ Λ) s.heap v (.lst l) := r
    unfold Rep at r
    obtain ⟨a, ob, vs, n, rfl, hb, ho, hc, hd, hr⟩ := r
    refine wpAny_pyIter_list (items := vs.toArray) ⟨ob, ho, hc, n, hd⟩ (q _ (iv.push _) (Heap.get?_push_size _ rfl) (.inl ⟨a, vs, 0, ⟨_, Heap.get?_push_size _ rfl, rfl, rfl⟩, ⟨ob, Heap.get?_push_of_some _ ho, hc, n, hd⟩, (mv default a ob ho hb).2, ?_⟩))
    rw [List.drop_zero]
    exact hr.mono (mv _)
  · rename_i l'
    cases e
    have r : Rep (Bad σ Λ) s.heap v (.tup l) := r
    unfold Rep at r
    obtain ⟨a, vs, n, rfl, hb, ho, hr⟩ := r
    refine wpAny_pyIter_tuple (items := vs.toArray) ⟨_, ho, rfl, n, rfl⟩ (q _ (iv.push _) (Heap.get?_push_size _ rfl) (.inr (.inl ⟨a, vs, 0, ⟨_, Heap.get?_push_size _ rfl, rfl, rfl⟩, ⟨_, Heap.get?_push_of_some _ ho, rfl, n, rfl⟩, (mv default a _ ho hb).2, ?_⟩)))
    rw [List.drop_zero]
    exact hr.mono (mv _)
  · rename_i a b
    split at e
    · rename_i hab
      cases e
      have r : Rep (Bad σ Λ) s.heap v (.rng a b) := r
      unfold Rep at r
      obtain ⟨x, t, u, w, rfl, hb, ho⟩ := r
      have hsz : Builtin.Range.rangeSize a b 1 = if a < b then b - a else 0 := by
        unfold Builtin.Range.rangeSize
        rw [if_pos (by decide)]
        split
        · rw [Int.ediv_one]; omega
        · rfl
      have hsm : Builtin.Range.small a b 1 = true := by
        have fit : ∀ i : Int, -(2 ^ 62) ≤ i → i < 2 ^ 62 → Builtin.Range.rangeFitsLong i = true := fun i h1 h2 => by
          unfold Builtin.Range.rangeFitsLong
          rw [Bool.and_eq_true]
          exact ⟨decide_eq_true (by omega), decide_eq_true (by omega)⟩
        have ha1 : -(2 ^ 20) ≤ a := by omega
        have ha2 : a ≤ 2 ^ 20 := by omega
        have hb1 : -(2 ^ 20) ≤ b := by omega
        have hb2 : b ≤ 2 ^ 20 := by omega
        unfold Builtin.Range.small
        rw [hsz]
        rw [fit a (by omega) (by omega), fit b (by omega) (by omega), fit 1 (by decide) (by decide), fit (if a < b then b - a else 0) (by split <;> omega) (by split <;> omega)]
        have h1 : (1 : Int) > 0 := by decide
        rw [if_pos h1, fit (b + (1 - 1)) (by omega) (by omega)]
        simp only [Bool.or_true, Bool.and_true]
      refine wpAny_pyIter_range ho hsm (q _ (iv.push _) (Heap.get?_push_size _ rfl) (.inr (.inr ⟨a, _, Heap.get?_push_size _ rfl, ?_, ?_⟩)))
      · rw [hsz]; split <;> omega
      · rw [hsz]
        unfold rngL
        congr 2
        split <;> omega
    · cases e
  · cases e

/-- one more protected address, new -/
theorem Inv.lam {h : Heap} {a : Addr} {o : Obj} (I : Inv W σ Λ h st) (n : h.get? a = none) {h' : Heap} (k : ∀ b o, h.get? b = some o → h'.get? b = some o) (ho : h'.get? a = some o) (hb : W.base.objs.size ≤ a) : Inv W σ (a :: Λ) h' st := by
  have I' := I.grow k
  have mv : ∀ b o, h.get? b = some o → ¬ Bad σ Λ b → At h' b o ∧ ¬ Bad σ (a :: Λ) b := fun b o e nb => ⟨.inl (k b o e), fun q => q.elim (fun q => nb (.inl q)) fun q => by
    rcases List.mem_cons.mp q with q | q
    · rw [q, n] at e; (first | subst e | contradiction | (injection e with e; subst e) | cases e)
    · exact nb (.inr q)⟩
  have mv' : ∀ b o, h.get? b = some o → b ≠ a := fun b o e q => by rw [q, n] at e; (first | subst e | contradiction | (injection e with e; subst e) | cases e)
  refine ⟨I'.keep, fun b q => ?_, ⟨I.store.1, I.store.2.1, fun i b l e1 e2 => ?_⟩, fun b hb' q => ?_, fun b q => ⟨.tail _ (I.dic b q).1, (I'.dic b q).2⟩⟩
  · rcases q with q | q
    · exact I'.new b (.inl q)
    · rcases List.mem_cons.mp q with q | q
      · rw [q]; exact ⟨hb, o, ho⟩
      · exact I'.new b (.inr q)
  · obtain ⟨vs, q, r, z⟩ := I.store.2.2 i b l e1 e2
    exact ⟨vs, q.at fun o' e => k _ _ e, r.mono mv, z⟩
  · rcases List.mem_cons.mp q with q | q
    · obtain ⟨o', e⟩ := (I.new b (.inl hb')).2
      exact mv' b o' e q
    · exact I.apart b hb' q
theorem unlam_mv {h : Heap} {a : Addr} : ∀ b o, h.get? b = some o → ¬ Bad σ (a :: Λ) b → At h b o ∧ ¬ Bad σ Λ b := fun _ _ e n => ⟨.inl e, fun q => n (q.elim .inl fun q => .inr (.tail _ q))⟩
theorem Inv.nfr {h : Heap} {a : Addr} (I : Inv W σ Λ h st) (n : h.get? a = none) : a ∉ W.fr := fun q => by
  obtain ⟨_, _, o, _, _, e, _⟩ := I.dic a q
  rw [n] at e; (first | subst e | contradiction | (injection e with e; subst e) | cases e)
theorem Inv.unlam {h : Heap} {a : Addr} (I : Inv W σ (a :: Λ) h st) (ha : a ∉ W.fr) : Inv W σ Λ h st :=
  ⟨I.keep, fun b q => I.new b (q.elim .inl fun q => .inr (.tail _ q)), ⟨I.store.1, I.store.2.1, fun i b l e1 e2 => by
    obtain ⟨vs, q, r, z⟩ := I.store.2.2 i b l e1 e2
    exact ⟨vs, q, r.mono unlam_mv, z⟩⟩, fun b hb q => I.apart b hb (.tail _ q), fun b q => ⟨(List.mem_cons.mp (I.dic b q).1).elim (fun z => absurd (z ▸ q) ha) id, (I.dic b q).2⟩⟩
theorem RepD.mono {σ : List Addr} {B B' : Addr → Prop} {h h' : Heap} (k : ∀ a o, h.get? a = some o → ¬ B a → At h' a o ∧ ¬ B' a) {v : Value} {d : D} (r : RepD σ B h v d) : RepD σ B' h' v d := by
  induction d using Mine.D.casesOn with
  | v x => exact Rep.mono k r
  | m i => exact r
theorem Vars.mono {Λ Λ' σ : List Addr} {h h' : Heap} (V : Vars Λ sc env ρ σ h) (k : ∀ a o, h.get? a = some o → ¬ Bad σ Λ a → At h' a o ∧ ¬ Bad σ Λ' a) (k' : ∀ a o, h.get? a = some o → (a = env.locals ∨ ∃ x, env.cells.lookup x = some a) → At h' a o) : Vars Λ' sc env ρ σ h' := by
  obtain ⟨m, hn, V⟩ := V
  refine ⟨m, ?_, fun x d e => ⟨fun q => ?_, fun q => ?_⟩⟩
  · exact ns_at hn fun o ho => k' _ _ ho (.inl rfl)
  · obtain ⟨v, a, b⟩ := (V x d e).1 q
    exact ⟨v, a, b.mono k⟩
  · obtain ⟨c, o, v, a, ho, hd, hc, b⟩ := (V x d e).2 q
    exact ⟨c, o, v, a, (k' c o ho (.inr ⟨x, a⟩)).nd fun _ _ q => (by rw [hd] at q; (first | subst q | contradiction | (injection q with q; subst q) | cases q)), hd, hc, b.mono k⟩

end
end Mine

end

section
open PySem PySem.W PySem.Spec PySem.Calls PyProof.Rows
set_option maxRecDepth 100000
namespace Mine

noncomputable def XL (env : Env) : Addr → Prop := fun a => a = env.locals ∨ ∃ x, env.cells.lookup x = some a
noncomputable def FlR (Λ σ : List Addr) (h : Heap) : Flow → Fl → Prop
  | .next, .next => True
  | .brk, .brk => True
  | .cont, .cont => True
  | .ret v, .ret d => RepD σ (Bad σ Λ) h v d
  | _, _ => False
noncomputable def relS (Λ : List Addr) (sc : Scope) (env : Env) : List Addr → Heap → Flow → Fl × En → Prop := fun σ h f p => FlR Λ σ h f p.1 ∧ Vars Λ sc env p.2 σ h
noncomputable def IS (W : Wd) (A : Around) (I : In) : Prop := ∀ Λ sc env ρ b, EnvOk Λ sc env → TopOk A W env → SX W A Λ (XL env) (relS Λ sc env) (Vars Λ sc env ρ) (I.st sc ρ b) (exec b env)

theorem lookup_setE {x : Str} {d : D} : ∀ {ρ : En} {y : Str}, (setE x d ρ).lookup y = if y == x then some d else ρ.lookup y
  | [], y => by
    unfold setE
    rw [List.lookup_cons, List.lookup_nil]
    cases h : y == x <;> rfl
  | (z, e) :: r, y => by
    unfold setE
    by_cases hz : (x == z) = true
    · have hz' := beq_iff_eq.mp hz
      subst hz'
      rw [if_pos hz, List.lookup_cons, List.lookup_cons]
      cases h : y == x <;> rfl
    · rw [if_neg hz, List.lookup_cons, List.lookup_cons, lookup_setE]
      cases h : y == z with
      | true =>
        have : (y == x) = false := by
          have h' := beq_iff_eq.mp h
          subst h'
          cases q : y == x with
          | false => rfl
          | true => exact absurd (by rw [beq_iff_eq] at q ⊢; exact q.symm) hz
        rw [this]; rfl
      | false => rfl

theorem swaps_not {v : PySem.Expr} {t : Option PySem.Expr} {l : Nat} {env : Env} (h : isComp v = false) : swapsWith v t l env = pure false := by
  cases v <;> first | rfl | (first | subst h | contradiction | (injection h with h; subst h) | cases h)
theorem swapped_env {ts : List PySem.Expr} {v : PySem.Expr} {env : Env} {sc : Scope} (h : env.scope = sc) : swappedStores ts v env = swappedStores ts v (envS sc) := by
  subst h; rfl

section
variable {W : Wd} {A : Around} {Λ σ : List Addr} {E : Value → Shared → Prop} {s : Shared} {st : Sto} {sc : Scope} {env : Env} {ρ : En}

/-- a protected object turned -/
theorem Inv.touch {h h' : Heap} {a : Addr} {o : Obj} (I : Inv W σ Λ h st) (hs : Heap.SameBut a h h') (ha : a ∈ Λ) (ho : h'.get? a = some o) (hm : a ∈ W.fr → ∃ m, h'.Ns a m) : Inv W σ Λ h' st := by
  have kp : Kp (Bad σ Λ) h h' := Kp.same hs (.inr ha) ho
  have hne : ∀ b o, W.base.get? b = some o → b ≠ a := fun b o e q => by
    have := (I.new a (.inr ha)).1
    rw [← q] at this
    exact absurd (Heap.lt_size e) (Nat.not_lt.mpr this)
  refine ⟨fun b o e => (hs.2 b (hne b o e)).trans (I.keep b o e), fun b q => ⟨(I.new b q).1, ?_⟩, ⟨I.store.1, I.store.2.1, fun i b l e1 e2 => ?_⟩, I.apart, fun b q => ⟨(I.dic b q).1, ?_⟩⟩
  · obtain ⟨o, e⟩ := (I.new b q).2
    exact (kp b o e).2
  · obtain ⟨vs, q, r, z⟩ := I.store.2.2 i b l e1 e2
    have hb : b ≠ a := fun e => I.apart b (List.mem_of_getElem? e1) (e ▸ ha)
    exact ⟨vs, q.at fun o' e => (hs.2 b hb).trans e, r.step Fresh.refl kp, z⟩
  · by_cases hb : b = a
    · subst hb; exact hm q
    · exact ns_ex (I.dic b q).2 fun o e => .inl ((hs.2 b hb).trans e)

theorem ns_obj {h : Heap} {a : Addr} {m : Str → Option Value} (n : h.Ns a m) : ∃ o, h.get? a = some o := by
  obtain ⟨o, es, ep, ho, _⟩ := n
  exact ⟨o, ho⟩

/-- the names behind a store -/
theorem Vars.set {h h' : Heap} {x : Str} {d : D} {v : Value} {m : Str → Option Value} (hloc : env.locals ∈ Λ) (hs : Heap.SameBut env.locals h h') (hm : h.Ns env.locals m) (hm' : h'.Ns env.locals (fun y => if y = x then some v else m y))
    (V : ∀ y d, ρ.lookup y = some d →
      (sc.names.lookup y = some .local → ∃ v, m y = some v ∧ RepD σ (Bad σ Λ) h v d) ∧
      (sc.names.lookup y = some .cell ∨ sc.names.lookup y = some .free → ∃ c o v, env.cells.lookup y = some c ∧ h.get? c = some o ∧ o.data = .cell (some v) ∧ c ∉ σ ∧ RepD σ (Bad σ Λ) h v d))
    (hx : sc.names.lookup x = some .local) (r : RepD σ (Bad σ Λ) h v d) : Vars Λ sc env (setE x d ρ) σ h' := by
  obtain ⟨o, ho⟩ := ns_obj hm'
  have kp : Kp (Bad σ Λ) h h' := Kp.same hs (.inr hloc) ho
  refine ⟨_, hm', fun y e he => ?_⟩
  rw [lookup_setE] at he
  by_cases hy : (y == x) = true
  · have hy' := beq_iff_eq.mp hy
    subst hy'
    rw [if_pos hy] at he
    (first | subst he | contradiction | (injection he with he; subst he) | cases he)
    refine ⟨fun _ => ⟨v, if_pos rfl, r.step Fresh.refl kp⟩, fun q => ?_⟩
    rw [hx] at q
    rcases q with q | q <;> (first | subst q | contradiction | (injection q with q; subst q) | cases q)
  · rw [if_neg hy] at he
    have hy' : ¬ y = x := fun q => hy (beq_iff_eq.mpr q)
    refine ⟨fun q => ?_, fun q => ?_⟩
    · obtain ⟨v, a, b⟩ := (V y e he).1 q
      exact ⟨v, by rw [if_neg hy']; exact a, b.step Fresh.refl kp⟩
    · obtain ⟨c, o', v, a, ho', hd, hc, b⟩ := (V y e he).2 q
      have hcl : c ≠ env.locals := fun q => by
        obtain ⟨o2, es, ep, h2, hd2, _⟩ := hm
        rw [← q, ho'] at h2
        (first | subst h2 | contradiction | (injection h2 with h2; subst h2) | cases h2)
        rw [hd] at hd2; (first | subst hd2 | contradiction | (injection hd2 with hd2; subst hd2) | cases hd2)
      exact ⟨c, o', v, a, (hs.2 c hcl).trans ho', hd, hc, b.step Fresh.refl kp⟩

theorem kind_false (hE : EnvOk Λ sc env) : (env.scope.kind == .class || (env.scope.kind == .module && env.locals != env.globals)) = false := by
  rw [hE.scope, hE.kind]; rfl

/-- one name stored -/
theorem store_one (hE : EnvOk Λ sc env) {x : Str} {d : D} {v : Value} {Q : Unit → Shared → Prop} (iv : Inv W σ Λ s.heap st) (V : Vars Λ sc env ρ σ s.heap) (hx : sc.names.lookup x = some .local) (r : RepD σ (Bad σ Λ) s.heap v d)
    (q : ∀ h' tk, Inv W σ Λ h' st → Kp (XL env) s.heap h' → Vars Λ sc env (setE x d ρ) σ h' → Q () { s with heap := h', toks := tk }) : wpAny (model W.prog W.w) A (storeName env x v) Q E s := by
  obtain ⟨m, hn, V⟩ := V
  refine wpAny_storeName_local (by unfold Env.kindOf; rw [hE.scope]; exact hx) hn (fun h' hn' hs => ?_) (kind_false hE)
  obtain ⟨o, ho⟩ := ns_obj hn'
  exact q h' (s.toks + 1) (iv.touch hs hE.loc ho fun _ => ⟨_, hn'⟩) (Kp.same hs (.inl rfl) ho) (Vars.set hE.loc hs hn hn' V hx r)

/-- names stored in a row; the last one wins -/
theorem stores_sound (hE : EnvOk Λ sc env) : ∀ (zs : List (Str × Value)) (ts : List (Value → Sem Unit)) {s : Shared} {m : Str → Option Value} {Q : Unit → Shared → Prop}, ts.length = zs.length →
    (∀ (i : Nat) (z : Str × Value) (t : Value → Sem Unit), zs[i]? = some z → ts[i]? = some t → ∀ (v : Value) (s : Shared) (Q : Unit → Shared → Prop), wpAny (model W.prog W.w) A (storeName env z.1 v) Q E s → wpAny (model W.prog W.w) A (t v) Q E s) →
    (∀ z ∈ zs, sc.names.lookup z.1 = some .local) → Inv W σ Λ s.heap st → s.heap.Ns env.locals m →
    (∀ h' tk m', Inv W σ Λ h' st → Kp (· = env.locals) s.heap h' → h'.Ns env.locals m' → (∀ y, m' y = match zs.reverse.lookup y with | some v => some v | none => m y) → Q () { s with heap := h', toks := tk }) →
    wpAny (model W.prog W.w) A (assignInOrder ts (zs.map (·.2))) Q E s
  | [], [], s, m, Q, _, _, _, iv, hn, q => wpAny_assignInOrder_none (q s.heap s.toks m iv Kp.refl hn fun y => rfl)
  | z :: zs, t :: ts, s, m, Q, hl, ht, hz, iv, hn, q => by
    rw [List.map_cons]
    refine wpAny_assignInOrder_more (ht 0 z t rfl rfl z.2 s _ ?_)
    refine wpAny_storeName_local (by unfold Env.kindOf; rw [hE.scope]; exact hz z (.head _)) hn (fun h' hn' hs => ?_) (kind_false hE)
    obtain ⟨o, ho⟩ := ns_obj hn'
    refine stores_sound hE zs ts (m := fun y => if y = z.1 then some z.2 else m y) (by simpa using hl) (fun i z' t' e1 e2 => ht (i + 1) z' t' (by simpa using e1) (by simpa using e2)) (fun z' hz' => hz z' (.tail _ hz')) (iv.touch hs hE.loc ho fun _ => ⟨_, hn'⟩) hn' fun h'' tk m' iv' k' hn'' hm' => ?_
    refine q h'' tk m' iv' ((Kp.same (W := fun a => a = env.locals) hs rfl ho).trans k' fun _ _ q => q) hn'' fun y => ?_
    rw [hm' y, List.reverse_cons, List.lookup_append]
    generalize hzs : zs.reverse.lookup y = zz
    induction zz using Option.casesOn with
    | some v => rfl
    | none =>
      rw [Option.none_or, List.lookup_cons, List.lookup_nil]
      by_cases hy : y = z.1
      · subst hy; simp
      · have : (y == z.1) = false := beq_eq_false_iff_ne.mpr hy
        rw [this]; simp [hy]
  | [], _ :: _, _, _, _, hl, _, _, _, _, _ => by (first | subst hl | contradiction | (injection hl with hl; subst hl) | cases hl)
  | _ :: _, [], _, _, _, hl, _, _, _, _, _ => by (first | subst hl | contradiction | (injection hl with hl; subst hl) | cases hl)

theorem putAll_spec : ∀ {xs : List Str} {l : List V} {ρ ρ' : En}, putAll sc xs l ρ = some ρ' → distinct xs = true → xs.length = l.length ∧ (∀ x ∈ xs, sc.names.lookup x = some .local) ∧
    ∀ y, ρ'.lookup y = match (xs.zip (l.map D.v)).lookup y with | some d => some d | none => ρ.lookup y
  | [], [], ρ, ρ', h, _ => by (first | subst h | contradiction | (injection h with h; subst h) | cases h); exact ⟨rfl, fun x hx => (nomatch hx), fun y => rfl⟩
  | x :: xs, v :: l, ρ, ρ', h, hd => by
    unfold putAll at h
    unfold distinct at hd
    obtain ⟨hd1, hd2⟩ := Bool.and_eq_true_iff.mp hd
    split at h
    · rename_i hx
      obtain ⟨a, b, c⟩ := putAll_spec h hd2
      refine ⟨congrArg (· + 1) a, fun y hy => ?_, fun y => ?_⟩
      · rcases List.mem_cons.mp hy with rfl | hy
        · simpa using hx
        · exact b y hy
      · rw [c y, List.map_cons, List.zip_cons_cons, List.lookup_cons, lookup_setE]
        cases hyx : y == x with
        | false => rfl
        | true =>
          have : (xs.zip (l.map D.v)).lookup y = none := by
            rw [List.lookup_eq_none_iff]
            intro p hp
            have hm := (List.of_mem_zip (a := p.1) (b := p.2) hp).1
            cases q : y == p.1 with
            | false => simp [bne, q]
            | true =>
              exfalso
              have e1 := beq_iff_eq.mp hyx
              have e2 := beq_iff_eq.mp q
              subst e1
              rw [← e2] at hm
              rw [Bool.not_eq_true', ← Bool.not_eq_true] at hd1
              exact hd1 (List.contains_iff_mem.mpr hm)
          rw [this]; rfl
    · (first | subst h | contradiction | (injection h with h; subst h) | cases h)
  | [], _ :: _, _, _, h, _ => by (first | subst h | contradiction | (injection h with h; subst h) | cases h)
  | _ :: _, [], _, _, h, _ => by (first | subst h | contradiction | (injection h with h; subst h) | cases h)

theorem exs_sound {I : In} (hE : EnvOk Λ sc env) (hc : TopOk A W env) (hS : IS W A I) : ∀ (b : List Stmt) (ρ : En), SX W A Λ (XL env) (relS Λ sc env) (Vars Λ sc env ρ) (exs (fun ρ => I.st sc ρ) b ρ) (execs b env)
  | [], ρ => fun E σ s st Q iv V H => wpAny_execs_nil (Po.now (tk := s.toks) (b := Flow.next) H iv ⟨trivial, V⟩)
  | a :: b, ρ => fun E σ s st Q iv V H => by
    unfold exs at H
    refine wpAny_execs_cons (hS Λ sc env ρ a hE hc E σ s st _ iv V (Po.seq0 H fun p st₁ σ₁ h₁ tk₁ f f₁ k₁ i₁ r₁ H₁ => ?_))
    obtain ⟨fl, ρ₁⟩ := p
    obtain ⟨r₁, V₁⟩ := r₁
    cases fl with
    | next =>
      cases f with
      | next => exact exs_sound hE hc hS b ρ₁ E σ₁ _ st₁ _ i₁ V₁ H₁
      | _ => exact r₁.elim
    | brk =>
      cases f with
      | brk => exact Po.now (tk := tk₁) (b := Flow.brk) H₁ i₁ ⟨trivial, V₁⟩
      | _ => exact r₁.elim
    | cont =>
      cases f with
      | cont => exact Po.now (tk := tk₁) (b := Flow.cont) H₁ i₁ ⟨trivial, V₁⟩
      | _ => exact r₁.elim
    | ret d =>
      cases f with
      | ret v => exact Po.now (tk := tk₁) (b := Flow.ret v) H₁ i₁ ⟨r₁, V₁⟩
      | _ => exact r₁.elim

end
end Mine

end

section
open PySem PySem.W PySem.Spec PySem.Calls PyProof.Rows
set_option maxRecDepth 100000
namespace Mine

section
variable {M : Model} {W : Wd} {A : Around} {E : Value → Shared → Prop} {s : Shared} {hr : Heap} {e : Addr}

/-- what stood at the raise stands -/
noncomputable def KeptE (W : Wd) (hr h : Heap) (e : Addr) : Prop := (∀ b o, hr.get? b = some o → b ≠ e → At h b o) ∧ ∀ b o, W.base.get? b = some o → h.get? b = some o
theorem KeptE.none {h : Heap} (k : KeptE W hr h e) {oe : Obj} (he : h.get? e = some oe) {b : Addr} (n : h.get? b = none) : hr.get? b = none := by
  generalize z : hr.get? b = zz
  induction zz using Option.casesOn with
  | none => rfl
  | some o =>
    by_cases q : b = e
    · subst q; rw [n] at he; (first | subst he | contradiction | (injection he with he; subst he) | cases he)
    · obtain ⟨sl, e'⟩ := (k.1 b o z q).ex
      rw [n] at e'; (first | subst e' | contradiction | (injection e' with e'; subst e') | cases e')

theorem frames_fun {σ Λ : List Addr} {st : Sto} (I : Inv W σ Λ hr st) {h : Heap} (k : KeptE W hr h e) (hef : e ∉ W.fr) : ∀ {l : List Env}, FrOk W l → h.FunFrames W.base l
  | [], _ => trivial
  | env :: l, H => by
    obtain ⟨h1, L, h2, h3⟩ := H env (.head _)
    obtain ⟨hL, m, o, es, ep, ho, hd, _⟩ := I.dic L h3
    obtain ⟨sl, e'⟩ := (k.1 L o ho fun q => hef (q ▸ h3)).ex
    refine ⟨h1, ⟨L, _, h2, ?_, e', fun vs q => ?_⟩, frames_fun I k hef fun env' hm => H env' (.tail _ hm)⟩
    · generalize z : W.base.get? L = zz
      induction zz using Option.casesOn with
      | none => rfl
      | some o' => exact absurd (Heap.lt_size z) (Nat.not_lt.mpr (I.new L (.inr hL)).1)
    · have q : o.data = .fields vs := q
      rw [hd] at q; (first | subst q | contradiction | (injection q with q; subst q) | cases q)

theorem mem_frames {l : List Env} (H : FrOk W l) {b : Addr} (hb : b ∈ l.filterMap (·.frame)) : b ∈ W.fr := by
  obtain ⟨env, h1, h2⟩ := List.mem_filterMap.mp hb
  obtain ⟨_, L, h3, h4⟩ := H env h1
  rw [h3] at h2
  (first | subst h2 | contradiction | (injection h2 with h2; subst h2) | cases h2)
  exact h4

theorem entry_own {env : Env} {outer : List Env} {L : Addr} {oe : Obj} {vs : Array Value} {head : Value} {hadNext : Bool} {σ Λ : List Addr} {st : Sto} {Q : Unit → Shared → Prop}
    (hfr : A.frames = some (env :: outer)) (hl : FrOk W (env :: outer)) (hf : env.frame = some L) (I : Inv W σ Λ hr st) (hef : e ∉ W.fr) (heb : W.base.get? e = none)
    (he : s.heap.get? e = some oe) (k : KeptE W hr s.heap e) (hd : oe.data = .fields vs) (hsz : 1 < vs.size)
    (h : ∀ h' T oT ts, KeptE W hr h' e → h'.get? e = some { oe with data := .fields (vs.setIfInBounds 1 (.ref T)) } → hr.get? T = none → h'.get? T = some oT → oT.data = .fields ts → ts[3]? = some .none → Q () { s with heap := h' }) :
    wpAny M A (do let a ← frameOf env; let pl ← entryPlaceOf L hadNext; let b ← EntryCells.newEntry head a .none (rawInt L) .none pl; setField (.ref e) 1 b) (fun _ s' => wpAny M A (setFlight (.ref e) none) Q E s') E s := by
  have FF := frames_fun I k hef hl
  refine wpAny_bind (wpAny_frameOf_fun hfr FF hf fun h₁ hs₁ => ?_)
  refine wpAny_bind (wpAny_entryPlaceOf fun pl hpl => ?_)
  unfold EntryCells.newEntry newFields
  refine wpAny_bind (wpAny_newObj_type ?_ (hpl.sizeOk5 _ _ _ _ _))
  have he₁ : h₁.get? e = some oe := (hs₁.2.1 e fun q => hef (mem_frames hl q)).trans he
  have k₁ : KeptE W hr h₁ e := ⟨fun b o ho hb => (k.1 b o ho hb).trans fun o' e' => by
    by_cases q : b ∈ W.fr
    · obtain ⟨_, m, o2, es, ep, ho2, hd2, _⟩ := I.dic b q
      rw [ho] at ho2; (first | subst ho2 | contradiction | (injection ho2 with ho2; subst ho2) | cases ho2)
      obtain ⟨sl, e3⟩ := hs₁.2.2 b o' e'
      refine .inr ⟨?_, sl, e3⟩
      obtain ⟨sl2, e4⟩ := (k.1 b o ho hb).ex
      rw [e'] at e4; (first | subst e4 | contradiction | (injection e4 with e4; subst e4) | cases e4)
      exact ⟨_, _, hd2⟩
    · exact .inl ((hs₁.2.1 b fun z => q (mem_frames hl z)).trans e'), fun b o e' => (hs₁.2.1 b fun z => by rw [(FF.mem z).1] at e'; (first | subst e' | contradiction | (injection e' with e'; subst e') | cases e')).trans (k.2 b o e')⟩
  generalize hTo : ({ cls := .type "traceback", dict := none, data := .fields ([head, .ref L, .none, rawInt L, .none] ++ (if pl.isEmpty then List.replicate 6 Value.none else pl)).toArray } : Obj) = To
  have hTd : To.data = .fields ([head, .ref L, .none, rawInt L, .none] ++ (if pl.isEmpty then List.replicate 6 Value.none else pl)).toArray := by rw [← hTo]
  have hTe : h₁.objs.size ≠ e := Nat.ne_of_gt (Heap.lt_size he₁)
  have he₂ := Heap.get?_push_of_some (h := h₁) To he₁
  refine wpAny_setField he₂ hd hsz ?_
  have hd₃ := Obj.data_mapFields hd (·.setIfInBounds 1 (Value.ref h₁.objs.size))
  have he₃ := Heap.get?_update_self (Obj.mapFields (·.setIfInBounds 1 (Value.ref h₁.objs.size))) he₂ (Obj.isFreed_of_fields hd₃)
  have hoe : Obj.mapFields (·.setIfInBounds 1 (Value.ref h₁.objs.size)) oe = { oe with data := .fields (vs.setIfInBounds 1 (.ref h₁.objs.size)) } := by
    obtain ⟨a1, a2, a3, a4⟩ := oe
    have hd : a3 = .fields vs := hd
    subst hd
    rfl
  rw [hoe] at he₃
  have hT₃ := (Heap.get?_update_other (h₁.push To) (Obj.mapFields (·.setIfInBounds 1 (Value.ref h₁.objs.size))) (Ne.symm hTe)).trans (Heap.get?_push_size h₁ (Obj.isFreed_of_fields hTd))
  have hnT : hr.get? h₁.objs.size = none := k₁.none he₁ get_size
  unfold setFlight
  refine wpAny_bind (wpAny_field he₃ rfl (x := .ref h₁.objs.size) (by simp [hsz]) ?_)
  rw [if_pos (show (Value.ref h₁.objs.size != Value.none) = true from by simp)]
  refine wpAny_setField hT₃ hTd (by simp only [List.size_toArray, List.length_append, List.length_cons, List.length_nil] <;> omega) ?_
  have keep : ∀ b o, b ≠ e → h₁.get? b = some o →
      (((h₁.push To).update e (Obj.mapFields (·.setIfInBounds 1 (Value.ref h₁.objs.size)))).update h₁.objs.size (Obj.mapFields (·.setIfInBounds 3 ((none : Option Addr).elim Value.none fun f => rawInt f)))).get? b = some o := fun b o hbe hb => by
    have hbT : h₁.objs.size ≠ b := Nat.ne_of_gt (Heap.lt_size hb)
    rw [Heap.get?_update_other _ _ hbT, Heap.get?_update_other _ _ (Ne.symm hbe)]
    exact Heap.get?_push_of_some _ hb
  refine h _ h₁.objs.size _ _ ⟨fun b o ho hb => (k₁.1 b o ho hb).trans fun o' e' => .inl (keep b o' hb e'), fun b o e' => keep b o (fun q => by rw [q, heb] at e'; (first | subst e' | contradiction | (injection e' with e'; subst e') | cases e')) (k₁.2 b o e')⟩ ?_ hnT (Heap.get?_update_self _ hT₃ (Obj.isFreed_of_fields (Obj.data_mapFields hTd _))) (Obj.data_mapFields hTd _) ?_
  · rw [Heap.get?_update_other _ _ hTe]; exact he₃
  · first | (simp; done) | (rcases hpl with rfl | ⟨_, _, _, _, _, _, _, rfl⟩ <;> simp)

/-- an exception leaves a frame, or comes to a try in it -/
theorem leave_flown {env : Env} {outer : List Env} {L : Addr} {σ Λ : List Addr} {st : Sto} {B : Addr → Prop} {c : Addr} {ns : List Str} {l : List V} {Q : Unit → Shared → Prop}
    (hfr : A.frames = some (env :: outer)) (hl : FrOk W (env :: outer)) (hf : env.frame = some L) (I : Inv W σ Λ hr st) (F : Flown W B hr s.heap e c ns l)
    (q : ∀ h', Flown W B hr h' e c ns l → Q () { s with heap := h' }) :
    wpAny M A (noteFrame (.ref e) env) (fun _ s' => wpAny M A (setFlight (.ref e) none) Q E s') E s := by
  obtain ⟨k, ⟨hex, hB, hef, heb⟩, dx, oe, vs, a0, he, hc, hdx, hd, h0, h1, rest⟩ := F
  unfold noteFrame
  simp only [hf]
  have fin : ∀ (s' : Shared), s'.heap.get? e = some oe → KeptE W hr s'.heap e → ∀ hn head, 1 < vs.size → (∀ h', ({ s' with heap := h' } : Shared) = { s with heap := h' }) →
      wpAny M A (do let a ← frameOf env; let pl ← entryPlaceOf L hn; let b ← EntryCells.newEntry head a .none (rawInt L) .none pl; setField (.ref e) 1 b) (fun _ s' => wpAny M A (setFlight (.ref e) none) Q E s') E s' := fun s' he' k' hn head hsz hs => by
    refine entry_own (hr := hr) hfr hl hf I hef heb he' k' hd hsz fun h' T oT ts k2 e2 nT hT hTd h3 => ?_
    rw [hs]
    refine q h' ⟨k2, ⟨hex, hB, hef, heb⟩, dx, _, _, a0, e2, hc, hdx, rfl, ?_, .inr ⟨T, oT, ts, ?_, nT, hT, hTd, h3⟩, rest⟩
    · rw [Array.getElem?_setIfInBounds_ne (by decide)]; exact h0
    · simp [hsz]
  rcases h1 with h1 | ⟨T, oT, ts, h1, nT, hT, hTd, h3⟩
  · refine wpAny_bind (wpAny_field he hd h1 ?_)
    rw [if_neg (by decide)]
    exact fin s he k _ _ (Array.getElem?_eq_some_iff.mp h1).1 fun _ => rfl
  · refine wpAny_bind (wpAny_field he hd h1 ?_)
    rw [if_pos (show (Value.ref T != Value.none) = true from by simp)]
    refine wpAny_bind (wpAny_field hT hTd h3 ?_)
    rw [if_neg (show ¬ ((Value.none == rawInt L) = true) from by simp [rawInt])]
    refine wpAny_bind (wpAny_setField hT hTd (Array.getElem?_eq_some_iff.mp h3).1 ?_)
    have hTe : T ≠ e := fun q => by
      obtain ⟨o, ho⟩ := hex
      rw [q, ho] at nT; (first | subst nT | contradiction | (injection nT with nT; subst nT) | cases nT)
    have other : ∀ b, b ≠ T → (s.heap.update T (Obj.mapFields (·.setIfInBounds 3 Value.none))).get? b = s.heap.get? b := fun b hb => Heap.get?_update_other _ _ (Ne.symm hb)
    have nb : ∀ b o, hr.get? b = some o → b ≠ T := fun b o ho q => by rw [q, nT] at ho; (first | subst ho | contradiction | (injection ho with ho; subst ho) | cases ho)
    exact fin _ ((other e (Ne.symm hTe)).trans he) ⟨fun b o ho hb => (k.1 b o ho hb).trans fun o' e' => .inl ((other b (nb b o ho)).trans e'), fun b o e' => (other b (nb b o (I.keep b o e'))).trans (k.2 b o e')⟩ _ _ (Array.getElem?_eq_some_iff.mp h1).1 fun _ => rfl
end
end Mine

end

section
open PySem PySem.W PySem.Spec PySem.Calls PyProof.Rows
set_option maxRecDepth 100000
set_option maxHeartbeats 1000000
namespace Mine

noncomputable abbrev eNew : String := "Exception.__new__"
noncomputable abbrev eB0 : List Value := [.type "Exception", .type "BaseException", .type "object"]
structure BmOk (bm : List Value) : Prop where
  hasB : bm.contains (.type "Exception") = true
  noAttr : bm.contains (.type "AttributeError") = false
  noName : bm.contains (.type "NameError") = false

section
variable {nm q : Str} {C N : Addr} {bs bm : List Value} {hdct : Bool} {sn : List Str} {sub : List Value} {ab : Bool} {col : Option Bool} {dd : Option Addr} {k0 k1 k2 k3 k5 : Option Value}

theorem check_new {M : Model} {A : Around} {E : Value → Shared → Prop} {h : Heap} {g : Array GenState} {d : Drawn} {t : Nat} {os : OsState} (B : BmOk bm) {rest : List Value} {Q : Unit → Shared → Prop}
    (hC : h.get? C = some (excClassObj nm q C N bs bm hdct sn sub ab col dd k0 k1 k2 k3 k5 eNew)) (hq : Q () ⟨h, g, d, t, os⟩) : wpAny M A (checkBuiltinCall eNew ⟨.ref C :: rest, []⟩) Q E ⟨h, g, d, t, os⟩ := by
  have F := PySem.F.excBase_Exception
  have hcont : (Value.ref C :: bm).contains (.type "Exception") = true := by rw [List.contains_cons, B.hasB, Bool.or_true]
  have hstar := F.noStar
  simp only [checkBuiltinCall, F.newKind, F.newSplit, F.newRow]
  repeat (first | refine wpAny_loadPart_at hC ?_ | (refine wpAny_isSubtype_exc hC ?_; rw [hcont]) | refine wpAny_staticBase_exc hC ?_ | refine wpAny_madeBy_exc hC ?_ | simp only [bne_self_eq_false, Bool.false_eq_true, if_false] | wp_step)
  exact hq

noncomputable abbrev excNew (C t : Addr) : Obj := { cls := .ref C, data := .fields #[.ref t, .none, .none, .none, .bool false, .none] }
noncomputable abbrev excHeap (h : Heap) (C : Addr) (rest : List Value) : Heap := (h.push { cls := .type "tuple", data := .seq rest.toArray }).push (excNew C h.objs.size)

theorem exc_new {prog : Program} {w : World} {A : Around} {R : Result → Shared → Prop} {h : Heap} {g : Array GenState} {d : Drawn} {t : Nat} {os : OsState} (B : BmOk bm) {rest : List Value}
    (hC : h.get? C = some (excClassObj nm q C N bs bm hdct sn sub ab col dd k0 k1 k2 k3 k5 eNew)) (hq : R (.ok (.ret (.ref (h.objs.size + 1)))) ⟨excHeap h C rest, g, d, t, os⟩) (hrest : rest.length ≤ sizeLine) :
    codeAny (model prog w) A (.builtin eNew ⟨.ref C :: rest, []⟩) R ⟨h, g, d, t, os⟩ := by
  have F := PySem.F.excBase_Exception
  have hends := F.ends
  have hcB : (Value.ref C :: bm).contains (.type "Exception") = true := by rw [List.contains_cons, B.hasB, Bool.or_true]
  have hcA : (Value.ref C :: bm).contains (.type "AttributeError") = false := by rw [List.contains_cons, B.noAttr]; rfl
  have hcN : (Value.ref C :: bm).contains (.type "NameError") = false := by rw [List.contains_cons, B.noName]; rfl
  refine codeAny_builtinAt F.entry ?_
  unfold Builtin.«BaseException.__new__»
  refine PySem.wpAt_bind ?_
  show PySem.wpAt _ _ _ (stack >>= _) _ _ _
  refine PySem.wpAt_bind (PySem.wpAt_stack fun p below => PySem.wpAt_of_wpAny ?_)
  wp_walk
  refine PySem.wpAt_of_wpAny ?_
  rw [F.owner]
  repeat (first | with_reducible refine wpAny_madeHere_exc F.canon hC ?_ | with_reducible refine wpAny_loadPart_at hC ?_ | (with_reducible refine wpAny_isSubtype_exc hC ?_; first | rw [hcB] | rw [hcA] | rw [hcN]) | wp_step)
  show R _ _
  rw [Heap.size_push]
  exact hq

theorem sub_exc {M : Model} {h : Heap} {base : Value} (hC : h.get? C = some (excClassObj nm q C N bs bm hdct sn sub ab col dd k0 k1 k2 k3 k5 eNew)) : Looks M h (isSubtype (.ref C) base) ((Value.ref C :: bm).contains base) := by
  intro A Q E s k z
  obtain ⟨hh, g, d, t, os⟩ := s
  exact wpAny_isSubtype_exc (k _ _ hC) z

theorem exc_core {prog : Program} {w : World} {A : Around} {E : Value → Shared → Prop} {h : Heap} {g : Array GenState} {d : Drawn} {t : Nat} {os : OsState} (B : BmOk bm) {rest : List Value} {init : Value} {Q : Value → Shared → Prop}
    (hC : h.get? C = some (excClassObj nm q C N bs bm hdct sn sub ab col dd k0 k1 k2 k3 k5 eNew)) (hi : Looks (model prog w) h (typeLookup (.ref C) "__init__") (some init)) (hb : ∀ self, Looks (model prog w) h (bindSpecial init self) (init, [self])) (hrest : rest.length ≤ sizeLine)
    (hq : codeAny (model prog w) (A.under (.builtin "type.__call__" ⟨.ref C :: rest, []⟩)) (.call init ⟨.ref (h.objs.size + 1) :: rest, []⟩) (fun r s' => match r with | .ok (.ret v) => v = .none ∧ Q (.ref (h.objs.size + 1)) s' | .ok _ => False | .error e => E e s') ⟨excHeap h C rest, g, d, t, os⟩) :
    wpAny (model prog w) A (call (.ref C) rest) Q E ⟨h, g, d, t, os⟩ := by
  have F := PySem.F.excBase_Exception
  have f1 := tc_lookup
  have f2 := tc_bind (.ref C)
  have hT : (⟨h, g, d, t, os⟩ : Shared).TypeIs (.ref C) "type" := ⟨_, hC, rfl⟩
  refine wpAny_call (codeAny_of_tree ?_)
  show wpAny _ _ (callAny (.ref C) _) _ _ _
  repeat (any_goals (first | assumption | with_reducible refine wpAny_loadPart_at hC ?_ | wp_step))
  refine ⟨rfl, ?_⟩
  refine codeAny_call_builtin_at (Code.quiet_builtin _ (by decide +kernel)) entry_typeCall (wpAny_check_type_call_sub hC ?_)
  unfold Builtin.«type.__call__»
  repeat (first | with_reducible refine wpAny_loadPart_at hC ?_ | with_reducible refine wpAny_madeBy_exc hC ?_ | wp_step)
  refine codeAny_call_builtin_code (Code.quiet_builtin _ F.quiet) (check_new B hC ?_)
  refine exc_new B hC ?_ hrest
  show wpAny _ _ _ _ _ _
  have k : ∀ b o, h.get? b = some o → (excHeap h C rest).get? b = some o := fun b o e => Heap.get?_push_of_some _ (Heap.get?_push_of_some _ e)
  have hx : (excHeap h C rest).get? (h.objs.size + 1) = some (excNew C h.objs.size) := by
    have := Heap.get?_push_size (h.push { cls := .type "tuple", data := .seq rest.toArray }) (o := excNew C h.objs.size) rfl
    rw [Heap.size_push] at this
    exact this
  have t1 : Looks (model prog w) (excHeap h C rest) (typeOf (.ref (h.objs.size + 1))) (.ref C) := (Looks.ld hx).andThen .now
  have s1 : Looks (model prog w) (excHeap h C rest) (isSubtype (.ref C) (.ref C)) true := by
    have z := sub_exc (M := model prog w) (base := .ref C) (k _ _ hC)
    rw [show (Value.ref C :: bm).contains (.ref C) = true by simp] at z
    exact z
  have i1 := hi.keeps k
  have b1 := (hb (.ref (h.objs.size + 1))).keeps k
  show wpAny _ _ _ _ _ ⟨excHeap h C rest, g, d, t, os⟩
  unfold isInstance callSpecial? specialOf
  repeat (first | with_reducible refine wpAny_call ?_ | lk)
  refine codeAny_mono hq fun r s' z => ?_
  rcases r with e | (v | _ | _ | _) <;> first | exact z | exact z.elim | skip
  obtain ⟨rfl, z⟩ := z
  exact wpAny_pure (wpAny_pure z)
end
end Mine

end

section
open PySem PySem.W PySem.Spec PySem.Calls PyProof.Rows Builtin Builtin.ObjectAttr
set_option maxRecDepth 100000
set_option maxHeartbeats 1000000
namespace Mine

noncomputable def onlyExc : List Value → Bool
  | .ref _ :: r => onlyExc r
  | l => l == [.type "Exception", .type "BaseException", .type "object"]
noncomputable def over (K : Frag) (C : Addr) : Bool := (clsIn K C).any fun cd => onlyObject cd.mro || onlyExc cd.mro
theorem refuse_exc (self : Value) : ∀ {l : List Value}, onlyExc l = true → refuseLoop self "__setattr__" l = pure () ∧ l.contains (.type "object") = true
  | [], h => by (first | subst h | contradiction | (injection h with h; subst h) | cases h)
  | a :: r, h => by
    cases a with
    | ref c =>
      obtain ⟨h1, h2⟩ := refuse_exc self (l := r) h
      exact ⟨by rw [refuseLoop_ref]; exact h1, by rw [List.contains_cons, h2, Bool.or_true]⟩
    | _ =>
      have h := beq_iff_eq.mp (h : (_ == _) = true)
      rw [h]
      exact ⟨PySem.F.store_Exception.passes self, by decide⟩
theorem refuse_any {self : Value} {l : List Value} (h : (onlyObject l || onlyExc l) = true) : refuseLoop self "__setattr__" l = pure () ∧ l.contains (.type "object") = true := by
  rcases Bool.or_eq_true_iff.mp h with h | h
  · exact ⟨refuse_only self h, only_has h⟩
  · exact refuse_exc self h

section
variable {prog : Program} {w : World} {A : Around} {E : Value → Shared → Prop} {s : Shared} {K : Frag} {x C : Addr} {name : Str} {v : Value} {ox : Obj} {od : Option Obj}

theorem osa_any {tk : Tok} {R : Result → Shared → Prop} (X : K.In s.heap) (I : InstAt s.heap x ox C od) (hp : over K C = true) (ht : takerIn K C name = some none)
    (h : ∀ b, wpAny (model prog w) A.in1 (storeInOwnDict (.ref x) (.ref C) (.str name tk) name v b)
      (fun fin s' => match fin with | .done f => R (.ok f) s' | .again c' => c'.quiet = true ∧ codeAny (model prog w) A c' R s') (fun e s' => R (.error e) s') s) :
    codeAny (model prog w) A (.call (.builtin "object.__setattr__") ⟨[.ref x, .str name tk, v], []⟩) R s := by
  have SF := PySem.F.store_object
  obtain ⟨cd, hc, ho⟩ := any_some hp
  obtain ⟨r1, r2⟩ := refuse_any (self := .ref x) ho
  have ne : cd.mro.isEmpty = false := by generalize q : cd.mro = zz; induction zz using List.casesOn with | nil => rw [q] at r2; (first | subst r2 | contradiction | (injection r2 with r2; subst r2) | cases r2) | cons _ _ => rfl
  have sub : Looks (model prog w) s.heap (isInstance (.ref x) (.type "object")) true := I.type.andThen (looks_mroIn X (by unfold mroIn; rw [hc, Option.bind_some, if_neg (by rw [ne]; decide), r2]))
  refine codeAny_call_builtin SF.slot.plain SF.entry (@check_slot (model prog w) _ _ s "object.__setattr__" "object" "__setattr__" (.ref x) [.str name tk, v] [] _ SF.kind SF.split sub (SF.args (.ref x) (.str name tk) v) ?_)
  obtain ⟨attr, ha, hr⟩ := Option.bind_eq_some_iff.mp ht
  have hm : Looks (model prog w) s.heap (mroOf (.ref C)) cd.mro := (looks_clsIn X hc).andThen .now
  have L3 : Looks (model prog w) s.heap (storeTaker? attr) none := by
    induction attr using Option.casesOn with
    | none => exact .now
    | some a =>
      obtain ⟨b, hb, hr⟩ := Option.map_eq_some_iff.mp hr
      refine (looks_takesIn X hb).andThen ?_
      induction b using Bool.casesOn with
      | true => (first | subst hr | contradiction | (injection hr with hr; subst hr) | cases hr)
      | false => exact .now
  rw [osa_eq, refuse_eq]
  refine wpAny_bind (wpAny_bind (I.type.here (wpAny_bind (hm.here ?_))))
  rw [r1]
  exact wpAny_pure (wpAny_bind (I.type.here (wpAny_bind ((looks_findIn X ha).here (wpAny_bind (L3.here (h _)))))))

theorem put_at {A : Around} {dx : Addr} {es : List DictEntry} {n : Nat} {tk : Tok} {Q : Fin → Shared → Prop} (D : s.heap.get? dx = some (dictOf es n)) (hl : (getL name es).isSome = true) (hz : (putL name (PyData.keyHash w.params name) (.str name s.toks) v es).length ≤ 1000)
    (q : ∀ h', Heap.SameBut dx s.heap h' → h'.get? dx = some (dictOf (putL name (PyData.keyHash w.params name) (.str name s.toks) v es) (putN name es n)) → Q (.done (.ret .none)) { s with heap := h', toks := s.toks + 1 }) :
    wpAny (model prog w) A (storeInDict dx (.str name tk) name v) Q E s := by
  unfold storeInDict newKeyGuard
  refine wpAny_bind (wpAny_pure (wpAny_bind ?_))
  unfold nsSet
  refine wpAny_bind (wpAny_bind (wpAny_askSetting (wpAny_pure (wpAny_bind (wpAny_mkText (wpAny_bind (wpAny_loadPart D ?_)))))))
  have c : (!es.any (·.key.isStr name) && es.any (·.refKey)) = false := by
    unfold getL at hl
    split at hl
    · rename_i en he
      rw [List.any_eq_true.mpr ⟨en, List.mem_of_find?_eq_some he, List.find?_some he⟩]; rfl
    · split at hl
      · (first | subst hl | contradiction | (injection hl with hl; subst hl) | cases hl)
      · rename_i z; rw [Bool.not_eq_true] at z; rw [z, Bool.and_false]
  dsimp only
  rw [aRefKeyMayBeTheName_at, List.any_toArray, List.any_toArray, c]
  have D' := Heap.get?_update_self (Obj.putName name (PyData.keyHash w.params name) (.str name s.toks) v) D (by rw [putName_dict]; rfl)
  rw [putName_dict] at D'
  refine wpAny_updatePart D (wpAny_bind (wpAny_lookBehind D' (pastItsLine_dict (by rw [List.size_toArray, sizeLine_eq]; omega)) ?_))
  exact wpAny_pure (q _ (.update ..) D')

structure ClsIs (K : Frag) (C : Addr) : Prop where
  setattr : findIn K (.ref C) "__setattr__" = some (some (.builtin "object.__setattr__"))
  plain : over K C = true
  dict : hasDictIn K C = true

/-- a store into the dict of an object -/
theorem set_at {dx : Addr} {es : List DictEntry} {n : Nat} {Q : Unit → Shared → Prop} (X : K.In s.heap) (hx : s.heap.get? x = some ox) (hc : ox.cls = .ref C) (hd : ox.dict = some dx) (hn : notCls ox = true) (D : s.heap.get? dx = some (dictOf es n)) (ci : ClsIs K C)
    (ht : takerIn K C name = some none) (hl : (getL name es).isSome = true) (hz : (putL name (PyData.keyHash w.params name) (.str name (s.toks + 1)) v es).length ≤ 1000)
    (q : ∀ h', Heap.SameBut dx s.heap h' → h'.get? dx = some (dictOf (putL name (PyData.keyHash w.params name) (.str name (s.toks + 1)) v es) (putN name es n)) → Q () { s with heap := h', toks := s.toks + 2 }) :
    wpAny (model prog w) A (setAttr (.ref x) name v) Q E s := by
  have I : InstAt s.heap x ox C (some (dictOf es n)) := ⟨hx, hc, hn, by rw [hd]; exact D⟩
  refine set_plain X I ci.setattr (osa_any (s := { s with toks := s.toks + 1 }) X I ci.plain ht fun b => ?_)
  obtain ⟨cd, hcd, hd'⟩ := any_some ci.dict
  obtain ⟨oc, odi, oda, osl⟩ := ox
  dsimp only at hc hd
  subst hc hd
  refine wpAny_bind (wpAny_pure (wpAny_bind (wpAny_bind (wpAny_loadPart hx (wpAny_bind (looks_clsIn X hcd _ _ _ _ (fun _ _ e => e) ?_))))))
  rw [hd']
  refine wpAny_pure (a := some dx) (wpAny_bind (wpAny_pure ?_))
  exact put_at (s := { s with toks := s.toks + 1 }) (tk := s.toks) D hl hz q

/-- the first store into an object without a dict -/
theorem wp_eq {α : Type} {M : Model} {A : Around} {t t' : Sem α} {Q : α → Shared → Prop} {E : Value → Shared → Prop} {s : Shared} (e : t = t') (h : wpAny M A t' Q E s) : wpAny M A t Q E s := e ▸ h
theorem data_ncls {α : Type} {oc : Value} {odi : Option Addr} {od : Data} {osl : Array (Option Value)} (h : notCls ⟨oc, odi, od, osl⟩ = true) (a : ClassData → α) (b : α) : (match (generalizing := false) od with
    | .cls c => a c
    | _ => b) = b := by
  cases od <;> first | rfl | exact (Bool.false_ne_true h).elim
theorem set_new {Q : Unit → Shared → Prop} (X : K.In s.heap) (hx : s.heap.get? x = some ox) (hc : ox.cls = .ref C) (hd : ox.dict = none) (hn : notCls ox = true) (ci : ClsIs K C) (ht : takerIn K C name = some none)
    (q : ∀ h' es n, (∀ b, b ≠ x → b ≠ s.heap.objs.size → h'.get? b = s.heap.get? b) → h'.get? x = some { ox with dict := some s.heap.objs.size } → es = [⟨PyData.keyHash w.params name, .str name (s.toks + 1), v⟩] → h'.get? s.heap.objs.size = some (dictOf es n) → Q () { s with heap := h', toks := s.toks + 2 }) :
    wpAny (model prog w) A (setAttr (.ref x) name v) Q E s := by
  have I : InstAt s.heap x ox C none := ⟨hx, hc, hn, by rw [hd]; trivial⟩
  refine set_plain X I ci.setattr (osa_any (s := { s with toks := s.toks + 1 }) X I ci.plain ht fun b => ?_)
  obtain ⟨cd, hcd, hd'⟩ := any_some ci.dict
  have hxs : x ≠ s.heap.objs.size := Nat.ne_of_lt (Heap.lt_size hx)
  have hx₁ : (s.heap.push (dictOf [] 0)).get? x = some ox := Heap.get?_push_of_some _ hx
  have hfr : ({ ox with dict := some s.heap.objs.size } : Obj).isFreed = false := by
    have := (Heap.get?_some_iff.mp hx).2
    obtain ⟨oc, odi, oda, osl⟩ := ox
    cases oda <;> first | rfl | exact this
  have hx₂ := Heap.get?_update_self (fun o => { o with dict := some s.heap.objs.size }) hx₁ hfr
  have hd₂ : ((s.heap.push (dictOf [] 0)).update x fun o => { o with dict := some s.heap.objs.size }).get? s.heap.objs.size = some (dictOf [] 0) := (Heap.get?_update_other _ _ hxs).trans (Heap.get?_push_size _ rfl)
  have oth : ∀ b, b ≠ x → b ≠ s.heap.objs.size → ((s.heap.push (dictOf [] 0)).update x fun o => { o with dict := some s.heap.objs.size }).get? b = s.heap.get? b := fun b h1 h2 => by
    rw [Heap.get?_update_other _ _ (Ne.symm h1)]
    exact Heap.get?_push_ne _ _ _ h2
  have fin : wpAny (model prog w) (A.in1) (storeInDict s.heap.objs.size (.str name s.toks) name v) (fun fin s' => match fin with | .done f => (match (Except.ok f : Result) with | .ok (.ret _) => Q () s' | .ok _ => False | .error e => E e s') | .again c' => c'.quiet = true ∧ codeAny (model prog w) A c' (fun r s' => match r with | .ok (.ret _) => Q () s' | .ok _ => False | .error e => E e s') s') (fun e s' => E e s')
      { s with heap := (s.heap.push (dictOf [] 0)).update x fun o => { o with dict := some s.heap.objs.size }, toks := s.toks + 1 } := by
    refine put_at hd₂ rfl (by simp [putL]) fun h' hs hD => ?_
    refine q h' _ _ (fun b h1 h2 => (hs.2 b h2).trans (oth b h1 h2)) ((hs.2 x hxs).trans hx₂) rfl hD
  obtain ⟨oc, odi, oda, osl⟩ := ox
  dsimp only at hc hd
  subst hc hd
  refine wpAny_bind (wpAny_pure (wpAny_bind (wpAny_bind (wpAny_loadPart hx (wpAny_bind (looks_clsIn X hcd _ _ _ _ (fun _ _ e => e) ?_))))))
  rw [hd']
  show wpAny (model prog w) (A.in1) (match (generalizing := false) oda with
    | .cls _ => pure none
    | _ => (do
    let d ← alloc { cls := Value.type "dict", data := Data.dict #[] }
    update x fun o => { o with dict := some d }
    dictMade (.ref C) x d)) _ _ _
  refine wp_eq (data_ncls hn (fun _ => pure none) (do
    let d ← alloc { cls := Value.type "dict", data := Data.dict #[] }
    update x fun o => { o with dict := some d }
    dictMade (.ref C) x d)) ?_
  refine wpAny_bind (wpAny_alloc (s := { s with toks := s.toks + 1 }) (wpAny_bind (wpAny_update hx₁ ?_)))
  exact wpAny_pure (a := some s.heap.objs.size) fin
end
end Mine

end

section
open PySem PySem.W PySem.Spec PySem.Calls PyProof.Rows
set_option maxRecDepth 100000
namespace Mine

theorem nameOf_is {e : PySem.Expr} {x : Str} (h : nameOf e = some x) : ∃ p, e = .Name x p := by
  unfold nameOf at h; split at h <;> (first | subst h | contradiction | (injection h with h; subst h) | cases h); exact ⟨_, rfl⟩

theorem each_spec {env : Env} : ∀ {ts : List PySem.Expr} {xs : List Str}, namesOf ts = some xs → (assignEach ts env).length = xs.length ∧ (assignEach ts env).findIdx? (·.1) = none ∧
    ∀ (i : Nat) (t : Value → Sem Unit), ((assignEach ts env).map (·.2))[i]? = some t → ∃ x p, xs[i]? = some x ∧ t = assign (.Name x p) env
  | [], xs, h => by (first | subst h | contradiction | (injection h with h; subst h) | cases h); exact ⟨rfl, rfl, fun i t e => by (first | subst e | contradiction | (injection e with e; subst e) | cases e)⟩
  | a :: r, xs, h => by
    unfold namesOf at h
    split at h
    · rename_i x hx
      obtain ⟨p, rfl⟩ := nameOf_is hx
      obtain ⟨ys, hy, rfl⟩ := Option.map_eq_some_iff.mp h
      obtain ⟨a, b, c⟩ := each_spec (env := env) hy
      have e : assignEach (.Name x p :: r) env = (false, assign (.Name x p) env) :: assignEach r env := rfl
      rw [e]
      refine ⟨congrArg (· + 1) a, by rw [List.findIdx?_cons, b]; rfl, fun i t ht => ?_⟩
      induction i using Nat.casesOn with
      | zero => (first | subst ht | contradiction | (injection ht with ht; subst ht) | cases ht); exact ⟨x, p, rfl, rfl⟩
      | succ i => exact c i t (by simpa using ht)
    · (first | subst h | contradiction | (injection h with h; subst h) | cases h)

theorem zip_rep {B : Addr → Prop} {h : Heap} : ∀ {xs : List Str} {vs : List Value} {l : List V} (y : Str), xs.length = l.length → Reps B h vs l →
    (match (xs.zip (l.map D.v)).lookup y with | some d => ∃ v x, (xs.zip vs).lookup y = some v ∧ d = .v x ∧ Rep B h v x | none => (xs.zip vs).lookup y = none)
  | [], vs, l, y, hl, r => by
    cases l with
    | nil => rfl
    | cons a l => (first | subst hl | contradiction | (injection hl with hl; subst hl) | cases hl)
  | x :: xs, vs, [], y, hl, r => by (first | subst hl | contradiction | (injection hl with hl; subst hl) | cases hl)
  | x :: xs, [], a :: l, y, hl, r => r.elim
  | x :: xs, v :: vs, a :: l, y, hl, r => by
    have ih := zip_rep (xs := xs) (vs := vs) (l := l) y (by simpa using hl) r.2
    rw [List.map_cons, List.zip_cons_cons, List.zip_cons_cons, List.lookup_cons, List.lookup_cons]
    cases hb : y == x with
    | true => exact ⟨v, a, rfl, rfl, r.1⟩
    | false => exact ih

theorem lookup_rev {α : Type} : ∀ {xs : List Str} {vs : List α} (y : Str), distinct xs = true → xs.length = vs.length → (xs.zip vs).reverse.lookup y = (xs.zip vs).lookup y
  | [], vs, y, _, _ => by simp
  | x :: xs, [], y, _, h => by (first | subst h | contradiction | (injection h with h; subst h) | cases h)
  | x :: xs, v :: vs, y, hd, hl => by
    unfold distinct at hd
    obtain ⟨hd1, hd2⟩ := Bool.and_eq_true_iff.mp hd
    rw [List.zip_cons_cons, List.reverse_cons, List.lookup_append, lookup_rev y hd2 (by simpa using hl), List.lookup_cons, List.lookup_cons, List.lookup_nil]
    cases hb : y == x with
    | false => simp
    | true =>
      have : (xs.zip vs).lookup y = none := by
        rw [List.lookup_eq_none_iff]
        intro p hp
        have hm := (List.of_mem_zip (a := p.1) (b := p.2) hp).1
        cases q : y == p.1 with
        | false => simp [bne, q]
        | true =>
          exfalso
          have e1 := beq_iff_eq.mp hb
          have e2 := beq_iff_eq.mp q
          subst e1
          rw [← e2] at hm
          rw [Bool.not_eq_true', ← Bool.not_eq_true] at hd1
          exact hd1 (List.contains_iff_mem.mpr hm)
      rw [this]; rfl

section
variable {W : Wd} {A : Around} {Λ σ : List Addr} {E : Value → Shared → Prop} {s : Shared} {st : Sto} {sc : Scope} {env : Env} {ρ : En}

theorem vars_put {h h' : Heap} {xs : List Str} {vs : List Value} {l : List V} {ρ' : En} {m m' : Str → Option Value} (hloc : env.locals ∈ Λ) (hm : h.Ns env.locals m)
    (V : ∀ y d, ρ.lookup y = some d →
      (sc.names.lookup y = some .local → ∃ v, m y = some v ∧ RepD σ (Bad σ Λ) h v d) ∧
      (sc.names.lookup y = some .cell ∨ sc.names.lookup y = some .free → ∃ c o v, env.cells.lookup y = some c ∧ h.get? c = some o ∧ o.data = .cell (some v) ∧ c ∉ σ ∧ RepD σ (Bad σ Λ) h v d))
    (kp : Kp (fun a => a = env.locals) h h') (hm' : h'.Ns env.locals m') (he : ∀ y, m' y = match (xs.zip vs).lookup y with | some v => some v | none => m y)
    (hl : xs.length = l.length) (hr : Reps (Bad σ Λ) h vs l) (hx : ∀ x ∈ xs, sc.names.lookup x = some .local)
    (hρ : ∀ y, ρ'.lookup y = match (xs.zip (l.map D.v)).lookup y with | some d => some d | none => ρ.lookup y) : Vars Λ sc env ρ' σ h' := by
  have kb : Kp (Bad σ Λ) h h' := kp.weak fun a q => .inr (q ▸ hloc)
  refine ⟨m', hm', fun y d e => ?_⟩
  have z := zip_rep (xs := xs) y hl hr
  rw [hρ y] at e
  generalize hq : (xs.zip (l.map D.v)).lookup y = zz
  induction zz using Option.casesOn with
  | some d' =>
    rw [hq] at e z
    (first | subst e | contradiction | (injection e with e; subst e) | cases e)
    obtain ⟨v, x, h1, rfl, r⟩ := z
    refine ⟨fun _ => ⟨v, by rw [he y, h1], Rep.step r Fresh.refl kb⟩, fun q => ?_⟩
    have : y ∈ xs := by
      have := List.lookup_isSome_iff.mp (by rw [h1]; rfl : ((xs.zip vs).lookup y).isSome = true)
      obtain ⟨p, hp, e⟩ := this
      rw [beq_iff_eq.mp e]
      exact (List.of_mem_zip (a := p.1) (b := p.2) hp).1
    rw [hx y this] at q
    rcases q with q | q <;> (first | subst q | contradiction | (injection q with q; subst q) | cases q)
  | none =>
    rw [hq] at e z
    refine ⟨fun q => ?_, fun q => ?_⟩
    · obtain ⟨v, a, b⟩ := (V y d e).1 q
      exact ⟨v, by rw [he y, z]; exact a, b.step Fresh.refl kb⟩
    · obtain ⟨c, o', v, a, ho', hd, hc, b⟩ := (V y d e).2 q
      have hcl : c ≠ env.locals := fun q => by
        obtain ⟨o2, es, ep, h2, hd2, _⟩ := hm
        rw [← q, ho'] at h2
        (first | subst h2 | contradiction | (injection h2 with h2; subst h2) | cases h2)
        rw [hd] at hd2; (first | subst hd2 | contradiction | (injection hd2 with hd2; subst hd2) | cases hd2)
      exact ⟨c, o', v, a, (kp.at ho' hcl).nd fun _ _ q => (by rw [hd] at q; (first | subst q | contradiction | (injection q with q; subst q) | cases q)), hd, hc, b.step Fresh.refl kb⟩

theorem map_snd_zip {α β : Type} : ∀ {xs : List α} {vs : List β}, xs.length = vs.length → (xs.zip vs).map (·.2) = vs
  | [], [], _ => rfl
  | x :: xs, v :: vs, h => by rw [List.zip_cons_cons, List.map_cons, map_snd_zip (by simpa using h)]
  | [], _ :: _, h => by (first | subst h | contradiction | (injection h with h; subst h) | cases h)
  | _ :: _, [], h => by (first | subst h | contradiction | (injection h with h; subst h) | cases h)

/-- the values may be stored one by one -/
noncomputable def Strs (W : Wd) (A : Around) (env : Env) (E : Value → Shared → Prop) (Q : Flow → Shared → Prop) (s : Shared) (tk₁ : Nat) (h₁ : Heap) (xs : List Str) (vs : List Value) : Prop :=
  ∀ (zs : List (Str × Value)) (tt : List (Value → Sem Unit)) (h' : Heap), (∀ b o, h₁.get? b = some o → h'.get? b = some o) → tt.length = zs.length →
          (∀ (i : Nat) (z : Str × Value) (t : Value → Sem Unit), zs[i]? = some z → tt[i]? = some t → ∀ (v : Value) (s : Shared) (Q : Unit → Shared → Prop), wpAny (model W.prog W.w) A (storeName env z.1 v) Q E s → wpAny (model W.prog W.w) A (t v) Q E s) →
          (∀ z ∈ zs, z.1 ∈ xs) → (∀ y, zs.reverse.lookup y = (xs.zip vs).lookup y) →
          wpAny (model W.prog W.w) A (assignInOrder tt (zs.map (·.2))) (fun _ => Q .next) E { s with heap := h', toks := tk₁ }
theorem tup_key {xs : List Str} {Q : Flow → Shared → Prop} {d : D} {st₁ : Sto} {σ₁ : List Addr} {h₁ : Heap} {tk₁ : Nat} {v : Value} (hE : EnvOk Λ sc env) (hd : distinct xs = true) (i₁ : Inv W σ₁ Λ h₁ st₁) (V₁ : Vars Λ sc env ρ σ₁ h₁)
    (H₁ : Po W Λ (XL env) (relS Λ sc env) E σ₁ { s with heap := h₁, toks := tk₁ } ((match d with
          | .v (.tup l) => (match putAll sc xs l ρ with
            | some ρ' => .ok (.next, ρ') st₁
            | Option.none => .stuck)
          | _ => .stuck : Out (Fl × En))) Q) (r₁ : RepD σ₁ (Bad σ₁ Λ) h₁ v d) : ∃ a vs n, v = .ref a ∧ h₁.get? a = some ({ cls := .type "tuple", data := .seq vs.toArray n } : Obj) ∧ xs.length = vs.length ∧ Strs W A env E Q s tk₁ h₁ xs vs := by
  induction d using Mine.D.casesOn with
  | m i => exact H₁.elim
  | v y =>
    induction y using Mine.V.casesOn with
    | tup l =>
      have H₁ : Po W Λ (XL env) (relS Λ sc env) E σ₁ { s with heap := h₁, toks := tk₁ } (match putAll sc xs l ρ with
            | some ρ' => .ok (.next, ρ') st₁
            | Option.none => .stuck : Out (Fl × En)) Q := H₁
      generalize hput : putAll sc xs l ρ = zz
      induction zz using Option.casesOn with
      | none => rw [hput] at H₁; exact H₁.elim
      | some ρ' =>
        rw [hput] at H₁
        obtain ⟨p1, p2, p3⟩ := putAll_spec hput hd
        have r₁ : Rep (Bad σ₁ Λ) h₁ v (.tup l) := r₁
        unfold Rep at r₁
        obtain ⟨a, vs, n, rfl, hb, ho, hr⟩ := r₁
        refine ⟨a, vs, n, rfl, ho, p1.trans hr.length.symm, fun zs tt h' hk htl htt hzx hzl => ?_⟩
        obtain ⟨m, hm, Vm⟩ := V₁
        have hm1 : h'.Ns env.locals m := by
          obtain ⟨o, es, ep, ho, r⟩ := hm
          exact ⟨o, es, ep, hk _ _ ho, r⟩
        exact stores_sound (st := st₁) hE zs tt htl htt (fun z hz => p2 _ (hzx z hz)) (i₁.grow hk) hm1 fun h'' tk m' iv'' kk hm' he =>
          have kp : Kp (fun a => a = env.locals) h₁ h'' := (Kp.all (W := fun a => a = env.locals) hk).trans kk fun _ _ q => q
          H₁ σ₁ h'' tk .next Fresh.refl (kp.weak fun a q => .inr (.inl q)) iv'' ⟨trivial, vars_put hE.loc hm Vm kp hm' (fun y => by have := he y; rw [hzl y] at this; exact this) p1 hr p2 p3⟩
    | _ => exact H₁.elim
theorem tup_one {ts : List PySem.Expr} {xs : List Str} {Q : Flow → Shared → Prop} {a : Addr} {vs : List Value} {n : Nat} {h₁ : Heap} {tk₁ : Nat} {k : Nat} {tp : Pos} (hh : A.handled = none) (hxs : namesOf ts = some xs) (hd : distinct xs = true) (ho : h₁.get? a = some ({ cls := .type "tuple", data := .seq vs.toArray n } : Obj)) (hl : xs.length = vs.length) (z : Strs W A env E Q s tk₁ h₁ xs vs) :
    wpAny (model W.prog W.w) A (assign (.Tuple ts k tp) env (.ref a)) (fun _ => Q .next) E { s with heap := h₁, toks := tk₁ } := by
  obtain ⟨e1, e2, e3⟩ := each_spec (env := env) hxs
  refine wpAny_assign_Tuple hh (items := vs.toArray) ⟨_, ho, rfl, n, rfl⟩ (by rw [e1, hl]; simp) e2 fun h' hext => ?_
  have := z (xs.zip vs) ((assignEach ts env).map (·.2)) h' (fun b o e => hext b o (fun q => by rw [q, get_size] at e; (first | subst e | contradiction | (injection e with e; subst e) | cases e)) e) (by rw [List.length_map, e1, List.length_zip, ← hl, Nat.min_self]) (fun i z t hz ht v s Q q => by
    obtain ⟨x, p, hx, rfl⟩ := e3 i t ht
    have : z.1 = x := by
      rw [List.getElem?_zip_eq_some] at hz
      exact Option.some.inj (hz.1.symm.trans hx)
    rw [this] at q
    exact wpAny_assign_Name q) (fun z hz => (List.of_mem_zip (a := z.1) (b := z.2) hz).1) (fun y => lookup_rev y hd hl)
  rw [map_snd_zip hl] at this
  simpa using this
theorem rev_get {ys : List Str} {vs : List Value} {i : Nat} {z : Str × Value} {t : Value → Sem Unit} (hl : ys.length = vs.length) (hz : (ys.zip vs).reverse[i]? = some z) (ht : (ys.reverse.map fun n => bindName env n)[i]? = some t) : t = bindName env z.1 := by
  have hi : i < ys.length := by
    have := (List.getElem?_eq_some_iff.mp ht).1
    simpa using this
  have e1 : (ys.zip vs).reverse[i]? = (ys.zip vs)[(ys.zip vs).length - 1 - i]? := List.getElem?_reverse (by simpa [hl] using hi)
  have e2 : ys.reverse[i]? = ys[ys.length - 1 - i]? := List.getElem?_reverse hi
  rw [List.getElem?_map, e2] at ht
  rw [e1, List.getElem?_zip_eq_some] at hz
  have hzl : (ys.zip vs).length = ys.length := by simp [hl]
  rw [hzl] at hz
  rw [hz.1] at ht
  exact (Option.some.inj ht).symm
theorem tup_rev {ys : List Str} {Q : Flow → Shared → Prop} {a : Addr} {vs : List Value} {n : Nat} {h₁ : Heap} {tk₁ : Nat} (hl : ys.length = vs.length) (z : Strs W A env E Q s tk₁ h₁ ys vs) {h' : Heap} (hext : ∀ b o, h₁.get? b = some o → h'.get? b = some o) :
    wpAny (model W.prog W.w) A (assignInOrder (ys.reverse.map fun n => bindName env n) vs.reverse) (fun _ => Q .next) E { s with heap := h', toks := tk₁ } := by
  have := z (ys.zip vs).reverse (ys.reverse.map fun n => bindName env n) h' hext (by simp [hl]) (fun i z t hz ht v s Q q => by
    rw [rev_get hl hz ht]; exact wpAny_bindName q) (fun z hz => (List.of_mem_zip (a := z.1) (b := z.2) (List.mem_reverse.mp hz)).1) (fun y => by rw [List.reverse_reverse])
  have e2 : ((ys.zip vs).reverse.map (·.2)) = vs.reverse := by rw [List.map_reverse, map_snd_zip hl]
  rw [e2] at this
  exact this
theorem assign_tuple {I : In} (hh : A.handled = none) (hE : EnvOk Λ sc env) (hI : IE W A I) {ts : List PySem.Expr} {k : Nat} {tp pos : Pos} {e : PySem.Expr} {xs : List Str} {Q : Flow → Shared → Prop} (hc : isComp e = false) (hxs : namesOf ts = some xs) (hd : distinct xs = true)
    (hsw : swOk sc ts k tp e xs = true) (iv : Inv W σ Λ s.heap st) (V : Vars Λ sc env ρ σ s.heap)
    (H : Po W Λ (XL env) (relS Λ sc env) E σ s ((I.ex sc ρ e st).bind fun d st => match d with
          | .v (.tup l) => (match putAll sc xs l ρ with
            | some ρ' => .ok (.next, ρ') st
            | Option.none => .stuck)
          | _ => .stuck) Q) : wpAny (model W.prog W.w) A (exec (.Assign [.Tuple ts k tp] e pos) env) Q E s := by
  have hs : swapsWithSole [.Tuple ts k tp] e pos.line env = pure false := by
    unfold swapsWithSole
    exact swaps_not hc
  have nx : ∀ a, NoX a → XL env a := fun a q => q.elim
  unfold swOk at hsw
  split at hsw
  · rename_i hnone
    refine Assign_Tuple (hI Λ sc env ρ e hE E σ s st _ iv V (Po.seq nx H fun d st₁ σ₁ h₁ tk₁ v f₁ k₁ i₁ r₁ H₁ => ?_)) hs (by rw [swapped_env hE.scope]; exact hnone)
    obtain ⟨a, vs, n, rfl, ho, hl, z⟩ := tup_key (A := A) hE hd i₁ (V.step (iv.sigma hE.loc) f₁ k₁) H₁ r₁
    exact tup_one hh hxs hd ho hl z
  · rename_i ys hsome
    cases beq_iff_eq.mp hsw
    refine Assign_Tuple_swapped (hI Λ sc env ρ e hE E σ s st _ iv V (Po.seq nx H fun d st₁ σ₁ h₁ tk₁ v f₁ k₁ i₁ r₁ H₁ => ?_)) hs (by rw [swapped_env hE.scope]; exact hsome)
    obtain ⟨a, vs, n, rfl, ho, hl, z⟩ := tup_key (A := A) hE hd i₁ (V.step (iv.sigma hE.loc) f₁ k₁) H₁ r₁
    rw [hl, show vs.length = vs.toArray.size by simp]
    refine unpackItems_tuple hh ⟨_, ho, rfl, n, rfl⟩ fun h' hext => ?_
    have := tup_rev (a := a) (n := n) hl z (h' := h') fun b o e => hext b o (fun q => by rw [q, get_size] at e; (first | subst e | contradiction | (injection e with e; subst e) | cases e)) e
    simpa using this
  · (first | subst hsw | contradiction | (injection hsw with hsw; subst hsw) | cases hsw)

end
end Mine

end

section
open PySem PySem.W PySem.Spec PySem.Calls PyProof.Rows
set_option maxRecDepth 100000
namespace Mine

section
variable {W : Wd} {A : Around} {Λ σ : List Addr} {E : Value → Shared → Prop} {s : Shared} {st : Sto} {sc : Scope} {env : Env} {ρ : En}

/-- a part run from another state than the whole is asked from -/
theorem Po.sub {α α' β β' : Type} {Λ' σ₁ : List Addr} {s₁ : Shared} {X X' : Addr → Prop} {Rel : List Addr → Heap → β → α → Prop} {Rel' : List Addr → Heap → β' → α' → Prop} {E' : Value → Shared → Prop} {r : Out α} {f : α → Sto → Out α'} {Q' : β' → Shared → Prop} {Q : β → Shared → Prop}
    (H : Po W Λ X' Rel' E σ₁ s₁ (r.quiet.bind f) Q')
    (k : ∀ a st' σ' h' tk b, Fresh σ σ' s.heap → Kp (fun x => x ∈ σ ∨ X x) s.heap h' → Inv W σ' Λ' h' st' → Rel σ' h' b a → Po W Λ X' Rel' E σ₁ s₁ (f a st') Q' → Q b { s with heap := h', toks := tk }) :
    Po W Λ' X Rel E' σ s r Q := by
  induction r using Mine.Out.casesOn with
  | ok a st' => intro σ' h' tk b f1 k1 i1 r1; exact k a st' σ' h' tk b f1 k1 i1 r1 H
  | exc x st' => exact H.elim
  | stuck => exact H.elim

theorem while_sound {I : In} (hE : EnvOk Λ sc env) (hcl : TopOk A W env) (hT : IT W A I) (hS : IS W A I) {c : PySem.Expr} {b : List Stmt} {Q : Flow → Shared → Prop} {N : Nat}
    (iv : Inv W σ Λ s.heap st) (V : Vars Λ sc env ρ σ s.heap)
    (H : Po W Λ (XL env) (relS Λ sc env) E σ s (whileN (fun ρ st => I.tt sc ρ c st) (fun ρ st => exs (fun ρ => I.st sc ρ) b ρ st) N ρ st) Q) :
    codeAny (model W.prog W.w) A (.whileLoop c b [] env) (fun r s' => match r with | .ok f => Q f s' | .error e => cameBackBy (model W.prog W.w) A env E e s') s := by
  refine codeAny_whileLoop (fun k s₁ => ∃ ρ₁ σ₁ st₁, Inv W σ₁ Λ s₁.heap st₁ ∧ Vars Λ sc env ρ₁ σ₁ s₁.heap ∧
    Po W Λ (XL env) (relS Λ sc env) E σ₁ s₁ (whileN (fun ρ st => I.tt sc ρ c st) (fun ρ st => exs (fun ρ => I.st sc ρ) b ρ st) k ρ₁ st₁) Q) (fun k s₁ hI => ?_) N ⟨ρ, σ, st, iv, V, H⟩
  obtain ⟨ρ₁, σ₁, st₁, iv₁, V₁, H₁⟩ := hI
  cases k with
  | zero => exact H₁.elim
  | succ k =>
    unfold whileN at H₁
    have nx : ∀ a, NoX a → XL env a := fun a q => q.elim
    refine hT Λ sc env ρ₁ c hE _ σ₁ s₁ st₁ _ iv₁ V₁ (Po.quiet nx H₁ fun t st₂ σ₂ h₂ tk₂ v f₂ k₂ i₂ r₂ H₂ => ?_)
    have r₂ : v = t := r₂
    subst r₂
    have V₂ := V₁.step (iv₁.sigma hE.loc) f₂ k₂
    cases v with
    | false => exact wpAny_execs_nil (Po.now (tk := tk₂) (b := Flow.next) H₂ i₂ ⟨trivial, V₂⟩)
    | true =>
      rw [if_pos rfl] at H₂ ⊢
      refine exs_sound hE hcl hS b ρ₁ _ σ₂ _ st₂ _ i₂ V₂ (Po.quiet (fun _ q => q) H₂ fun p st₃ σ₃ h₃ tk₃ f f₃ k₃ i₃ r₃ H₃ => ?_)
      obtain ⟨fl, ρ₃⟩ := p
      obtain ⟨r₃, V₃⟩ := r₃
      cases fl with
      | next =>
        cases f with
        | next => exact ⟨k, Nat.lt_succ_self _, ρ₃, σ₃, st₃, i₃, V₃, H₃⟩
        | _ => exact r₃.elim
      | brk =>
        cases f with
        | brk => exact Po.now (tk := tk₃) (b := Flow.next) H₃ i₃ ⟨trivial, V₃⟩
        | _ => exact r₃.elim
      | cont =>
        cases f with
        | cont => exact ⟨k, Nat.lt_succ_self _, ρ₃, σ₃, st₃, i₃, V₃, H₃⟩
        | _ => exact r₃.elim
      | ret d =>
        cases f with
        | ret v => exact Po.now (tk := tk₃) (b := Flow.ret v) H₃ i₃ ⟨r₃, V₃⟩
        | _ => exact r₃.elim

/-- the iterator goes -/
theorem Inv.drop {h h' : Heap} {it : Addr} (I : Inv W σ (it :: Λ) h st) (hn : it ∉ Λ) (hf : it ∉ W.fr) (x : Heap.ExtBut it h h') : Inv W σ Λ h' st := by
  have ne : ∀ b, Bad σ Λ b → b ≠ it := fun b q e => by
    subst e
    rcases q with q | q
    · exact I.apart b q (.head _)
    · exact hn q
  have mv : ∀ b o, h.get? b = some o → ¬ Bad σ (it :: Λ) b → At h' b o ∧ ¬ Bad σ Λ b := fun b o e n => ⟨.inl <| x b o (fun q => n (.inr (q ▸ .head _))) e, fun q => n (q.elim .inl fun q => .inr (.tail _ q))⟩
  refine ⟨fun b o e => x b o (fun q => ?_) (I.keep b o e), fun b q => ⟨(I.new b (q.elim .inl fun q => .inr (.tail _ q))).1, ?_⟩, ⟨I.store.1, I.store.2.1, fun i b l e1 e2 => ?_⟩, fun b hb q => I.apart b hb (.tail _ q), fun b q => ⟨(List.mem_cons.mp (I.dic b q).1).elim (fun z => absurd (z ▸ q) hf) id, ns_ex (I.dic b q).2 fun o e => .inl (x b o (fun z => hf (z ▸ q)) e)⟩⟩
  · have := (I.new it (.inr (.head _))).1
    rw [← q] at this
    exact absurd (Heap.lt_size e) (Nat.not_lt.mpr this)
  · obtain ⟨o, e⟩ := (I.new b (q.elim .inl fun q => .inr (.tail _ q))).2
    exact ⟨o, x b o (ne b q) e⟩
  · obtain ⟨vs, q, r, z⟩ := I.store.2.2 i b l e1 e2
    exact ⟨vs, q.at fun o e => x b o (ne b (.inl (List.mem_of_getElem? e1))) e, r.mono mv, z⟩

theorem Vars.drop {h h' : Heap} {it : Addr} (V : Vars (it :: Λ) sc env ρ σ h) (hl : env.locals ≠ it) (hc : ∀ x c, env.cells.lookup x = some c → c ≠ it) (x : Heap.ExtBut it h h') : Vars Λ sc env ρ σ h' :=
  V.mono (fun b o e n => ⟨.inl (x b o (fun q => n (.inr (q ▸ .head _))) e), fun q => n (q.elim .inl fun q => .inr (.tail _ q))⟩) fun b o e q => .inl <| x b o (by
    rcases q with q | ⟨y, q⟩
    · rw [q]; exact hl
    · exact hc y b q) e

theorem EnvOk.lam (hE : EnvOk Λ sc env) (a : Addr) : EnvOk (a :: Λ) sc env := ⟨hE.kind, hE.scope, hE.globals, hE.builtins, .tail _ hE.loc, fun x c e => .tail _ (hE.cin x c e), hE.cells⟩

theorem FlR.unlam {h : Heap} {a : Addr} {f : Flow} {fl : Fl} (r : FlR (a :: Λ) σ h f fl) : FlR Λ σ h f fl := by
  cases f <;> cases fl <;> first | exact r | (exact RepD.mono unlam_mv r)
theorem Vars.unlam {h : Heap} {a : Addr} (V : Vars (a :: Λ) sc env ρ σ h) : Vars Λ sc env ρ σ h := V.mono unlam_mv fun _ _ e _ => .inl e

theorem putT_name {t : PySem.Expr} {x : V} {ρ ρ' : En} (h : putT sc t x ρ = some ρ') : ∃ n p, t = .Name n p ∧ sc.names.lookup n = some .local ∧ ρ' = setE n (.v x) ρ := by
  unfold putT at h
  split at h
  · rename_i n p
    unfold putAll at h
    split at h
    · rename_i hx
      unfold putAll at h
      (first | subst h | contradiction | (injection h with h; subst h) | cases h)
      exact ⟨n, p, rfl, by simpa using hx, rfl⟩
    · (first | subst h | contradiction | (injection h with h; subst h) | cases h)
  · (first | subst h | contradiction | (injection h with h; subst h) | cases h)

/-- between two turns of a for -/
structure Fst (W : Wd) (Λ σ₁ : List Addr) (h₁ : Heap) (it₀ : Addr) (sc : Scope) (env : Env) (h : Heap) (σ : List Addr) (st : Sto) (ρ : En) (l : List V) : Prop where
  fr : Fresh σ₁ σ h₁
  kp : Kp (fun x => x ∈ σ₁ ∨ XL env x) h₁ h
  iv : Inv W σ (it₀ :: Λ) h st
  it : ItSt (Bad σ (it₀ :: Λ)) h it₀ l
  vr : Vars (it₀ :: Λ) sc env ρ σ h
/-- what stands by the iterator -/
structure Fit0 (W : Wd) (Λ : List Addr) (h₁ : Heap) (it₀ : Addr) (env : Env) : Prop where
  no : h₁.get? it₀ = none
  nl : it₀ ∉ Λ
  fr : it₀ ∉ W.fr
  lo : env.locals ≠ it₀
  ce : ∀ x c, env.cells.lookup x = some c → c ≠ it₀
noncomputable def Fmid (W : Wd) (Λ : List Addr) (E : Value → Shared → Prop) (Q : Flow → Shared → Prop) (σ₁ : List Addr) (s : Shared) (h₁ : Heap) (tk₁ : Nat) (it₀ : Addr) (sc : Scope) (env : Env) (L : List V → En → Sto → Out (Fl × En)) (k : Nat) (s₂ : Shared) : Prop :=
  ∃ h₂ tk₂ l₂ ρ₂ σ₂ st₂, s₂ = { s with heap := h₂, toks := tk₂ } ∧ k = List.length (α := Mine.V) l₂ ∧ Fst W Λ σ₁ h₁ it₀ sc env h₂ σ₂ st₂ ρ₂ l₂ ∧ Po W Λ (XL env) (relS Λ sc env) E σ₁ { s with heap := h₁, toks := tk₁ } (L l₂ ρ₂ st₂) Q
section
variable {I : In} {σ₁ : List Addr} {h₁ : Heap} {tk₁ : Nat} {it₀ : Addr} {Q : Flow → Shared → Prop} {t : PySem.Expr} {b : List Stmt}
theorem f_it {h₂ h₃ : Heap} {σ₂ : List Addr} {st₂ : Sto} {ρ₂ : En} {x : V} {l₂ : List V} {o₃ : Obj} (F : Fit0 W Λ h₁ it₀ env) (c : Fst W Λ σ₁ h₁ it₀ sc env h₂ σ₂ st₂ ρ₂ (x :: l₂)) (hs₃ : Heap.SameBut it₀ h₂ h₃) (al₃ : h₃.get? it₀ = some o₃) (hit₃ : ItSt (Bad σ₂ (it₀ :: Λ)) h₃ it₀ l₂) : Fst W Λ σ₁ h₁ it₀ sc env h₃ σ₂ st₂ ρ₂ l₂ := by
  have kp₃ : Kp (fun x => x = it₀) h₂ h₃ := Kp.same hs₃ rfl al₃
  refine ⟨c.fr, c.kp.trans kp₃ fun a al q => ?_, c.iv.touch hs₃ (.head _) al₃ fun q => absurd q F.fr, hit₃, c.vr.mono (fun b o e nb => ⟨kp₃.at e fun q => nb (.inr (q ▸ .head _)), nb⟩) fun b o e q => kp₃.at e fun q' => ?_⟩
  · obtain ⟨o, e⟩ := al
    rw [q, F.no] at e; (first | subst e | contradiction | (injection e with e; subst e) | cases e)
  · rcases q with q | ⟨y, q⟩
    · exact F.lo (q.symm.trans q')
    · exact F.ce y b q q'
theorem f_sto {h₃ h₄ : Heap} {σ₂ : List Addr} {st₂ : Sto} {ρ₂ ρ₄ : En} {l₂ : List V} (F : Fit0 W Λ h₁ it₀ env) (hE : EnvOk Λ sc env) (c : Fst W Λ σ₁ h₁ it₀ sc env h₃ σ₂ st₂ ρ₂ l₂) (i₄ : Inv W σ₂ (it₀ :: Λ) h₄ st₂) (k₄ : Kp (fun a => XL env a) h₃ h₄) (V₄ : Vars (it₀ :: Λ) sc env ρ₄ σ₂ h₄) : Fst W Λ σ₁ h₁ it₀ sc env h₄ σ₂ st₂ ρ₄ l₂ :=
  ⟨c.fr, c.kp.trans k₄ fun a _ q => .inr q, i₄, c.it.mono (fun b o e nb => ⟨k₄.at e fun q => nb (.inr (by
    rcases q with q | ⟨y, q⟩
    · rw [q]; exact .tail _ hE.loc
    · exact .tail _ (hE.cin y b q))), nb⟩) (fun o e => k₄.at e fun q => by
    rcases q with q | ⟨y, q⟩
    · exact F.lo q.symm
    · exact F.ce y _ q rfl), V₄⟩
theorem f_ev {h₄ h₅ : Heap} {σ₂ σ₅ : List Addr} {st₂ st₅ : Sto} {ρ₂ ρ₅ : En} {l₂ : List V} (F : Fit0 W Λ h₁ it₀ env) (hE : EnvOk Λ sc env) (c : Fst W Λ σ₁ h₁ it₀ sc env h₄ σ₂ st₂ ρ₂ l₂) (f₅ : Fresh σ₂ σ₅ h₄) (k₅ : Kp (fun x => x ∈ σ₂ ∨ XL env x) h₄ h₅) (i₅ : Inv W σ₅ (it₀ :: Λ) h₅ st₅) (V₅ : Vars (it₀ :: Λ) sc env ρ₅ σ₅ h₅) : Fst W Λ σ₁ h₁ it₀ sc env h₅ σ₅ st₅ ρ₅ l₂ :=
  ⟨c.fr.trans f₅ c.kp, c.kp.trans k₅ fun a al q => q.elim (fun q => .inl (al.elim fun _ e => c.fr.low e q)) .inr, i₅, c.it.mono (fun b o e nb => ⟨k₅.at e fun q => nb (by
    rcases q with q | q | ⟨y, q⟩
    · exact .inl q
    · rw [q]; exact .inr (.tail _ hE.loc)
    · exact .inr (.tail _ (hE.cin y b q))), fun q => nb (q.elim (fun q => .inl (f₅.low e q)) .inr)⟩) (fun o e => k₅.at e fun q => by
    rcases q with q | q | ⟨y, q⟩
    · exact c.iv.apart _ q (.head _)
    · exact F.lo q.symm
    · exact F.ce y _ q rfl), V₅⟩
/-- what a turn of the loop must come to -/
noncomputable def FTurn (W : Wd) (A : Around) (E : Value → Shared → Prop) (Q : Flow → Shared → Prop) (it₀ : Addr) (env : Env) (t : PySem.Expr) (b : List Stmt) (J : Nat → Shared → Prop) (n : Nat) (s : Shared) : Prop :=
  wpAny (model W.prog W.w) A (pyNext (.ref it₀)) (fun r s₁ => match r with
      | none => wpAny (model W.prog W.w) A (execs [] env) (fun f s₃ => Q f s₃) (notedBy (model W.prog W.w) A env fun e s' => cameBackBy (model W.prog W.w) A env E e s') s₁
      | some v => wpAny (model W.prog W.w) A (letOwnedTupleGo t (.ref it₀) v) (fun _ s₁' =>
          wpAny (model W.prog W.w) A (assign t env v) (fun _ s₂ => wpAny (model W.prog W.w) A (execs b env) (fun f s₃ => match f with
            | .next | .cont => ∃ m, m < n ∧ J m s₃
            | .brk => Q .next s₃
            | .ret v => Q (.ret v) s₃) (notedBy (model W.prog W.w) A env fun e s' => cameBackBy (model W.prog W.w) A env E e s') s₂) (notedBy (model W.prog W.w) A env fun e s' => cameBackBy (model W.prog W.w) A env E e s') s₁') (notedBy (model W.prog W.w) A env fun e s' => cameBackBy (model W.prog W.w) A env E e s') s₁) (notedBy (model W.prog W.w) A env fun e s' => cameBackBy (model W.prog W.w) A env E e s') s
theorem f_body {h₄ : Heap} {tk₄ : Nat} {σ₂ : List Addr} {st₂ : Sto} {ρ₂ : En} {l₂ : List V} {n : Nat} {E' : Value → Shared → Prop} (hn : l₂.length < n) (hE : EnvOk Λ sc env) (hcl : TopOk A W env) (hS : IS W A I) (F : Fit0 W Λ h₁ it₀ env) (c : Fst W Λ σ₁ h₁ it₀ sc env h₄ σ₂ st₂ ρ₂ l₂)
    (H : Po W Λ (XL env) (relS Λ sc env) E σ₁ { s with heap := h₁, toks := tk₁ } ((exs (fun ρ => I.st sc ρ) b ρ₂ st₂).quiet.bind fun p st => match p.1 with
      | .next => forL (putT sc t) (fun ρ st => exs (fun ρ => I.st sc ρ) b ρ st) l₂ p.2 st
      | .cont => forL (putT sc t) (fun ρ st => exs (fun ρ => I.st sc ρ) b ρ st) l₂ p.2 st
      | .brk => .ok (.next, p.2) st
      | .ret d => .ok (.ret d, p.2) st) Q) :
    wpAny (model W.prog W.w) A (execs b env) (fun f s₃ => match f with
            | .next | .cont => ∃ m, m < n ∧ Fmid W Λ E Q σ₁ s h₁ tk₁ it₀ sc env (forL (putT sc t) fun ρ st => exs (fun ρ => I.st sc ρ) b ρ st) m s₃
            | .brk => Q .next s₃
            | .ret v => Q (.ret v) s₃) E' { s with heap := h₄, toks := tk₄ } := by
  refine exs_sound (hE.lam it₀) hcl hS b _ _ σ₂ _ st₂ _ c.iv c.vr (Po.sub H fun p₅ st₅ σ₅ h₅ tk₅ f f₅ k₅ i₅ r₅ H₅ => ?_)
  obtain ⟨fl, ρ₅⟩ := p₅
  obtain ⟨r₅, V₅⟩ := r₅
  have c₅ := f_ev F hE c f₅ k₅ i₅ V₅
  cases fl with
  | next =>
    cases f with
    | next => exact ⟨l₂.length, hn, h₅, tk₅, l₂, ρ₅, σ₅, st₅, rfl, rfl, c₅, H₅⟩
    | _ => exact r₅.elim
  | brk =>
    cases f with
    | brk => exact H₅ σ₅ h₅ tk₅ .next c₅.fr c₅.kp (i₅.unlam F.fr) ⟨trivial, V₅.unlam⟩
    | _ => exact r₅.elim
  | cont =>
    cases f with
    | cont => exact ⟨l₂.length, hn, h₅, tk₅, l₂, ρ₅, σ₅, st₅, rfl, rfl, c₅, H₅⟩
    | _ => exact r₅.elim
  | ret d =>
    cases f with
    | ret v => exact H₅ σ₅ h₅ tk₅ (.ret v) c₅.fr c₅.kp (i₅.unlam F.fr) ⟨RepD.mono unlam_mv r₅, V₅.unlam⟩
    | _ => exact r₅.elim
theorem f_turn {h₂ : Heap} {tk₂ : Nat} {σ₂ : List Addr} {st₂ : Sto} {ρ₂ : En} {l₂ : List V} (hh : A.handled = none) (hE : EnvOk Λ sc env) (hcl : TopOk A W env) (hS : IS W A I) (F : Fit0 W Λ h₁ it₀ env) (c : Fst W Λ σ₁ h₁ it₀ sc env h₂ σ₂ st₂ ρ₂ l₂)
    (H : Po W Λ (XL env) (relS Λ sc env) E σ₁ { s with heap := h₁, toks := tk₁ } (forL (putT sc t) (fun ρ st => exs (fun ρ => I.st sc ρ) b ρ st) l₂ ρ₂ st₂) Q) :
    FTurn W A E Q it₀ env t b (Fmid W Λ E Q σ₁ s h₁ tk₁ it₀ sc env (forL (putT sc t) fun ρ st => exs (fun ρ => I.st sc ρ) b ρ st)) l₂.length { s with heap := h₂, toks := tk₂ } := by
  induction l₂ using List.casesOn with
  | nil => exact it_end hh c.it fun h' hx => wpAny_execs_nil (H σ₂ h' tk₂ .next c.fr (c.kp.fin F.no hx) (c.iv.drop F.nl F.fr hx) ⟨trivial, c.vr.drop F.lo F.ce hx⟩)
  | cons x l₂ =>
    unfold forL at H
    generalize hput : putT sc t x ρ₂ = zz
    induction zz using Option.casesOn with
    | none => rw [hput] at H; exact H.elim
    | some ρ₃ =>
      rw [hput] at H
      obtain ⟨n, p, rfl, hn, rfl⟩ := putT_name hput
      exact it_next (.head _) c.it fun h₃ tk₃ v₃ hs₃ al₃ r₃ hit₃ => al₃.elim fun o₃ al₃ =>
        have c₃ := f_it F c hs₃ al₃ hit₃
        wpAny_pure (wpAny_assign_Name (store_one (d := .v x) (hE.lam it₀) c₃.iv c₃.vr hn r₃ fun h₄ tk₄ i₄ k₄ V₄ => f_body (Nat.lt_succ_self _) hE hcl hS F (f_sto F hE c₃ i₄ k₄ V₄) H))
end
theorem disp_fold {it : PySem.Expr} (h : isDisp it = false) (x : Value) : foldedSetIterable it env x = pure x := by
  cases it <;> first | rfl | (first | subst h | contradiction | (injection h with h; subst h) | cases h)
theorem for_sound {I : In} (hh : A.handled = none) (hE : EnvOk Λ sc env) (hcl : TopOk A W env) (hI : IE W A I) (hS : IS W A I) {t it : PySem.Expr} {b : List Stmt} {pos : Pos} {Q : Flow → Shared → Prop}
    (hd : isDisp it = false) (iv : Inv W σ Λ s.heap st) (V : Vars Λ sc env ρ σ s.heap)
    (H : Po W Λ (XL env) (relS Λ sc env) E σ s ((I.ex sc ρ it st).bind fun d st => match itemsOf d with
      | some l => forL (putT sc t) (fun ρ st => exs (fun ρ => I.st sc ρ) b ρ st) l ρ st
      | Option.none => .stuck) Q) : wpAny (model W.prog W.w) A (exec (.For t it b [] pos) env) Q E s := by
  refine wpAny_For (hI Λ sc env ρ it hE E σ s st _ iv V (Po.seq (fun a q => q.elim) H fun d st₁ σ₁ h₁ tk₁ v f₁ k₁ i₁ r₁ H₁ => ?_)) (disp_fold hd)
  have V₁ := V.step (iv.sigma hE.loc) f₁ k₁
  generalize hl : itemsOf d = zz
  induction zz using Option.casesOn with
  | none => rw [hl] at H₁; exact H₁.elim
  | some l =>
    rw [hl] at H₁
    refine it_start i₁ r₁ hl fun o i₂ ho hit => ?_
    have hnone : h₁.get? h₁.objs.size = none := get_size
    have hnl : h₁.objs.size ∉ Λ := fun q => i₁.newAddr (.inr q)
    have kpush : ∀ b o', h₁.get? b = some o' → (h₁.push o).get? b = some o' := fun b o' e => Heap.get?_push_of_some _ e
    have F : Fit0 W Λ h₁ h₁.objs.size env := ⟨hnone, hnl, i₁.nfr hnone, fun q => hnl (q ▸ hE.loc), fun x c e q => hnl (q ▸ hE.cin x c e)⟩
    refine codeAny_forLoop_any (Fmid W Λ E Q σ₁ s h₁ tk₁ h₁.objs.size sc env (forL (putT sc t) fun ρ st => exs (fun ρ => I.st sc ρ) b ρ st)) (fun k s₂ hI2 => ?_) l.length
      ⟨_, tk₁, l, ρ, σ₁, st₁, rfl, rfl, ⟨Fresh.refl, Kp.push _, i₁.lam hnone kpush ho i₁.size, hit, V₁.mono (lam_mv hnone kpush) fun b o' e _ => .inl (kpush b o' e)⟩, H₁⟩
    show FTurn W A E Q h₁.objs.size env t b (Fmid W Λ E Q σ₁ s h₁ tk₁ h₁.objs.size sc env (forL (putT sc t) fun ρ st => exs (fun ρ => I.st sc ρ) b ρ st)) k s₂
    obtain ⟨h₂, tk₂, l₂, ρ₂, σ₂, st₂, rfl, rfl, c, H₂⟩ := hI2
    exact f_turn hh hE hcl hS F c H₂
end
end Mine

end

section
open PySem PySem.W PySem.Spec PySem.Calls PyProof.Rows
set_option maxRecDepth 100000
namespace Mine
section
variable {W : Wd} {A : Around} {Λ σ : List Addr} {E : Value → Shared → Prop} {s : Shared} {st : Sto} {sc : Scope} {env : Env} {ρ : En}

theorem no_args {h : Heap} {B : Addr → Prop} {ws : List Value} (r : RepDs σ B h ws []) : ws = [] := by
  induction ws using List.casesOn with
  | nil => rfl
  | cons _ _ => exact r.elim

theorem intM_sound {I : In} (hE : EnvOk Λ sc env) (hI : IE W A I) {o : PySem.Expr} {name : Str} {ap pos : Pos} {i : Int} {ov : Value} {args : List PySem.Expr} {Q : Value → Shared → Prop} (hns : noStar args = true) (hlen : args.length < 20) (hp : (ap.endLine == pos.line) = true)
    (iv : Inv W σ Λ s.heap st) (V : Vars Λ sc env ρ σ s.heap) (r : RepD σ (Bad σ Λ) s.heap ov (.v (.int i))) (H : Po W Λ NoX (relD Λ) E σ s (intM name i args st) Q) :
    wpAny (model W.prog W.w) A (methodCall o name ap pos env ov (args.length + 0) (backTo pos (starEach args env)) []) Q E s := by
  unfold intM at H
  split at H
  · rename_i hn
    obtain ⟨h1, ha⟩ := Bool.and_eq_true_iff.mp hn
    have h1 := beq_iff_eq.mp h1
    clear hn
    obtain ⟨t, rfl⟩ := r
    have hm : ∀ (pl : Sem Bool) (Q' : Value × List Value → Shared → Prop), Q' (.builtin "int.bit_length", [.int i t]) s → wpAny (model W.prog W.w) A (getMethod (.int i t) name pl) Q' E s := fun pl Q' q' => h1 ▸ getMethod_int_bit_length q'
    refine methodCall_sound hns hlen hp hm ?_
    refine args_sound hE hI hns builtin_keep iv V ?_
    rw [List.isEmpty_iff.mp ha]
    intro σ₂ h₂ tk₂ ws f₂ k₂ i₂ r₂
    rw [no_args r₂]
    have q : Q (.int (Builtin.Int.intBits i) tk₂) { s with heap := h₂, toks := tk₂ + 1 } := H σ₂ h₂ (tk₂ + 1) (.int (Builtin.Int.intBits i) tk₂) f₂ k₂ i₂ ⟨tk₂, rfl⟩
    exact ⟨bases_in i₂, call_int_bit_length (s := { s with heap := h₂, toks := tk₂ }) q⟩
  · exact H.elim
end
end Mine

end

section
open PySem PySem.W PySem.Spec PySem.Calls PyProof.Rows Builtin Builtin.ObjectAttr
set_option maxRecDepth 100000
set_option maxHeartbeats 400000
namespace Mine
section
variable {prog : Program} {w : World} {A : Around} {E : Value → Shared → Prop} {s : Shared} {K : Frag} {x C : Addr} {ox : Obj} {od : Option Obj} {name : Str} {expr : Bool} {Q : Value → Shared → Prop}
/-- an attribute of an exception -/
theorem get_exc {v : Value} (X : K.In s.heap) (I : InstAt s.heap x ox C od) (hga : findIn K (.ref C) "__getattribute__" = some (some (.builtin "BaseException.__getattribute__"))) (hgh : findIn K (.ref C) "__getattr__" = some none)
    (hsub : subIn K (.ref C) (.type "BaseException") = some true) (hf : findObj K C od name = some (.value v)) (hh : handedIn v = true) (h : Q v { s with toks := s.toks + 1 }) : wpAny (model prog w) A (getAttr (.ref x) name expr) Q E s := by
  obtain ⟨hp, g, d, t, os⟩ := s
  have FX := PySem.F.attr_Exception
  have L0 := I.type (M := model prog w)
  have L1 := looks_findIn (M := model prog w) X hga
  have L2 := looks_findIn (M := model prog w) X hgh
  have L3 := looks_find (M := model prog w) X I hf
  have SB : Looks (model prog w) hp (isInstance (.ref x) (.type "BaseException")) true := L0.andThen (looks_subIn X hsub)
  have hx0 : (expr && onTheHeap (Value.builtin "BaseException.__getattribute__")) = false := by cases expr <;> rfl
  unfold getAttr getAttrBy
  refine wpAny_bind (wpAny_mkText (wpAny_holding (wpAny_bind (L0.at (wpAny_bind (L1.at ?_))))))
  show wpAny _ _ (getAttrByItsOwn (.ref x) (.str name t) (.ref C) (.builtin "BaseException.__getattribute__") true expr) _ _ _
  unfold getAttrByItsOwn
  refine wpAny_bind (L2.at ?_)
  refine wpAny_bind (wpAny_attempt (wpAny_holding ?_))
  unfold callGetattribute
  rw [hx0]
  show wpAny _ _ (boundAndCalled _ _ _) _ _ _
  unfold boundAndCalled
  rw [FX.ga.bind]
  have hk : builtinKind "BaseException.__getattribute__" = some .slot := by decide +kernel
  have hsplit : splitId "BaseException.__getattribute__" = some ("BaseException", "__getattribute__") := by decide +kernel
  have ha := PySem.F.args_bexc_ga (.ref x) (.str name t)
  refine wpAny_bind (wpAny_pure (wpAny_call ?_))
  refine codeAny_call_builtin FX.ga.plain PySem.F.entry_bexc_ga ?_
  refine @check_slot (model prog w) _ _ ⟨hp, g, d, t + 1, os⟩ "BaseException.__getattribute__" "BaseException" "__getattribute__" (.ref x) [.str name t] [] _ hk hsplit SB ha ?_
  unfold Builtin.«object.__getattribute__»
  refine wpAny_bind (wpAny_pure (wpAny_bind (wpAny_pure (wpAny_bind (L0.at (wpAny_bind (L3.at ?_)))))))
  refine wpAny_pure ?_
  show wpAny _ _ (handedOut v) _ _ _
  rw [handedOut_of hh]; exact wpAny_pure h
end
end Mine

end

section
open PySem PySem.W PySem.Spec PySem.Calls PyProof.Rows
set_option maxRecDepth 100000
namespace Mine

theorem Out.bind_assoc {α β γ : Type} {r : Out α} {f : α → Sto → Out β} {g : β → Sto → Out γ} : (r.bind f).bind g = r.bind fun a st => (f a st).bind g := by
  cases r <;> rfl

theorem closure_go {env : Env} (f : Str × NameKind → List (Str × Addr) → Sem (ForInStep (List (Str × Addr)))) (hf : ∀ x acc, x.2 = .free → f x acc = (cellOf env x.1 >>= fun a => pure (.yield ((x.1, a) :: acc)))) (hf' : ∀ x acc, x.2 ≠ .free → f x acc = pure (.yield acc)) :
    ∀ (names : List (Str × NameKind)) (acc : List (Str × Addr)), (∀ x ∈ names, x.2 = .free → ∃ c, env.cells.lookup x.1 = some c) → (∀ p ∈ acc, env.cells.lookup p.1 = some p.2) →
      ∃ cl, forIn names acc f = (pure cl : Sem _) ∧ (∀ p ∈ cl, env.cells.lookup p.1 = some p.2) ∧ (∀ x ∈ names, x.2 = .free → ∃ p ∈ cl, p.1 = x.1) ∧ ∀ p ∈ acc, p ∈ cl
  | [], acc, _, ha => ⟨acc, rfl, ha, fun x hx => (nomatch hx), fun p hp => hp⟩
  | x :: r, acc, h, ha => by
    by_cases hx : x.2 = .free
    · obtain ⟨c, hc⟩ := h x (.head _) hx
      obtain ⟨cl, h1, h2, h3, h4⟩ := closure_go f hf hf' r ((x.1, c) :: acc) (fun y hy => h y (.tail _ hy)) (fun p hp => by
        rcases List.mem_cons.mp hp with rfl | hp
        · exact hc
        · exact ha p hp)
      refine ⟨cl, ?_, h2, fun y hy e => ?_, fun p hp => h4 p (.tail _ hp)⟩
      · rw [List.forIn_cons, hf x acc hx]
        have : cellOf env x.1 = pure c := by unfold cellOf; rw [hc]
        rw [this]
        exact h1
      · rcases List.mem_cons.mp hy with rfl | hy
        · exact ⟨_, h4 _ (.head _), rfl⟩
        · exact h3 y hy e
    · obtain ⟨cl, h1, h2, h3, h4⟩ := closure_go f hf hf' r acc (fun y hy => h y (.tail _ hy)) ha
      refine ⟨cl, ?_, h2, fun y hy e => ?_, h4⟩
      · rw [List.forIn_cons, hf' x acc hx]
        exact h1
      · rcases List.mem_cons.mp hy with rfl | hy
        · exact absurd e hx
        · exact h3 y hy e

theorem closureFor_spec {scope : Scope} {env : Env} (h : ∀ x ∈ scope.names, x.2 = .free → ∃ c, env.cells.lookup x.1 = some c) :
    ∃ cl, closureFor scope env = pure cl ∧ (∀ x c, cl.lookup x = some c → env.cells.lookup x = some c) ∧ ∀ x ∈ scope.names, x.2 = .free → ∃ c, cl.lookup x.1 = some c := by
  obtain ⟨cl, h1, h2, h3, _⟩ := closure_go (env := env) (fun x cs => match x with
      | (name, kind) => if (kind == NameKind.free) = true then do let a ← cellOf env name; pure (ForInStep.yield ((name, a) :: cs)) else pure (ForInStep.yield cs))
    (fun x acc e => by
      obtain ⟨n, k⟩ := x
      have e : k = .free := e
      subst e; rfl) (fun x acc e => by
      obtain ⟨n, k⟩ := x
      have : (k == NameKind.free) = false := by simpa using e
      simp [this]) scope.names [] h (fun p hp => (nomatch hp))
  refine ⟨cl, ?_, fun x c e => ?_, fun x hx e => ?_⟩
  · have e : closureFor scope env = ((forIn scope.names [] fun x cs => match x with
      | (name, kind) => if (kind == NameKind.free) = true then do let a ← cellOf env name; pure (ForInStep.yield ((name, a) :: cs)) else pure (ForInStep.yield cs)) >>= fun cs => pure cs) := rfl
    rw [e, h1]
    rfl
  · have : (x, c) ∈ cl := by
      clear h1 h2 h3
      rename_i h4
      clear h4
      induction cl with
      | nil => (first | subst e | contradiction | (injection e with e; subst e) | cases e)
      | cons p r ih =>
        rw [List.lookup_cons] at e
        cases q : x == p.1 with
        | true =>
          rw [q] at e
          (first | subst e | contradiction | (injection e with e; subst e) | cases e)
          rw [beq_iff_eq.mp q]
          exact .head _
        | false =>
          rw [q] at e
          exact .tail _ (ih e)
    exact h2 (x, c) this
  · obtain ⟨p, hp, he⟩ := h3 x hx e
    cases q : cl.lookup x.1 with
    | some c => exact ⟨c, rfl⟩
    | none =>
      rw [List.lookup_eq_none_iff] at q
      have := q p hp
      rw [he] at this
      simp at this

section
variable {W : Wd} {A : Around} {Λ σ : List Addr} {E : Value → Shared → Prop} {s : Shared} {st : Sto} {sc : Scope} {env : Env} {ρ : En}

theorem it_iter {B : Addr → Prop} {it : Addr} {l : List V} {Q : Value → Shared → Prop} (I : ItSt B s.heap it l) (q : Q (.ref it) s) : wpAny (model W.prog W.w) A (pyIter (.ref it)) Q E s := by
  rcases I with ⟨a, vs, i, h1, _⟩ | ⟨a, vs, i, h1, _⟩ | ⟨x', left, h1, _⟩
  · exact wpAny_pyIter_listiter h1 q
  · exact wpAny_pyIter_tupleiter h1 q
  · exact wpAny_pyIter_rangeiter h1 q

/-- a protected thing that goes, in the midst -/
theorem Inv.dropAt {Λ' : List Addr} {h h' : Heap} {it : Addr} (I : Inv W σ Λ' h st) (hi : it ∈ Λ') (hs : ∀ a ∈ Λ, a ∈ Λ' ∧ a ≠ it) (hr : ∀ a ∈ Λ', a = it ∨ a ∈ Λ) (hf : it ∉ W.fr) (x : Heap.ExtBut it h h') : Inv W σ Λ h' st := by
  have ne : ∀ b, Bad σ Λ b → b ≠ it := fun b q e => by
    subst e
    rcases q with q | q
    · exact I.apart b q hi
    · exact (hs b q).2 rfl
  have up : ∀ b, Bad σ Λ b → Bad σ Λ' b := fun b q => q.elim .inl fun q => .inr (hs b q).1
  have mv : ∀ b o, h.get? b = some o → ¬ Bad σ Λ' b → At h' b o ∧ ¬ Bad σ Λ b := fun b o e n => ⟨.inl (x b o (fun q => n (.inr (q ▸ hi))) e), fun q => n (up b q)⟩
  refine ⟨fun b o e => x b o (fun q => ?_) (I.keep b o e), fun b q => ⟨(I.new b (up b q)).1, ?_⟩, ⟨I.store.1, I.store.2.1, fun i b l e1 e2 => ?_⟩, fun b hb q => I.apart b hb (hs b q).1, fun b q => ⟨(hr b (I.dic b q).1).elim (fun z => absurd (z ▸ q) hf) id, ns_ex (I.dic b q).2 fun o e => .inl (x b o (fun z => hf (z ▸ q)) e)⟩⟩
  · have := (I.new it (.inr hi)).1
    rw [← q] at this
    exact absurd (Heap.lt_size e) (Nat.not_lt.mpr this)
  · obtain ⟨o, e⟩ := (I.new b (up b q)).2
    exact ⟨o, x b o (ne b q) e⟩
  · obtain ⟨vs, q, r, z⟩ := I.store.2.2 i b l e1 e2
    exact ⟨vs, q.at fun o e => x b o (ne b (.inl (List.mem_of_getElem? e1))) e, r.mono mv, z⟩

/-- a protected list becomes one of the store's -/
theorem Inv.moveM {h : Heap} {a : Addr} {vs : List Value} {l : List V} {n : Nat} (I : Inv W σ (a :: Λ) h st) (hn : a ∉ Λ) (hf : a ∉ W.fr) (ho : h.get? a = some { cls := .type "list", data := .seq vs.toArray n }) (r : Reps (Bad σ (a :: Λ)) h vs l) (hlen : l.length ≤ 2 ^ 20 + 1) :
    Inv W (σ ++ [a]) Λ h (st ++ [l]) := by
  have same : ∀ b, Bad (σ ++ [a]) Λ b → Bad σ (a :: Λ) b := fun b q => by
    rcases q with q | q
    · rcases List.mem_append.mp q with q | q
      · exact .inl q
      · rw [List.mem_singleton.mp q]; exact .inr (.head _)
    · exact .inr (.tail _ q)
  have mv : ∀ b o, h.get? b = some o → ¬ Bad σ (a :: Λ) b → At h b o ∧ ¬ Bad (σ ++ [a]) Λ b := fun b o e n => ⟨.inl e, fun q => n (same b q)⟩
  refine ⟨I.keep, fun b q => I.new b (same b q), ⟨by rw [List.length_append, List.length_append, I.store.1]; rfl, ?_, fun i b m e1 e2 => ?_⟩, fun b hb q => ?_, fun b q => ⟨(List.mem_cons.mp (I.dic b q).1).elim (fun z => absurd (z ▸ q) hf) id, (I.dic b q).2⟩⟩
  · rw [List.nodup_append]
    refine ⟨I.store.2.1, by simp, fun b hb c hc => ?_⟩
    rw [List.mem_singleton.mp hc]
    rintro rfl
    exact I.apart b hb (.head _)
  · by_cases hi : i < σ.length
    · rw [List.getElem?_append_left hi] at e1
      rw [List.getElem?_append_left (by rw [← I.store.1]; exact hi)] at e2
      obtain ⟨ws, q, r', z⟩ := I.store.2.2 i b m e1 e2
      exact ⟨ws, q, r'.mono mv, z⟩
    · have hl := (List.getElem?_eq_some_iff.mp e1).1
      rw [List.length_append] at hl
      have : i = σ.length := by simp at hl; omega
      subst this
      have e1' : b = a := by simpa using e1.symm
      rw [I.store.1] at e2
      have e2' : m = l := by simpa using e2.symm
      subst e1' e2'
      exact ⟨vs, ⟨n, ho⟩, r.mono mv, hlen⟩
  · rcases List.mem_append.mp hb with hb | hb
    · exact I.apart b hb (.tail _ q)
    · rw [List.mem_singleton.mp hb] at q; exact hn q

theorem relab_eq (hE : EnvOk Λ sc env) (scope : Scope) : relabel scope env = relab scope sc := by
  have := hE.scope
  subst this
  rfl
theorem relab_mem {scope : Scope} : ∀ {names : List (Str × NameKind)} {x : Str} {k : NameKind}, (names.map fun (n, k) => if (k == .free && (envS sc).scope.kind == .function && (envS sc).kindOf n == some .cell) then (n, NameKind.cell) else (n, k)).lookup x = some k →
    (k = .local → names.lookup x = some .local) ∧ (k = .cell → ∃ k', (k' = .cell ∨ k' = .free) ∧ names.lookup x = some k') ∧ (k = .free → names.lookup x = some .free)
  | [], _, _, h => by (first | subst h | contradiction | (injection h with h; subst h) | cases h)
  | (n, k0) :: r, x, k, h => by
    rw [List.map_cons, List.lookup_cons] at h
    rw [List.lookup_cons]
    by_cases hc : (k0 == .free && (envS sc).scope.kind == .function && (envS sc).kindOf n == some .cell) = true
    · dsimp only at h
      rw [if_pos hc] at h
      have hk : k0 = .free := by
        simp only [Bool.and_eq_true, beq_iff_eq] at hc
        exact hc.1.1
      dsimp only at h
      cases q : x == n with
      | true =>
        rw [q] at h
        (first | subst h | contradiction | (injection h with h; subst h) | cases h)
        subst hk
        exact ⟨fun e => (by (first | subst e | contradiction | (injection e with e; subst e) | cases e)), fun _ => ⟨_, .inr rfl, rfl⟩, fun e => (by (first | subst e | contradiction | (injection e with e; subst e) | cases e))⟩
      | false =>
        rw [q] at h
        exact relab_mem (scope := scope) h
    · dsimp only at h
      rw [if_neg hc] at h
      dsimp only at h
      cases q : x == n with
      | true =>
        rw [q] at h
        (first | subst h | contradiction | (injection h with h; subst h) | cases h)
        exact ⟨fun e => by rw [e], fun e => ⟨_, .inl rfl, by rw [e]⟩, fun e => by rw [e]⟩
      | false =>
        rw [q] at h
        exact relab_mem (scope := scope) h

theorem mem_of_lookup {α : Type} : ∀ {l : List (Str × α)} {x : Str} {a : α}, l.lookup x = some a → (x, a) ∈ l
  | [], _, _, h => by (first | subst h | contradiction | (injection h with h; subst h) | cases h)
  | (y, b) :: r, x, a, h => by
    rw [List.lookup_cons] at h
    cases q : x == y with
    | true =>
      rw [q] at h
      (first | subst h | contradiction | (injection h with h; subst h) | cases h)
      rw [beq_iff_eq.mp q]
      exact .head _
    | false =>
      rw [q] at h
      exact .tail _ (mem_of_lookup h)

theorem freeOf_lookup {sc' : Scope} : ∀ {ρ : En} {x : Str} {d : D}, (freeOf sc' ρ).lookup x = some d → ρ.lookup x = some d ∧ (sc'.names.lookup x = some .cell ∨ sc'.names.lookup x = some .free)
  | [], x, d, h => by (first | subst h | contradiction | (injection h with h; subst h) | cases h)
  | (y, e) :: r, x, d, h => by
    unfold freeOf at h
    rw [List.filter_cons] at h
    rw [List.lookup_cons]
    split at h
    · rename_i hc
      rw [List.lookup_cons] at h
      cases q : x == y with
      | true =>
        rw [q] at h
        (first | subst h | contradiction | (injection h with h; subst h) | cases h)
        have := beq_iff_eq.mp q
        subst this
        refine ⟨rfl, ?_⟩
        simpa using hc
      | false =>
        rw [q] at h
        exact freeOf_lookup (ρ := r) h
    · rename_i hc
      have ih := freeOf_lookup (ρ := r) h
      cases q : x == y with
      | true =>
        have := beq_iff_eq.mp q
        subst this
        exfalso
        apply hc
        simpa using ih.2
      | false => exact ih

/-- one name stored: only the frame's names turn -/
theorem store_loc (hE : EnvOk Λ sc env) {x : Str} {d : D} {v : Value} {Q : Unit → Shared → Prop} (iv : Inv W σ Λ s.heap st) (V : Vars Λ sc env ρ σ s.heap) (hx : sc.names.lookup x = some .local) (r : RepD σ (Bad σ Λ) s.heap v d)
    (q : ∀ h' tk, Inv W σ Λ h' st → Kp (fun a => a = env.locals) s.heap h' → Vars Λ sc env (setE x d ρ) σ h' → Q () { s with heap := h', toks := tk }) : wpAny (model W.prog W.w) A (storeName env x v) Q E s := by
  obtain ⟨m, hn, V⟩ := V
  refine wpAny_storeName_local (by unfold Env.kindOf; rw [hE.scope]; exact hx) hn (fun h' hn' hs => ?_) (kind_false hE)
  obtain ⟨o, ho⟩ := ns_obj hn'
  exact q h' (s.toks + 1) (iv.touch hs hE.loc ho fun _ => ⟨_, hn'⟩) (Kp.same hs rfl ho) (Vars.set hE.loc hs hn hn' V hx r)

structure Cst (W : Wd) (Λ σ₁ : List Addr) (h₁ : Heap) (C₀ D₀ it₀ : Addr) (sc : Scope) (env : Env) (h : Heap) (σ : List Addr) (st : Sto) (ρ : En) (l acc : List V) : Prop where
  fr : Fresh σ₁ σ h₁
  kp : Kp (fun x => x ∈ σ₁ ∨ NoX x) h₁ h
  iv : Inv W σ (C₀ :: D₀ :: it₀ :: Λ) h st
  it : ItSt (Bad σ (C₀ :: D₀ :: it₀ :: Λ)) h it₀ l
  vr : Vars (C₀ :: D₀ :: it₀ :: Λ) sc env ρ σ h
  len : acc.length ≤ 2 ^ 20 + 1
  nf : C₀ ∉ W.fr ∧ D₀ ∉ W.fr ∧ it₀ ∉ W.fr
  ls : ∃ ws n, h.get? D₀ = some ({ cls := .type "list", data := .seq (List.toArray ws) n } : Obj) ∧ Reps (Bad σ (C₀ :: D₀ :: it₀ :: Λ)) h ws acc

section
variable {σ₁ σ' : List Addr} {h₁ h h' : Heap} {C₀ D₀ it₀ : Addr} {st' : Sto} {l acc : List V}
theorem Cst.ev (c : Cst W Λ σ₁ h₁ C₀ D₀ it₀ sc env h σ st ρ l acc) (hloc : env.locals = C₀) (f : Fresh σ σ' h) (k : Kp (fun x => x ∈ σ ∨ NoX x) h h') (i : Inv W σ' (C₀ :: D₀ :: it₀ :: Λ) h' st') :
    Cst W Λ σ₁ h₁ C₀ D₀ it₀ sc env h' σ' st' ρ l acc := by
  have kb : Kp (Bad σ (C₀ :: D₀ :: it₀ :: Λ)) h h' := k.weak fun a q => q.elim .inl fun q => q.elim
  obtain ⟨ws, n, ho, r⟩ := c.ls
  have ni : it₀ ∉ σ := c.iv.sigma (.tail _ (.tail _ (.head _)))
  have nd : D₀ ∉ σ := c.iv.sigma (.tail _ (.head _))
  refine ⟨c.fr.trans f c.kp, c.kp.trans k fun a al q => q.elim (fun q => .inl (al.elim fun _ e => c.fr.low e q)) .inr, i, ?_, c.vr.step (c.iv.sigma (hloc ▸ .head _)) f k, c.len, c.nf, ws, n, (k.at ho fun q => q.elim nd fun q => q.elim).nd (fun _ _ q => nomatch q), r.step f kb⟩
  exact c.it.mono (fun b o e nb => ⟨kb.at e nb, fun q => nb (q.elim (fun q => .inl (f.low e q)) .inr)⟩) fun o e => k.at e fun q => q.elim ni fun q => q.elim

/-- one of the three that are new turns -/
theorem Cst.tc {x : Addr} {o : Obj} {ρ' : En} {l' acc' : List V} (c : Cst W Λ σ₁ h₁ C₀ D₀ it₀ sc env h σ st ρ l acc) (hx : x = C₀ ∨ x = D₀ ∨ x = it₀) (hn : h₁.get? x = none) (hs : Heap.SameBut x h h') (ho : h'.get? x = some o)
    (hit : ItSt (Bad σ (C₀ :: D₀ :: it₀ :: Λ)) h' it₀ l') (hv : Vars (C₀ :: D₀ :: it₀ :: Λ) sc env ρ' σ h') (hl : acc'.length ≤ 2 ^ 20 + 1) (hd : ∃ ws n, h'.get? D₀ = some ({ cls := .type "list", data := .seq (List.toArray ws) n } : Obj) ∧ Reps (Bad σ (C₀ :: D₀ :: it₀ :: Λ)) h' ws acc') :
    Cst W Λ σ₁ h₁ C₀ D₀ it₀ sc env h' σ st ρ' l' acc' := by
  have hxl : x ∈ C₀ :: D₀ :: it₀ :: Λ := by rcases hx with rfl | rfl | rfl <;> simp
  refine ⟨c.fr, c.kp.trans (W' := fun a => a = x) (Kp.same hs rfl ho) fun a al q => ?_, c.iv.touch hs hxl ho (fun q => absurd q (by rcases hx with rfl | rfl | rfl; exact c.nf.1; exact c.nf.2.1; exact c.nf.2.2)), hit, hv, hl, c.nf, hd⟩
  obtain ⟨o, e⟩ := al
  rw [q, hn] at e; (first | subst e | contradiction | (injection e with e; subst e) | cases e)

/-- all is gone through -/
theorem Cst.done {mt : Bool} {Q : Value → Shared → Prop} {tk tk' : Nat} {s : Shared} (c : Cst W Λ σ₁ h₁ C₀ D₀ it₀ sc env h σ st ρ [] acc) (hD : h₁.get? D₀ = none) (hC : h₁.get? C₀ = none) (hi : h₁.get? it₀ = none) (hDl : D₀ ∉ it₀ :: Λ) (hCl : C₀ ∉ D₀ :: it₀ :: Λ) (hil : it₀ ∉ Λ)
    (H : Po W Λ NoX (relD Λ) E σ₁ { s with heap := h₁, toks := tk } (if mt then .ok (.m st.length) (st ++ [acc]) else .ok (.v (.lst acc)) st) Q)
    {h'' : Heap} (x1 : Heap.ExtBut it₀ h h') (x2 : Heap.ExtBut C₀ h' h'') : Q (.ref D₀) { s with heap := h'', toks := tk' } := by
  obtain ⟨ws, n, ho, r⟩ := c.ls
  have cd : C₀ ≠ D₀ := fun q => hCl (q ▸ .head _)
  have ci : C₀ ≠ it₀ := fun q => hCl (q ▸ .tail _ (.head _))
  have cl : C₀ ∉ Λ := fun q => hCl (.tail _ (.tail _ q))
  have di : D₀ ≠ it₀ := fun q => hDl (q ▸ .head _)
  have dl : D₀ ∉ Λ := fun q => hDl (.tail _ q)
  have i1 : Inv W σ (C₀ :: D₀ :: Λ) h' st := c.iv.dropAt (it := it₀) (by simp) (fun a ha => ⟨by simp at ha ⊢; rcases ha with ha | ha | ha <;> simp [ha], by
      rintro rfl
      rcases List.mem_cons.mp ha with q | ha
      · exact ci q.symm
      · rcases List.mem_cons.mp ha with q | ha
        · exact di q.symm
        · exact hil ha⟩) (fun a ha => by simp at ha ⊢; rcases ha with ha | ha | ha | ha <;> simp [ha]) c.nf.2.2 x1
  have i2 : Inv W σ (D₀ :: Λ) h'' st := i1.drop (fun q => by
      rcases List.mem_cons.mp q with q | q
      · exact cd q
      · exact cl q) c.nf.1 x2
  have mv : ∀ b o, h.get? b = some o → ¬ Bad σ (C₀ :: D₀ :: it₀ :: Λ) b → At h'' b o ∧ ¬ Bad σ (D₀ :: Λ) b := fun b o e nb =>
    ⟨.inl (x2 b o (fun q => nb (.inr (q ▸ .head _))) (x1 b o (fun q => nb (.inr (q ▸ .tail _ (.tail _ (.head _))))) e)), fun q => nb (q.elim .inl fun q => .inr (by
      rcases List.mem_cons.mp q with q | q
      · rw [q]; simp
      · simp [q]))⟩
  have r2 : Reps (Bad σ (D₀ :: Λ)) h'' ws acc := r.mono mv
  have o2 : h''.get? D₀ = some ({ cls := .type "list", data := .seq (List.toArray ws) n } : Obj) := x2 _ _ (fun q => cd q.symm) (x1 _ _ di ho)
  have kp : Kp (fun x => x ∈ σ₁ ∨ NoX x) h₁ h'' := (c.kp.fin hi x1).fin hC x2
  induction mt using Bool.casesOn with
  | true =>
    rw [if_pos rfl] at H
    have i3 := i2.moveM dl c.nf.2.1 o2 r2 c.len
    refine H (σ ++ [D₀]) h'' tk' (.ref D₀) ?_ kp i3 ⟨D₀, ?_, rfl⟩
    · obtain ⟨e, rfl, he⟩ := c.fr
      refine ⟨e ++ [D₀], by rw [List.append_assoc], fun a ha => ?_⟩
      rcases List.mem_append.mp ha with ha | ha
      · exact he a ha
      · rw [List.mem_singleton.mp ha]; exact hD
    · rw [← c.iv.store.1, List.getElem?_append_right (Nat.le_refl _), Nat.sub_self]; rfl
  | false =>
    rw [if_neg (by decide)] at H
    refine H σ h'' tk' (.ref D₀) c.fr kp (i2.unlam c.nf.2.1) ?_
    show Rep _ _ _ _
    unfold Rep
    exact ⟨D₀, _, ws, n, rfl, fun q => q.elim (i2.sigma (.head _)) dl, o2, rfl, rfl, r2.mono unlam_mv⟩
end

theorem nm_let {target : PySem.Expr} {it v : Value} (h : isNm target = true) : letOwnedTupleGo target it v = pure () := by
  cases target <;> first | rfl | (first | subst h | contradiction | (injection h with h; subst h) | cases h)
/-- what is still owed -/
noncomputable def Owe (W : Wd) (Λ : List Addr) (E : Value → Shared → Prop) (mt : Bool) (Q : Value → Shared → Prop) (σ₁ : List Addr) (s : Shared) (r : Out (List V)) : Prop :=
  Po W Λ NoX (relD Λ) E σ₁ s (r.bind fun acc st => if mt then .ok (.m st.length) (st ++ [acc]) else .ok (.v (.lst acc)) st) Q
/-- between two elements -/
noncomputable def Amid (W : Wd) (Λ : List Addr) (E : Value → Shared → Prop) (mt : Bool) (Q : Value → Shared → Prop) (σ₁ : List Addr) (s : Shared) (h₁ : Heap) (tk₁ : Nat) (C₀ D₀ it₀ : Addr) (sc' : Scope) (cenv : Env) (L : List V → En → List V → Sto → Out (List V)) (k : Nat) (s₂ : Shared) : Prop :=
  ∃ h₅ tk₅ l₅ ρ₅ σ₅ st₅ acc, s₂ = { s with heap := h₅, toks := tk₅ } ∧ k = List.length (α := Mine.V) l₅ ∧ Cst W Λ σ₁ h₁ C₀ D₀ it₀ sc' cenv h₅ σ₅ st₅ ρ₅ l₅ acc ∧ Owe W Λ E mt Q σ₁ { s with heap := h₁, toks := tk₁ } (L l₅ ρ₅ acc st₅)
section
variable {I : In} {σ₁ : List Addr} {h₁ : Heap} {tk₁ : Nat} {C₀ D₀ it₀ : Addr} {sc' : Scope} {cenv : Env} {mt : Bool} {Q : Value → Shared → Prop} {cl : List (Str × Addr)}
theorem vr_mv {σ : List Addr} {h h' : Heap} (hce : cenv.cells = cl) (hloc : cenv.locals = C₀) (hnc : ∀ x d, cl.lookup x = some d → d ∈ Λ) {x : Addr} (hx : x ∉ Λ) (hxc : x ≠ C₀) (kp : Kp (fun a => a = x) h h') (hb : Bad σ (C₀ :: D₀ :: it₀ :: Λ) x) (V : Vars (C₀ :: D₀ :: it₀ :: Λ) sc' cenv ρ σ h) : Vars (C₀ :: D₀ :: it₀ :: Λ) sc' cenv ρ σ h' :=
  V.mono (fun b o e nb => ⟨kp.at e fun q => nb (q ▸ hb), nb⟩) fun b o e q => kp.at e fun q' => by
    rcases q with q | ⟨y, q⟩
    · exact hxc (q'.symm.trans (q.trans hloc))
    · exact hx (q' ▸ hnc y b (hce ▸ q))
theorem c_it {h₅ h₆ : Heap} {σ₅ : List Addr} {st₅ : Sto} {ρ₅ : En} {x : V} {l₅ acc : List V} {o₆ : Obj} (hce : cenv.cells = cl) (hloc : cenv.locals = C₀) (hnc : ∀ x d, cl.lookup x = some d → d ∈ Λ) (n1 : h₁.get? it₀ = none) (hDl : D₀ ∉ it₀ :: Λ) (hCl : C₀ ∉ D₀ :: it₀ :: Λ) (hnl : it₀ ∉ Λ)
    (c : Cst W Λ σ₁ h₁ C₀ D₀ it₀ sc' cenv h₅ σ₅ st₅ ρ₅ (x :: l₅) acc) (hs₆ : Heap.SameBut it₀ h₅ h₆) (al₆ : h₆.get? it₀ = some o₆) (hit₆ : ItSt (Bad σ₅ (C₀ :: D₀ :: it₀ :: Λ)) h₆ it₀ l₅) : Cst W Λ σ₁ h₁ C₀ D₀ it₀ sc' cenv h₆ σ₅ st₅ ρ₅ l₅ acc := by
  have kp₆ : Kp (fun x => x = it₀) h₅ h₆ := Kp.same hs₆ rfl al₆
  have bit : Bad σ₅ (C₀ :: D₀ :: it₀ :: Λ) it₀ := .inr (.tail _ (.tail _ (.head _)))
  obtain ⟨ws, n, ho, r⟩ := c.ls
  exact c.tc (.inr (.inr rfl)) n1 hs₆ al₆ hit₆ (vr_mv hce hloc hnc hnl (fun q => hCl (q ▸ .tail _ (.head _))) kp₆ bit c.vr) c.len ⟨ws, n, (kp₆.at ho fun q => hDl (q ▸ .head _)).nd (fun _ _ q => nomatch q), r.step Fresh.refl (kp₆.weak fun a q => q ▸ bit)⟩
theorem c_sto {h₆ h₇ : Heap} {σ₅ : List Addr} {st₅ : Sto} {ρ₅ ρ₆ : En} {l₅ acc : List V} (hC1 : h₁.get? C₀ = none) (hCl : C₀ ∉ D₀ :: it₀ :: Λ) (c₆ : Cst W Λ σ₁ h₁ C₀ D₀ it₀ sc' cenv h₆ σ₅ st₅ ρ₅ l₅ acc)
    (i₇ : Inv W σ₅ (C₀ :: D₀ :: it₀ :: Λ) h₇ st₅) (k₇ : Kp (fun a => a = C₀) h₆ h₇) (V₇ : Vars (C₀ :: D₀ :: it₀ :: Λ) sc' cenv ρ₆ σ₅ h₇) : Cst W Λ σ₁ h₁ C₀ D₀ it₀ sc' cenv h₇ σ₅ st₅ ρ₆ l₅ acc := by
  have bC : Bad σ₅ (C₀ :: D₀ :: it₀ :: Λ) C₀ := .inr (.head _)
  obtain ⟨ws, n, ho, r⟩ := c₆.ls
  refine ⟨c₆.fr, c₆.kp.trans k₇ (fun a al q => ?_), i₇, c₆.it.mono (fun b o e nb => ⟨k₇.at e fun q => nb (q ▸ bC), nb⟩) (fun o e => k₇.at e fun q => hCl (q ▸ .tail _ (.head _))), V₇, c₆.len, c₆.nf, ws, n, (k₇.at ho fun q => hCl (q ▸ .head _)).nd (fun _ _ q => nomatch q), r.step Fresh.refl (k₇.weak fun a q => q ▸ bC)⟩
  obtain ⟨o, e⟩ := al
  rw [q, hC1] at e; (first | subst e | contradiction | (injection e with e; subst e) | cases e)
theorem c_app {h₉ h' : Heap} {σ₉ : List Addr} {st₉ : Sto} {ρ₆ : En} {l₅ acc : List V} {y : V} {v₉ : Value} {ws : List Value} {m : Nat} {o' : Obj} (hce : cenv.cells = cl) (hloc : cenv.locals = C₀) (hnc : ∀ x d, cl.lookup x = some d → d ∈ Λ) (hD1 : h₁.get? D₀ = none) (hDl : D₀ ∉ it₀ :: Λ) (hCl : C₀ ∉ D₀ :: it₀ :: Λ)
    (c₉ : Cst W Λ σ₁ h₁ C₀ D₀ it₀ sc' cenv h₉ σ₉ st₉ ρ₆ l₅ acc) (r : Reps (Bad σ₉ (C₀ :: D₀ :: it₀ :: Λ)) h₉ ws acc) (r₉ : Rep (Bad σ₉ (C₀ :: D₀ :: it₀ :: Λ)) h₉ v₉ y) (hz : acc.length ≤ 2 ^ 20)
    (hs : Heap.SameBut D₀ h₉ h') (ho' : h'.get? D₀ = some o') (hl : o' = ({ cls := .type "list", data := .seq (List.toArray (ws ++ [v₉])) (m + 1) } : Obj)) : Cst W Λ σ₁ h₁ C₀ D₀ it₀ sc' cenv h' σ₉ st₉ ρ₆ l₅ (acc ++ [y]) := by
  have bD : Bad σ₉ (C₀ :: D₀ :: it₀ :: Λ) D₀ := .inr (.tail _ (.head _))
  have kpD : Kp (fun a => a = D₀) h₉ h' := Kp.same hs rfl ho'
  have kpB : Kp (Bad σ₉ (C₀ :: D₀ :: it₀ :: Λ)) h₉ h' := kpD.weak fun a q => q ▸ bD
  exact c₉.tc (.inr (.inl rfl)) hD1 hs ho' (c₉.it.mono (fun b o e nb => ⟨kpB.at e nb, nb⟩) fun o e => kpD.at e fun q => hDl (q ▸ .head _)) (vr_mv hce hloc hnc (fun q => hDl (.tail _ q)) (fun q => hCl (q ▸ .head _)) kpD bD c₉.vr) (by rw [List.length_append]; exact Nat.succ_le_succ hz) ⟨ws ++ [v₉], m + 1, by rw [ho', hl], (r.step Fresh.refl kpB).append ⟨r₉.step Fresh.refl kpB, trivial⟩⟩
/-- the element's own turn -/
theorem comp_elt {elt : PySem.Expr} {put : V → En → Option En} {tst : En → Sto → Out Bool} {E' : Value → Shared → Prop} {b : Bool} {σ₈ : List Addr} {h₈ : Heap} {tk₈ : Nat} {st₈ : Sto} {ρ₆ : En} {l₅ acc : List V} {n₀ : Nat} (hn₀ : l₅.length < n₀) (hI : IE W A I) (hE' : EnvOk (C₀ :: D₀ :: it₀ :: Λ) sc' cenv)
    (hce : cenv.cells = cl) (hloc : cenv.locals = C₀) (hnc : ∀ x d, cl.lookup x = some d → d ∈ Λ) (hD1 : h₁.get? D₀ = none) (hDl : D₀ ∉ it₀ :: Λ) (hCl : C₀ ∉ D₀ :: it₀ :: Λ)
    (c₈ : Cst W Λ σ₁ h₁ C₀ D₀ it₀ sc' cenv h₈ σ₈ st₈ ρ₆ l₅ acc)
    (H₈ : Owe W Λ E mt Q σ₁ { s with heap := h₁, toks := tk₁ } (if b then (I.ex sc' ρ₆ elt st₈).quiet.bind fun d st => match d with
        | .v y => if szOk acc.length then compL put tst (fun ρ st => I.ex sc' ρ elt st) l₅ ρ₆ (acc ++ [y]) st else .stuck
        | .m _ => .stuck
      else compL put tst (fun ρ st => I.ex sc' ρ elt st) l₅ ρ₆ acc st₈)) :
    (if b = true then wpAny (model W.prog W.w) A (eval elt cenv)
        (fun x' s₄ => wpAny (model W.prog W.w) A (call (Value.builtin "list.append") [.ref D₀, x']) (fun _ s₅ => ∃ m, m < n₀ ∧ Amid W Λ E mt Q σ₁ s h₁ tk₁ C₀ D₀ it₀ sc' cenv (compL put tst fun ρ st => I.ex sc' ρ elt st) m s₅) E' s₄) E' { s with heap := h₈, toks := tk₈ }
      else ∃ m, m < n₀ ∧ Amid W Λ E mt Q σ₁ s h₁ tk₁ C₀ D₀ it₀ sc' cenv (compL put tst fun ρ st => I.ex sc' ρ elt st) m { s with heap := h₈, toks := tk₈ }) := by
  induction b using Bool.casesOn with
  | false => exact ⟨l₅.length, hn₀, h₈, tk₈, l₅, _, σ₈, st₈, acc, rfl, rfl, c₈, H₈⟩
  | true =>
    rw [if_pos rfl] at H₈ ⊢
    unfold Owe at H₈
    rw [Out.bind_assoc] at H₈
    refine hI _ _ _ _ elt hE' _ σ₈ _ st₈ _ c₈.iv c₈.vr (Po.sub H₈ fun d st₉ σ₉ h₉ tk₉ v₉ f₉ k₉ i₉ r₉ H₉ => ?_)
    have c₉ := c₈.ev hloc f₉ k₉ i₉
    induction d using Mine.D.casesOn with
    | m i => exact H₉.elim
    | v y =>
      by_cases hz : szOk acc.length = true
      · have H₉ : Owe W Λ E mt Q σ₁ { s with heap := h₁, toks := tk₁ } (if szOk acc.length then compL put tst (fun ρ st => I.ex sc' ρ elt st) l₅ ρ₆ (acc ++ [y]) st₉ else .stuck) := H₉
        rw [if_pos hz] at H₉
        obtain ⟨ws, m, ho, r⟩ := c₉.ls
        have hz' : acc.length ≤ 2 ^ 20 := of_decide_eq_true hz
        exact append_at ho (fun h' hs ho' => ⟨l₅.length, hn₀, h', tk₉, l₅, _, σ₉, st₉, acc ++ [y], rfl, rfl, c_app (m := m) hce hloc hnc hD1 hDl hCl c₉ r r₉ hz' hs ho' (by simp), H₉⟩) (by rw [List.size_toArray, r.length]; exact Nat.le_trans hz' (by decide))
      · have H₉ : Owe W Λ E mt Q σ₁ { s with heap := h₁, toks := tk₁ } (if szOk acc.length then compL put tst (fun ρ st => I.ex sc' ρ elt st) l₅ ρ₆ (acc ++ [y]) st₉ else .stuck) := H₉
        rw [if_neg hz] at H₉
        exact H₉.elim
theorem comp_tst {elt : PySem.Expr} {ifs : List PySem.Expr} {put : V → En → Option En} {E' : Value → Shared → Prop} {σ₇ : List Addr} {h₇ : Heap} {tk₇ : Nat} {st₇ : Sto} {ρ₆ : En} {l₅ acc : List V} {n₀ : Nat} (hn₀ : l₅.length < n₀) (hI : IE W A I) (hT : IT W A I) (hE' : EnvOk (C₀ :: D₀ :: it₀ :: Λ) sc' cenv)
    (hce : cenv.cells = cl) (hloc : cenv.locals = C₀) (hnc : ∀ x d, cl.lookup x = some d → d ∈ Λ) (hD1 : h₁.get? D₀ = none) (hDl : D₀ ∉ it₀ :: Λ) (hCl : C₀ ∉ D₀ :: it₀ :: Λ)
    (c₇ : Cst W Λ σ₁ h₁ C₀ D₀ it₀ sc' cenv h₇ σ₇ st₇ ρ₆ l₅ acc)
    (H₇ : Owe W Λ E mt Q σ₁ { s with heap := h₁, toks := tk₁ } ((tests (I.tt sc') ifs ρ₆ st₇).quiet.bind fun b st => if b then (I.ex sc' ρ₆ elt st).quiet.bind fun d st => match d with
        | .v y => if szOk acc.length then compL put (tests (I.tt sc') ifs) (fun ρ st => I.ex sc' ρ elt st) l₅ ρ₆ (acc ++ [y]) st else .stuck
        | .m _ => .stuck
      else compL put (tests (I.tt sc') ifs) (fun ρ st => I.ex sc' ρ elt st) l₅ ρ₆ acc st)) :
    wpAny (model W.prog W.w) A (forIn ifs true fun c r => if r = true then do let ok ← PySem.isTrue c cenv (eval c cenv); pure (ForInStep.yield ok) else pure (ForInStep.yield r)) (fun ok s₃ =>
      if ok = true then wpAny (model W.prog W.w) A (eval elt cenv)
        (fun x' s₄ => wpAny (model W.prog W.w) A (call (Value.builtin "list.append") [.ref D₀, x']) (fun _ s₅ => ∃ m, m < n₀ ∧ Amid W Λ E mt Q σ₁ s h₁ tk₁ C₀ D₀ it₀ sc' cenv (compL put (tests (I.tt sc') ifs) fun ρ st => I.ex sc' ρ elt st) m s₅) E' s₄) E' s₃
      else ∃ m, m < n₀ ∧ Amid W Λ E mt Q σ₁ s h₁ tk₁ C₀ D₀ it₀ sc' cenv (compL put (tests (I.tt sc') ifs) fun ρ st => I.ex sc' ρ elt st) m s₃) E' { s with heap := h₇, toks := tk₇ } := by
  unfold Owe at H₇
  rw [Out.bind_assoc] at H₇
  induction ifs using List.casesOn with
  | nil => exact wpAny_tests_nil (comp_elt (b := true) hn₀ hI hE' hce hloc hnc hD1 hDl hCl c₇ H₇)
  | cons t r =>
    induction r using List.casesOn with
    | nil =>
      refine wpAny_tests_one (hT _ _ _ _ t hE' _ σ₇ _ st₇ _ c₇.iv c₇.vr (Po.sub H₇ fun b st₈ σ₈ h₈ tk₈ b' f₈ k₈ i₈ r₈ H₈ => ?_))
      have r₈ : b' = b := r₈
      subst r₈
      exact comp_elt hn₀ hI hE' hce hloc hnc hD1 hDl hCl (c₇.ev hloc f₈ k₈ i₈) H₈
    | cons _ _ => exact H₇.elim
/-- what a turn of the loop must come to -/
noncomputable def CTurn (W : Wd) (A : Around) (R : Result → Shared → Prop) (D₀ it₀ : Addr) (cenv : Env) (elt target : PySem.Expr) (ifs : List PySem.Expr) (J : Nat → Shared → Prop) (n : Nat) (s : Shared) : Prop :=
  wpAny (model W.prog W.w) A (pyNext (.ref it₀)) (fun r s₁ => match r with
      | none => R (.ok .next) s₁
      | some v => wpAny (model W.prog W.w) A (assign target cenv v) (fun _ s₂ =>
          wpAny (model W.prog W.w) A (forIn ifs true fun c r => if r = true then do let ok ← PySem.isTrue c cenv (eval c cenv); pure (ForInStep.yield ok) else pure (ForInStep.yield r)) (fun ok s₃ =>
            if ok = true then wpAny (model W.prog W.w) A (eval elt cenv) (fun x s₄ =>
              wpAny (model W.prog W.w) A (call (.builtin "list.append") [.ref D₀, x]) (fun _ s₅ => ∃ m, m < n ∧ J m s₅) (notedBy (model W.prog W.w) A cenv fun e s' => R (.error e) s') s₄) (notedBy (model W.prog W.w) A cenv fun e s' => R (.error e) s') s₃
            else ∃ m, m < n ∧ J m s₃) (notedBy (model W.prog W.w) A cenv fun e s' => R (.error e) s') s₂) (notedBy (model W.prog W.w) A cenv fun e s' => R (.error e) s') s₁) (notedBy (model W.prog W.w) A cenv fun e s' => R (.error e) s') s
theorem comp_last {J : Nat → Shared → Prop} {elt target : PySem.Expr} {ifs : List PySem.Expr} {h₅ : Heap} {tk₅ : Nat} {σ₅ : List Addr} {st₅ : Sto} {ρ₅ : En} {acc : List V} {n : Nat} (hh : A.handled = none) (hloc : cenv.locals = C₀) (n1 : h₁.get? it₀ = none) (hC1 : h₁.get? C₀ = none) (hD1 : h₁.get? D₀ = none) (hDl : D₀ ∉ it₀ :: Λ) (hCl : C₀ ∉ D₀ :: it₀ :: Λ) (hnl : it₀ ∉ Λ)
    (c : Cst W Λ σ₁ h₁ C₀ D₀ it₀ sc' cenv h₅ σ₅ st₅ ρ₅ [] acc) (H₅ : Po W Λ NoX (relD Λ) E σ₁ { s with heap := h₁, toks := tk₁ } (if mt then .ok (.m st₅.length) (st₅ ++ [acc]) else .ok (.v (.lst acc)) st₅) Q) :
    CTurn W A (compPost (model W.prog W.w) A E none Q (.ref D₀) C₀) D₀ it₀ cenv elt target ifs J n { s with heap := h₅, toks := tk₅ } := by
  refine it_end hh c.it fun h' hx => ?_
  obtain ⟨m, hn, _⟩ := c.vr
  refine ⟨m, ?_, fun h'' hs => c.done (mt := mt) hD1 hC1 n1 hDl hCl hnl H₅ hx fun b o q e => (hs.2 b q).trans e⟩
  obtain ⟨o, es, ep, ho, r⟩ := hn
  rw [hloc] at ho
  exact ⟨o, es, ep, hx _ _ (fun q => hCl (q ▸ .tail _ (.head _))) ho, r⟩
theorem comp_turn {elt target : PySem.Expr} {ifs : List PySem.Expr} {h₅ : Heap} {tk₅ : Nat} {σ₅ : List Addr} {st₅ : Sto} {ρ₅ : En} {l₅ acc : List V} (hh : A.handled = none) (hI : IE W A I) (hT : IT W A I) (hE' : EnvOk (C₀ :: D₀ :: it₀ :: Λ) sc' cenv)
    (hce : cenv.cells = cl) (hloc : cenv.locals = C₀) (hnc : ∀ x d, cl.lookup x = some d → d ∈ Λ) (n1 : h₁.get? it₀ = none) (hC1 : h₁.get? C₀ = none) (hD1 : h₁.get? D₀ = none) (hDl : D₀ ∉ it₀ :: Λ) (hCl : C₀ ∉ D₀ :: it₀ :: Λ) (hnl : it₀ ∉ Λ)
    (c : Cst W Λ σ₁ h₁ C₀ D₀ it₀ sc' cenv h₅ σ₅ st₅ ρ₅ l₅ acc)
    (H₅ : Owe W Λ E mt Q σ₁ { s with heap := h₁, toks := tk₁ } (compL (putT sc' target) (tests (I.tt sc') ifs) (fun ρ st => I.ex sc' ρ elt st) l₅ ρ₅ acc st₅)) :
    CTurn W A (compPost (model W.prog W.w) A E none Q (.ref D₀) C₀) D₀ it₀ cenv elt target ifs (Amid W Λ E mt Q σ₁ s h₁ tk₁ C₀ D₀ it₀ sc' cenv (compL (putT sc' target) (tests (I.tt sc') ifs) fun ρ st => I.ex sc' ρ elt st)) l₅.length { s with heap := h₅, toks := tk₅ } := by
  induction l₅ using List.casesOn with
  | nil => exact comp_last hh hloc n1 hC1 hD1 hDl hCl hnl c H₅
  | cons x l₅ =>
    unfold Owe compL at H₅
    generalize hput : putT sc' target x ρ₅ = zz
    induction zz using Option.casesOn with
    | none => rw [hput] at H₅; exact H₅.elim
    | some ρ₆ =>
      rw [hput] at H₅
      obtain ⟨n, p, rfl, hn, rfl⟩ := putT_name hput
      exact it_next (.tail _ (.tail _ (.head _))) c.it fun h₆ tk₆ v₆ hs₆ al₆ r₆ hit₆ => al₆.elim fun o₆ al₆ =>
        have c₆ := c_it hce hloc hnc n1 hDl hCl hnl c hs₆ al₆ hit₆
        wpAny_assign_Name (store_loc (d := .v x) hE' c₆.iv c₆.vr hn r₆ fun h₇ tk₇ i₇ k₇ V₇ =>
          comp_tst (Nat.lt_succ_self _) hI hT hE' hce hloc hnc hD1 hDl hCl (c_sto hC1 hCl c₆ i₇ (k₇.weak fun a q => q.trans hloc) V₇) H₅)
theorem comp_loop {elt target iter : PySem.Expr} {ifs : List PySem.Expr} {scope : Scope} {pos : Pos} {h₄ : Heap} {tk₄ : Nat} {l : List V} {ρ' : En} {st₁ : Sto} (hh : A.handled = none) (hnm : isNm target = true) (hI : IE W A I) (hT : IT W A I) (hE' : EnvOk (C₀ :: D₀ :: it₀ :: Λ) sc' cenv)
    (hce : cenv.cells = cl) (hloc : cenv.locals = C₀) (hnc : ∀ x d, cl.lookup x = some d → d ∈ Λ) (n1 : h₁.get? it₀ = none) (hC1 : h₁.get? C₀ = none) (hD1 : h₁.get? D₀ = none) (hDl : D₀ ∉ it₀ :: Λ) (hCl : C₀ ∉ D₀ :: it₀ :: Λ) (hnl : it₀ ∉ Λ)
    (c₀ : Cst W Λ σ₁ h₁ C₀ D₀ it₀ sc' cenv h₄ σ₁ st₁ ρ' l [])
    (H₁ : Owe W Λ E mt Q σ₁ { s with heap := h₁, toks := tk₁ } (compL (putT sc' target) (tests (I.tt sc') ifs) (fun ρ st => I.ex sc' ρ elt st) l ρ' [] st₁)) :
    codeAny (model W.prog W.w) A (.compLoop (.ListComp elt [⟨target, iter, ifs, 0⟩] scope pos) 0 (.ref it₀) (.ref D₀) cenv) (compPost (model W.prog W.w) A E none Q (.ref D₀) C₀) { s with heap := h₄, toks := tk₄ } := by
  refine codeAny_compLoop_tests (Amid W Λ E mt Q σ₁ s h₁ tk₁ C₀ D₀ it₀ sc' cenv (compL (putT sc' target) (tests (I.tt sc') ifs) fun ρ st => I.ex sc' ρ elt st)) (fun k s₂ hI2 => ?_) l.length ⟨h₄, tk₄, l, ρ', σ₁, st₁, [], rfl, rfl, c₀, H₁⟩ (fun v => nm_let hnm)
  show CTurn W A (compPost (model W.prog W.w) A E none Q (.ref D₀) C₀) D₀ it₀ cenv elt target ifs (Amid W Λ E mt Q σ₁ s h₁ tk₁ C₀ D₀ it₀ sc' cenv (compL (putT sc' target) (tests (I.tt sc') ifs) fun ρ st => I.ex sc' ρ elt st)) k s₂
  obtain ⟨h₅, tk₅, l₅, ρ₅, σ₅, st₅, acc, rfl, rfl, c, H₅⟩ := hI2
  exact comp_turn hh hI hT hE' hce hloc hnc n1 hC1 hD1 hDl hCl hnl c H₅
noncomputable abbrev LST : Obj := { cls := .type "list", data := .seq ([] : List Value).toArray }
theorem sub_none {h h' : Heap} (k : ∀ b o, h.get? b = some o → h'.get? b = some o) {x : Addr} (n : h'.get? x = none) : h.get? x = none := by
  generalize q : h.get? x = zz
  induction zz using Option.casesOn with
  | none => rfl
  | some o => rw [k _ _ q] at n; (first | subst n | contradiction | (injection n with n; subst n) | cases n)
theorem free_of {scope : Scope} {x : Str} (hall : ∀ x ∈ scope.names, x.2 ≠ .cell) (q : (relab scope sc).names.lookup x = some .cell ∨ (relab scope sc).names.lookup x = some .free) : scope.names.lookup x = some .free := by
  rcases q with q | q
  · obtain ⟨k', hk', e⟩ := (relab_mem (scope := scope) q).2.1 rfl
    rcases hk' with rfl | rfl
    · exact absurd rfl (hall _ (mem_of_lookup e))
    · exact e
  · exact (relab_mem (scope := scope) q).2.2 rfl
theorem comp_fin {elt target iter : PySem.Expr} {ifs : List PySem.Expr} {scope : Scope} {pos : Pos} {h₂ h₃ h₄ : Heap} {tk₄ : Nat} {l : List V} {st₁ : Sto} (hh : A.handled = none) (hnm : isNm target = true) (hI : IE W A I) (hT : IT W A I) (hE : EnvOk Λ sc env) (hkind : scope.kind = .function)
    (hall : ∀ x ∈ scope.names, x.2 ≠ .cell) (hfr : ∀ x ∈ scope.names, x.2 = .free → sc.names.lookup x.1 = some .cell ∨ sc.names.lookup x.1 = some .free)
    (hcl1 : ∀ x c, cl.lookup x = some c → env.cells.lookup x = some c) (hcl2 : ∀ x ∈ scope.names, x.2 = .free → ∃ c, cl.lookup x.1 = some c)
    (i₁ : Inv W σ₁ Λ h₁ st₁) (V₁ : Vars Λ sc env ρ σ₁ h₁) (i₅ : Inv W σ₁ (C₀ :: D₀ :: it₀ :: Λ) h₄ st₁) (n1 : h₁.get? it₀ = none) (n2 : h₂.get? D₀ = none) (n3 : h₃.get? C₀ = none)
    (kp1 : ∀ b o, h₁.get? b = some o → h₂.get? b = some o) (kp2 : ∀ b o, h₂.get? b = some o → h₃.get? b = some o) (kp3 : ∀ b o, h₃.get? b = some o → h₄.get? b = some o)
    (hDl : D₀ ∉ it₀ :: Λ) (hCl : C₀ ∉ D₀ :: it₀ :: Λ) (hnl : it₀ ∉ Λ) (oD : h₃.get? D₀ = some LST) (hns : ∃ m, h₄.Ns C₀ m) (hit : ItSt (Bad σ₁ (it₀ :: Λ)) h₂ it₀ l)
    (H₁ : Owe W Λ E mt Q σ₁ { s with heap := h₁, toks := tk₁ } (compL (putT (relab scope sc) target) (tests (I.tt (relab scope sc)) ifs) (fun ρ st => I.ex (relab scope sc) ρ elt st) l (freeOf (relab scope sc) ρ) [] st₁)) :
    codeAny (model W.prog W.w) A (.compStart (.ListComp elt [⟨target, iter, ifs, 0⟩] scope pos) 0 (.ref it₀) (.ref D₀) (compEnvC scope cl C₀ env)) (compPost (model W.prog W.w) A E none Q (.ref D₀) C₀) { s with heap := h₄, toks := tk₄ } := by
  have hD1 := sub_none kp1 n2
  have hC1 := sub_none (fun b o e => kp2 b o (kp1 b o e)) n3
  have kp14 : ∀ b o, h₁.get? b = some o → h₄.get? b = some o := fun b o e => kp3 _ _ (kp2 _ _ (kp1 _ _ e))
  have hE' : EnvOk (C₀ :: D₀ :: it₀ :: Λ) (relab scope sc) (compEnvC scope cl C₀ env) :=
    ⟨hkind, relab_eq hE scope, hE.globals, hE.builtins, .head _, fun x c e => .tail _ (.tail _ (.tail _ (hE.cin x c (hcl1 x c e)))), fun x q => hcl2 _ (mem_of_lookup (free_of hall q)) rfl⟩
  have mv14 : ∀ b o, h₁.get? b = some o → ¬ Bad σ₁ Λ b → At h₄ b o ∧ ¬ Bad σ₁ (C₀ :: D₀ :: it₀ :: Λ) b := fun b o e nb => ⟨.inl (kp14 b o e), fun q => by
    rcases q with q | q
    · exact nb (.inl q)
    · rcases List.mem_cons.mp q with rfl | q
      · rw [hC1] at e; (first | subst e | contradiction | (injection e with e; subst e) | cases e)
      · rcases List.mem_cons.mp q with rfl | q
        · rw [hD1] at e; (first | subst e | contradiction | (injection e with e; subst e) | cases e)
        · rcases List.mem_cons.mp q with rfl | q
          · rw [n1] at e; (first | subst e | contradiction | (injection e with e; subst e) | cases e)
          · exact nb (.inr q)⟩
  have V₅ : Vars (C₀ :: D₀ :: it₀ :: Λ) (relab scope sc) (compEnvC scope cl C₀ env) (freeOf (relab scope sc) ρ) σ₁ h₄ := by
    obtain ⟨mm, hns⟩ := hns
    refine ⟨mm, hns, fun x d e => ?_⟩
    obtain ⟨e1, e2⟩ := freeOf_lookup e
    refine ⟨fun q => by rw [q] at e2; (rcases e2 with e2 | e2 <;> (first | subst e2 | contradiction | (injection e2 with e2; subst e2) | cases e2)), fun q => ?_⟩
    have scf := free_of hall q
    obtain ⟨c', hc'⟩ := hcl2 _ (mem_of_lookup scf) rfl
    obtain ⟨m, hn, Vm⟩ := V₁
    obtain ⟨c, ob, w', hcl, hob, hod, hcs, rr⟩ := (Vm x d e1).2 (hfr _ (mem_of_lookup scf) rfl)
    have := hcl1 x c' hc'
    rw [hcl] at this
    (first | subst this | contradiction | (injection this with this; subst this) | cases this)
    exact ⟨_, ob, w', hc', kp14 _ _ hob, hod, hcs, rr.mono mv14⟩
  have hit₅ : ItSt (Bad σ₁ (C₀ :: D₀ :: it₀ :: Λ)) h₄ it₀ l := by
    refine hit.mono (fun b o' e nb => ⟨.inl (kp3 _ _ (kp2 _ _ e)), fun q => ?_⟩) fun o' e => .inl (kp3 _ _ (kp2 _ _ e))
    rcases q with q | q
    · exact nb (.inl q)
    · rcases List.mem_cons.mp q with rfl | q
      · rw [kp2 _ _ e] at n3; (first | subst n3 | contradiction | (injection n3 with n3; subst n3) | cases n3)
      · rcases List.mem_cons.mp q with rfl | q
        · rw [e] at n2; (first | subst n2 | contradiction | (injection n2 with n2; subst n2) | cases n2)
        · exact nb (.inr q)
  have loop := comp_loop (elt := elt) (iter := iter) (pos := pos) (scope := scope) (tk₄ := tk₄) hh hnm hI hT hE' rfl rfl (fun x d e => hE.cin x d (hcl1 x d e)) n1 hC1 hD1 hDl hCl hnl ⟨Fresh.refl, Kp.all kp14, i₅, hit₅, V₅, Nat.zero_le _, ⟨i₁.nfr hC1, i₁.nfr hD1, i₁.nfr n1⟩, [], 0, kp3 _ _ oD, trivial⟩ H₁
  exact codeAny_compStart_list loop (it_iter hit₅ loop)
end
theorem comp_ok {scope : Scope} (h : compOk scope sc = true) : scope.kind = .function ∧ (∀ x ∈ scope.names, x.2 ≠ .cell) ∧ (∀ x ∈ scope.names, x.2 = .local → scope.names.lookup x.1 = some .local) ∧ (∀ x ∈ scope.names, x.2 = .free → sc.names.lookup x.1 = some .cell ∨ sc.names.lookup x.1 = some .free) := by
  unfold compOk at h
  obtain ⟨hkind, hall⟩ := Bool.and_eq_true_iff.mp h
  have hall' : ∀ x ∈ scope.names, x.2 ≠ .cell ∧ (x.2 = .local → scope.names.lookup x.1 = some .local) ∧ (x.2 = .free → scope.names.lookup x.1 = some .free ∧ (sc.names.lookup x.1 = some .cell ∨ sc.names.lookup x.1 = some .free)) := fun x hx => by
    have := List.all_eq_true.mp hall x hx
    simp only [Bool.and_eq_true, Bool.or_eq_true, bne_iff_ne, ne_eq, beq_iff_eq] at this
    refine ⟨this.1.1, fun e => this.1.2.resolve_left fun q => q e, fun e => this.2.resolve_left fun q => q e⟩
  exact ⟨by simpa using hkind, fun x hx => (hall' x hx).1, fun x hx => (hall' x hx).2.1, fun x hx e => ((hall' x hx).2.2 e).2⟩
theorem disp_set {iter : PySem.Expr} (h : isDisp iter = false) (x : Value) : foldedSetIterable iter env x = pure x := by
  cases iter <;> first | rfl | (first | subst h | contradiction | (injection h with h; subst h) | cases h)
theorem comp_sound {C : Cx} {I : In} (hh : C.hand = false → A.handled = none) (hE : EnvOk Λ sc env) (hI : IE W A I) (hT : IT W A I) {elt target iter : PySem.Expr} {ifs : List PySem.Expr} {scope : Scope} {pos : Pos} {Q : Value → Shared → Prop}
    (iv : Inv W σ Λ s.heap st) (V : Vars Λ sc env ρ σ s.heap)
    (H : Po W Λ NoX (relD Λ) E σ s (if ((compOk scope sc && !isDisp iter) && isNm target) && !C.hand then (I.ex sc ρ iter st).bind fun d st => match itemsOf d with
        | some l => (compL (putT (relab scope sc) target) (tests (I.tt (relab scope sc)) ifs) (fun ρ st => I.ex (relab scope sc) ρ elt st) l (freeOf (relab scope sc) ρ) [] st).bind fun acc st =>
            if C.mt pos then .ok (.m st.length) (st ++ [acc]) else .ok (.v (.lst acc)) st
        | Option.none => .stuck
      else .stuck) Q) : wpAny (model W.prog W.w) A (eval (.ListComp elt [⟨target, iter, ifs, 0⟩] scope pos) env) Q E s := by
  by_cases hc : (((compOk scope sc && !isDisp iter) && isNm target) && !C.hand) = true
  · rw [if_pos hc] at H
    simp only [Bool.and_eq_true, Bool.not_eq_true'] at hc
    obtain ⟨⟨⟨hok, hdisp⟩, hnm⟩, hhd⟩ := hc
    obtain ⟨hkind, hall, hloc, hfr⟩ := comp_ok hok
    obtain ⟨cl, hclos, hcl1, hcl2⟩ := closureFor_spec (env := env) (scope := scope) fun x hx e => hE.cells x.1 (hfr x hx e)
    refine wpAny_comprehension_free (g := ⟨target, iter, ifs, 0⟩) (gs := []) rfl (disp_set hdisp) hclos hkind hloc (hI Λ sc env ρ iter hE E σ s st _ iv V (Po.seq0 H fun d st₁ σ₁ h₁ tk₁ v f₁ k₁ i₁ r₁ H₁ => ?_))
    generalize hl : itemsOf d = zz
    induction zz using Option.casesOn with
    | none => rw [hl] at H₁; exact H₁.elim
    | some l =>
      rw [hl] at H₁
      exact it_start i₁ r₁ hl fun o i₂ ho hit => wpAny_newList (wpAny_newFunctionEnv hall (fun x hx => (nomatch hx)) (fun h₄ hns hsb =>
        have kp3 : ∀ b o', ((h₁.push o).push LST).get? b = some o' → h₄.get? b = some o' := fun b o' e => (hsb.2 b fun q => by rw [q] at e; rw [get_size] at e; (first | subst e | contradiction | (injection e with e; subst e) | cases e)).trans (Heap.get?_push_of_some _ e)
        have i₃ : Inv W σ₁ (h₁.objs.size :: Λ) (h₁.push o) st₁ := i₁.lam get_size (fun b o' e => Heap.get?_push_of_some _ e) ho i₁.size
        have i₄ : Inv W σ₁ ((h₁.push o).objs.size :: h₁.objs.size :: Λ) ((h₁.push o).push LST) st₁ := i₃.lam get_size (fun b o' e => Heap.get?_push_of_some _ e) (Heap.get?_push_size _ rfl) i₃.size
        (ns_obj hns).elim fun oC hoC =>
        comp_fin (hh hhd) hnm hI hT hE hkind hall hfr hcl1 hcl2 i₁ (V.step (iv.sigma hE.loc) f₁ k₁) (i₄.lam get_size kp3 hoC i₄.size) get_size get_size get_size (fun b o' e => Heap.get?_push_of_some _ e) (fun b o' e => Heap.get?_push_of_some _ e) kp3
          (fun q => i₃.newAddr (.inr q)) (fun q => i₄.newAddr (.inr q)) (fun q => i₁.newAddr (.inr q)) (Heap.get?_push_size _ rfl) ⟨_, hns⟩ hit H₁) hkind) (by decide)
  · rw [if_neg hc] at H; exact H.elim
end

end Mine

end

section
open PySem PySem.W PySem.Spec PySem.Calls PyProof.Rows
set_option maxRecDepth 100000
namespace Mine

section
variable {W : Wd} {A : Around} {Λ σ : List Addr} {E : Value → Shared → Prop} {s : Shared} {st : Sto} {sc : Scope} {env : Env} {ρ : En}

theorem Vars.fr {h : Heap} (hE : EnvOk Λ sc env) (V : Vars Λ sc env ρ σ h) : ∃ L m, L ∈ Λ ∧ h.Ns L m := by
  obtain ⟨m, hn, _⟩ := V
  exact ⟨_, m, hE.loc, hn⟩

section
variable {C : Cx} {J : Scope → En → PySem.Expr → Sto → Out D} {I : In} {Φ : D → List D → Sto → Out D} {Q : Value → Shared → Prop}
theorem ex_bin {l r : PySem.Expr} {op : Operator} {pos : Pos} (hh : C.hand = false → A.handled = none) (hI : IE W A I) (hE : EnvOk Λ sc env) (iv : Inv W σ Λ s.heap st) (V : Vars Λ sc env ρ σ s.heap)
    (H : Po W Λ NoX (relD Λ) E σ s (if C.hand && isShl op then .stuck else (I.ex sc ρ l st).bind fun a st => (I.ex sc ρ r st).bind fun b st => ofO st ((binop op a b).map D.v)) Q) : wpAny (model W.prog W.w) A (eval (.BinOp l op r pos) env) Q E s := by
  cases hsh : C.hand && isShl op with
  | true => rw [hsh] at H; exact H.elim
  | false =>
    rw [hsh] at H
    refine wpAny_BinOp (hI Λ sc env ρ l hE E σ s st _ iv V (Po.seq0 H fun a st₁ σ₁ h₁ tk₁ va f₁ k₁ i₁ r₁ H₁ => hI Λ sc env ρ r hE E σ₁ _ st₁ _ i₁ (V.step (iv.sigma hE.loc) f₁ k₁) (Po.seq0 H₁ fun b st₂ σ₂ h₂ tk₂ vb f₂ k₂ i₂ r₂ H₂ => ?_)))
    exact binop_sound (fun q => hh (by cases z : C.hand with | false => rfl | true => rw [z, q] at hsh; (first | subst hsh | contradiction | (injection hsh with hsh; subst hsh) | cases hsh))) i₂ (RepD.step r₁ f₂ (k₂.weak fun a q => q.elim .inl fun q => q.elim)) r₂ H₂
theorem ex_not {x : PySem.Expr} {pos : Pos} (hI : IE W A I) (hE : EnvOk Λ sc env) (iv : Inv W σ Λ s.heap st) (V : Vars Λ sc env ρ σ s.heap)
    (H : Po W Λ NoX (relD Λ) E σ s ((I.ex sc ρ x st).bind fun a st => ofO st ((truth a).map fun b => D.v (.bool (!b)))) Q) : wpAny (model W.prog W.w) A (eval (.UnaryOp .Not x pos) env) Q E s := by
  refine wpAny_UnaryOp (hI Λ sc env ρ x hE E σ s st _ iv V (Po.seq0 H fun d st₁ σ₁ h₁ tk₁ v f₁ k₁ i₁ r₁ H₁ => not_of ?_))
  generalize ht : truth d = zz
  induction zz using Option.casesOn with
  | none => rw [ht] at H₁; exact H₁.elim
  | some t => rw [ht] at H₁; exact truth_sound r₁ ht (Po.now (tk := tk₁) H₁ i₁ rfl)
theorem ex_ifx {c a b : PySem.Expr} {pos : Pos} (hI : IE W A I) (hT : IT W A I) (hE : EnvOk Λ sc env) (iv : Inv W σ Λ s.heap st) (V : Vars Λ sc env ρ σ s.heap)
    (H : Po W Λ NoX (relD Λ) E σ s ((I.tt sc ρ c st).bind fun t st => if t then I.ex sc ρ a st else I.ex sc ρ b st) Q) : wpAny (model W.prog W.w) A (eval (.IfExp c a b pos) env) Q E s := by
  refine wpAny_IfExp (hT Λ sc env ρ c hE E σ s st _ iv V (Po.seq0 H fun d st₁ σ₁ h₁ tk₁ v f₁ k₁ i₁ r₁ H₁ => ?_))
  have r₁ : v = d := r₁
  subst r₁
  have V₁ := V.step (iv.sigma hE.loc) f₁ k₁
  induction v using Bool.casesOn with
  | true => exact hI Λ sc env ρ a hE E σ₁ _ st₁ _ i₁ V₁ H₁
  | false => exact hI Λ sc env ρ b hE E σ₁ _ st₁ _ i₁ V₁ H₁
theorem ex_cmp {l : PySem.Expr} {ops : List CmpOp} {cs : List PySem.Expr} {pos : Pos} (hA : AOk A) (hI : IE W A I) (hE : EnvOk Λ sc env) (iv : Inv W σ Λ s.heap st) (V : Vars Λ sc env ρ σ s.heap)
    (H : Po W Λ NoX (relD Λ) E σ s (if noDisp cs && ops.length == cs.length then (I.ex sc ρ l st).bind fun a st => (chain (I.ex sc ρ) a ops cs st).bind fun b st => .ok (.v (.bool b)) st else .stuck) Q) : wpAny (model W.prog W.w) A (eval (.Compare l ops cs pos) env) Q E s := by
  cases hc : noDisp cs && ops.length == cs.length with
  | false => rw [hc] at H; exact H.elim
  | true =>
    rw [hc] at H
    obtain ⟨h1, h2⟩ := Bool.and_eq_true_iff.mp hc
    show wpAny _ _ (eval l env >>= fun v => compareChain pos v ops (markedEach ops cs (evalEach cs env))) _ _ _
    rw [marked_not h1]
    refine wpAny_bind (hI Λ sc env ρ l hE E σ s st _ iv V (Po.seq0 H fun d st₁ σ₁ h₁ tk₁ v f₁ k₁ i₁ r₁ H₁ => chain_sound hA hE hI (beq_iff_eq.mp h2) i₁ (V.step (iv.sigma hE.loc) f₁ k₁) r₁ (Po.seq0 H₁ fun b st₂ σ₂ h₂ tk₂ vb f₂ k₂ i₂ r₂ H₂ => ?_)))
    have r₂ : vb = b := r₂
    subst r₂
    exact Po.now (tk := tk₂) H₂ i₂ rfl
/-- an attribute's own reading -/
theorem attr_in {c : Addr} {ns : List Str} {vs : List V} {a : Str} {x : V} {v : Value} (hC : CxOk W C) (hE : EnvOk Λ sc env) (iv : Inv W σ Λ s.heap st) (V : Vars Λ sc env ρ σ s.heap) (hat : C.attr c a = true) (hx : (ns.zip vs).lookup a = some x) (hv : isVal x = false)
    (r : Rep (Bad σ Λ) s.heap v (.inst c ns vs)) {K : Value → Shared → Prop} (k : ∀ w tk, Rep (Bad σ Λ) s.heap w x → K w { s with toks := tk }) : wpAny (model W.prog W.w) A (getAttr v a true) K E s := by
  obtain ⟨g1, g2, at', g3, g4⟩ := hC.attr c a hat
  unfold Rep at r
  obtain ⟨q, dx, es, n, rfl, n1, n2, o1, o2, kk, rr⟩ := r
  obtain ⟨w', hw, rw'⟩ := keyed_rep kk rr hx
  obtain ⟨m, F⟩ := frame_of iv hE V
  obtain ⟨ox, sl, IA⟩ := inst_at o1 o2
  have fo := findObj_own g2 g3 g4 (show lookIn a (dictOf es n) = _ from hw)
  have hr := handed_rep rw' hv
  exact g1.elim (fun g1 => get_value (W.X.keeps F.keep) IA (plainGet_of g1).1 fo hr (k _ _ rw')) fun g1 => get_exc (W.X.keeps F.keep) IA g1.1 g1.2.1 g1.2.2 fo hr (k _ _ rw')
theorem ex_attr {o : PySem.Expr} {a : Str} {pos : Pos} (hC : CxOk W C) (hI : IE W A I) (hE : EnvOk Λ sc env) (iv : Inv W σ Λ s.heap st) (V : Vars Λ sc env ρ σ s.heap)
    (H : Po W Λ NoX (relD Λ) E σ s (if isBare o then .stuck else (I.ex sc ρ o st).bind fun d st => match d with
      | .v (.inst c ns vs) => if C.attr c a then (match (ns.zip vs).lookup a with
        | some x => if isVal x then .stuck else .ok (.v x) st
        | Option.none => .stuck) else .stuck
      | _ => .stuck) Q) : wpAny (model W.prog W.w) A (eval (.Attribute o a pos) env) Q E s := by
  generalize hb : isBare o = zz
  induction zz using Bool.casesOn with
  | true => rw [hb] at H; exact H.elim
  | false =>
    rw [hb] at H
    rw [eval_attr, attrBase_not hb]
    refine wpAny_bind (hI Λ sc env ρ o hE E σ s st _ iv V (Po.seq0 H fun d st₁ σ₁ h₁ tk₁ v f₁ k₁ i₁ r₁ H₁ => wpAny_bind (wpAny_standAt (wpAny_bind (wpAny_holding ?_)))))
    induction d using Mine.D.casesOn with
    | m i => exact H₁.elim
    | v y =>
      induction y using Mine.V.casesOn with
      | inst c ns vs =>
        have H₁ : Po W Λ NoX (relD Λ) E σ₁ { s with heap := h₁, toks := tk₁ } (if C.attr c a then (match (ns.zip vs).lookup a with
          | some x => if isVal x then .stuck else .ok (.v x) st₁
          | Option.none => .stuck) else .stuck) Q := H₁
        generalize hat : C.attr c a = zz
        induction zz using Bool.casesOn with
        | false => rw [hat] at H₁; exact H₁.elim
        | true =>
          rw [hat] at H₁
          generalize hx : (ns.zip vs).lookup a = zz
          induction zz using Option.casesOn with
          | none => rw [hx] at H₁; exact H₁.elim
          | some x =>
            rw [hx] at H₁
            generalize hv : isVal x = zz
            induction zz using Bool.casesOn with
            | true =>
              have H₁ : Po W Λ NoX (relD Λ) E σ₁ { s with heap := h₁, toks := tk₁ } (if isVal x then .stuck else .ok (.v x) st₁) Q := H₁
              rw [hv] at H₁; exact H₁.elim
            | false =>
              have H₁ : Po W Λ NoX (relD Λ) E σ₁ { s with heap := h₁, toks := tk₁ } (if isVal x then .stuck else .ok (.v x) st₁) Q := H₁
              rw [hv] at H₁
              exact attr_in (s := { s with heap := h₁, toks := _ }) hC hE i₁ (V.step (iv.sigma hE.loc) f₁ k₁) hat hx hv r₁ fun w tk rw' => wpAny_bind (wpAny_letTemporaryGo (wpAny_pure (Po.now (a := D.v x) (st := st₁) H₁ i₁ rw')))
      | _ => exact H₁.elim
theorem sub1_sound {value slice : PySem.Expr} {d k : D} {v vk : Value} {x : V} (iv : Inv W σ Λ s.heap st) (r₁ : RepD σ (Bad σ Λ) s.heap v d) (r₂ : RepD σ (Bad σ Λ) s.heap vk k) (hx : sub1 d k st = some x) (fin : ∀ v, Rep (Bad σ Λ) s.heap v x → Q v s) : wpAny (model W.prog W.w) A (subscriptTail value slice v vk) Q E s := by
  obtain ⟨z, hk, hy⟩ := Option.bind_eq_some_iff.mp hx
  obtain ⟨l, hl, hi⟩ := Option.bind_eq_some_iff.mp hy
  clear hx hy
  cases intD_v hk
  obtain ⟨t, rfl⟩ := r₂
  rcases seqOf_is hl with rfl | rfl | ⟨j, rfl, hl⟩
  · have r₁ : Rep (Bad σ Λ) s.heap v (.lst l) := r₁
    unfold Rep at r₁
    obtain ⟨q, ob, vs, n, rfl, hb, ho, hc, hd, hr⟩ := r₁
    exact list_item ⟨ob, ho, hc, n, hd⟩ hr hi fin
  · have r₁ : Rep (Bad σ Λ) s.heap v (.tup l) := r₁
    unfold Rep at r₁
    obtain ⟨q, vs, n, rfl, hb, ho, hr⟩ := r₁
    exact tup_item ho hr hi fin
  · obtain ⟨a, ha, rfl⟩ := r₁
    obtain ⟨us, pl, hr, _⟩ := iv.store.2.2 j a l ha hl
    exact list_item pl.isList hr hi fin
theorem ex_sub0 {o i : PySem.Expr} {pos : Pos} (hI : IE W A I) (hE : EnvOk Λ sc env) (iv : Inv W σ Λ s.heap st) (V : Vars Λ sc env ρ σ s.heap)
    (H : Po W Λ NoX (relD Λ) E σ s (if isStar i then .stuck else (I.ex sc ρ o st).bind fun d st => (I.ex sc ρ i st).bind fun k st => ofO st ((sub1 d k st).map D.v)) Q) : wpAny (model W.prog W.w) A (eval (.Subscript o i pos) env) Q E s := by
  generalize hs : isStar i = zz
  induction zz using Bool.casesOn with
  | true => rw [hs] at H; exact H.elim
  | false =>
    rw [hs] at H
    refine Subscript_ (hI Λ sc env ρ o hE E σ s st _ iv V (Po.seq0 H fun d st₁ σ₁ h₁ tk₁ v f₁ k₁ i₁ r₁ H₁ => hI Λ sc env ρ i hE E σ₁ _ st₁ _ i₁ (V.step (iv.sigma hE.loc) f₁ k₁) (Po.seq0 H₁ fun k st₂ σ₂ h₂ tk₂ vk f₂ k₂ i₂ r₂ H₂ => ?_)))
    generalize hx : sub1 d k st₂ = zz
    induction zz using Option.casesOn with
    | none => rw [hx] at H₂; exact H₂.elim
    | some x =>
      rw [hx] at H₂
      exact sub1_sound (s := { s with heap := h₂, toks := _ }) i₂ (RepD.step r₁ f₂ (k₂.weak fun a q => q.elim .inl fun q => q.elim)) r₂ hx fun v r => Po.now (tk := tk₂) H₂ i₂ r
theorem ex_sub {o i : PySem.Expr} {pos : Pos} (hI : IE W A I) (hE : EnvOk Λ sc env) (iv : Inv W σ Λ s.heap st) (V : Vars Λ sc env ρ σ s.heap) : Po W Λ NoX (relD Λ) E σ s ((step C Φ J I).ex sc ρ (.Subscript o i pos) st) Q → wpAny (model W.prog W.w) A (eval (.Subscript o i pos) env) Q E s := by
  have gen := @ex_sub0 W A Λ σ E s st sc env ρ I Q o i pos hI hE iv V
  induction i using PySem.Expr.casesOn with
  | Slice lo hi stp p =>
    induction stp using Option.casesOn with
    | none => exact slice_sound hE hI iv V
    | some z => exact gen
  | _ => exact gen
theorem ex_meth {o : PySem.Expr} {name : Str} {ap pos : Pos} {args : List PySem.Expr} (hA : AOk A) (hC : CxOk W C) (hI : IE W A I) (hΦ : CS W A Φ) (hE : EnvOk Λ sc env) (iv : Inv W σ Λ s.heap st) (V : Vars Λ sc env ρ σ s.heap)
    (H : Po W Λ NoX (relD Λ) E σ s (if !isBare o && noStar args && decide (args.length < 20) && ap.endLine == pos.line then (I.ex sc ρ o st).bind fun d st => match d with
              | .m i => (evs (I.ex sc ρ) args st).quiet.bind fun ds st => listM name i ds st
              | .v (.int i) => intM name i args st
              | .v (.inst c ns _) => (match C.meth c name with
                | some f => if ns.contains name then .stuck else (evs (I.ex sc ρ) args st).bind fun ds st => Φ (.v (.val (.ref f))) (d :: ds) st
                | Option.none => .stuck)
              | _ => .stuck
            else .stuck) Q) : wpAny (model W.prog W.w) A (eval (.Call (.Attribute o name ap) args [] pos) env) Q E s := by
  cases hc : !isBare o && noStar args && decide (args.length < 20) && ap.endLine == pos.line with
  | false => rw [hc] at H; exact H.elim
  | true =>
    rw [hc] at H
    simp only [Bool.and_eq_true, Bool.not_eq_true', decide_eq_true_eq] at hc
    obtain ⟨⟨⟨c1, c2⟩, c3⟩, c4⟩ := hc
    rw [eval_meth, attrBase_not c1]
    refine wpAny_bind (hI Λ sc env ρ o hE E σ s st _ iv V (Po.seq0 H fun d st₁ σ₁ h₁ tk₁ v f₁ k₁ i₁ r₁ H₁ => wpAny_bind (wpAny_standAt ?_)))
    have V₁ := V.step (iv.sigma hE.loc) f₁ k₁
    cases d with
    | m i => exact listM_sound hA hE hI c2 c3 c4 i₁ V₁ r₁ H₁
    | v y =>
      cases y with
      | int i => exact intM_sound hE hI c2 c3 c4 i₁ V₁ r₁ H₁
      | inst c ns vs =>
        have H₁ : Po W Λ NoX (relD Λ) E σ₁ { s with heap := h₁, toks := tk₁ } (match C.meth c name with
          | some f => if ns.contains name then .stuck else (evs (I.ex sc ρ) args st₁).bind fun ds st => Φ (.v (.val (.ref f))) ((.v (.inst c ns vs)) :: ds) st
          | Option.none => .stuck) Q := H₁
        cases hm : C.meth c name with
        | none => rw [hm] at H₁; exact H₁.elim
        | some fa =>
          rw [hm] at H₁
          cases hct : ns.contains name with
          | true =>
            have H₁ : Po W Λ NoX (relD Λ) E σ₁ { s with heap := h₁, toks := tk₁ } (if ns.contains name then .stuck else (evs (I.ex sc ρ) args st₁).bind fun ds st => Φ (.v (.val (.ref fa))) ((.v (.inst c ns vs)) :: ds) st) Q := H₁
            rw [hct] at H₁; exact H₁.elim
          | false =>
            have H₁ : Po W Λ NoX (relD Λ) E σ₁ { s with heap := h₁, toks := tk₁ } (if ns.contains name then .stuck else (evs (I.ex sc ρ) args st₁).bind fun ds st => Φ (.v (.val (.ref fa))) ((.v (.inst c ns vs)) :: ds) st) Q := H₁
            rw [hct] at H₁
            obtain ⟨g1, g2, g3, g4⟩ := hC.meth c name fa hm
            have r₁' : Rep (Bad σ₁ Λ) h₁ v (.inst c ns vs) := r₁
            unfold Rep at r₁'
            obtain ⟨q, dx, es, n, rfl, n1, n2, o1, o2, k, rr⟩ := r₁'
            obtain ⟨m, F⟩ := frame_of i₁ hE V₁
            obtain ⟨ox, sl, IA⟩ := inst_at o1 o2
            refine methodCall_sound c2 c3 c4 (f := .ref fa) (first := [.ref q]) (fun pl Q' q' => method_fn (W.X.keeps F.keep) IA (plainGet_of g1).1 (plainGet_of g1).2 g2 (beq_iff_eq.mp g3) (by show (lookIn name (dictOf es n)).map _ = _; rw [lookIn_dict, keyed_none k hct]; rfl) q') ?_
            refine args_sound hE hI c2 (fun h X => keeps_K g4 h X) i₁ V₁ (Po.seq0 H₁ fun ds st₂ σ₂ h₂ tk₂ ws f₂ k₂ i₂ r₂ H₂ => ⟨bases_in i₂, ?_⟩)
            exact hΦ Λ (.v (.val (.ref fa))) (.v (.inst c ns vs) :: ds) (.ref fa) (.ref q :: ws) E σ₂ _ st₂ _ i₂ ⟨Vars.fr hE (V₁.step (i₁.sigma hE.loc) f₂ k₂), rfl, RepD.step r₁ f₂ (k₂.weak fun a q => q.elim .inl fun q => q.elim), r₂⟩ H₂
      | _ => exact H₁.elim
theorem ex_call0 {f : PySem.Expr} {args : List PySem.Expr} {pos : Pos} (hC : CxOk W C) (hI : IE W A I) (hΦ : CS W A Φ) (hE : EnvOk Λ sc env) (iv : Inv W σ Λ s.heap st) (V : Vars Λ sc env ρ σ s.heap)
    (H : Po W Λ NoX (relD Λ) E σ s (if isAttr f || !noStar args then .stuck else (I.ex sc ρ f st).bind fun d st => match d with
          | .v (.val v) => if C.able v then (evs (I.ex sc ρ) args st).bind fun ds st => Φ d ds st else .stuck
          | _ => .stuck) Q) : wpAny (model W.prog W.w) A (eval (.Call f args [] pos) env) Q E s := by
  cases hc : isAttr f || !noStar args with
  | true => rw [hc] at H; exact H.elim
  | false =>
    rw [hc] at H
    obtain ⟨hf, hn⟩ := Bool.or_eq_false_iff.mp hc
    rw [eval_call hf]
    refine wpAny_bind (hI Λ sc env ρ f hE E σ s st _ iv V (Po.seq0 H fun d st₁ σ₁ h₁ tk₁ v f₁ k₁ i₁ r₁ H₁ => ?_))
    have V₁ := V.step (iv.sigma hE.loc) f₁ k₁
    induction d using Mine.D.casesOn with
    | m i => exact H₁.elim
    | v y =>
      induction y using Mine.V.casesOn with
      | val vv =>
        have H₁ : Po W Λ NoX (relD Λ) E σ₁ { s with heap := h₁, toks := tk₁ } (if C.able vv then (evs (I.ex sc ρ) args st₁).bind fun ds st => Φ (.v (.val vv)) ds st else .stuck) Q := H₁
        generalize hab : C.able vv = zz
        induction zz using Bool.casesOn with
        | false => rw [hab] at H₁; exact H₁.elim
        | true =>
          rw [hab] at H₁
          have r₁' : v = vv := r₁
          subst r₁'
          refine args_sound hE hI (by simpa using hn) (fun h X => hC.able v hab _ h X) i₁ V₁ (Po.seq0 H₁ fun ds st₂ σ₂ h₂ tk₂ ws f₂ k₂ i₂ r₂ H₂ => ⟨bases_in i₂, ?_⟩)
          exact hΦ Λ (.v (.val v)) ds v ws E σ₂ _ st₂ _ i₂ ⟨Vars.fr hE (V₁.step (i₁.sigma hE.loc) f₂ k₂), rfl, r₂⟩ H₂
      | _ => exact H₁.elim
theorem ex_call {f : PySem.Expr} {args : List PySem.Expr} {kws : List Keyword} {pos : Pos} (hA : AOk A) (hC : CxOk W C) (hI : IE W A I) (hΦ : CS W A Φ) (hE : EnvOk Λ sc env) (iv : Inv W σ Λ s.heap st) (V : Vars Λ sc env ρ σ s.heap) : Po W Λ NoX (relD Λ) E σ s ((step C Φ J I).ex sc ρ (.Call f args kws pos) st) Q → wpAny (model W.prog W.w) A (eval (.Call f args kws pos) env) Q E s := by
  induction kws using List.casesOn with
  | cons k r => cases f <;> exact False.elim
  | nil =>
    have gen := @ex_call0 W A Λ σ E s st sc env ρ C I Φ Q f args pos hC hI hΦ hE iv V
    induction f using PySem.Expr.casesOn with
    | Attribute o name ap => exact ex_meth hA hC hI hΦ hE iv V
    | _ => exact gen
theorem gen_is {gens : List Comprehension} {g : PySem.Expr × PySem.Expr × List PySem.Expr} (hg : oneGen gens = some g) : gens = [⟨g.1, g.2.1, g.2.2, 0⟩] := by
  unfold oneGen at hg
  split at hg
  · split at hg
    · rename_i g' hz
      (first | subst hg | contradiction | (injection hg with hg; subst hg) | cases hg)
      obtain ⟨t, i, f, a⟩ := g'
      have : a = 0 := by simpa using hz
      subst this
      rfl
    · (first | subst hg | contradiction | (injection hg with hg; subst hg) | cases hg)
  · (first | subst hg | contradiction | (injection hg with hg; subst hg) | cases hg)
theorem ex_comp {elt : PySem.Expr} {gens : List Comprehension} {scope : Scope} {pos : Pos} (hh : C.hand = false → A.handled = none) (hI : IE W A I) (hT : IT W A I) (hE : EnvOk Λ sc env) (iv : Inv W σ Λ s.heap st) (V : Vars Λ sc env ρ σ s.heap)
    (H : Po W Λ NoX (relD Λ) E σ s ((step C Φ J I).ex sc ρ (.ListComp elt gens scope pos) st) Q) : wpAny (model W.prog W.w) A (eval (.ListComp elt gens scope pos) env) Q E s := by
  generalize hg : oneGen gens = zz
  induction zz using Option.casesOn with
  | none =>
    have : (step C Φ J I).ex sc ρ (.ListComp elt gens scope pos) st = .stuck := by
      show (match oneGen gens with | some (target, iter, ifs) => _ | Option.none => Out.stuck) = _
      rw [hg]
    rw [this] at H
    exact H.elim
  | some g =>
    cases gen_is hg
    exact comp_sound hh hE hI hT iv V H
end
theorem step_ex {C : Cx} {J : Scope → En → PySem.Expr → Sto → Out D} {I : In} {Φ : D → List D → Sto → Out D} (hA : AOk A) (hh : C.hand = false → A.handled = none) (hC : CxOk W C) (hI : IE W A I) (hT : IT W A I) (hΦ : CS W A Φ) : IE W A (step C Φ J I) := by
  intro Λ sc env ρ e hE E σ s st Q iv V
  cases e with
  | Constant c k pos =>
    cases c with
    | int i => exact fun H => wpAny_Constant_int (Po.now (a := D.v (.int i)) (st := st) H iv ⟨_, rfl⟩)
    | bool b => exact fun H => wpAny_Constant_bool (Po.now (a := D.v (.bool b)) (st := st) (tk := s.toks) H iv rfl)
    | str x => exact fun H => wpAny_Constant_str (Po.now (a := D.v (.str x)) (st := st) H iv ⟨_, rfl⟩)
    | none => exact fun H => wpAny_Constant_none (Po.now (a := D.v .none) (st := st) (tk := s.toks) H iv rfl)
    | _ => exact False.elim
  | Name x pos => exact name_sound hC hE iv V
  | BinOp l op r pos => exact ex_bin hh hI hE iv V
  | UnaryOp op x pos =>
    cases op with
    | Not => exact ex_not hI hE iv V
    | _ => exact False.elim
  | IfExp c a b pos => exact ex_ifx hI hT hE iv V
  | BoolOp op vs pos => exact boolV_sound hE hI iv V
  | Compare l ops cs pos => exact ex_cmp hA hI hE iv V
  | Tuple es k pos => exact tuple_sound hE hI iv V
  | List es pos => exact list_sound hE hI iv V
  | Attribute o a pos => exact ex_attr hC hI hE iv V
  | Subscript o i pos => exact ex_sub hI hE iv V
  | Call f args kws pos => exact ex_call hA hC hI hΦ hE iv V
  | ListComp elt gens scope pos => exact ex_comp hh hI hT hE iv V
  | _ => exact False.elim
end
end Mine

end

section
open PySem PySem.W PySem.Spec PySem.Calls PyProof.Rows
set_option maxRecDepth 100000
namespace Mine

theorem zip_some : ∀ {ps : List Str} {vs : List Value}, ps.length = vs.length → ∀ n ∈ ps, ∃ v, (ps.zip vs).lookup n = some v
  | p :: ps, v :: vs, h, n, hn => by
    rw [List.zip_cons_cons, List.lookup_cons]
    cases q : n == p with
    | true => exact ⟨v, rfl⟩
    | false =>
      rcases List.mem_cons.mp hn with rfl | hn
      · simp at q
      · exact zip_some (by simpa using h) n hn
  | [], _, _, n, hn => nomatch hn
theorem fm_congr {α β : Type} {f g : α → Option β} : ∀ {l : List α}, (∀ a ∈ l, f a = g a) → l.filterMap f = l.filterMap g
  | [], _ => rfl
  | a :: l, h => by rw [List.filterMap_cons, List.filterMap_cons, h a (.head _), fm_congr fun b hb => h b (.tail _ hb)]
theorem zip_each : ∀ {ps : List Str} {vs : List Value}, ps.length = vs.length → distinct ps = true → ps.filterMap (fun n => ((ps.zip vs).lookup n).map (n, ·)) = ps.zip vs
  | p :: ps, v :: vs, h, hd => by
    unfold distinct at hd
    obtain ⟨hd1, hd2⟩ := Bool.and_eq_true_iff.mp hd
    rw [List.zip_cons_cons, List.filterMap_cons]
    simp only [List.lookup_cons, beq_self_eq_true, Option.map_some]
    congr 1
    have : ∀ n ∈ ps, (n == p) = false := fun n hn => by
      cases q : n == p with
      | false => rfl
      | true =>
        have := beq_iff_eq.mp q
        subst this
        rw [Bool.not_eq_true', ← Bool.not_eq_true] at hd1
        exact absurd (List.contains_iff_mem.mpr hn) hd1
    refine (fm_congr (fun n hn => ?_)).trans (zip_each (ps := ps) (vs := vs) (by simpa using h) hd2)
    rw [this n hn]
  | [], [], _, _ => rfl
theorem bind_plain {fd : FuncData} {vs : List Value} {ps : List Str} (hps : fd.params.args.map (·.arg) = ps) (h1 : fd.params.posonlyargs = []) (h3 : fd.params.kwonlyargs = []) (h4 : fd.params.vararg = none) (h5 : fd.params.kwarg = none) (h6 : fd.defaults = .none) (hl : ps.length = vs.length) (hd : distinct ps = true) :
    bindArgs fd ⟨vs, []⟩ = pure (ps.zip vs) := by
  have n1 : ((ps.take ps.length).filter (fun n => ((ps.zip vs).lookup n).isNone)) = [] := by
    rw [List.filter_eq_nil_iff]
    intro n hn
    obtain ⟨v, hv⟩ := zip_some hl n (List.mem_of_mem_take hn)
    rw [hv]; simp
  have n2 := zip_each hl hd
  have n3 : decide (vs.length > ps.length) = false := by rw [hl]; exact decide_eq_false (Nat.lt_irrefl _)
  obtain ⟨nm, qn, prm, body, scope, glob, clo, dfl, kwd⟩ := fd
  obtain ⟨a1, a2, a3, a4, a5, a6, a7⟩ := prm
  dsimp only at hps h1 h3 h4 h5 h6
  subst h1 h3 h4 h5 h6
  subst hps
  have c1 : ¬ ((decide (vs.length > (a2.map Arg.arg).length) && Option.isNone (none : Option Arg)) = true) := by rw [n3]; decide
  refine (show bindArgs _ _ = (if (decide (vs.length > (a2.map Arg.arg).length) && Option.isNone (none : Option Arg)) = true then _ else _) from rfl).trans ((if_neg c1).trans ?_)
  refine (if_neg ?_).trans ?_
  · show ¬ ((!(List.filter (fun n => (((a2.map Arg.arg).zip vs).lookup n).isNone) (List.take ((a2.map Arg.arg).length - (List.drop _ ([] : List Value)).length) (a2.map Arg.arg))).isEmpty) = true)
    rw [List.drop_nil]
    show ¬ ((!(List.filter (fun n => (((a2.map Arg.arg).zip vs).lookup n).isNone) (List.take (a2.map Arg.arg).length (a2.map Arg.arg))).isEmpty) = true)
    rw [n1]; decide
  · show (forIn (List.zip (List.drop _ (a2.map Arg.arg)) (List.drop _ ([] : List Value))) _ _ >>= _) = _
    rw [List.drop_nil, List.zip_nil_right]
    show (pure (((a2.map Arg.arg) ++ []).filterMap (fun n => (((a2.map Arg.arg).zip vs).lookup n).map (n, ·))) : Sem (List (Str × Value))) = _
    rw [List.append_nil, n2]

noncomputable def isNoneV : Value → Bool
  | .none => true
  | _ => false
noncomputable def fdPs (fd : FuncData) : List Str := fd.params.args.map (·.arg)
noncomputable def fdOk (K : Frag) (fd : FuncData) : Bool :=
  fd.params.posonlyargs.isEmpty && (fd.params.kwonlyargs.isEmpty && (fd.params.vararg.isNone && (fd.params.kwarg.isNone && (isNoneV fd.defaults && (codeIn K fd.code fd.qualname && (fd.closure.isEmpty && (fd.globals == mainGlobals && (fd.builtins == builtinsNs && (fd.scope.kind == .function &&
  (!fd.scope.isCoroutine && (!fd.scope.isGenerator && ((fd.scope.names.all fun x => x.2 != .cell && x.2 != .free) && (((fdPs fd).all fun p => fd.scope.names.lookup p == some .local) && distinct (fdPs fd))))))))))))))
noncomputable def fnIn (K : Frag) (a : Addr) : Option FnI := match K.lookup a with
  | some ⟨_, _, .func fd, _⟩ => (match fd.body with
    | .stmts b => if fdOk K fd then some ⟨fdPs fd, fd.scope, b⟩ else none
    | _ => none)
  | _ => none

structure FnIs (K : Frag) (a : Addr) (f : FnI) (fd : FuncData) (o : Obj) : Prop where
  at_ : K.lookup a = some o
  data : o.data = .func fd
  body : fd.body = .stmts f.body
  ps : fd.params.args.map (·.arg) = f.ps
  sc : fd.scope = f.sc
  h1 : fd.params.posonlyargs = []
  h2 : fd.params.kwonlyargs = []
  h3 : fd.params.vararg = none
  h4 : fd.params.kwarg = none
  h5 : fd.defaults = .none
  code : codeIn K fd.code fd.qualname = true
  clo : fd.closure = []
  glob : fd.globals = mainGlobals
  bi : fd.builtins = builtinsNs
  kind : fd.scope.kind = .function
  co : fd.scope.isCoroutine = false
  gen : fd.scope.isGenerator = false
  names : ∀ x ∈ fd.scope.names, x.2 ≠ .cell ∧ x.2 ≠ .free
  loc : ∀ p ∈ f.ps, fd.scope.names.lookup p = some .local
  dis : distinct f.ps = true
theorem fnIn_is {K : Frag} {a : Addr} {f : FnI} (h : fnIn K a = some f) : ∃ fd o, FnIs K a f fd o := by
  unfold fnIn at h
  split at h
  · rename_i c d fd sl ho
    split at h
    · rename_i b hb
      split at h
      · rename_i hok
        (first | subst h | contradiction | (injection h with h; subst h) | cases h)
        unfold fdOk at hok
        obtain ⟨h1, hok⟩ := Bool.and_eq_true_iff.mp hok
        obtain ⟨h2, hok⟩ := Bool.and_eq_true_iff.mp hok
        obtain ⟨h3, hok⟩ := Bool.and_eq_true_iff.mp hok
        obtain ⟨h4, hok⟩ := Bool.and_eq_true_iff.mp hok
        obtain ⟨h5, hok⟩ := Bool.and_eq_true_iff.mp hok
        obtain ⟨h6, hok⟩ := Bool.and_eq_true_iff.mp hok
        obtain ⟨h7, hok⟩ := Bool.and_eq_true_iff.mp hok
        obtain ⟨h8, hok⟩ := Bool.and_eq_true_iff.mp hok
        obtain ⟨h9, hok⟩ := Bool.and_eq_true_iff.mp hok
        obtain ⟨h10, hok⟩ := Bool.and_eq_true_iff.mp hok
        obtain ⟨h11, hok⟩ := Bool.and_eq_true_iff.mp hok
        obtain ⟨h12, hok⟩ := Bool.and_eq_true_iff.mp hok
        obtain ⟨h13, hok⟩ := Bool.and_eq_true_iff.mp hok
        obtain ⟨h14, h15⟩ := Bool.and_eq_true_iff.mp hok
        refine ⟨fd, _, ⟨ho, rfl, hb, rfl, rfl, List.isEmpty_iff.mp h1, List.isEmpty_iff.mp h2, Option.isNone_iff_eq_none.mp h3, Option.isNone_iff_eq_none.mp h4, ?_, h6, List.isEmpty_iff.mp h7, beq_iff_eq.mp h8, beq_iff_eq.mp h9, by simpa using h10, by simpa using h11, by simpa using h12, fun x hx => ?_, fun p hp => ?_, h15⟩⟩
        · unfold isNoneV at h5
          split at h5
          · assumption
          · (first | subst h5 | contradiction | (injection h5 with h5; subst h5) | cases h5)
        · have := List.all_eq_true.mp h13 x hx
          simpa using this
        · have := List.all_eq_true.mp h14 p hp
          simpa using this
      · (first | subst h | contradiction | (injection h with h; subst h) | cases h)
    · (first | subst h | contradiction | (injection h with h; subst h) | cases h)
  · (first | subst h | contradiction | (injection h with h; subst h) | cases h)

theorem zip_repd {σ : List Addr} {B : Addr → Prop} {h : Heap} : ∀ {ps : List Str} {vs : List Value} {ds : List D} {x : Str} {d : D}, RepDs σ B h vs ds → (ps.zip ds).lookup x = some d → ∃ v, (ps.zip vs).lookup x = some v ∧ RepD σ B h v d
  | p :: ps, v :: vs, e :: ds, x, d, r, hl => by
    rw [List.zip_cons_cons, List.lookup_cons] at hl ⊢
    cases q : x == p with
    | true =>
      rw [q] at hl
      (first | subst hl | contradiction | (injection hl with hl; subst hl) | cases hl)
      exact ⟨v, rfl, r.1⟩
    | false =>
      rw [q] at hl
      exact zip_repd r.2 hl
  | [], _, _, _, _, _, hl => by simp at hl
  | _ :: _, _, [], _, _, _, hl => by simp at hl
  | _ :: _, [], _ :: _, _, _, r, _ => r.elim

end Mine

end

section
open PySem PySem.W PySem.Spec PySem.Calls PyProof.Rows
set_option maxRecDepth 100000
namespace Mine

theorem weight_make (C : Addr) (vs : List Value) : Code.weight (.builtin "type.__call__" ⟨.ref C :: vs, []⟩) = 1 := by first | rfl | kernel_rfl

theorem put_new {q : Str} {hs : Int} {k v : Value} : ∀ {es : List DictEntry} {ds : List Str}, Keyed es ds → ds.contains q = false → putL q hs k v es = es ++ [⟨hs, k, v⟩] ∧ es.any (·.key.isStr q) = false
  | [], [], _, _ => ⟨rfl, rfl⟩
  | e :: es, d :: ds, kk, h => by
    obtain ⟨⟨t, he⟩, k'⟩ := kk
    obtain ⟨hh, ek, ev⟩ := e
    simp only at he
    subst he
    have h1 : (q == d) = false ∧ ds.contains q = false := by simpa using h
    have h2 : (d == q) = false := by
      have := h1.1
      rw [beq_eq_false_iff_ne] at this ⊢
      exact fun z => this z.symm
    obtain ⟨a, b⟩ := put_new (q := q) (hs := hs) (k := k) (v := v) k' h1.2
    constructor
    · unfold putL
      have : (Value.str d t).isStr q = (d == q) := rfl
      rw [this, h2, a]
      rfl
    · rw [List.any_cons, b]
      show ((d == q) || false) = false
      rw [h2]; rfl
  | [], _ :: _, k, _ => k.elim
  | _ :: _, [], k, _ => k.elim
theorem keyed_snoc {q : Str} {hs : Int} {t : Tok} {v : Value} : ∀ {es : List DictEntry} {ds : List Str}, Keyed es ds → Keyed (es ++ [⟨hs, .str q t, v⟩]) (ds ++ [q])
  | [], [], _ => ⟨⟨t, rfl⟩, trivial⟩
  | _ :: _, _ :: _, k => ⟨k.1, keyed_snoc k.2⟩
  | [], _ :: _, k => k.elim
  | _ :: _, [], k => k.elim

noncomputable def attrOf : PySem.Expr → Option (Str × Str)
  | .Attribute o f _ => (nameOf o).map fun x => (x, f)
  | _ => none
noncomputable def asgOf : Stmt → Option ((Str × Str) × Str)
  | .Assign ts v _ => ((one ts).bind attrOf).bind fun q => (nameOf v).map fun p => (q, p)
  | _ => none
theorem one_is {α : Type} {l : List α} {x : α} (h : one l = some x) : l = [x] := by
  unfold one at h; split at h <;> (first | subst h | contradiction | (injection h with h; subst h) | cases h); rfl
theorem asgOf_is {s : Stmt} {x f p : Str} (h : asgOf s = some ((x, f), p)) : ∃ p1 p2 p3 pos, s = .Assign [.Attribute (.Name x p1) f p2] (.Name p p3) pos := by
  unfold asgOf at h
  split at h
  · obtain ⟨q, hq, h⟩ := Option.bind_eq_some_iff.mp h
    obtain ⟨t, ht, ha⟩ := Option.bind_eq_some_iff.mp hq
    obtain ⟨p', hp, e⟩ := Option.map_eq_some_iff.mp h
    cases e
    obtain ⟨p3, rfl⟩ := nameOf_is hp
    rw [one_is ht]
    unfold attrOf at ha
    split at ha
    · obtain ⟨y, hy, e⟩ := Option.map_eq_some_iff.mp ha
      cases e
      obtain ⟨p1, rfl⟩ := nameOf_is hy
      exact ⟨p1, _, p3, _, rfl⟩
    · cases ha
  · cases h
noncomputable def initPs (self : Str) : List Stmt → Option (List Str)
  | [] => some []
  | s :: r => (match asgOf s with
    | some q => if q.1.1 == self && (q.1.2 == q.2 && (!(q.2 == Str.ofString "__debug__") && !(q.1.1 == Str.ofString "__debug__"))) then (initPs self r).map (q.2 :: ·) else none
    | none => none)
theorem initPs_cons {self : Str} {s : Stmt} {r : List Stmt} {qs : List Str} (h : initPs self (s :: r) = some qs) : ∃ q qs' p1 p2 p3 pos, qs = q :: qs' ∧ s = .Assign [.Attribute (.Name self p1) q p2] (.Name q p3) pos ∧ initPs self r = some qs' ∧ (q == Str.ofString "__debug__") = false ∧ (self == Str.ofString "__debug__") = false := by
  unfold initPs at h
  split at h
  · rename_i q hq
    obtain ⟨⟨x, f⟩, p⟩ := q
    obtain ⟨p1, p2, p3, pos, rfl⟩ := asgOf_is hq
    split at h
    · rename_i hc
      simp only [Bool.and_eq_true, beq_iff_eq, Bool.not_eq_true'] at hc
      obtain ⟨hz, hf, hp, hd⟩ := hc
      subst hz hf
      obtain ⟨qs', h', rfl⟩ := Option.map_eq_some_iff.mp h
      exact ⟨_, qs', p1, p2, p3, pos, rfl, rfl, h', hp, hd⟩
    · (first | subst h | contradiction | (injection h with h; subst h) | cases h)
  · (first | subst h | contradiction | (injection h with h; subst h) | cases h)

section
variable {W : Wd} {A : Around} {Λ σ : List Addr} {E : Value → Shared → Prop} {s : Shared} {st : Sto}

theorem init_body {env : Env} {sc : Scope} {self : Str} {x dx C : Addr} {ox : Obj} {m : Str → Option Value} (hsc : env.scope = sc) (hk : sc.kind = .function) (hself : sc.names.lookup self = some .local) (hm : m self = some (.ref x)) (hc : ClsIs W.K C)
    (o1 : ox.cls = .ref C) (o2 : ox.dict = some dx) (o3 : notCls ox = true) (n1 : x ≠ dx) (n3 : env.locals ≠ dx) (nb : W.base.get? dx = none) {Q : Flow → Shared → Prop} :
    ∀ (ss : List Stmt) (qs : List Str) (es : List DictEntry) (n : Nat) (ds : List Str) (s : Shared), initPs self ss = some qs → (∀ q ∈ qs, sc.names.lookup q = some .local ∧ (∃ v, m q = some v) ∧ takerIn W.K C q = some none ∧ ds.contains q = false) → distinct qs = true →
      s.heap.Ns env.locals m → (∀ b o, W.base.get? b = some o → s.heap.get? b = some o) → s.heap.get? x = some ox → s.heap.get? dx = some (dictOf es n) → Keyed es ds → es.length + qs.length ≤ 1000 →
      (∀ h' tk es' n', (∀ b, b ≠ dx → h'.get? b = s.heap.get? b) → h'.get? dx = some (dictOf es' n') → Keyed es' (ds ++ qs) → es'.map (·.val) = es.map (·.val) ++ qs.map (fun q => (m q).getD .none) → Q .next { s with heap := h', toks := tk }) →
      wpAny (model W.prog W.w) A (execs ss env) Q E s
  | [], qs, es, n, ds, s, hi, hq, hd, hns, hkeep, ox, od, ky, hlen, q => by
    (first | subst hi | contradiction | (injection hi with hi; subst hi) | cases hi)
    exact wpAny_execs_nil (q s.heap s.toks es n (fun _ _ => rfl) od (by simpa using ky) (by simp))
  | a :: r, qs, es, n, ds, s, hi, hq, hd, hns, hkeep, ox, od, ky, hlen, q => by
    obtain ⟨f, qs', p1, p2, p3, pos, rfl, rfl, hi', hp, hzd⟩ := initPs_cons hi
    obtain ⟨l1, ⟨v, l2⟩, l3, l4⟩ := hq f (.head _)
    have hkind : ∀ y k, sc.names.lookup y = some k → env.kindOf y = some k := fun y k e => by unfold Env.kindOf; rw [hsc]; exact e
    have hke : env.scope.kind = .function := by rw [hsc]; exact hk
    refine wpAny_execs_cons (plainObj_wpAny_Assign_Attribute (wpAny_Name (wpAny_loadName_local hke (hkind _ _ l1) hns l2 (wpAny_Name (wpAny_loadName_local hke (hkind _ _ hself) hns hm ?_) hzd)) hp) (swaps_not rfl))
    obtain ⟨pl, pn⟩ := put_new (q := f) (hs := PyData.keyHash W.w.params f) (k := .str f (s.toks + 1)) (v := v) ky l4
    have hlen' : es.length + (qs'.length + 1) ≤ 1000 := hlen
    refine set_at (W.X.keeps hkeep) ox o1 o2 o3 od hc l3 (by rw [keyed_none ky l4]; rfl) (by rw [pl, List.length_append]; simp; omega) fun h' hs hD => ?_
    rw [pl] at hD
    unfold distinct at hd
    obtain ⟨hd1, hd2⟩ := Bool.and_eq_true_iff.mp hd
    have hns' : h'.Ns env.locals m := ns_at hns fun o e => .inl ((hs.2 _ n3).trans e)
    refine init_body hsc hk hself hm hc o1 o2 o3 n1 n3 nb r qs' _ _ (ds ++ [f]) { s with heap := h', toks := s.toks + 2 } hi' (fun y hy => ?_) hd2 hns' (fun b o e => (hs.2 b fun q => by rw [q, nb] at e; (first | subst e | contradiction | (injection e with e; subst e) | cases e)).trans (hkeep b o e)) ((hs.2 x n1).trans ox) hD (keyed_snoc ky) (by rw [List.length_append]; simp; omega) fun h'' tk es' n' x1 x2 x4 x5 => ?_
    · obtain ⟨y1, y2, y3, y4⟩ := hq y (.tail _ hy)
      refine ⟨y1, y2, y3, ?_⟩
      have hne : y ≠ f := fun z => by
        subst z
        rw [Bool.not_eq_true', ← Bool.not_eq_true] at hd1
        exact hd1 (List.contains_iff_mem.mpr hy)
      rw [Bool.eq_false_iff] at y4 ⊢
      intro z
      rw [List.contains_iff_mem, List.mem_append] at z
      rcases z with z | z
      · exact y4 (List.contains_iff_mem.mpr z)
      · exact hne (List.mem_singleton.mp z)
    · refine q h'' tk es' n' (fun b hb => (x1 b hb).trans (hs.2 b hb)) x2 (by rw [List.append_assoc] at x4; exact x4) ?_
      rw [x5, List.map_append, List.append_assoc, List.map_cons]
      congr 1
      rw [List.map_cons, l2]; rfl
end
end Mine

end

section
open PySem PySem.W PySem.Spec PySem.Calls PyProof.Rows
set_option maxRecDepth 100000
set_option maxHeartbeats 1000000
namespace Mine

theorem XE_sound {W : Wd} {A : Around} {C : Cx} {J : Scope → En → PySem.Expr → Sto → Out D} {Φ : D → List D → Sto → Out D} (hA : AOk A) (hh : C.hand = false → A.handled = none) (hC : CxOk W C) (hΦ : CS W A Φ) : ∀ n, IE W A (XJ C Φ J n) ∧ IT W A (XJ C Φ J n)
  | 0 => ⟨fun _ _ _ _ _ _ _ _ _ _ _ _ _ H => H.elim, fun _ _ _ _ _ _ _ _ _ _ _ _ _ H => H.elim⟩
  | n + 1 => by
    obtain ⟨a, b⟩ := XE_sound hA hh hC hΦ n
    exact ⟨step_ex hA hh hC a b hΦ, step_tt hA a b⟩
theorem stuck_cs {W : Wd} {A : Around} : CS W A stuckΦ := fun _ _ _ _ _ _ _ _ _ _ _ _ H => H.elim

/-- a reading that knows one global name -/
noncomputable def C0 (x : Str) (v : Value) : Cx := ⟨fun y => if y == x then some v else none, fun _ => false, fun _ _ => none, fun _ _ => false, fun _ => false, fun _ => none, fun _ _ => none, true⟩
theorem C0_ok {W : Wd} {x : Str} {v : Value} (h : nsIn W.K mainGlobals x = some (some v)) : CxOk W (C0 x v) := by
  refine ⟨fun y u e => ?_, fun _ e => (nomatch e), fun _ _ _ e => (nomatch e), fun _ _ e => (nomatch e)⟩
  have e : (if y == x then some v else none) = some u := e
  split at e
  · rename_i q; (first | subst e | contradiction | (injection e with e; subst e) | cases e); rw [beq_iff_eq.mp q]; exact .inl h
  · (first | subst e | contradiction | (injection e with e; subst e) | cases e)

theorem ev_names {C : Cx} {Φ : D → List D → Sto → Out D} {J : Scope → En → PySem.Expr → Sto → Out D} {n : Nat} {sc : Scope} {ρ : En} {st : Sto} : ∀ (es : List PySem.Expr) {ps : List Str} {ds : List D}, namesOf es = some ps →
    (∀ p ∈ ps, badName p = false ∧ isLoc sc p = true) → ps.map (fun p => ρ.lookup p) = ds.map some → evs ((XJ C Φ J (n + 1)).ex sc ρ) es st = .ok ds st := by
  intro es
  induction es with
  | nil =>
    intro ps ds h _ hd
    (first | subst h | contradiction | (injection h with h; subst h) | cases h)
    induction ds using List.casesOn with
    | nil => rfl
    | cons _ _ => (first | subst hd | contradiction | (injection hd with hd; subst hd) | cases hd)
  | cons e es ih =>
    intro ps ds h hb hd
    unfold namesOf at h
    split at h
    · rename_i x hx
      obtain ⟨p, rfl⟩ := nameOf_is hx
      obtain ⟨ps', h', rfl⟩ := Option.map_eq_some_iff.mp h
      induction ds using List.casesOn with
      | nil => (first | subst hd | contradiction | (injection hd with hd; subst hd) | cases hd)
      | cons d ds =>
        rw [List.map_cons, List.map_cons] at hd
        injection hd with h1 h2
        obtain ⟨b1, b2⟩ := hb x (.head _)
        have : (XJ C Φ J (n + 1)).ex sc ρ (.Name x p) st = .ok d st := by
          show (if badName x then _ else if isLoc sc x then ofO st (ρ.lookup x) else _) = _
          rw [b1, b2, h1]; rfl
        unfold evs
        rw [this]
        show Out.bind (evs _ es st) _ = _
        rw [ih h' (fun q hq => hb q (.tail _ hq)) h2]
        rfl
    · (first | subst h | contradiction | (injection h with h; subst h) | cases h)

section
variable {W : Wd} {A : Around} {Λ σ : List Addr} {E : Value → Shared → Prop} {s : Shared} {st : Sto}

/-- as init_body, of an object that has no dict yet -/
theorem init_new {env : Env} {sc : Scope} {self : Str} {x C : Addr} {ox : Obj} {m : Str → Option Value} {ss : List Stmt} {q0 : Str} {qs : List Str} (hsc : env.scope = sc) (hk : sc.kind = .function) (hself : sc.names.lookup self = some .local) (hm : m self = some (.ref x)) (hc : ClsIs W.K C)
    (o1 : ox.cls = .ref C) (o2 : ox.dict = none) (o3 : notCls ox = true) (nb : W.base.get? s.heap.objs.size = none) (xb : W.base.get? x = none) (xL : env.locals ≠ x) {Q : Flow → Shared → Prop}
    (hi : initPs self ss = some (q0 :: qs)) (hq : ∀ q ∈ q0 :: qs, sc.names.lookup q = some .local ∧ (∃ v, m q = some v) ∧ takerIn W.K C q = some none) (hd : distinct (q0 :: qs) = true) (hns : s.heap.Ns env.locals m)
    (hkeep : ∀ b o, W.base.get? b = some o → s.heap.get? b = some o) (hox : s.heap.get? x = some ox) (hlen : qs.length ≤ 900)
    (q : ∀ h' tk es' n', (∀ b, b ≠ x → b ≠ s.heap.objs.size → h'.get? b = s.heap.get? b) → h'.get? x = some { ox with dict := some s.heap.objs.size } → h'.get? s.heap.objs.size = some (dictOf es' n') → Keyed es' (q0 :: qs) →
      es'.map (·.val) = (q0 :: qs).map (fun q => (m q).getD .none) → Q .next { s with heap := h', toks := tk }) : wpAny (model W.prog W.w) A (execs ss env) Q E s := by
  obtain ⟨a, r, rfl⟩ : ∃ a r, ss = a :: r := by
    induction ss using List.casesOn with
    | nil => cases hi
    | cons a r => exact ⟨a, r, rfl⟩
  obtain ⟨_, _, p1, p2, p3, pos, e, rfl, hi', hp, hzd⟩ := initPs_cons hi
  cases e
  obtain ⟨l1, ⟨v, l2⟩, l3⟩ := hq q0 (.head _)
  have hkind : ∀ y k, sc.names.lookup y = some k → env.kindOf y = some k := fun y k e => by unfold Env.kindOf; rw [hsc]; exact e
  have hke : env.scope.kind = .function := by rw [hsc]; exact hk
  refine wpAny_execs_cons (plainObj_wpAny_Assign_Attribute (wpAny_Name (wpAny_loadName_local hke (hkind _ _ l1) hns l2 (wpAny_Name (wpAny_loadName_local hke (hkind _ _ hself) hns hm ?_) hzd)) hp) (swaps_not rfl))
  refine set_new (W.X.keeps hkeep) hox o1 o2 o3 hc l3 fun h' es n k1 k2 k3 k4 => ?_
  have hxs : x ≠ s.heap.objs.size := Nat.ne_of_lt (Heap.lt_size hox)
  obtain ⟨oL, hoL⟩ := ns_obj hns
  have hLs : env.locals ≠ s.heap.objs.size := Nat.ne_of_lt (Heap.lt_size hoL)
  have hns' : h'.Ns env.locals m := ns_at hns fun o e => .inl ((k1 _ xL hLs).trans e)
  unfold distinct at hd
  obtain ⟨hd1, hd2⟩ := Bool.and_eq_true_iff.mp hd
  have hn0 : ∀ y ∈ qs, y ≠ q0 := fun y hy z => by
    subst z
    rw [Bool.not_eq_true', ← Bool.not_eq_true] at hd1
    exact hd1 (List.contains_iff_mem.mpr hy)
  subst k3
  refine init_body (ox := { ox with dict := some s.heap.objs.size }) (dx := s.heap.objs.size) hsc hk hself hm hc o1 rfl (by obtain ⟨_, _, _, _⟩ := ox; exact o3) hxs hLs nb r qs _ n [q0] { s with heap := h', toks := s.toks + 2 } hi'
    (fun y hy => ⟨(hq y (.tail _ hy)).1, (hq y (.tail _ hy)).2.1, (hq y (.tail _ hy)).2.2, by have := hn0 y hy; simp [this]⟩) hd2 hns' (fun b o e => (k1 b (fun z => by rw [z, xb] at e; cases e) fun z => by rw [z, nb] at e; cases e).trans (hkeep b o e)) k2 k4 ⟨⟨_, rfl⟩, trivial⟩ (by simp; omega) fun h'' tk es' n' x1 x2 x4 x5 => ?_
  refine q h'' tk es' n' (fun b h1 h2 => (x1 b h2).trans (k1 b h1 h2)) ((x1 x hxs).trans k2) x2 x4 ?_
  rw [x5]
  show [v] ++ _ = _
  rw [List.map_cons, l2]; rfl
end
end Mine

end

section
open PySem PySem.W PySem.Spec PySem.Calls PyProof.Rows
set_option maxRecDepth 100000
set_option maxHeartbeats 1000000
namespace Mine

noncomputable def takes0 (K : Frag) (C : Addr) (p : Str) : Bool := match takerIn K C p with
  | some none => true
  | _ => false
noncomputable def setsPlain (K : Frag) (C : Addr) : Bool := match findIn K (.ref C) "__setattr__" with
  | some (some (.builtin id)) => id == "object.__setattr__"
  | _ => false
noncomputable def initOf (K : Frag) (c : Addr) : Option Addr := match findIn K (.ref c) "__init__" with
  | some (some (.ref fI)) => some fI
  | _ => none
theorem initOf_is {K : Frag} {c fI : Addr} (h : initOf K c = some fI) : findIn K (.ref c) "__init__" = some (some (.ref fI)) := by
  unfold initOf at h
  split at h
  · rename_i e; (first | subst h | contradiction | (injection h with h; subst h) | cases h); exact e
  · (first | subst h | contradiction | (injection h with h; subst h) | cases h)
noncomputable def clsOkB (K : Frag) (c : Addr) (ps : List Str) : Bool := setsPlain K c && (over K c && (hasDictIn K c && (ps.all (takes0 K c) && decide (ps.length ≤ 900))))
theorem clsOk_is {K : Frag} {c : Addr} {ps : List Str} (h : clsOkB K c ps = true) : ClsIs K c ∧ (∀ p ∈ ps, takerIn K c p = some none) ∧ ps.length ≤ 900 := by
  unfold clsOkB at h
  obtain ⟨h1, h⟩ := Bool.and_eq_true_iff.mp h
  obtain ⟨h2, h⟩ := Bool.and_eq_true_iff.mp h
  obtain ⟨h3, h⟩ := Bool.and_eq_true_iff.mp h
  obtain ⟨h4, h5⟩ := Bool.and_eq_true_iff.mp h
  refine ⟨⟨?_, h2, h3⟩, fun p hp => ?_, of_decide_eq_true h5⟩
  · unfold setsPlain at h1
    split at h1
    · rename_i id e
      rw [beq_iff_eq] at h1
      rw [h1] at e; exact e
    · (first | subst h1 | contradiction | (injection h1 with h1; subst h1) | cases h1)
  · have := List.all_eq_true.mp h4 p hp
    unfold takes0 at this
    split at this
    · assumption
    · (first | subst this | contradiction | (injection this with this; subst this) | cases this)

noncomputable def isBi (id : String) : Option (Option Value) → Bool
  | some (some (.builtin i)) => i == id
  | _ => false
noncomputable def someB (b : Bool) : Option Bool → Bool
  | some c => c == b
  | none => false
noncomputable def isTy : Option Value → Bool
  | some (.type T) => T == "type"
  | _ => false
theorem isBi_eq {id : String} {v : Option (Option Value)} (h : isBi id v = true) : v = some (some (.builtin id)) := by
  unfold isBi at h
  split at h
  · rw [beq_iff_eq] at h; rw [h]
  · (first | subst h | contradiction | (injection h with h; subst h) | cases h)
theorem someB_eq {b : Bool} {v : Option Bool} (h : someB b v = true) : v = some b := by
  unfold someB at h
  split at h
  · rw [beq_iff_eq] at h; rw [h]
  · (first | subst h | contradiction | (injection h with h; subst h) | cases h)
theorem isTy_eq {v : Option Value} (h : isTy v = true) : v = some (.type "type") := by
  unfold isTy at h
  split at h
  · rw [beq_iff_eq] at h; rw [h]
  · (first | subst h | contradiction | (injection h with h; subst h) | cases h)

/-- the base's __init__, got by its class's name -/
noncomputable def baseInit (K : Frag) (b : Addr) : Option Addr := match typeIn K (.ref b) with
  | some mc => if readsIn K b mc && isBi "type.__getattribute__" (specialIn K (.ref b) "__getattribute__") then (match findCls K (.ref b) mc "__init__" with
    | some (.val (.ref f)) => some f
    | _ => none) else none
  | none => none
theorem baseInit_is {K : Frag} {b f : Addr} (h : baseInit K b = some f) : ∃ mc, readsIn K b mc = true ∧ specialIn K (.ref b) "__getattribute__" = some (some (.builtin "type.__getattribute__")) ∧ findCls K (.ref b) mc "__init__" = some (.val (.ref f)) := by
  unfold baseInit at h
  split at h
  · rename_i mc hm
    split at h
    · rename_i hc
      obtain ⟨h1, h2⟩ := Bool.and_eq_true_iff.mp hc
      split at h
      · rename_i e; (first | subst h | contradiction | (injection h with h; subst h) | cases h); exact ⟨mc, h1, isBi_eq h2, e⟩
      · (first | subst h | contradiction | (injection h with h; subst h) | cases h)
    · (first | subst h | contradiction | (injection h with h; subst h) | cases h)
  · (first | subst h | contradiction | (injection h with h; subst h) | cases h)

noncomputable def baseName (f : FnI) : Option Str := match f.body with
  | .Expr (.Call (.Attribute (.Name bn _) _ _) _ _ _) _ :: _ => if badName bn || isLoc f.sc bn || f.sc.names.lookup bn != some .globalImplicit then none else some bn
  | _ => none
structure CtorIs (xi : XcI) (f g : FnI) (slf s3 : Str) (bnE : PySem.Expr) (nm : Str) (ap cp p1 p2 p3 ep : Pos) (ku : Nat) (es : List PySem.Expr) (rest : List Stmt) : Prop where
  body : f.body = .Expr (.Call (.Attribute bnE nm ap) [.Name slf p1, .Constant (.str xi.word) ku p2, .List es p3] [] cp) ep :: rest
  ps : f.ps = slf :: xi.ps
  gps : g.ps = [s3, xi.q1, xi.q2]
  hnm : nm = Str.ofString "__init__"
  pos : (ap.endLine == cp.line) = true
  hes : namesOf es = some xi.ps
  hrest : initPs slf rest = some xi.ps
  bad : ((slf :: xi.ps).all fun p => !badName p) = true
  star : noStar es = true
  sz : szOk es.length = true
  dis : distinct xi.ns = true
  gbody : initPs s3 g.body = some [xi.q1, xi.q2]
theorem CtorIs.nbad {xi : XcI} {f g : FnI} {slf s3 : Str} {bnE : PySem.Expr} {nm : Str} {ap cp p1 p2 p3 ep : Pos} {ku : Nat} {es : List PySem.Expr} {rest : List Stmt} (h : CtorIs xi f g slf s3 bnE nm ap cp p1 p2 p3 ep ku es rest) : ∀ p ∈ slf :: xi.ps, badName p = false :=
  fun p hp => by simpa using List.all_eq_true.mp h.bad p hp

/-- where a class stands, and what it holds -/
noncomputable def cdOf (K : Frag) (c : Addr) : ClassData := match K.lookup c with
  | some ⟨_, _, .cls cd, _⟩ => cd
  | _ => default
noncomputable def ddOf (K : Frag) (c : Addr) : Option Addr := (K.lookup c).bind (·.dict)
noncomputable def slOf (K : Frag) (c : Addr) (i : Nat) : Option Value := (K.lookup c).bind fun o => (o.slots[i]?).bind id
noncomputable abbrev excObj (K : Frag) (c : Addr) : Obj := excClassObj (cdOf K c).name (cdOf K c).qualname c (cdOf K c).ns (cdOf K c).bases (cdOf K c).mro.tail (cdOf K c).hasDict (cdOf K c).slotNames (cdOf K c).subclasses (cdOf K c).abstract (cdOf K c).collection (ddOf K c) (slOf K c 0) (slOf K c 1) (slOf K c 2) (slOf K c 3) (slOf K c 5) eNew

structure XcIs (K : Frag) (c : Addr) (xi : XcI) (b fI fB : Addr) (bn : Str) (f g : FnI) : Prop where
  cls : K.lookup c = some (excObj K c)
  bm1 : (cdOf K c).mro.tail.contains (.type "Exception") = true
  bm2 : (cdOf K c).mro.tail.contains (.type "AttributeError") = false
  bm3 : (cdOf K c).mro.tail.contains (.type "NameError") = false
  bm4 : (cdOf K c).mro.tail.contains (.type "BaseException") = true
  init : initOf K c = some fI
  isf : isFn K (.ref fI) = true
  fn : fnIn K fI = some f
  bname : baseName f = some bn
  glob : nsIn K mainGlobals bn = some (some (.ref b))
  base : baseInit K b = some fB
  bfn : fnIn K fB = some g
  bkeep : keepIn K (.ref fB) = true
  keep : keepIn K (.ref c) = true
  ok : clsOkB K c xi.ns = true
/-- what an own exception's making knows -/
structure XcD where
  b : Addr
  fI : Addr
  fB : Addr
  bn : Str
  f : FnI
  g : FnI
  slf : Str
  s3 : Str
  bp : Pos
  nm : Str
  ap : Pos
  cp : Pos
  p1 : Pos
  p2 : Pos
  p3 : Pos
  ep : Pos
  ku : Nat
  es : List PySem.Expr
  rest : List Stmt
noncomputable def XcP (K : Frag) (c : Addr) (xi : XcI) : Prop := ∃ d : XcD, XcIs K c xi d.b d.fI d.fB d.bn d.f d.g ∧ CtorIs xi d.f d.g d.slf d.s3 (.Name d.bn d.bp) d.nm d.ap d.cp d.p1 d.p2 d.p3 d.ep d.ku d.es d.rest
end Mine

end

section
open PySem PySem.W PySem.Spec PySem.Calls PyProof.Rows
set_option maxRecDepth 100000
set_option maxHeartbeats 2000000
namespace Mine

theorem vals_repsL {σ : List Addr} {B : Addr → Prop} {h : Heap} : ∀ {ds : List D} {vs : List Value} {l : List V}, RepDs σ B h vs ds → vals ds = some l → Reps B h vs l
  | [], [], l, _, e => by (first | subst e | contradiction | (injection e with e; subst e) | cases e); trivial
  | .v x :: ds, v :: vs, l, r, e => by
    unfold vals at e
    obtain ⟨l', h1, rfl⟩ := Option.map_eq_some_iff.mp e
    exact ⟨r.1, vals_repsL r.2 h1⟩
  | .m _ :: _, _ :: _, _, _, e => by (first | subst e | contradiction | (injection e with e; subst e) | cases e)
  | [], _ :: _, _, r, _ => r.elim
  | _ :: _, [], _, r, _ => r.elim

theorem map_lookup : ∀ {ps : List Str} {vs : List Value}, distinct ps = true → ps.length = vs.length → ps.map (fun q => ((ps.zip vs).lookup q).getD .none) = vs
  | [], [], _, _ => rfl
  | p :: ps, v :: vs, hd, hl => by
    unfold distinct at hd
    obtain ⟨hd1, hd2⟩ := Bool.and_eq_true_iff.mp hd
    rw [List.map_cons, List.zip_cons_cons]
    congr 1
    · rw [List.lookup_cons]; simp
    · refine Eq.trans (List.map_congr_left fun q hq => ?_) (map_lookup (ps := ps) (vs := vs) hd2 (by simpa using hl))
      rw [List.lookup_cons]
      cases z : q == p with
      | false => rfl
      | true =>
        have := beq_iff_eq.mp z
        subst this
        rw [Bool.not_eq_true', ← Bool.not_eq_true] at hd1
        exact absurd (List.contains_iff_mem.mpr hq) hd1
  | [], _ :: _, _, h => by (first | subst h | contradiction | (injection h with h; subst h) | cases h)
  | _ :: _, [], _, h => by (first | subst h | contradiction | (injection h with h; subst h) | cases h)
theorem map_lookupD : ∀ {ps : List Str} {ds : List D}, distinct ps = true → ps.length = ds.length → ps.map (fun q => (ps.zip ds).lookup q) = ds.map some
  | [], [], _, _ => rfl
  | p :: ps, v :: vs, hd, hl => by
    unfold distinct at hd
    obtain ⟨hd1, hd2⟩ := Bool.and_eq_true_iff.mp hd
    rw [List.map_cons, List.zip_cons_cons, List.map_cons]
    congr 1
    · rw [List.lookup_cons]; simp
    · refine Eq.trans (List.map_congr_left fun q hq => ?_) (map_lookupD (ps := ps) (ds := vs) hd2 (by simpa using hl))
      rw [List.lookup_cons]
      cases z : q == p with
      | false => rfl
      | true =>
        have := beq_iff_eq.mp z
        subst this
        rw [Bool.not_eq_true', ← Bool.not_eq_true] at hd1
        exact absurd (List.contains_iff_mem.mpr hq) hd1
  | [], _ :: _, _, h => by (first | subst h | contradiction | (injection h with h; subst h) | cases h)
  | _ :: _, [], _, h => by (first | subst h | contradiction | (injection h with h; subst h) | cases h)
theorem low_none {base h : Heap} (hb : base.objs.size ≤ h.objs.size) {a : Addr} (ha : h.objs.size ≤ a) : base.get? a = none := by
  generalize q : base.get? a = zz
  induction zz using Option.casesOn with
  | none => rfl
  | some o => exact absurd (Heap.lt_size q) (Nat.not_lt.mpr (Nat.le_trans hb ha))

section
variable {W : Wd} {A : Around} {Λ σ : List Addr} {E : Value → Shared → Prop} {s : Shared} {st : Sto}

theorem Inv.turn {h h' : Heap} (I : Inv W σ Λ h st) (k : Kp (fun a => a ∈ Λ) h h') (hb : ∀ b o, W.base.get? b = some o → h'.get? b = some o) (hf : ∀ a ∈ W.fr, ∀ o, h.get? a = some o → At h' a o) : Inv W σ Λ h' st := by
  have kb : Kp (Bad σ Λ) h h' := k.weak fun a q => .inr q
  refine ⟨hb, fun b q => ⟨(I.new b q).1, ?_⟩, ⟨I.store.1, I.store.2.1, fun i b l e1 e2 => ?_⟩, I.apart, fun b q => ⟨(I.dic b q).1, ns_ex (I.dic b q).2 (hf b q)⟩⟩
  · obtain ⟨o, e⟩ := (I.new b q).2
    exact (k b o e).2
  · obtain ⟨vs, q, r, z⟩ := I.store.2.2 i b l e1 e2
    obtain ⟨n, e⟩ := q
    exact ⟨vs, ⟨n, (k.at e fun w => I.apart b (List.mem_of_getElem? e1) w).nd fun _ _ q => nomatch q⟩, r.step Fresh.refl kb, z⟩

/-- the first statement of an own exception's __init__: its base's __init__ is called -/
theorem super_sound {b fB : Addr} {bn : Str} {f g : FnI} {xi : XcI} {slf s3 : Str} {bp : Pos} {nm : Str} {ap cp p1 p2 p3 ep : Pos} {ku : Nat} {es : List PySem.Expr} {rest : List Stmt} {env : Env} {e C t : Addr} {ds : List D} {l : List V} {Q : Flow → Shared → Prop}
    (hA : AOk A) (hd : A.depth < recursionLimit) (CI : CtorIs xi f g slf s3 (.Name bn bp) nm ap cp p1 p2 p3 ep ku es rest) (hbn : baseName f = some bn) (hb : nsIn W.K mainGlobals bn = some (some (.ref b))) (hi : baseInit W.K b = some fB) (hg : fnIn W.K fB = some g) (hk : keepIn W.K (.ref fB) = true)
    (hE : EnvOk Λ f.sc env) (hc : ClsIs W.K C) (ht : ∀ p ∈ [xi.q1, xi.q2], takerIn W.K C p = some none) (hloc : ∀ p ∈ slf :: xi.ps, f.sc.names.lookup p = some .local) (hdis : distinct (slf :: xi.ps) = true) (hlen : xi.ps.length = ds.length) (hl : vals ds = some l)
    (eL : e ∈ Λ) (he : s.heap.get? e = some (excNew C t))
    (iv : Inv W σ Λ s.heap st) (V : Vars Λ f.sc env ((slf, .v (.val (.ref e))) :: xi.ps.zip ds) σ s.heap)
    (q : ∀ σ' h₁ h' tk dx n k1 k2 w1 w2 h1 h2, Fresh σ σ' s.heap → Kp (fun x => x ∈ σ ∨ NoX x) s.heap h₁ → Inv W σ' Λ h₁ st → h₁.get? dx = none → (∀ a o, a ≠ e → h₁.get? a = some o → h'.get? a = some o) → h'.get? e = some { excNew C t with dict := some dx } →
      h'.get? dx = some (dictOf [⟨h1, .str xi.q1 k1, w1⟩, ⟨h2, .str xi.q2 k2, w2⟩] n) → Rep (Bad σ' Λ) h₁ w1 (.str xi.word) → Rep (Bad σ' Λ) h₁ w2 (.lst l) → Q .next { s with heap := h', toks := tk }) :
    wpAny (model W.prog W.w) A (exec (.Expr (.Call (.Attribute (.Name bn bp) nm ap) [.Name slf p1, .Constant (.str xi.word) ku p2, .List es p3] [] cp) ep) env) Q E s := by
  obtain ⟨mc, b1, b2, b3⟩ := baseInit_is hi
  obtain ⟨gd, og, G⟩ := fnIn_is hg
  have hsc : isLoc f.sc bn = false ∧ badName bn = false ∧ f.sc.names.lookup bn = some .globalImplicit := by
    unfold baseName at hbn
    rw [CI.body] at hbn
    dsimp only at hbn
    split at hbn
    · cases hbn
    · rename_i z
      simp only [Bool.or_eq_true, not_or, Bool.not_eq_true] at z
      exact ⟨z.1.2, z.1.1, by simpa using z.2⟩
  obtain ⟨hI, _⟩ := XE_sound (W := W) (A := A) (C := C0 bn (.ref b)) (J := stuckJ) hA (fun z => nomatch z) (C0_ok hb) stuck_cs 3
  refine wpAny_Expr_any ?_ (by unfold interactive; rw [hE.scope, hE.kind]; rfl) (swaps_not rfl)
  rw [eval_meth, attrBase_not rfl]
  have evn : (XJ (C0 bn (.ref b)) stuckΦ stuckJ 3).ex f.sc ((slf, .v (.val (.ref e))) :: xi.ps.zip ds) (.Name bn bp) st = .ok (.v (.val (.ref b))) st := by
    show (if badName bn then _ else if isLoc f.sc bn then _ else if f.sc.names.lookup bn == some .globalImplicit then ofO st (((if bn == bn then some (Value.ref b) else none) : Option Value).map fun v => D.v (gV v)) else _) = _
    rw [hsc.2.1, hsc.1, hsc.2.2]
    simp
    rfl
  refine wpAny_bind (hI Λ f.sc env _ (.Name bn bp) hE E σ s st _ iv V ?_)
  rw [evn]
  intro σ₁ h₁ tk₁ v f₁ k₁ i₁ r₁
  have r₁ : v = .ref b := r₁
  subst r₁
  refine wpAny_bind (wpAny_standAt ?_)
  have V₁ := V.step (iv.sigma hE.loc) f₁ k₁
  have X₁ := bases_in i₁
  have nst : noStar [.Name slf p1, .Constant (.str xi.word) ku p2, .List es p3] = true := rfl
  refine methodCall_sound (s' := { s with heap := h₁, toks := tk₁ + 1 }) (f := .ref fB) (first := []) nst (show 3 < 20 by decide) CI.pos (fun pl Q' q' => method_cls X₁ b2 (by rw [CI.hnm]; exact cls_value X₁ b1 b3 rfl q')) ?_
  refine args_sound hE hI nst (fun h X => keeps_K hk h X) (s := { s with heap := h₁, toks := tk₁ + 1 }) i₁ V₁ ?_
  have hdd := hdis
  unfold distinct at hdd
  obtain ⟨hd1, hd2⟩ := Bool.and_eq_true_iff.mp hdd
  have hns : ∀ p ∈ xi.ps, (p == slf) = false := fun p hp => by
    rw [Bool.not_eq_true', ← Bool.not_eq_true] at hd1
    exact beq_eq_false_iff_ne.mpr fun z => hd1 (List.contains_iff_mem.mpr (z ▸ hp))
  have lcl : ∀ p ∈ slf :: xi.ps, isLoc f.sc p = true := fun p hp => by unfold isLoc; rw [hloc p hp]; rfl
  have ev : evs ((XJ (C0 bn (.ref b)) stuckΦ stuckJ 3).ex f.sc ((slf, .v (.val (.ref e))) :: xi.ps.zip ds)) [.Name slf p1, .Constant (.str xi.word) ku p2, .List es p3] st = .ok [.v (.val (.ref e)), .v (.str xi.word), .v (.lst l)] st := by
    have e1 : (XJ (C0 bn (.ref b)) stuckΦ stuckJ 3).ex f.sc ((slf, .v (.val (.ref e))) :: xi.ps.zip ds) (.Name slf p1) st = .ok (.v (.val (.ref e))) st := by
      show (if badName slf then _ else if isLoc f.sc slf then ofO st (((slf, D.v (.val (.ref e))) :: xi.ps.zip ds).lookup slf) else _) = _
      rw [CI.nbad slf (.head _), lcl slf (.head _), List.lookup_cons, beq_self_eq_true]
      rfl
    have e2 : (XJ (C0 bn (.ref b)) stuckΦ stuckJ 3).ex f.sc ((slf, .v (.val (.ref e))) :: xi.ps.zip ds) (.List es p3) st = .ok (.v (.lst l)) st := by
      show (if noStar es && szOk es.length then (evs ((XJ (C0 bn (.ref b)) stuckΦ stuckJ 2).ex f.sc ((slf, .v (.val (.ref e))) :: xi.ps.zip ds)) es st).bind fun ds st => match vals ds with
        | some l => if (C0 bn (.ref b)).mt p3 then Out.ok (D.m st.length) (st ++ [l]) else .ok (.v (.lst l)) st
        | none => .stuck
        else .stuck) = _
      rw [CI.star, CI.sz, ev_names es (ds := ds) CI.hes (fun p hp => ⟨CI.nbad p (.tail _ hp), lcl p (.tail _ hp)⟩) (by
        refine Eq.trans (List.map_congr_left fun p hp => ?_) (map_lookupD hd2 hlen)
        rw [List.lookup_cons, hns p hp])]
      show (match vals ds with
        | some l => if (C0 bn (.ref b)).mt p3 then Out.ok (D.m st.length) (st ++ [l]) else .ok (.v (.lst l)) st
        | none => .stuck) = _
      rw [hl]
      rfl
    unfold evs
    rw [e1]
    show Out.bind (evs _ [.Constant (.str xi.word) ku p2, .List es p3] st) _ = _
    unfold evs
    show Out.bind (Out.bind (evs _ [.List es p3] st) _) _ = _
    unfold evs
    rw [e2]
    rfl
  rw [ev]
  intro σ₂ h₂ tk₂ ws f₂ k₂ i₂ r₂
  obtain ⟨w0, ws, rfl⟩ : ∃ w0 ws', ws = w0 :: ws' := by induction ws using List.casesOn with | nil => exact r₂.elim | cons a b => exact ⟨a, b, rfl⟩
  obtain ⟨w1, ws, rfl⟩ : ∃ w0 ws', ws = w0 :: ws' := by induction ws using List.casesOn with | nil => exact r₂.2.elim | cons a b => exact ⟨a, b, rfl⟩
  obtain ⟨w2, ws, rfl⟩ : ∃ w0 ws', ws = w0 :: ws' := by induction ws using List.casesOn with | nil => exact r₂.2.2.elim | cons a b => exact ⟨a, b, rfl⟩
  obtain ⟨r0, r1, r2, r3⟩ := r₂
  have hws := no_args r3
  subst hws
  have r0 : w0 = .ref e := r0
  subst r0
  refine ⟨bases_in i₂, ?_⟩
  have hlv : g.ps.length = ([] ++ [Value.ref e, w1, w2]).length := by rw [CI.gps]; rfl
  have gdis := G.dis
  have gloc := G.loc
  rw [CI.gps] at gdis gloc
  refine wpAny_call (codeAny_call_def (s := { s with heap := h₂, toks := tk₂ }) (binds := g.ps.zip ([] ++ [Value.ref e, w1, w2])) hd (bases_in i₂ _ _ G.at_) G.data (W.T.nolimit.keeps i₂.keep) (codeRec_of (bases_in i₂) G.code) G.body (BindsTo.of_eq (bind_plain G.ps G.h1 G.h2 G.h3 G.h4 G.h5 hlv G.dis))
    (fun x hx => (G.names x hx).1) (fun x hx => G.loc _ (List.of_mem_zip (a := x.1) (b := x.2) hx).1) (fun h₄ hns₄ hk₄ => ?_) G.co G.gen G.kind)
  have n2 : h₂.get? h₂.objs.size = none := get_size
  obtain ⟨oL, hoL⟩ := ns_obj hns₄
  have i₄ : Inv W σ₂ (h₂.objs.size :: Λ) h₄ st := i₂.lam n2 hk₄ hoL i₂.size
  have ee : h₂.get? e = some (excNew C t) := by
    have k1 := (k₁.at he fun z => z.elim (iv.sigma eL) fun z => z.elim).nd (fun _ _ q => nomatch q)
    exact (k₂.at k1 fun z => z.elim (i₁.sigma eL) fun z => z.elim).nd (fun _ _ q => nomatch q)
  have e₄ := hk₄ _ _ ee
  have lowN := i₄.size
  have hml : ∀ y, (g.ps.zip ([] ++ [Value.ref e, w1, w2])).reverse.lookup y = (g.ps.zip ([] ++ [Value.ref e, w1, w2])).lookup y := fun y => lookup_rev y G.dis hlv
  have d3 : distinct [xi.q1, xi.q2] = true := by
    unfold distinct at gdis
    exact (Bool.and_eq_true_iff.mp gdis).2
  have hm0 : (g.ps.zip ([] ++ [Value.ref e, w1, w2])).reverse.lookup s3 = some (.ref e) := by rw [hml, CI.gps]; show List.lookup s3 ((s3, Value.ref e) :: _) = _; rw [List.lookup_cons, beq_self_eq_true]
  have xb : W.base.get? e = none := low_none (h := W.base) (Nat.le_refl _) (iv.new e (.inr eL)).1
  have xL : (callEnv gd h₂.objs.size fB).locals ≠ e := fun z => by
    have z : h₂.objs.size = e := z
    rw [← z, n2] at ee; cases ee
  refine init_new (s := { s with heap := h₄, toks := tk₂ + (g.ps.zip ([] ++ [Value.ref e, w1, w2])).length }) (env := callEnv gd h₂.objs.size fB) (sc := g.sc) (self := s3) (x := e) (C := C) (m := fun y => (g.ps.zip ([] ++ [Value.ref e, w1, w2])).reverse.lookup y) G.sc (G.sc ▸ G.kind) (G.sc ▸ gloc s3 (.head _)) hm0 hc rfl rfl rfl (low_none lowN (Nat.le_refl _)) xb xL
    CI.gbody (fun p hp => ⟨G.sc ▸ gloc p (.tail _ hp), ?_, ht p hp⟩) d3 hns₄ i₄.keep e₄ (show 1 ≤ 900 by decide) fun h' tk es' n' x1 x2 x3 x4 x5 => ?_
  · rw [hml]
    exact zip_some hlv p (by rw [CI.gps]; exact .tail _ hp)
  · have mv : ([xi.q1, xi.q2].map fun y => ((g.ps.zip ([] ++ [Value.ref e, w1, w2])).reverse.lookup y).getD .none) = [w1, w2] := by
      have z := map_lookup (ps := [s3, xi.q1, xi.q2]) (vs := [Value.ref e, w1, w2]) gdis rfl
      rw [List.map_cons] at z
      injection z with z1 z2
      refine Eq.trans (List.map_congr_left fun y hy => ?_) z2
      rw [hml, CI.gps]; rfl
    rw [mv] at x5
    obtain ⟨⟨g1, ky1, v1⟩, es', rfl⟩ : ∃ a b, es' = a :: b := by induction es' using List.casesOn with | nil => cases x5 | cons a b => exact ⟨a, b, rfl⟩
    obtain ⟨⟨g2, ky2, v2⟩, es', rfl⟩ : ∃ a b, es' = a :: b := by induction es' using List.casesOn with | nil => cases x5 | cons a b => exact ⟨a, b, rfl⟩
    obtain rfl : es' = [] := by induction es' using List.casesOn with | nil => rfl | cons a b => cases x5
    obtain ⟨⟨k1, hk1⟩, ⟨k2, hk2⟩, _⟩ := x4
    dsimp only at hk1 hk2
    subst hk1 hk2
    injection x5 with y1 y2
    injection y2 with y2 _
    dsimp only at y1 y2
    subst y1 y2
    have n4 : h₂.get? h₄.objs.size = none := by
      generalize z : h₂.get? h₄.objs.size = zz
      induction zz using Option.casesOn with
      | none => rfl
      | some o => rw [get_size] at *; exact absurd (hk₄ _ _ z) (by rw [get_size]; intro q; cases q)
    have hle : e ≠ h₄.objs.size := fun z => by rw [z, get_size] at e₄; cases e₄
    refine q σ₂ h₂ h' tk h₄.objs.size n' k1 k2 v1 v2 g1 g2 (f₁.trans f₂ k₁) (k₁.trans k₂ fun a al z => z.elim (fun z => .inl (al.elim fun _ ea => f₁.low ea z)) .inr) i₂ n4 (fun a o ha ho => (x1 a ha fun z => by rw [z, n4] at ho; cases ho).trans (hk₄ _ _ ho)) x2 x3 r1 r2

noncomputable abbrev aCall (A : Around) (c : Addr) (vs : List Value) : Around := A.under (.builtin "type.__call__" ⟨.ref c :: vs, []⟩)

theorem xc_make {c : Addr} {xi : XcI} {ds : List D} {vs : List Value} {l : List V} {Q : Value → Shared → Prop} (hd : A.depth + 4 < recursionLimit) (hu : A.units + 90 < cLine) (hx : XcP W.K c xi) (iv : Inv W σ Λ s.heap st) (hr : RepDs σ (Bad σ Λ) s.heap vs ds) (hl : vals ds = some l) (hn : xi.ps.length = ds.length)
    (q : ∀ σ' h' tk e, Fresh σ σ' s.heap → Kp (fun x => x ∈ σ ∨ NoX x) s.heap h' → Inv W σ' (e :: Λ) h' st → s.heap.get? e = none → Flown W (Bad σ' Λ) h' h' e c xi.ns (xi.vs l) → Q (.ref e) { s with heap := h', toks := tk }) :
    wpAny (model W.prog W.w) A (call (.ref c) vs) Q E s := by
  obtain ⟨⟨b, fI, fB, bn, f, g, slf, s3, bp, nm, ap, cp, p1, p2, p3, ep, ku, es, rest⟩, X, CI⟩ := hx
  replace X : XcIs W.K c xi b fI fB bn f g := X
  replace CI : CtorIs xi f g slf s3 (.Name bn bp) nm ap cp p1 p2 p3 ep ku es rest := CI
  obtain ⟨fd, o, F⟩ := fnIn_is X.fn
  obtain ⟨cok, ctk, clen⟩ := clsOk_is X.ok
  have hK := bases_in iv
  have hreps := vals_repsL hr hl
  have hvs : vs.length = xi.ps.length := by rw [hn, RepDs.length hr]
  have hsmall : xi.ps.length ≤ 900 := by
    have : xi.ps.length + 2 ≤ 900 := clen
    omega
  obtain ⟨hh, ge, dr, t, os⟩ := s
  refine exc_core ⟨X.bm1, X.bm2, X.bm3⟩ (hK _ _ X.cls) (looks_findIn hK (initOf_is X.init)) (fun self => bind_fn hK self (beq_iff_eq.mp X.isf)) (by rw [hvs, sizeLine_eq]; omega) ?_
  -- the object stands, bare
  have nt : hh.get? hh.objs.size = none := get_size
  have sz1 : (hh.push { cls := .type "tuple", data := .seq vs.toArray }).objs.size = hh.objs.size + 1 := Heap.size_push ..
  have ne : (hh.push { cls := .type "tuple", data := .seq vs.toArray }).get? (hh.objs.size + 1) = none := by rw [← sz1]; exact get_size
  have i0 : Inv W σ Λ (hh.push { cls := .type "tuple", data := .seq vs.toArray }) st := iv.push _
  have ke : ∀ b o, (hh.push { cls := .type "tuple", data := .seq vs.toArray }).get? b = some o → (excHeap hh c vs).get? b = some o := fun b o e => Heap.get?_push_of_some _ e
  have he : (excHeap hh c vs).get? (hh.objs.size + 1) = some (excNew c hh.objs.size) := by
    have := Heap.get?_push_size (hh.push { cls := .type "tuple", data := .seq vs.toArray }) (o := excNew c hh.objs.size) rfl
    rw [sz1] at this; exact this
  have i1 : Inv W σ ((hh.objs.size + 1) :: Λ) (excHeap hh c vs) st := i0.lam ne ke he (Nat.le_trans iv.size (Nat.le_succ _))
  have k1 : ∀ b o, hh.get? b = some o → (excHeap hh c vs).get? b = some o := fun b o e => ke _ _ (Heap.get?_push_of_some _ e)
  have he0 : hh.get? (hh.objs.size + 1) = none := by
    cases z : hh.get? (hh.objs.size + 1) with
    | none => rfl
    | some o => exact absurd (Heap.lt_size z) (Nat.not_lt.mpr (Nat.le_succ _))
  have hlv : f.ps.length = (Value.ref (hh.objs.size + 1) :: vs).length := by rw [CI.ps, List.length_cons, List.length_cons, hvs]
  refine codeAny_call_def (s := ⟨excHeap hh c vs, ge, dr, t, os⟩) (binds := f.ps.zip (Value.ref (hh.objs.size + 1) :: vs)) (by show A.depth + Code.weight _ < _; rw [weight_make]; omega) (bases_in i1 _ _ F.at_) F.data (W.T.nolimit.keeps i1.keep) (codeRec_of (bases_in i1) F.code) F.body (BindsTo.of_eq (bind_plain F.ps F.h1 F.h2 F.h3 F.h4 F.h5 hlv F.dis))
    (fun x hx => (F.names x hx).1) (fun x hx => F.loc _ (List.of_mem_zip (a := x.1) (b := x.2) hx).1) (fun h₀ hns hk => ?_) F.co F.gen F.kind
  have sz2 : (excHeap hh c vs).objs.size = hh.objs.size + 2 := by
    show ((hh.push _).push _).objs.size = _
    rw [Heap.size_push, Heap.size_push]
  dsimp only at hns hk ⊢
  rw [sz2] at hns ⊢
  obtain ⟨oL, hoL⟩ := ns_obj hns
  have Ln : (excHeap hh c vs).get? (hh.objs.size + 2) = none := by rw [← sz2]; exact get_size
  have i2 : Inv W σ ((hh.objs.size + 2) :: (hh.objs.size + 1) :: Λ) h₀ st := i1.lam Ln hk hoL (Nat.le_trans iv.size (Nat.le_add_right _ _))
  have noc : ∀ x k, f.sc.names.lookup x = some k → k ≠ .cell ∧ k ≠ .free := fun x k e => F.names (x, k) (F.sc ▸ mem_of_lookup e)
  have hE : EnvOk ((hh.objs.size + 2) :: (hh.objs.size + 1) :: Λ) f.sc (callEnv fd (hh.objs.size + 2) fI) := by
    refine ⟨F.sc ▸ F.kind, F.sc, F.glob, F.bi, .head _, fun x c e => ?_, fun x q => ?_⟩
    · have e : fd.closure.lookup x = some c := e
      rw [F.clo] at e; (first | subst e | contradiction | (injection e with e; subst e) | cases e)
    · rcases q with q | q
      · exact absurd rfl (noc x _ q).1
      · exact absurd rfl (noc x _ q).2
  have hdis := F.dis
  rw [CI.ps] at hdis
  have hloc : ∀ p ∈ slf :: xi.ps, f.sc.names.lookup p = some .local := fun p hp => F.sc ▸ F.loc p (CI.ps ▸ hp)
  have hml : ∀ y, (f.ps.zip (Value.ref (hh.objs.size + 1) :: vs)).reverse.lookup y = (f.ps.zip (Value.ref (hh.objs.size + 1) :: vs)).lookup y := fun y => lookup_rev y F.dis hlv
  have mv1 : ∀ b o, hh.get? b = some o → ¬ Bad σ Λ b → At h₀ b o ∧ ¬ Bad σ ((hh.objs.size + 2) :: (hh.objs.size + 1) :: Λ) b := fun b o e nb => ⟨.inl (hk _ _ (k1 _ _ e)), fun z => by
    have hlt := Heap.lt_size e
    rcases z with z | z
    · exact nb (.inl z)
    · rcases List.mem_cons.mp z with z | z
      · exact absurd hlt (by rw [z]; exact Nat.not_lt.mpr (Nat.le_add_right _ _))
      · rcases List.mem_cons.mp z with z | z
        · exact absurd hlt (by rw [z]; exact Nat.not_lt.mpr (Nat.le_succ _))
        · exact nb (.inr z)⟩
  have hV : Vars ((hh.objs.size + 2) :: (hh.objs.size + 1) :: Λ) f.sc (callEnv fd (hh.objs.size + 2) fI) ((slf, .v (.val (.ref (hh.objs.size + 1)))) :: xi.ps.zip ds) σ h₀ := by
    refine ⟨_, hns, fun x d e => ⟨fun q => ?_, fun q => ?_⟩⟩
    · rw [hml, CI.ps, List.zip_cons_cons]
      rw [List.lookup_cons] at e ⊢
      cases z : x == slf with
      | true =>
        rw [z] at e
        (first | subst e | contradiction | (injection e with e; subst e) | cases e)
        exact ⟨_, rfl, rfl⟩
      | false =>
        rw [z] at e
        obtain ⟨v, h1, h2⟩ := zip_repd hr e
        exact ⟨v, h1, h2.mono mv1⟩
    · rcases q with q | q
      · exact absurd rfl (noc x _ q).1
      · exact absurd rfl (noc x _ q).2
  rw [CI.body]
  refine wpAny_execs_cons (super_sound (s := ⟨h₀, ge, dr, _, os⟩) (W := W) (σ := σ) (st := st) (e := hh.objs.size + 1) (C := c) (t := hh.objs.size) (Λ := (hh.objs.size + 2) :: (hh.objs.size + 1) :: Λ) ⟨?_⟩ ?_ CI X.bname X.glob X.base X.bfn X.bkeep hE cok (fun p hp => ctk p ?_) hloc hdis hn hl (by simp) (hk _ _ he) i2 hV ?_)
  · show A.units + 1 + 3 + 64 < cLine; omega
  · show A.depth + Code.weight _ + 1 < _; rw [weight_make]; omega
  · rcases List.mem_cons.mp hp with rfl | hp
    · exact .head _
    · rcases List.mem_cons.mp hp with rfl | hp
      · exact .tail _ (.head _)
      · (first | subst hp | contradiction | (injection hp with hp; subst hp) | cases hp)
  intro σ' h₁ h' tk dx n j1 j2 w1 w2 g1 g2 f₁ kk i₁ ndx keep' e' d' r1 r2
  have ee1 : h₁.get? (hh.objs.size + 1) = some (excNew c hh.objs.size) := (kk.at (hk _ _ he) fun z => z.elim (i2.sigma (by simp)) fun z => z.elim).nd (fun _ _ q => nomatch q)
  have ndx' : dx ≠ hh.objs.size + 1 := fun z => by rw [z, ee1] at ndx; (first | subst ndx | contradiction | (injection ndx with ndx; subst ndx) | cases ndx)
  have xb : W.base.get? (hh.objs.size + 1) = none := low_none iv.size (Nat.le_succ _)
  have db : W.base.get? dx = none := by
    cases z : W.base.get? dx with
    | none => rfl
    | some o => rw [i₁.keep _ _ z] at ndx; (first | subst ndx | contradiction | (injection ndx with ndx; subst ndx) | cases ndx)
  obtain ⟨m₁, hn₁⟩ := ns_ex ⟨_, hns⟩ fun o e => kk.at e fun z => z.elim (i2.sigma (.head _)) fun z => z.elim
  have hns₁ := ns_at hns fun o e => kk.at e fun z => z.elim (i2.sigma (.head _)) fun z => z.elim
  have LneE : hh.objs.size + 2 ≠ hh.objs.size + 1 := by omega
  have hns' : h'.Ns (hh.objs.size + 2) (fun y => (f.ps.zip (Value.ref (hh.objs.size + 1) :: vs)).reverse.lookup y) := ns_at hns₁ fun o e => .inl (keep' _ _ LneE e)
  have Ldx : hh.objs.size + 2 ≠ dx := fun z => by
    obtain ⟨o, ho⟩ := ns_obj hns₁
    rw [z, ndx] at ho; (first | subst ho | contradiction | (injection ho with ho; subst ho) | cases ho)
  have hdn := CI.dis
  have hd2 : distinct xi.ps = true := by
    unfold distinct at hdis
    exact (Bool.and_eq_true_iff.mp hdis).2
  have q12 : ∀ p ∈ xi.ps, ([xi.q1, xi.q2] : List Str).contains p = false := fun p hp => by
    unfold XcI.ns distinct at hdn
    obtain ⟨a1, a2⟩ := Bool.and_eq_true_iff.mp hdn
    unfold distinct at a2
    obtain ⟨a2, a3⟩ := Bool.and_eq_true_iff.mp a2
    rw [Bool.not_eq_true', ← Bool.not_eq_true] at a1 a2
    have n1 : p ≠ xi.q1 := fun z => a1 (List.contains_iff_mem.mpr (.tail _ (z ▸ hp)))
    have n2 : p ≠ xi.q2 := fun z => a2 (List.contains_iff_mem.mpr (z ▸ hp))
    simp [n1, n2]
  refine init_body (env := callEnv fd (hh.objs.size + 2) fI) (sc := f.sc) (self := slf) (x := hh.objs.size + 1) (dx := dx) (C := c) (ox := { excNew c hh.objs.size with dict := some dx }) (m := fun y => (f.ps.zip (Value.ref (hh.objs.size + 1) :: vs)).reverse.lookup y) F.sc (F.sc ▸ F.kind) (hloc slf (.head _)) ?_ cok
    rfl rfl rfl (Ne.symm ndx') Ldx db rest xi.ps _ n [xi.q1, xi.q2] ⟨h', ge, dr, tk, os⟩ CI.hrest (fun p hp => ⟨hloc p (.tail _ hp), ?_, ctk p (.tail _ (.tail _ hp)), q12 p hp⟩) hd2 hns' (fun b o e => keep' b o (fun z => by rw [z, xb] at e; (first | subst e | contradiction | (injection e with e; subst e) | cases e)) (i₁.keep b o e)) e' d' ⟨⟨_, rfl⟩, ⟨_, rfl⟩, trivial⟩ (by simp; omega) fun h₆ tk₆ es' n' x1 x2 x4 x5 => ?_
  · rw [hml, CI.ps, List.zip_cons_cons, List.lookup_cons, beq_self_eq_true]
  · rw [hml]
    exact zip_some hlv p (by rw [CI.ps]; exact .tail _ hp)
  have kk6 : Kp (fun a => a = hh.objs.size + 1) h₁ h₆ := fun a o ho => by
    have hadx : a ≠ dx := fun z => by rw [z, ndx] at ho; (first | subst ho | contradiction | (injection ho with ho; subst ho) | cases ho)
    by_cases hae : a = hh.objs.size + 1
    · subst hae
      exact ⟨fun z => absurd rfl z, _, (x1 _ hadx).trans e'⟩
    · exact ⟨fun _ => .inl ((x1 _ hadx).trans (keep' _ _ hae ho)), o, (x1 _ hadx).trans (keep' _ _ hae ho)⟩
  have eF : hh.objs.size + 1 ∉ W.fr := i0.nfr ne
  have i6 : Inv W σ' ((hh.objs.size + 2) :: (hh.objs.size + 1) :: Λ) h₆ st := i₁.turn (kk6.weak fun a z => by rw [z]; simp) (fun b o e => (x1 b fun z => by rw [z, db] at e; (first | subst e | contradiction | (injection e with e; subst e) | cases e)).trans (keep' _ _ (fun z => by rw [z, xb] at e; (first | subst e | contradiction | (injection e with e; subst e) | cases e)) (i₁.keep b o e))) fun a ha o e => kk6.at e fun z => eF (z ▸ ha)
  have i7 : Inv W σ' ((hh.objs.size + 1) :: Λ) h₆ st := i6.unlam (i1.nfr Ln)
  have fr : Fresh σ σ' hh := Fresh.refl.trans f₁ (Kp.all (W := NoX) fun b o e => hk _ _ (k1 _ _ e))
  have kp : Kp (fun x => x ∈ σ ∨ NoX x) hh h₆ := ((Kp.all (W := fun x => x ∈ σ ∨ NoX x) fun b o e => hk _ _ (k1 _ _ e)).trans kk fun _ _ z => z).trans kk6 fun a al z => by
    obtain ⟨o, e⟩ := al
    rw [z, he0] at e; (first | subst e | contradiction | (injection e with e; subst e) | cases e)
  have eB : ¬ Bad σ' Λ (hh.objs.size + 1) := fun z => z.elim (i₁.sigma (.tail _ (.head _))) fun z => by
    obtain ⟨o, e⟩ := (iv.new _ (.inr z)).2
    rw [he0] at e; (first | subst e | contradiction | (injection e with e; subst e) | cases e)
  have dB : ¬ Bad σ' Λ dx := fun z => by
    obtain ⟨o, e⟩ := (i₁.new _ (z.elim .inl fun z => .inr (.tail _ (.tail _ z)))).2
    rw [ndx] at e; (first | subst e | contradiction | (injection e with e; subst e) | cases e)
  have ee6 : h₆.get? (hh.objs.size + 1) = some { excNew c hh.objs.size with dict := some dx } := (x1 _ (Ne.symm ndx')).trans e'
  have mvw : ∀ a o, h₁.get? a = some o → ¬ Bad σ' ((hh.objs.size + 2) :: (hh.objs.size + 1) :: Λ) a → At h₆ a o ∧ ¬ (Bad σ' Λ a ∨ a = hh.objs.size + 1) := fun a o ho nb => by
    have hae : a ≠ hh.objs.size + 1 := fun z => nb (.inr (by rw [z]; simp))
    exact ⟨kk6.at ho hae, fun z => z.elim (fun z => nb (z.elim .inl fun z => .inr (.tail _ (.tail _ z)))) hae⟩
  have mvv : ∀ a o, hh.get? a = some o → ¬ Bad σ Λ a → At h₆ a o ∧ ¬ (Bad σ' Λ a ∨ a = hh.objs.size + 1) := fun a o ho nb => by
    have hae : a ≠ hh.objs.size + 1 := fun z => by rw [z, he0] at ho; (first | subst ho | contradiction | (injection ho with ho; subst ho) | cases ho)
    exact ⟨kp.at ho fun z => z.elim (fun z => nb (.inl z)) fun z => z.elim, fun z => z.elim (fun z => nb (z.elim (fun z => .inl (fr.low ho z)) .inr)) hae⟩
  refine ⟨rfl, q σ' h₆ tk₆ (hh.objs.size + 1) fr kp i7 he0 ⟨⟨fun b o e _ => .inl e, i7.keep⟩, ⟨⟨_, ee6⟩, eB, eF, xb⟩, dx, _, _, _, ee6, rfl, rfl, rfl, rfl, .inl rfl, es', n', ndx', dB, .inl x2, x4, ?_⟩⟩
  rw [x5]
  have hvals : (xi.ps.map fun y => ((f.ps.zip (Value.ref (hh.objs.size + 1) :: vs)).reverse.lookup y).getD .none) = vs := by
    have z := map_lookup (ps := slf :: xi.ps) (vs := Value.ref (hh.objs.size + 1) :: vs) hdis (by simp [hvs])
    rw [List.map_cons] at z
    injection z with z1 z2
    refine Eq.trans (List.map_congr_left fun y hy => ?_) z2
    rw [hml, CI.ps]
  rw [hvals]
  exact ⟨r1.mono mvw, r2.mono mvw, hreps.mono mvv⟩
end
end Mine

end

section
open PySem PySem.W PySem.Spec PySem.Calls PyProof.Rows
set_option maxRecDepth 100000
set_option maxHeartbeats 1000000
namespace Mine

structure ExOk (W : Wd) (C : Cx) : Prop where
  xc : ∀ c xi, C.xc c = some xi → XcP W.K c xi
  sub : ∀ c hc b, C.esub c hc = some b → subIn W.K (.ref c) (.ref hc) = some b ∧ subIn W.K (.ref hc) (.type "BaseException") = some true ∧ instIn W.K (.ref hc) (.type "tuple") = some false ∧ (clsIn W.K hc).isSome = true

section
variable {M : Model} {A : Around} {E : Value → Shared → Prop} {s : Shared} {env : Env}
theorem raise_core {nm q : Str} {C N : Addr} {bs bm : List Value} {hdct : Bool} {sn : List Str} {sub : List Value} {ab : Bool} {col : Option Bool} {dd : Option Addr} {k0 k1 k2 k3 k5 : Option Value}
    {x : Sem Value} (hh : A.handled = none) (hb : bm.contains (.type "BaseException") = true) {Q : Flow → Shared → Prop}
    (h : wpAny M A x (fun v s₁ => ∃ e oe vs, v = .ref e ∧ s₁.heap.get? C = some (excClassObj nm q C N bs bm hdct sn sub ab col dd k0 k1 k2 k3 k5 eNew) ∧ s₁.heap.get? e = some oe ∧ oe.cls = .ref C ∧ oe.data = .fields vs ∧ vs[1]? = some .none ∧ E (.ref e) s₁) E s) :
    wpAny M A (raiseStmt env (some x) none) Q E s := by
  have hcB : (Value.ref C :: bm).contains (.type "BaseException") = true := by rw [List.contains_cons, hb, Bool.or_true]
  unfold raiseStmt
  refine wpAny_bind (wpAny_mono h (fun v s₁ h₁ => ?_) fun _ _ x => x)
  obtain ⟨e, oe, vs, rfl, hC, he, hc, hd, hv, hE⟩ := h₁
  obtain ⟨hp, g, d, tk, os⟩ := s₁
  obtain ⟨oc, od, oda, osl⟩ := oe
  dsimp only at hc hd
  subst hc hd
  repeat (first | with_reducible refine wpAny_loadPart_at he ?_ | with_reducible refine wpAny_loadPart_at hC ?_ | (with_reducible refine wpAny_isSubtype_exc hC ?_; rw [hcB]) | wp_step)
  rw [hv]
  refine wpAny_pure ?_
  rw [if_neg (by decide)]
  exact wpAny_pure (wpAny_raiseNew_none hh hE)

theorem matches_core {K : Frag} {e c hc : Addr} {oe : Obj} {b : Bool} {Q : Bool → Shared → Prop} (X : K.In s.heap) (he : s.heap.get? e = some oe) (hcl : oe.cls = .ref c) (h1 : subIn K (.ref c) (.ref hc) = some b) (h2 : subIn K (.ref hc) (.type "BaseException") = some true)
    (h3 : instIn K (.ref hc) (.type "tuple") = some false) (h4 : (clsIn K hc).isSome = true) (h : Q b s) : wpAny M A (excMatches (.ref e) (.ref hc)) Q E s := by
  obtain ⟨mt, t1, t2⟩ := Option.bind_eq_some_iff.mp h3
  have L0 := looks_typeIn (M := M) X t1
  have L1 := looks_subIn (M := M) X t2
  have L2 : Looks M s.heap (isType (.ref hc)) true := by
    unfold clsIn at h4
    split at h4
    · rename_i ho; exact (Looks.ld (X _ _ ho)).andThen .now
    · (first | subst h4 | contradiction | (injection h4 with h4; subst h4) | cases h4)
  have L3 := looks_subIn (M := M) X h2
  have L4 : Looks M s.heap (typeOf (.ref e)) (.ref c) := by
    have := (Looks.ld (M := M) (part := some headPart) he).andThen (f := fun o => pure o.cls) (b := oe.cls) .now
    rw [hcl] at this
    exact this
  have L5 := looks_subIn (M := M) X h1
  have LX : Looks M s.heap (isExcClass (.ref hc)) true := L2.andThen L3
  unfold excMatches
  refine wpAny_bind (wpAny_bind (L0.here (L1.here ?_)))
  dsimp only
  rw [if_neg (by decide)]
  refine wpAny_bind (wpAny_pure ?_)
  refine wpAny_bind ?_
  rw [List.forIn_cons]
  refine wpAny_bind (wpAny_bind (LX.here ?_))
  rw [if_neg (by decide)]
  refine wpAny_pure ?_
  dsimp only
  rw [List.forIn_nil]
  refine wpAny_pure (wpAny_bind (L4.here (wpAny_bind ?_)))
  rw [List.forIn_cons]
  refine wpAny_bind (wpAny_bind (L5.here ?_))
  induction b using Bool.casesOn with
  | true =>
    rw [if_pos rfl]
    exact wpAny_pure (wpAny_pure (wpAny_pure h))
  | false =>
    rw [if_neg (by decide)]
    refine wpAny_pure ?_
    dsimp only
    rw [List.forIn_nil]
    exact wpAny_pure (wpAny_pure h)
end

section
variable {W : Wd} {A : Around} {Λ σ : List Addr} {E : Value → Shared → Prop} {s : Shared} {st : Sto} {sc : Scope} {env : Env} {ρ : En}

theorem gname_sound {C : Cx} (hC : CxOk W C) (hE : EnvOk Λ sc env) {x : Str} {pos : Pos} {v : Value} {Q : Value → Shared → Prop} (h : gName C sc x = some v) (keep : ∀ b o, W.base.get? b = some o → s.heap.get? b = some o) (q : Q v s) : wpAny (model W.prog W.w) A (eval (.Name x pos) env) Q E s := by
  have hk : env.scope.kind = .function := by rw [hE.scope]; exact hE.kind
  unfold gName at h
  split at h
  · (first | subst h | contradiction | (injection h with h; subst h) | cases h)
  · rename_i hc
    simp only [Bool.or_eq_true, not_or, Bool.not_eq_true] at hc
    have hd := hc.1
    unfold badName at hd
    have hd' : (x == ("__debug__" : Str)) = false := by
      cases z : x == ("__debug__" : Str) with
      | false => rfl
      | true => rw [show (x == Str.ofString "__debug__") = true from z] at hd; (first | subst hd | contradiction | (injection hd with hd; subst hd) | cases hd)
    split at h
    · rename_i hg
      have hg : env.kindOf x = some .globalImplicit := by unfold Env.kindOf; rw [hE.scope]; simpa using hg
      have gk := W.T.g.keeps keep
      have bk := W.T.b.keeps keep
      rcases hC.G x v h with e | ⟨e, hb, hn⟩
      · exact Name_function_global hk hg (loadGlobal_global (by rw [hE.globals]; exact gk) (mg_of W.X W.T.g e) q) hd'
      · exact Name_function_global hk hg (loadGlobal_builtin (by rw [hE.globals]; exact gk) (mg_none_of W.X W.T.g e) (by rw [hE.builtins]; exact bk) ((W.T.builtins x hn).trans hb) q) hd'
    · (first | subst h | contradiction | (injection h with h; subst h) | cases h)

theorem vals_len {ds : List D} {l : List V} (h : vals ds = some l) : ds.length = l.length := by
  induction ds generalizing l with
  | nil => (first | subst h | contradiction | (injection h with h; subst h) | cases h); rfl
  | cons d ds ih =>
    induction d using Mine.D.casesOn with
    | v x =>
      unfold vals at h
      obtain ⟨l', h1, rfl⟩ := Option.map_eq_some_iff.mp h
      exact congrArg (· + 1) (ih h1)
    | m i => (first | subst h | contradiction | (injection h with h; subst h) | cases h)

theorem raise_sound {C : Cx} {I : In} (hh : A.handled = none) (hd : A.depth + 4 < recursionLimit) (hu : A.units + 90 < cLine) (hC : CxOk W C) (hX : ExOk W C) (hE : EnvOk Λ sc env) (hI : IE W A I) {x : Str} {np cp pos : Pos} {args : List PySem.Expr} {c : Addr} {xi : XcI} {Q : Flow → Shared → Prop}
    (hg : gName C sc x = some (.ref c)) (hx : C.xc c = some xi) (hns : noStar args = true) (iv : Inv W σ Λ s.heap st) (V : Vars Λ sc env ρ σ s.heap)
    (H : Po W Λ (XL env) (relS Λ sc env) E σ s ((evs (I.ex sc ρ) args st).bind fun ds st => (match vals ds with
            | some l => if l.length == xi.ps.length then .exc (.inst c xi.ns (xi.vs l)) st else .stuck
            | Option.none => .stuck)) Q) :
    wpAny (model W.prog W.w) A (exec (.Raise (some (.Call (.Name x np) args [] cp)) none pos) env) Q E s := by
  have xp := hX.xc c xi hx
  obtain ⟨y, X, _⟩ := hX.xc c xi hx
  have nx : ∀ a, NoX a → XL env a := fun a q => q.elim
  rw [arm_exec_Raise]
  show wpAny _ A (do standAt pos; raiseStmt env (some (do let v ← eval (.Call (.Name x np) args [] cp) env; standAt pos; pure v)) none) Q E s
  refine wpAny_bind (wpAny_standAt (raise_core (C := c) (nm := (cdOf W.K c).name) (q := (cdOf W.K c).qualname) (N := (cdOf W.K c).ns) (bs := (cdOf W.K c).bases) (bm := (cdOf W.K c).mro.tail) (hdct := (cdOf W.K c).hasDict) (sn := (cdOf W.K c).slotNames) (sub := (cdOf W.K c).subclasses) (ab := (cdOf W.K c).abstract) (col := (cdOf W.K c).collection)
    (dd := ddOf W.K c) (k0 := slOf W.K c 0) (k1 := slOf W.K c 1) (k2 := slOf W.K c 2) (k3 := slOf W.K c 3) (k5 := slOf W.K c 5) hh X.bm4 (wpAny_bind ?_)))
  rw [eval_call rfl]
  refine wpAny_bind (gname_sound hC hE hg iv.keep ?_)
  refine args_sound hE hI hns (fun h X' => keeps_K X.keep h X') iv V (Po.seq nx H fun ds st₂ σ₂ h₂ tk₂ ws f₂ k₂ i₂ r₂ H₂ => ⟨bases_in i₂, ?_⟩)
  split at H₂
  · rename_i l hl
    split at H₂
    · rename_i hln
      have hnl : xi.ps.length = ds.length := by rw [vals_len hl]; exact (beq_iff_eq.mp hln).symm
      refine xc_make hd hu xp i₂ r₂ hl hnl fun σ' h' tk e fr kp i' ne F => ?_
      refine wpAny_bind (wpAny_standAt (wpAny_pure ?_))
      obtain ⟨kk, he, dx, oe, vs, a0, o1, o2, o3, o4, o5, o6, rst⟩ := id F
      refine ⟨e, oe, vs, rfl, bases_in i' _ _ X.cls, o1, o2, o4, ?_, H₂ σ' h' h' tk e fr (kp.weak fun a z => z.elim .inl fun z => z.elim) i' ne F⟩
      rcases o6 with o6 | ⟨T, oT, ts, t1, t2, t3, _⟩
      · exact o6
      · rw [t2] at t3; (first | subst t3 | contradiction | (injection t3 with t3; subst t3) | cases t3)
    · exact H₂.elim
  · exact H₂.elim
end
end Mine

end

section
open PySem PySem.W PySem.Spec PySem.Calls PyProof.Rows
set_option maxRecDepth 100000
set_option maxHeartbeats 1000000
namespace Mine
section
variable {W : Wd} {A : Around} {Λ σ : List Addr} {E : Value → Shared → Prop} {s : Shared} {st : Sto} {sc : Scope} {env : Env} {ρ : En}

theorem retOf_is {b : Stmt} {e : PySem.Expr} (h : retOf b = some e) : ∃ p, b = .Return (some e) p := by
  unfold retOf at h
  split at h
  · rw [h]; exact ⟨_, rfl⟩
  · (first | subst h | contradiction | (injection h with h; subst h) | cases h)
theorem ifRet_is {b : Stmt} {q : PySem.Expr × PySem.Expr} (h : ifRet b = some q) : ∃ p p', b = .If q.1 [.Return (some q.2) p] [] p' := by
  unfold ifRet at h
  split at h
  · split at h
    · rename_i hb
      obtain ⟨e, he, rfl⟩ := Option.map_eq_some_iff.mp h
      obtain ⟨s, hs, hr⟩ := Option.bind_eq_some_iff.mp he
      obtain ⟨p, rfl⟩ := retOf_is hr
      rw [one_is hs, List.isEmpty_iff.mp hb]
      exact ⟨p, _, rfl⟩
    · (first | subst h | contradiction | (injection h with h; subst h) | cases h)
  · (first | subst h | contradiction | (injection h with h; subst h) | cases h)
theorem hParts_is {h : ExceptHandler} {q : Str × Str × PySem.Expr} (e : hParts h = some q) : ∃ p rp pos, h = .ExceptHandler (some (.Name q.1 p)) (some q.2.1) [.Return (some q.2.2) rp] pos := by
  obtain ⟨t, n, body, pos⟩ := h
  unfold hParts at e
  dsimp only at e
  split at e
  · rename_i x hx
    obtain ⟨t', rfl, ht⟩ := Option.bind_eq_some_iff.mp hx
    obtain ⟨p, rfl⟩ := nameOf_is ht
    split at e
    · obtain ⟨ex, he, rfl⟩ := Option.map_eq_some_iff.mp e
      obtain ⟨s, hs, hr⟩ := Option.bind_eq_some_iff.mp he
      obtain ⟨rp, rfl⟩ := retOf_is hr
      rw [one_is hs]
      exact ⟨p, rp, pos, rfl⟩
    · (first | subst e | contradiction | (injection e with e; subst e) | cases e)
  · (first | subst e | contradiction | (injection e with e; subst e) | cases e)

theorem retB_sound {I : In} (hE : EnvOk Λ sc env) (hI : IE W A I) (hT : IT W A I) : ∀ (body : List Stmt) (E : Value → Shared → Prop) (σ : List Addr) (s : Shared) (st : Sto) (Q : Flow → Shared → Prop), Inv W σ Λ s.heap st → Vars Λ sc env ρ σ s.heap →
    Po W Λ NoX (relD Λ) E σ s (retB (I.ex sc ρ) (I.tt sc ρ) body st) (fun v s' => Q (.ret v) s') → wpAny (model W.prog W.w) A (execs body env) Q E s := by
  intro body
  induction body with
  | nil => intro E σ s st Q iv V H; exact H.elim
  | cons b r ih =>
    intro E σ s st Q iv V H
    unfold retB at H
    split at H
    · rename_i e he
      obtain ⟨p, rfl⟩ := retOf_is he
      split at H
      · exact wpAny_execs_cons (wpAny_Return_some (hI Λ sc env ρ e hE E σ s _ _ iv V H))
      · exact H.elim
    · split at H
      · rename_i q hq
        obtain ⟨p, p', rfl⟩ := ifRet_is hq
        refine wpAny_execs_cons (wpAny_If (hT Λ sc env ρ q.1 hE E σ s _ _ iv V (Po.seq0 H fun t st₁ σ₁ h₁ tk₁ v f₁ k₁ i₁ r₁ H₁ => ?_)))
        have r₁ : v = t := r₁
        subst r₁
        have V₁ := V.step (iv.sigma hE.loc) f₁ k₁
        induction v using Bool.casesOn with
        | true => exact wpAny_execs_cons (wpAny_Return_some (hI Λ sc env ρ q.2 hE E σ₁ _ st₁ _ i₁ V₁ H₁))
        | false => exact wpAny_execs_nil (ih E σ₁ _ st₁ Q i₁ V₁ H₁)
      · exact H.elim

/-- where an exception is caught -/
theorem Inv.fly {hr h' : Heap} {e c : Addr} {ns : List Str} {l : List V} (I : Inv W σ (e :: Λ) hr st) (F : Flown W (Bad σ Λ) hr h' e c ns l) : Inv W σ Λ h' st ∧ (∀ b o, hr.get? b = some o → b ≠ e → At h' b o) ∧ Rep (Bad σ Λ) h' (.ref e) (.inst c ns l) ∧ ∃ o, h'.get? e = some o ∧ o.cls = .ref c := by
  obtain ⟨⟨k1, k2⟩, ⟨h1, h2, h3, h4⟩, dx, oe, vs, a0, g1, g2, g3, g4, g5, g6, es, n, g7, g8, g9, g10, g11⟩ := F
  have ne : ∀ a, Bad σ Λ a → a ≠ e := fun a q z => h2 (z ▸ q)
  refine ⟨⟨k2, fun a q => ?_, ⟨I.store.1, I.store.2.1, fun i a x e1 e2 => ?_⟩, fun a ha q => I.apart a ha (.tail _ q), fun a q => ?_⟩, k1, ?_, oe, g1, g2⟩
  · obtain ⟨w, o, ho⟩ := I.new a (q.elim .inl fun z => .inr (.tail _ z))
    obtain ⟨sl, z⟩ := (k1 a o ho (ne a q)).ex
    exact ⟨w, _, z⟩
  · obtain ⟨us, ⟨m, q⟩, r, z⟩ := I.store.2.2 i a x e1 e2
    refine ⟨us, ⟨m, (k1 a _ q (ne a (.inl (List.mem_of_getElem? e1)))).nd fun _ _ q => nomatch q⟩, r.mono fun b o ho nb => ⟨k1 b o ho fun z => nb (.inr (z ▸ .head _)), fun z => nb (z.elim .inl fun z => .inr (.tail _ z))⟩, z⟩
  · have hae : a ≠ e := fun z => h3 (z ▸ q)
    exact ⟨(List.mem_cons.mp (I.dic a q).1).resolve_left hae, ns_ex (I.dic a q).2 fun o ho => k1 a o ho hae⟩
  · show Rep _ _ _ _
    unfold Rep
    exact ⟨e, dx, es, n, rfl, h2, g8, ⟨oe, g1, g2, g3, by unfold notCls; rw [g4], fun _ _ q => by rw [g4] at q; (first | subst q | contradiction | (injection q with q; subst q) | cases q)⟩, g9.trans fun o' q => k1 dx o' q g7, g10, g11.mono fun b o ho nb => ⟨k1 b o ho fun z => nb (.inr z), fun z => nb (.inl z)⟩⟩

theorem lookup_dropE {x y : Str} : ∀ {ρ : En} {d : D}, (dropE x ρ).lookup y = some d → ρ.lookup y = some d ∧ y ≠ x
  | [], _, h => by (first | subst h | contradiction | (injection h with h; subst h) | cases h)
  | (z, e) :: r, d, h => by
    unfold dropE at h
    rw [List.filter_cons] at h
    by_cases hz : (!(z == x)) = true
    · rw [if_pos hz, List.lookup_cons] at h
      rw [List.lookup_cons]
      cases q : y == z with
      | true =>
        rw [q] at h
        refine ⟨h, fun w => ?_⟩
        rw [beq_iff_eq] at q
        rw [← q, w] at hz
        simp at hz
      | false =>
        rw [q] at h
        exact lookup_dropE (ρ := r) h
    · rw [if_neg hz] at h
      obtain ⟨a, b⟩ := lookup_dropE (ρ := r) h
      refine ⟨?_, b⟩
      rw [List.lookup_cons]
      have hz : z = x := by simpa using hz
      have : (y == z) = false := by rw [hz]; exact beq_eq_false_iff_ne.mpr b
      rw [this]; exact a

/-- how a handler's expression is read, where something is handled -/
theorem XH_sound {C : Cx} (hC : CxOk W C) {A' : Around} (hA : AOk A') : ∀ Λ sc env ρ e, EnvOk Λ sc env → SX W A' Λ NoX (relD Λ) (Vars Λ sc env ρ) (XH C sc ρ e) (eval e env) :=
  (XE_sound (C := { C with hand := true }) (J := stuckJ) (Φ := stuckΦ) hA (fun z => nomatch z) ⟨hC.G, hC.able, hC.meth, hC.attr⟩ stuck_cs 16).1

theorem setFlight_flown {M : Model} {B : Addr → Prop} {hr : Heap} {e c : Addr} {ns : List Str} {l : List V} {Q : Unit → Shared → Prop} (kb : ∀ b o, W.base.get? b = some o → hr.get? b = some o) (F : Flown W B hr s.heap e c ns l) (q : ∀ h', Flown W B hr h' e c ns l → Q () { s with heap := h' }) : wpAny M A (setFlight (.ref e) none) Q E s := by
  obtain ⟨⟨k1, k2⟩, ⟨h1, h2, h3, h4⟩, dx, oe, vs, a0, g1, g2, g3, g4, g5, g6, rest⟩ := F
  unfold setFlight
  rcases g6 with g6 | ⟨T, oT, ts, t1, t2, t3, t4, t5⟩
  · refine wpAny_bind (wpAny_field g1 g4 g6 ?_)
    rw [if_neg (by decide)]
    exact wpAny_pure (q s.heap ⟨⟨k1, k2⟩, ⟨h1, h2, h3, h4⟩, dx, oe, vs, a0, g1, g2, g3, g4, g5, .inl g6, rest⟩)
  · refine wpAny_bind (wpAny_field g1 g4 t1 ?_)
    rw [if_pos (show (Value.ref T != Value.none) = true from by simp)]
    refine wpAny_setField t3 t4 (Array.getElem?_eq_some_iff.mp t5).1 ?_
    have hTe : T ≠ e := fun z => by
      obtain ⟨o, ho⟩ := h1
      rw [z, ho] at t2; (first | subst t2 | contradiction | (injection t2 with t2; subst t2) | cases t2)
    have other : ∀ b, b ≠ T → (s.heap.update T (Obj.mapFields (·.setIfInBounds 3 Value.none))).get? b = s.heap.get? b := fun b hb => Heap.get?_update_other _ _ (Ne.symm hb)
    have hTb : W.base.get? T = none := by
      generalize z : W.base.get? T = zz
      induction zz using Option.casesOn with
      | none => rfl
      | some o =>
        rw [kb T o z] at t2; (first | subst t2 | contradiction | (injection t2 with t2; subst t2) | cases t2)
    refine q _ ⟨⟨fun b o ho hb => (k1 b o ho hb).trans fun o' e' => .inl ((other b fun z => by rw [z, t2] at ho; (first | subst ho | contradiction | (injection ho with ho; subst ho) | cases ho)).trans e'), fun b o e' => (other b fun z => by rw [z, hTb] at e'; (first | subst e' | contradiction | (injection e' with e'; subst e') | cases e')).trans (k2 b o e')⟩, ⟨h1, h2, h3, h4⟩, dx, oe, vs, a0, (other e (Ne.symm hTe)).trans g1, g2, g3, g4, g5, .inr ⟨T, _, _, t1, t2, Heap.get?_update_self _ t3 (Obj.isFreed_of_fields (Obj.data_mapFields t4 _)), Obj.data_mapFields t4 _, ?_⟩, rest⟩
    simp [(Array.getElem?_eq_some_iff.mp t5).1]

theorem clauses_sound {C : Cx} (hu : A.units + 90 < cLine) (hC : CxOk W C) (hX : ExOk W C) (hE : EnvOk Λ sc env) (hloc : env.locals ∉ σ) {c e : Addr} {ns : List Str} {l : List V} {σ₁ : List Addr} {hr : Heap} {Q : Flow → Shared → Prop} (f₁ : Fresh σ σ₁ s.heap) (k₁ : Kp (fun x => x ∈ σ ∨ NoX x) s.heap hr)
    (i₁ : Inv W σ₁ (e :: Λ) hr st) (V : Vars Λ sc env ρ σ s.heap) (ne : s.heap.get? e = none) :
    ∀ (hs : List ExceptHandler) (h : Heap) (tk : Nat), Flown W (Bad σ₁ Λ) hr h e c ns l → Po W Λ (XL env) (relS Λ sc env) E σ s (clauses C (XH C) sc ρ c ns l hs st) Q → wpAny (model W.prog W.w) A (handleBy (.ref e) env hs) Q E { s with heap := h, toks := tk } := by
  intro hs
  induction hs with
  | nil => intro h tk F H; exact H.elim
  | cons hd r ih =>
    intro h tk F H
    unfold clauses at H
    split at H
    · exact H.elim
    · rename_i q hq
      obtain ⟨p, rp, pos, rfl⟩ := hParts_is hq
      obtain ⟨x, n, ex⟩ := q
      dsimp only at H
      split at H
      · rename_i hc hg
        obtain ⟨i₂, kk, r₂, oe, he, hcl⟩ := i₁.fly F
        have X₂ := bases_in i₂
        split at H
        · rename_i hsub
          obtain ⟨m1, m2, m3, m4⟩ := hX.sub c hc true hsub
          split at H
          · rename_i hn
            have hn : sc.names.lookup n = some .local := by simpa using hn
            refine wpAny_handleBy_cons (codeAny_handlers_test (gname_sound (s := { s with heap := h, toks := tk }) hC hE hg i₂.keep (matches_core (s := { s with heap := h, toks := tk }) X₂ he hcl m1 m2 m3 m4 ?_))) (by intro q; (first | subst q | contradiction | (injection q with q; subst q) | cases q))
            refine codeAny_handlers_suite_as (setFlight_flown (s := { s with heap := h, toks := tk }) i₁.keep F fun h₂ F₂ => ?_)
            obtain ⟨i₃, kk₃, r₃, _⟩ := i₁.fly F₂
            have k₃ : Kp (fun x => x ∈ σ ∨ NoX x) s.heap h₂ := fun b o ho => by
              have hbe : b ≠ e := fun z => by rw [z, ne] at ho; (first | subst ho | contradiction | (injection ho with ho; subst ho) | cases ho)
              refine ⟨fun nb => (k₁.at ho nb).trans fun o' q => kk₃ b o' q hbe, ?_⟩
              obtain ⟨o', q⟩ := (k₁ b o ho).2
              obtain ⟨sl, z⟩ := (kk₃ b o' q hbe).ex
              exact ⟨_, z⟩
            have V₃ := V.step hloc f₁ k₃
            refine store_one (s := { s with heap := h₂, toks := tk }) hE i₃ V₃ hn (d := .v (.inst c ns l)) r₃ fun h₄ tk₄ i₄ k₄ V₄ => ?_
            have k04 : Kp (fun x => x ∈ σ ∨ XL env x) s.heap h₄ := (k₃.weak fun a z => z.elim .inl fun z => z.elim).trans k₄ fun a _ z => .inr z
            have H₄ := Po.shift (tk := tk₄) H f₁ k04
            refine wpAny_execs_cons (wpAny_Return_some (XH_sound hC ⟨?_⟩ Λ sc env _ ex hE _ σ₁ { s with heap := h₄, toks := tk₄ } _ _ i₄ V₄ (Po.quiet (fun _ z => z.elim) H₄ fun d st₅ σ₅ h₅ tk₅ v f₅ k₅ i₅ r₅ H₅ => ?_)))
            · show A.units + 64 < cLine; omega
            · have V₅ := V₄.step (i₄.sigma hE.loc) f₅ k₅
              obtain ⟨m, hm, vm⟩ := V₅
              refine wpAny_nameGoes_keeps (s := { s with heap := h₅, toks := tk₅ }) (by unfold Env.kindOf; rw [hE.scope]; exact hn) hm (kind_false hE) fun h₆ v₆ hn₆ hs₆ => ?_
              obtain ⟨o₆, ho₆⟩ := ns_obj hn₆
              have kb : Kp (Bad σ₅ Λ) h₅ h₆ := Kp.same hs₆ (.inr hE.loc) ho₆
              refine H₅ σ₅ h₆ _ (.ret v) Fresh.refl (Kp.same hs₆ (.inr (.inl rfl)) ho₆) (i₅.touch hs₆ hE.loc ho₆ fun _ => ⟨_, hn₆⟩) ⟨r₅.step Fresh.refl kb, _, hn₆, fun y d' e' => ?_⟩
              obtain ⟨y1, y2⟩ := lookup_dropE e'
              have y3 : (setE n (.v (.inst c ns l)) ρ).lookup y = some d' := by
                rw [lookup_setE, if_neg (by simpa using y2)]; exact y1
              obtain ⟨a1, a2⟩ := vm y d' y3
              refine ⟨fun q => ?_, fun q => ?_⟩
              · obtain ⟨w, b1, b2⟩ := a1 q
                exact ⟨w, by rw [if_neg y2]; exact b1, b2.step Fresh.refl kb⟩
              · obtain ⟨cc, o, w, b1, b2, b3, b4, b5⟩ := a2 q
                have hcn : cc ≠ env.locals := fun z => by
                  obtain ⟨o2, es, ep, g2, gd, _⟩ := hm
                  have b2 : h₅.get? cc = some o := b2
                  rw [z, g2] at b2
                  (first | subst b2 | contradiction | (injection b2 with b2; subst b2) | cases b2)
                  rw [gd] at b3; (first | subst b3 | contradiction | (injection b3 with b3; subst b3) | cases b3)
                exact ⟨cc, o, w, b1, (hs₆.2 cc hcn).trans b2, b3, b4, b5.step Fresh.refl kb⟩
          · exact H.elim
        · rename_i hsub
          obtain ⟨m1, m2, m3, m4⟩ := hX.sub c hc false hsub
          refine wpAny_handleBy_cons (codeAny_handlers_test (gname_sound (s := { s with heap := h, toks := tk }) hC hE hg i₂.keep (matches_core (s := { s with heap := h, toks := tk }) X₂ he hcl m1 m2 m3 m4 ?_))) (by intro q; (first | subst q | contradiction | (injection q with q; subst q) | cases q))
          exact ih h tk F H
        · exact H.elim
      · exact H.elim

theorem try_sound {C : Cx} {I : In} (hu : A.units + 90 < cLine) (hC : CxOk W C) (hX : ExOk W C) (hE : EnvOk Λ sc env) (hTop : TopOk A W env) (hI : IE W A I) (hT : IT W A I) {body : List Stmt} {h₀ : ExceptHandler} {hs : List ExceptHandler} {pos : Pos} {Q : Flow → Shared → Prop} (iv : Inv W σ Λ s.heap st) (V : Vars Λ sc env ρ σ s.heap)
    (H : Po W Λ (XL env) (relS Λ sc env) E σ s (match retB (I.ex sc ρ) (I.tt sc ρ) body st with
      | .ok d st => .ok (.ret d, ρ) st
      | .exc (.inst c ns l) st => clauses C (XH C) sc ρ c ns l (h₀ :: hs) st
      | _ => .stuck) Q) : wpAny (model W.prog W.w) A (exec (.Try body (h₀ :: hs) [] [] pos) env) Q E s := by
  refine wpAny_Try_except (retB_sound hE hI hT body _ σ s _ _ iv V ?_)
  revert H
  generalize retB (I.ex sc ρ) (I.tt sc ρ) body st = r
  intro H
  induction r using Mine.Out.casesOn with
  | stuck => exact H.elim
  | ok d st' =>
    intro σ' h' tk b f k i r
    exact H σ' h' tk (.ret b) f (k.weak fun a z => z.elim .inl fun z => z.elim) i ⟨r, V.step (iv.sigma hE.loc) f k⟩
  | exc x st' =>
    intro σ' hr h' tk e f k i ne x'
    induction x using Mine.V.casesOn with
    | inst c ns l =>
      obtain ⟨outer, L, t1, t2, t3⟩ := hTop
      exact leave_flown (s := { s with heap := h', toks := tk }) t1 t2 t3 i x' fun h'' F => clauses_sound hu hC hX hE (iv.sigma hE.loc) f k i V ne (h₀ :: hs) h'' tk F H
    | _ => exact x'.elim
end
end Mine

end

section
open PySem PySem.W PySem.Spec PySem.Calls PyProof.Rows
set_option maxRecDepth 100000
namespace Mine

section
variable {W : Wd} {A : Around} {Λ σ : List Addr} {E : Value → Shared → Prop} {s : Shared} {st : Sto} {sc : Scope} {env : Env} {ρ : En}

section
variable {C : Cx} {I : In} {Φ : D → List D → Sto → Out D} {Q : Flow → Shared → Prop}
theorem nx_ (a : Addr) (q : NoX a) : XL env a := q.elim
theorem st_ret {e : PySem.Expr} {pos : Pos} (hI : IE W A I) (hE : EnvOk Λ sc env) (iv : Inv W σ Λ s.heap st) (V : Vars Λ sc env ρ σ s.heap)
    (H : Po W Λ (XL env) (relS Λ sc env) E σ s ((I.ex sc ρ e st).bind fun d st => .ok (.ret d, ρ) st) Q) : wpAny (model W.prog W.w) A (exec (.Return (some e) pos) env) Q E s :=
  wpAny_Return_some (hI Λ sc env ρ e hE E σ s st _ iv V (Po.seq nx_ H fun d st₁ σ₁ h₁ tk₁ v f₁ k₁ i₁ r₁ H₁ => Po.now (tk := tk₁) (b := Flow.ret v) H₁ i₁ ⟨r₁, V.step (iv.sigma hE.loc) f₁ k₁⟩))
theorem st_expr {e : PySem.Expr} {pos : Pos} (hI : IE W A I) (hE : EnvOk Λ sc env) (iv : Inv W σ Λ s.heap st) (V : Vars Λ sc env ρ σ s.heap)
    (H : Po W Λ (XL env) (relS Λ sc env) E σ s (if isComp e then .stuck else (I.ex sc ρ e st).bind fun _ st => .ok (.next, ρ) st) Q) : wpAny (model W.prog W.w) A (exec (.Expr e pos) env) Q E s := by
  generalize hc : isComp e = zz
  induction zz using Bool.casesOn with
  | true => rw [hc] at H; exact H.elim
  | false =>
    rw [hc] at H
    exact wpAny_Expr_any (hI Λ sc env ρ e hE E σ s st _ iv V (Po.seq nx_ H fun d st₁ σ₁ h₁ tk₁ v f₁ k₁ i₁ r₁ H₁ => Po.now (tk := tk₁) (b := Flow.next) H₁ i₁ ⟨trivial, V.step (iv.sigma hE.loc) f₁ k₁⟩)) (by unfold interactive; rw [hE.scope, hE.kind]; rfl) (swaps_not hc)
theorem st_name {x : Str} {e : PySem.Expr} {p pos : Pos} (hI : IE W A I) (hE : EnvOk Λ sc env) (iv : Inv W σ Λ s.heap st) (V : Vars Λ sc env ρ σ s.heap)
    (H : Po W Λ (XL env) (relS Λ sc env) E σ s (if isComp e then .stuck else (I.ex sc ρ e st).bind fun d st => if sc.names.lookup x == some .local then .ok (.next, setE x d ρ) st else .stuck) Q) : wpAny (model W.prog W.w) A (exec (.Assign [.Name x p] e pos) env) Q E s := by
  cases hc : isComp e with
  | true => rw [hc] at H; exact H.elim
  | false =>
    rw [hc] at H
    refine wpAny_Assign_Name (hI Λ sc env ρ e hE E σ s st _ iv V (Po.seq nx_ H fun d st₁ σ₁ h₁ tk₁ v f₁ k₁ i₁ r₁ H₁ => ?_)) (swaps_not hc)
    cases hx : sc.names.lookup x == some .local with
    | false => rw [hx] at H₁; exact H₁.elim
    | true =>
      rw [hx] at H₁
      exact store_one hE i₁ (V.step (iv.sigma hE.loc) f₁ k₁) (by simpa using hx) r₁ fun h' tk iv' kp V' => H₁ σ₁ h' tk .next Fresh.refl (kp.weak fun _ q => .inr q) iv' ⟨trivial, V'⟩
theorem st_tup {es : List PySem.Expr} {e : PySem.Expr} {k : Nat} {tp pos : Pos} (hh : A.handled = none) (hI : IE W A I) (hE : EnvOk Λ sc env) (iv : Inv W σ Λ s.heap st) (V : Vars Λ sc env ρ σ s.heap)
    (H : Po W Λ (XL env) (relS Λ sc env) E σ s (if isComp e then .stuck else match namesOf es with
            | some xs => if distinct xs && swOk sc es k tp e xs then (I.ex sc ρ e st).bind fun d st => match d with
                | .v (.tup l) => (match putAll sc xs l ρ with
                  | some ρ' => .ok (.next, ρ') st
                  | Option.none => .stuck)
                | _ => .stuck
              else .stuck
            | Option.none => .stuck) Q) : wpAny (model W.prog W.w) A (exec (.Assign [.Tuple es k tp] e pos) env) Q E s := by
  cases hc : isComp e with
  | true => rw [hc] at H; exact H.elim
  | false =>
    rw [hc] at H
    cases hxs : namesOf es with
    | none => rw [hxs] at H; exact H.elim
    | some xs =>
      rw [hxs] at H
      have H : Po W Λ (XL env) (relS Λ sc env) E σ s (if distinct xs && swOk sc es k tp e xs then (I.ex sc ρ e st).bind fun d st => match d with
                | .v (.tup l) => (match putAll sc xs l ρ with
                  | some ρ' => .ok (.next, ρ') st
                  | Option.none => .stuck)
                | _ => .stuck
              else .stuck) Q := H
      cases hd : distinct xs && swOk sc es k tp e xs with
      | false => rw [hd] at H; exact H.elim
      | true =>
        rw [hd] at H
        obtain ⟨h1, h2⟩ := Bool.and_eq_true_iff.mp hd
        exact assign_tuple hh hE hI hc hxs h1 h2 iv V H
theorem st_if {c : PySem.Expr} {a b : List Stmt} {pos : Pos} (hT : IT W A I) (hS : IS W A I) (hcl : TopOk A W env) (hE : EnvOk Λ sc env) (iv : Inv W σ Λ s.heap st) (V : Vars Λ sc env ρ σ s.heap)
    (H : Po W Λ (XL env) (relS Λ sc env) E σ s ((I.tt sc ρ c st).bind fun t st => if t then exs (fun ρ => I.st sc ρ) a ρ st else exs (fun ρ => I.st sc ρ) b ρ st) Q) : wpAny (model W.prog W.w) A (exec (.If c a b pos) env) Q E s := by
  refine wpAny_If (hT Λ sc env ρ c hE E σ s st _ iv V (Po.seq nx_ H fun t st₁ σ₁ h₁ tk₁ v f₁ k₁ i₁ r₁ H₁ => ?_))
  have r₁ : v = t := r₁
  subst r₁
  have V₁ := V.step (iv.sigma hE.loc) f₁ k₁
  induction v using Bool.casesOn with
  | true => exact exs_sound hE hcl hS a ρ E σ₁ _ st₁ _ i₁ V₁ H₁
  | false => exact exs_sound hE hcl hS b ρ E σ₁ _ st₁ _ i₁ V₁ H₁
theorem st_for {t it : PySem.Expr} {b : List Stmt} {pos : Pos} (hh : A.handled = none) (hI : IE W A I) (hS : IS W A I) (hcl : TopOk A W env) (hE : EnvOk Λ sc env) (iv : Inv W σ Λ s.heap st) (V : Vars Λ sc env ρ σ s.heap)
    (H : Po W Λ (XL env) (relS Λ sc env) E σ s (if isDisp it then .stuck else (I.ex sc ρ it st).bind fun d st => match itemsOf d with
        | some l => forL (putT sc t) (fun ρ st => exs (fun ρ => I.st sc ρ) b ρ st) l ρ st
        | Option.none => .stuck) Q) : wpAny (model W.prog W.w) A (exec (.For t it b [] pos) env) Q E s := by
  generalize hd : isDisp it = zz
  induction zz using Bool.casesOn with
  | true => rw [hd] at H; exact H.elim
  | false =>
    rw [hd] at H
    exact for_sound hh hE hcl hI hS hd iv V H
theorem st_raise0 {x : Str} {np cp pos : Pos} {args : List PySem.Expr} (hh : A.handled = none) (hd : A.depth + 4 < recursionLimit) (hu : A.units + 90 < cLine) (hC : CxOk W C) (hX : ExOk W C) (hI : IE W A I) (hE : EnvOk Λ sc env) (iv : Inv W σ Λ s.heap st) (V : Vars Λ sc env ρ σ s.heap)
    (H : Po W Λ (XL env) (relS Λ sc env) E σ s (match gName C sc x with
                | some (.ref c) => (match C.xc c with
                  | some xi => if noStar args then (evs (I.ex sc ρ) args st).bind fun ds st => (match vals ds with
                      | some l => if l.length == xi.ps.length then .exc (.inst c xi.ns (xi.vs l)) st else .stuck
                      | Option.none => .stuck) else .stuck
                  | Option.none => .stuck)
                | _ => .stuck) Q) : wpAny (model W.prog W.w) A (exec (.Raise (some (.Call (.Name x np) args [] cp)) none pos) env) Q E s := by
  generalize hg : gName C sc x = zz
  induction zz using Option.casesOn with
  | none => rw [hg] at H; exact H.elim
  | some v =>
    rw [hg] at H
    cases v with
    | ref c =>
      have H : Po W Λ (XL env) (relS Λ sc env) E σ s (match C.xc c with
                  | some xi => if noStar args then (evs (I.ex sc ρ) args st).bind fun ds st => (match vals ds with
                      | some l => if l.length == xi.ps.length then .exc (.inst c xi.ns (xi.vs l)) st else .stuck
                      | Option.none => .stuck) else .stuck
                  | Option.none => .stuck) Q := H
      generalize hx : C.xc c = zz
      induction zz using Option.casesOn with
      | none => rw [hx] at H; exact H.elim
      | some xi =>
        rw [hx] at H
        have H : Po W Λ (XL env) (relS Λ sc env) E σ s (if noStar args then (evs (I.ex sc ρ) args st).bind fun ds st => (match vals ds with
                      | some l => if l.length == xi.ps.length then .exc (.inst c xi.ns (xi.vs l)) st else .stuck
                      | Option.none => .stuck) else .stuck) Q := H
        generalize hns : noStar args = zz
        induction zz using Bool.casesOn with
        | false => rw [hns] at H; exact H.elim
        | true =>
          rw [hns] at H
          exact raise_sound hh hd hu hC hX hE hI hg hx hns iv V H
    | _ => exact H.elim
end
section
variable {C : Cx} {J : Scope → En → PySem.Expr → Sto → Out D} {I : In} {Φ : D → List D → Sto → Out D}
noncomputable def RaiseF (exc cause : Option PySem.Expr) : Prop := ∃ x np args cp, exc = some (.Call (.Name x np) args [] cp) ∧ cause = none
theorem raise_form1 {e : PySem.Expr} {cause : Option PySem.Expr} {pos : Pos} : ((step C Φ J I).st sc ρ (.Raise (some e) cause pos) st ≠ .stuck) → RaiseF (some e) cause := by
  induction e using PySem.Expr.casesOn with
  | Call f args kws cp =>
    induction f using PySem.Expr.casesOn with
    | Name x np =>
      induction kws using List.casesOn with
      | cons _ _ => exact fun h => (h (Eq.refl (Out.stuck : Out (Fl × En)))).elim
      | nil =>
        induction cause using Option.casesOn with
        | some _ => exact fun h => (h (Eq.refl (Out.stuck : Out (Fl × En)))).elim
        | none => exact fun _ => ⟨x, np, args, cp, rfl, rfl⟩
    | _ => exact fun h => (h (Eq.refl (Out.stuck : Out (Fl × En)))).elim
  | _ => exact fun h => (h (Eq.refl (Out.stuck : Out (Fl × En)))).elim
theorem raise_form {exc cause : Option PySem.Expr} {pos : Pos} (h : (step C Φ J I).st sc ρ (.Raise exc cause pos) st ≠ .stuck) : RaiseF exc cause := by
  induction exc using Option.casesOn with
  | none => exact (h (Eq.refl (Out.stuck : Out (Fl × En)))).elim
  | some e => exact raise_form1 h
noncomputable def AsgF (ts : List PySem.Expr) : Prop := (∃ x p, ts = [.Name x p]) ∨ ∃ es k tp, ts = [.Tuple es k tp]
theorem asg_form1 {t e : PySem.Expr} {pos : Pos} : ((step C Φ J I).st sc ρ (.Assign [t] e pos) st ≠ .stuck) → AsgF [t] := by
  induction t using PySem.Expr.casesOn with
  | Name x p => exact fun _ => .inl ⟨x, p, rfl⟩
  | Tuple es k tp => exact fun _ => .inr ⟨es, k, tp, rfl⟩
  | _ => exact fun h => (h (Eq.refl (Out.stuck : Out (Fl × En)))).elim
theorem asg_form2 {t t' e : PySem.Expr} {r : List PySem.Expr} {pos : Pos} : (step C Φ J I).st sc ρ (.Assign (t :: t' :: r) e pos) st = .stuck := by
  cases t <;> exact Eq.refl (Out.stuck : Out (Fl × En))
theorem asg_form {ts : List PySem.Expr} {e : PySem.Expr} {pos : Pos} (h : (step C Φ J I).st sc ρ (.Assign ts e pos) st ≠ .stuck) : AsgF ts := by
  induction ts using List.casesOn with
  | nil => exact (h (Eq.refl (Out.stuck : Out (Fl × En)))).elim
  | cons t r =>
    induction r using List.casesOn with
    | cons t' r' => exact (h asg_form2).elim
    | nil => exact asg_form1 h
theorem try_form {body orelse final : List Stmt} {hs : List ExceptHandler} {pos : Pos} (h : (step C Φ J I).st sc ρ (.Try body hs orelse final pos) st ≠ .stuck) : ∃ h₀ hs', hs = h₀ :: hs' ∧ orelse = [] ∧ final = [] := by
  induction hs using List.casesOn with
  | nil => exact absurd rfl h
  | cons h₀ hs =>
    induction orelse using List.casesOn with
    | cons _ _ => exact absurd rfl h
    | nil =>
      induction final using List.casesOn with
      | cons _ _ => exact absurd rfl h
      | nil => exact ⟨h₀, hs, rfl, rfl, rfl⟩
theorem po_ne {α β : Type} {W : Wd} {Λ : List Addr} {X : Addr → Prop} {Rel : List Addr → Heap → β → α → Prop} {E : Value → Shared → Prop} {σ : List Addr} {s : Shared} {r : Out α} {Q : β → Shared → Prop} (H : Po W Λ X Rel E σ s r Q) : r ≠ .stuck := fun e => by rw [e] at H; exact H
end
theorem step_st {C : Cx} {I : In} {Φ : D → List D → Sto → Out D} (hh : A.handled = none) (hd : A.depth + 4 < recursionLimit) (hu : A.units + 90 < cLine) (hC : CxOk W C) (hX : ExOk W C) (hI : IE W A I) (hT : IT W A I) (hS : IS W A I) : IS W A (step C Φ (XH C) I) := by
  intro Λ sc env ρ b hE hcl E σ s st Q iv V
  induction b using PySem.Stmt.casesOn with
  | Pass pos => exact fun H => wpAny_Pass (Po.now (tk := s.toks) (b := Flow.next) (a := (Fl.next, ρ)) (st := st) H iv ⟨trivial, V⟩)
  | Break pos => exact fun H => wpAny_Break (Po.now (tk := s.toks) (b := Flow.brk) (a := (Fl.brk, ρ)) (st := st) H iv ⟨trivial, V⟩)
  | Continue pos => exact fun H => wpAny_Continue (Po.now (tk := s.toks) (b := Flow.cont) (a := (Fl.cont, ρ)) (st := st) H iv ⟨trivial, V⟩)
  | Return e pos =>
    induction e using Option.casesOn with
    | none => exact False.elim
    | some e => exact st_ret hI hE iv V
  | Expr e pos => exact st_expr hI hE iv V
  | Assign ts e pos =>
    intro H
    rcases asg_form (po_ne H) with ⟨x, p, rfl⟩ | ⟨es, k, tp, rfl⟩
    · exact st_name hI hE iv V H
    · exact st_tup hh hI hE iv V H
  | If c a b pos => exact st_if hT hS hcl hE iv V
  | While c b orelse pos =>
    induction orelse using List.casesOn with
    | cons x r => exact False.elim
    | nil => exact fun H => wpAny_While (while_sound hE hcl hT hS iv V H)
  | For t it b orelse pos =>
    induction orelse using List.casesOn with
    | cons x r => exact False.elim
    | nil => exact st_for hh hI hS hcl hE iv V
  | Raise exc cause pos =>
    intro H
    obtain ⟨x, np, args, cp, rfl, rfl⟩ := raise_form (po_ne H)
    exact st_raise0 hh hd hu hC hX hI hE iv V H
  | Try body hs orelse final pos =>
    intro H
    obtain ⟨h₀, hs, rfl, rfl, rfl⟩ := try_form (po_ne H)
    exact try_sound hu hC hX hE hcl hI hT iv V H
  | _ => exact False.elim

end
end Mine

end

section
open PySem PySem.W PySem.Spec PySem.Calls PyProof.Rows
set_option maxRecDepth 100000
namespace Mine

theorem X_sound {W : Wd} {A : Around} {C : Cx} {Φ : D → List D → Sto → Out D} (hh : A.handled = none) (hd : A.depth + 4 < recursionLimit) (hu : A.units + 90 < cLine) (hC : CxOk W C) (hX : ExOk W C) (hΦ : CS W A Φ) (n : Nat) : IE W A (X C Φ n) ∧ IT W A (X C Φ n) ∧ IS W A (X C Φ n) := by
  have hE : ∀ m, IE W A (X C Φ m) ∧ IT W A (X C Φ m) := XE_sound (J := XH C) ⟨by omega⟩ (fun _ => hh) hC hΦ
  refine ⟨(hE n).1, (hE n).2, ?_⟩
  induction n with
  | zero => exact fun _ _ _ _ _ _ _ _ _ _ _ _ _ _ H => H.elim
  | succ n ih => exact step_st hh hd hu hC hX (hE n).1 (hE n).2 ih
section
variable {W : Wd} {A : Around} {Λ σ : List Addr} {E : Value → Shared → Prop} {s : Shared} {st : Sto}

/-- the store cut back: what was in it is frozen -/
theorem take_mv {h : Heap} {e : List Addr} {L : Addr} : ∀ b o, h.get? b = some o → ¬ Bad (σ ++ e) (L :: Λ) b → At h b o ∧ ¬ Bad σ Λ b := fun b o q n => ⟨.inl q, fun z => n (z.elim (fun z => .inl (List.mem_append_left _ z)) fun z => .inr (.tail _ z))⟩
/-- the world within a call: one frame more -/
noncomputable abbrev Wd.push (W : Wd) (L : Addr) : Wd := { W with fr := L :: W.fr }
theorem dic_pop {h : Heap} {L : Addr} (D : ∀ a ∈ (W.push L).fr, a ∈ L :: Λ ∧ ∃ m, h.Ns a m) (hL : L ∉ W.fr) : ∀ a ∈ W.fr, a ∈ Λ ∧ ∃ m, h.Ns a m := fun a q =>
  ⟨(List.mem_cons.mp (D a (.tail _ q)).1).elim (fun z => absurd (z ▸ q) hL) id, (D a (.tail _ q)).2⟩
theorem Inv.into {h : Heap} {L : Addr} {m : Str → Option Value} (I : Inv W σ (L :: Λ) h st) (n : h.Ns L m) : Inv (W.push L) σ (L :: Λ) h st :=
  ⟨I.keep, I.new, I.store, I.apart, fun a q => (List.mem_cons.mp q).elim (fun z => ⟨z ▸ .head _, m, z ▸ n⟩) fun z => I.dic a z⟩
theorem Inv.out {h : Heap} {L : Addr} (I : Inv (W.push L) σ (L :: Λ) h st) (hL : L ∉ W.fr) : Inv W σ Λ h st :=
  Inv.unlam (W := W) (a := L) ⟨I.keep, I.new, I.store, I.apart, fun a q => I.dic a (.tail _ q)⟩ hL
theorem Inv.take {h : Heap} {e : List Addr} {L : Addr} (I : Inv (W.push L) (σ ++ e) (L :: Λ) h st) (hL : L ∉ W.fr) : Inv W σ Λ h (st.take σ.length) := by
  refine ⟨I.keep, fun a q => I.new a (q.elim (fun z => .inl (List.mem_append_left _ z)) fun z => .inr (.tail _ z)), ⟨?_, ?_, fun i a l e1 e2 => ?_⟩, fun a ha q => I.apart a (List.mem_append_left _ ha) (.tail _ q), dic_pop I.dic hL⟩
  · rw [List.length_take, ← I.store.1, List.length_append]; omega
  · exact (List.nodup_append.mp I.store.2.1).1
  · have hi := (List.getElem?_eq_some_iff.mp e1).1
    rw [List.getElem?_take_of_lt hi] at e2
    obtain ⟨vs, q, r, z⟩ := I.store.2.2 i a l (by rw [List.getElem?_append_left hi]; exact e1) e2
    exact ⟨vs, q, r.mono take_mv, z⟩

theorem retn_sound {d : D} {v : Value} {σ' : List Addr} {h' : Heap} {tk : Nat} {st' : Sto} {L : Addr} {Q : Value → Shared → Prop} (hn : σ.length = st.length) (hL : L ∉ W.fr) (f : Fresh σ σ' s.heap) (k : Kp (fun x => x ∈ σ ∨ NoX x) s.heap h') (i : Inv (W.push L) σ' (L :: Λ) h' st') (r : RepD σ' (Bad σ' (L :: Λ)) h' v d)
    (H : Po W Λ NoX (relD Λ) E σ s (retn st.length d st') Q) : Q v { s with heap := h', toks := tk } := by
  obtain ⟨e, rfl, he⟩ := f
  unfold retn at H
  split at H
  · rename_i x
    rw [← hn] at H
    exact H σ h' tk v Fresh.refl k (i.take hL) (Rep.mono take_mv r)
  · rename_i j
    split at H
    · rename_i hj
      rw [← hn] at H
      obtain ⟨a, ha, hv⟩ := r
      rw [← hn] at hj
      rw [List.getElem?_append_left hj] at ha
      exact H σ h' tk v Fresh.refl k (i.take hL) ⟨a, ha, hv⟩
    · exact H _ h' tk v ⟨e, rfl, he⟩ k (i.out hL) (r.mono unlam_mv)

theorem Inv.swap {h : Heap} {L e : Addr} (I : Inv W σ (e :: L :: Λ) h st) : Inv W σ (L :: e :: Λ) h st := by
  have m : ∀ a, a ∈ L :: e :: Λ ↔ a ∈ e :: L :: Λ := fun a => by simp only [List.mem_cons]; exact ⟨fun z => z.elim (fun z => .inr (.inl z)) fun z => z.elim .inl fun z => .inr (.inr z), fun z => z.elim (fun z => .inr (.inl z)) fun z => z.elim .inl fun z => .inr (.inr z)⟩
  refine ⟨I.keep, fun a q => I.new a (q.elim .inl fun z => .inr ((m a).mp z)), ⟨I.store.1, I.store.2.1, fun i a l e1 e2 => ?_⟩, fun a ha q => I.apart a ha ((m a).mp q), fun a q => ⟨(m a).mpr (I.dic a q).1, (I.dic a q).2⟩⟩
  obtain ⟨vs, q, r, z⟩ := I.store.2.2 i a l e1 e2
  exact ⟨vs, q, r.mono fun b o e nb => ⟨.inl e, fun z => nb (z.elim .inl fun z => .inr ((m b).mp z))⟩, z⟩
theorem Flown.out {B B' : Addr → Prop} {h h' : Heap} {e c L : Addr} {ns : List Str} {l : List V} (F : Flown (W.push L) B h h' e c ns l) (hB : ∀ a, B' a → B a) : Flown W B' h h' e c ns l := by
  obtain ⟨k, ⟨h1, h2, h3, h4⟩, dx, oe, vs, a0, g1, g2, g3, g4, g5, g6, es, n, g7, g8, g9, g10, g11⟩ := F
  exact ⟨k, ⟨h1, fun q => h2 (hB _ q), fun q => h3 (.tail _ q), h4⟩, dx, oe, vs, a0, g1, g2, g3, g4, g5, g6, es, n, g7, fun q => g8 (hB _ q), g9, g10, g11.mono fun b o e' nb => ⟨.inl e', fun q => nb (q.elim (fun q => .inl (hB _ q)) .inr)⟩⟩

theorem runBody_sound {C : Cx} {Φ : D → List D → Sto → Out D} {a : Addr} {f : FnI} (hdp : A.depth < recursionLimit) (hK : Stk A W) (hf : fnIn W.K a = some f) (hS : ∀ env L, Stk (A.deeper env) (W.push L) → IS (W.push L) (A.deeper env) (X C Φ 64)) {ds : List D} {vs : List Value} {Q : Value → Shared → Prop}
    (iv : Inv W σ Λ s.heap st) (hr : RepDs σ (Bad σ Λ) s.heap vs ds) (H : Po W Λ NoX (relD Λ) E σ s (runBody C Φ f ds st) Q) : wpAny (model W.prog W.w) A (call (.ref a) vs) Q E s := by
  obtain ⟨fd, o, F⟩ := fnIn_is hf
  unfold runBody at H
  split at H
  · rename_i hlen
    have hlv : f.ps.length = vs.length := by rw [hlen, RepDs.length hr]
    refine wpAny_call (codeAny_call_def (binds := f.ps.zip vs) hdp (bases_in iv _ _ F.at_) F.data (W.T.nolimit.keeps iv.keep) (codeRec_of (bases_in iv) F.code) F.body (BindsTo.of_eq (bind_plain F.ps F.h1 F.h2 F.h3 F.h4 F.h5 hlv F.dis)) (fun x hx => (F.names x hx).1)
      (fun x hx => F.loc _ (List.of_mem_zip (a := x.1) (b := x.2) hx).1) (fun h₀ hns hk => ?_) F.co F.gen F.kind)
    obtain ⟨oL, hoL⟩ := ns_obj hns
    have n0 : s.heap.get? s.heap.objs.size = none := get_size
    have i₁ : Inv W σ (s.heap.objs.size :: Λ) h₀ st := iv.lam n0 hk hoL iv.size
    have noc : ∀ x k, f.sc.names.lookup x = some k → k ≠ .cell ∧ k ≠ .free := fun x k e => F.names (x, k) (F.sc ▸ mem_of_lookup e)
    have hE : EnvOk (s.heap.objs.size :: Λ) f.sc (callEnv fd s.heap.objs.size a) := by
      refine ⟨F.sc ▸ F.kind, F.sc, F.glob, F.bi, .head _, fun x c e => ?_, fun x q => ?_⟩
      · have e : fd.closure.lookup x = some c := e
        rw [F.clo] at e; (first | subst e | contradiction | (injection e with e; subst e) | cases e)
      · rcases q with q | q
        · exact absurd rfl (noc x _ q).1
        · exact absurd rfl (noc x _ q).2
    have hV : Vars (s.heap.objs.size :: Λ) f.sc (callEnv fd s.heap.objs.size a) (f.ps.zip ds) σ h₀ := by
      refine ⟨_, hns, fun x d e => ⟨fun q => ?_, fun q => ?_⟩⟩
      · obtain ⟨v, h1, h2⟩ := zip_repd hr e
        exact ⟨v, by rw [lookup_rev x F.dis hlv]; exact h1, h2.mono (lam_mv n0 hk)⟩
      · rcases q with q | q
        · exact absurd rfl (noc x _ q).1
        · exact absurd rfl (noc x _ q).2
    have hL : s.heap.objs.size ∉ W.fr := iv.nfr n0
    have i₁' := i₁.into hns
    obtain ⟨outer, hfr, hout⟩ := hK
    have hfr' : (A.deeper (callEnv fd s.heap.objs.size a)).frames = some (callEnv fd s.heap.objs.size a :: outer) := Around.frames_deeper hfr
    have hfo : FrOk (W.push s.heap.objs.size) (callEnv fd s.heap.objs.size a :: outer) := fun env' hm => by
      rcases List.mem_cons.mp hm with rfl | hm
      · exact ⟨by show fd.scope.kind ≠ .module; rw [F.kind]; decide, _, rfl, .head _⟩
      · obtain ⟨g1, L, g2, g3⟩ := hout env' hm
        exact ⟨g1, L, g2, .tail _ g3⟩
    have kps : ∀ {h' : Heap}, Kp (fun x => x ∈ σ ∨ XL (callEnv fd s.heap.objs.size a) x) h₀ h' → Kp (fun x => x ∈ σ ∨ NoX x) s.heap h' := fun k₁ => by
      refine (Kp.all (W := fun x => x ∈ σ ∨ NoX x) hk).trans k₁ fun x al q => ?_
      rcases q with q | q | ⟨y, q⟩
      · exact .inl q
      · obtain ⟨o', e⟩ := al
        have q : x = s.heap.objs.size := q
        rw [q, n0] at e; (first | subst e | contradiction | (injection e with e; subst e) | cases e)
      · have q : fd.closure.lookup y = some x := q
        rw [F.clo] at q; (first | subst q | contradiction | (injection q with q; subst q) | cases q)
    refine exs_sound hE ⟨_, _, hfr', hfo, rfl⟩ (hS _ _ ⟨_, hfr', hfo⟩) f.body (f.ps.zip ds) _ σ _ st _ i₁' hV ?_
    revert H
    generalize exs ((X C Φ 64).st f.sc) f.body (f.ps.zip ds) st = r
    intro H
    cases r with
    | stuck => exact H.elim
    | exc x st' =>
      intro σ' hr h' tk e f₁ k₁ i₂ ne x'
      have fr : Fresh σ σ' s.heap := Fresh.refl.trans f₁ (Kp.all (W := NoX) hk)
      have ne' : s.heap.get? e = none := (Kp.all (W := NoX) hk).none ne
      show wpAny _ _ (leaving _ _) _ _ _
      unfold leaving
      refine wpAny_bind ?_
      cases x with
      | inst c ns l => exact leave_flown (s := { s with heap := h', toks := tk }) hfr' hfo rfl i₂ x' fun h'' F' => H σ' hr h'' tk e fr (kps k₁) (i₂.swap.out hL) ne' (F'.out fun b q => q.elim .inl fun q => .inr (.tail _ q))
      | _ => exact x'.elim
    | ok p st' =>
      intro σ' h' tk b f₁ k₁ i₂ r₂
      have H₂ := H
      obtain ⟨fl, ρ'⟩ := p
      obtain ⟨r₂, _⟩ := r₂
      have fr : Fresh σ σ' s.heap := Fresh.refl.trans f₁ (Kp.all (W := NoX) hk)
      have kp := kps k₁
      cases fl with
      | next =>
        cases b with
        | next => exact retn_sound (s := s) (tk := tk) iv.store.1 hL fr kp i₂ (d := .v .none) (v := .none) rfl H₂
        | _ => exact r₂.elim
      | ret d =>
        cases b with
        | ret v => exact retn_sound (s := s) (tk := tk) iv.store.1 hL fr kp i₂ r₂ H₂
        | _ => exact r₂.elim
      | _ => exact H₂.elim
  · exact H.elim
end
end Mine

end

section
open PySem PySem.W PySem.Spec PySem.Calls PyProof.Rows
set_option maxRecDepth 100000
namespace Mine

noncomputable def psOf (f : FnI) : Option (List Str) := match f.ps with
  | self :: ps => if initPs self f.body == some ps then some ps else none
  | [] => none
noncomputable def clsInit (K : Frag) (c : Addr) : Option (List Str) :=
  if makesIn K c then (match initOf K c with
    | some fI => if isFn K (.ref fI) then (match fnIn K fI with
        | some f => (match psOf f with
          | some ps => if setsPlain K c && (over K c && (hasDictIn K c && (ps.all (takes0 K c) && decide (ps.length ≤ 1000)))) then some ps else none
          | none => none)
        | none => none) else none
    | none => none) else none

structure ClsI (K : Frag) (c : Addr) (ns : List Str) (fI : Addr) (f : FnI) (slf : Str) : Prop where
  makes : makesIn K c = true
  init : findIn K (.ref c) "__init__" = some (some (.ref fI))
  isf : isFn K (.ref fI) = true
  fn : fnIn K fI = some f
  ps : f.ps = slf :: ns
  body : initPs slf f.body = some ns
  is : ClsIs K c
  take : ∀ p ∈ ns, takerIn K c p = some none
  len : ns.length ≤ 1000
theorem clsInit_is {K : Frag} {c : Addr} {ns : List Str} (h : clsInit K c = some ns) : ∃ fI f self, ClsI K c ns fI f self := by
  unfold clsInit at h
  split at h
  · rename_i hm
    split at h
    · rename_i fI hi
      split at h
      · rename_i hf
        split at h
        · rename_i f hfn
          split at h
          · rename_i ps hps
            split at h
            · rename_i hc
              (first | subst h | contradiction | (injection h with h; subst h) | cases h)
              simp only [Bool.and_eq_true, decide_eq_true_eq] at hc
              obtain ⟨c1, c2, c3, c4, c5⟩ := hc
              unfold psOf at hps
              split at hps
              · rename_i self ps' hfps
                split at hps
                · rename_i hb
                  (first | subst hps | contradiction | (injection hps with hps; subst hps) | cases hps)
                  refine ⟨fI, f, self, ⟨hm, ?_, hf, hfn, hfps, by simpa using hb, ⟨?_, c2, c3⟩, fun p hp => ?_, c5⟩⟩
                  · unfold initOf at hi
                    split at hi
                    · rename_i h1
                      (first | subst hi | contradiction | (injection hi with hi; subst hi) | cases hi)
                      exact h1
                    · (first | subst hi | contradiction | (injection hi with hi; subst hi) | cases hi)
                  · unfold setsPlain at c1
                    split at c1
                    · rename_i id h1
                      have : id = "object.__setattr__" := by simpa using c1
                      rw [this] at h1
                      exact h1
                    · (first | subst c1 | contradiction | (injection c1 with c1; subst c1) | cases c1)
                  · have := List.all_eq_true.mp c4 p hp
                    unfold takes0 at this
                    split at this
                    · assumption
                    · (first | subst this | contradiction | (injection this with this; subst this) | cases this)
                · (first | subst hps | contradiction | (injection hps with hps; subst hps) | cases hps)
              · (first | subst hps | contradiction | (injection hps with hps; subst hps) | cases hps)
            · (first | subst h | contradiction | (injection h with h; subst h) | cases h)
          · (first | subst h | contradiction | (injection h with h; subst h) | cases h)
        · (first | subst h | contradiction | (injection h with h; subst h) | cases h)
      · (first | subst h | contradiction | (injection h with h; subst h) | cases h)
    · (first | subst h | contradiction | (injection h with h; subst h) | cases h)
  · (first | subst h | contradiction | (injection h with h; subst h) | cases h)

section
variable {W : Wd} {A : Around} {Λ σ : List Addr} {E : Value → Shared → Prop} {s : Shared} {st : Sto}

theorem mk_sound {c : Addr} {ns : List Str} {ds : List D} {vs : List Value} {Q : Value → Shared → Prop} (hdp : A.depth + 1 < recursionLimit) (hc : clsInit W.K c = some ns) (hl : ns.length = ds.length) (iv : Inv W σ Λ s.heap st) (hr : RepDs σ (Bad σ Λ) s.heap vs ds)
    (H : Po W Λ NoX (relD Λ) E σ s (ofO st ((vals ds).map fun l => D.v (.inst c ns l))) Q) : wpAny (model W.prog W.w) A (call (.ref c) vs) Q E s := by
  obtain ⟨fI, f, self, CI⟩ := clsInit_is hc
  obtain ⟨fd, o, F⟩ := fnIn_is CI.fn
  rw [ofO_map] at H
  split at H
  · rename_i l hv
    have hreps := vals_repsL hr hv
    have X := bases_in iv
    obtain ⟨hh, g, d, t, os⟩ := s
    refine wpAny_call (make_core (makes_of X CI.makes) (looks_findIn X CI.init) (fun self => bind_fn X self (beq_iff_eq.mp CI.isf)) (.inl rfl) ?_)
    have hlv : f.ps.length = (Value.ref (hh.objs.size + 1) :: vs).length := by rw [CI.ps, List.length_cons, List.length_cons, hl, RepDs.length hr]
    have dn : hh.get? hh.objs.size = none := get_size
    have k1 : ∀ b o, hh.get? b = some o → (hh.push emptyDict).get? b = some o := fun b o e => Heap.get?_push_of_some _ e
    have i1 : Inv W σ (hh.objs.size :: Λ) (hh.push emptyDict) st := iv.lam dn k1 (Heap.get?_push_size _ rfl) iv.size
    have xn : (hh.push emptyDict).get? (hh.objs.size + 1) = none := by
      have : (hh.push emptyDict).get? (hh.push emptyDict).objs.size = none := get_size
      rw [Heap.size_push] at this; exact this
    have k2 : ∀ b o, (hh.push emptyDict).get? b = some o → ((hh.push emptyDict).push (instObj c hh.objs.size)).get? b = some o := fun b o e => Heap.get?_push_of_some _ e
    have ox : ((hh.push emptyDict).push (instObj c hh.objs.size)).get? (hh.objs.size + 1) = some (instObj c hh.objs.size) := by
      have : ((hh.push emptyDict).push (instObj c hh.objs.size)).get? (hh.push emptyDict).objs.size = some (instObj c hh.objs.size) := Heap.get?_push_size _ rfl
      rw [Heap.size_push] at this; exact this
    have od : ((hh.push emptyDict).push (instObj c hh.objs.size)).get? hh.objs.size = some emptyDict := k2 _ _ (Heap.get?_push_size _ rfl)
    have i2 : Inv W σ ((hh.objs.size + 1) :: hh.objs.size :: Λ) ((hh.push emptyDict).push (instObj c hh.objs.size)) st := i1.lam xn k2 ox (by have := i1.size; rw [Heap.size_push] at this; exact this)
    have nxΛ : ¬ Bad σ (hh.objs.size :: Λ) (hh.objs.size + 1) := by
      have := i1.newAddr
      rw [Heap.size_push] at this; exact this
    have ndΛ : ¬ Bad σ Λ hh.objs.size := iv.newAddr
    have hsz : ((hh.push emptyDict).push (instObj c hh.objs.size)).objs.size = hh.objs.size + 2 := by rw [Heap.size_push, Heap.size_push]
    refine codeAny_call_def (s := ⟨(hh.push emptyDict).push (instObj c hh.objs.size), g, d, t, os⟩) (binds := f.ps.zip (Value.ref (hh.objs.size + 1) :: vs)) (by show A.depth + Code.weight _ < _; rw [weight_make]; exact hdp) (bases_in i2 _ _ F.at_) F.data (W.T.nolimit.keeps i2.keep) (codeRec_of (bases_in i2) F.code) F.body (BindsTo.of_eq (bind_plain F.ps F.h1 F.h2 F.h3 F.h4 F.h5 hlv F.dis))
      (fun x hx => (F.names x hx).1) (fun x hx => F.loc _ (List.of_mem_zip (a := x.1) (b := x.2) hx).1) (fun h₀ hns hk => ?_) F.co F.gen F.kind
    dsimp only at hns hk ⊢
    rw [hsz] at hns ⊢
    obtain ⟨oL, hoL⟩ := ns_obj hns
    have Ln : ((hh.push emptyDict).push (instObj c hh.objs.size)).get? (hh.objs.size + 2) = none := by
      have : ((hh.push emptyDict).push (instObj c hh.objs.size)).get? ((hh.push emptyDict).push (instObj c hh.objs.size)).objs.size = none := get_size
      rw [hsz] at this; exact this
    have i3 : Inv W σ ((hh.objs.size + 2) :: (hh.objs.size + 1) :: hh.objs.size :: Λ) h₀ st := i2.lam Ln hk hoL (by have := i2.size; rw [hsz] at this; exact this)
    have lowN : ∀ a, W.base.objs.size ≤ a → W.base.get? a = none := fun a ha => by
      generalize q : W.base.get? a = zz
      induction zz using Option.casesOn with
      | none => rfl
      | some o => exact absurd (Heap.lt_size q) (Nat.not_lt.mpr ha)
    have hml : ∀ y, (f.ps.zip (Value.ref (hh.objs.size + 1) :: vs)).reverse.lookup y = (f.ps.zip (Value.ref (hh.objs.size + 1) :: vs)).lookup y := fun y => lookup_rev y F.dis hlv
    have hdis := F.dis
    rw [CI.ps] at hdis
    have hdis' := hdis
    unfold distinct at hdis'
    obtain ⟨hd1, hd2⟩ := Bool.and_eq_true_iff.mp hdis'
    have hself : self ∉ ns := fun q => by
      rw [Bool.not_eq_true', ← Bool.not_eq_true] at hd1
      exact hd1 (List.contains_iff_mem.mpr q)
    have hlv' : ns.length = vs.length := hl.trans (RepDs.length hr).symm
    have Lx : hh.objs.size + 2 ≠ hh.objs.size := by omega
    refine init_body (env := callEnv fd (hh.objs.size + 2) fI) (sc := f.sc) (self := self) (x := hh.objs.size + 1) (dx := hh.objs.size) (C := c) (m := fun y => (f.ps.zip (Value.ref (hh.objs.size + 1) :: vs)).reverse.lookup y) F.sc (F.sc ▸ F.kind) (F.sc ▸ F.loc self (by rw [CI.ps]; exact .head _)) ?_ CI.is
      rfl rfl rfl (Nat.succ_ne_self _) Lx (lowN _ (i3.new _ (.inr (.tail _ (.tail _ (.head _))))).1)
      f.body ns [] 0 [] _ CI.body (fun q hq => ⟨F.sc ▸ F.loc q (by rw [CI.ps]; exact .tail _ hq), ?_, CI.take q hq, rfl⟩) hd2 hns i3.keep (hk _ _ ox) (hk _ _ od) trivial (by have := CI.len; simpa using this) fun h' tk es' n' x1 x2 x4 x5 => ?_
    · rw [hml, CI.ps, List.zip_cons_cons, List.lookup_cons]; simp
    · rw [hml]
      exact zip_some hlv q (by rw [CI.ps]; exact .tail _ hq)
    · have x6 : Kp (fun a => a = hh.objs.size) h₀ h' := fun b o e => by
        by_cases hb : b = hh.objs.size
        · subst hb; exact ⟨fun q => absurd rfl q, _, x2⟩
        · exact ⟨fun _ => .inl ((x1 b hb).trans e), o, (x1 b hb).trans e⟩
      have nb := lowN _ (i3.new _ (.inr (.tail _ (.tail _ (.head _))))).1
      have i4 : Inv W σ ((hh.objs.size + 2) :: (hh.objs.size + 1) :: hh.objs.size :: Λ) h' st := i3.turn (x6.weak fun a q => by rw [q]; simp) (fun b o e => (x1 b fun q => by rw [q, nb] at e; (first | subst e | contradiction | (injection e with e; subst e) | cases e)).trans (i3.keep b o e)) (fun a q o e => x6.at e fun z => iv.nfr dn (z ▸ q))
      have kp : Kp (fun x => x ∈ σ ∨ NoX x) hh h' := by
        refine (Kp.all (W := fun x => x ∈ σ ∨ NoX x) fun b o e => hk _ _ (k2 _ _ (k1 _ _ e))).trans x6 fun a al q => ?_
        obtain ⟨o, e⟩ := al
        rw [q, dn] at e; (first | subst e | contradiction | (injection e with e; subst e) | cases e)
      refine ⟨rfl, H σ h' tk _ Fresh.refl kp (((i4.unlam (i2.nfr Ln)).unlam (i1.nfr xn)).unlam (iv.nfr dn)) ?_⟩
      show Rep _ _ _ _
      unfold Rep
      refine ⟨hh.objs.size + 1, hh.objs.size, es', n', rfl, fun q => nxΛ (q.elim .inl fun q => .inr (.tail _ q)), ndΛ, ⟨_, (x1 _ (Nat.succ_ne_self _)).trans (hk _ _ ox), rfl, rfl, rfl, fun _ _ q => nomatch q⟩, .inl x2, x4, ?_⟩
      have : es'.map (·.val) = vs := by
        rw [x5]
        show ns.map _ = vs
        have z := map_lookup (ps := self :: ns) (vs := Value.ref (hh.objs.size + 1) :: vs) hdis (by simp [hlv'])
        rw [List.map_cons] at z
        injection z with z1 z2
        refine Eq.trans (List.map_congr_left fun q hq => ?_) z2
        rw [hml, CI.ps]
      rw [this]
      exact hreps.step Fresh.refl (kp.weak fun a q => q.elim .inl fun q => q.elim)
  · exact H.elim
end
end Mine

end

section
open PySem PySem.W PySem.Spec PySem.Calls PyProof.Rows
set_option maxRecDepth 100000
namespace Mine

/-- a class whose instances show their class plainly -/
noncomputable def shows (K : Frag) (C : Addr) : Bool :=
  plainGet K C "__class__" && (hasDictIn K C && (isBi "object.__class__" (findIn K (.ref C) "__class__") && (isBi "getset_descriptor.__get__" (specialIn K (.builtin "object.__class__") "__get__") && (someB true (takesIn K (.builtin "object.__class__")) && (someB true (mroIn K C (.type "object")) &&
  ((clsIn K C).isSome && someB true (instIn K (.ref C) (.type "type"))))))))
/-- what may stand second in isinstance -/
noncomputable def ofType (K : Frag) (c : Addr) : Bool := (clsIn K c).isSome && (isTy (typeIn K (.ref c)) && someB true (instIn K (.ref c) (.type "type")))

structure Shows (K : Frag) (C : Addr) : Prop where
  h1 : plainGet K C "__class__" = true
  h2 : hasDictIn K C = true
  h3 : findIn K (.ref C) "__class__" = some (some (.builtin "object.__class__"))
  h4 : specialIn K (.builtin "object.__class__") "__get__" = some (some (.builtin "getset_descriptor.__get__"))
  h5 : takesIn K (.builtin "object.__class__") = some true
  h6 : mroIn K C (.type "object") = some true
  h7 : (clsIn K C).isSome = true
  h8 : instIn K (.ref C) (.type "type") = some true
theorem shows_is {K : Frag} {C : Addr} (h : shows K C = true) : Shows K C := by
  unfold shows at h
  obtain ⟨h1, h⟩ := Bool.and_eq_true_iff.mp h
  obtain ⟨h2, h⟩ := Bool.and_eq_true_iff.mp h
  obtain ⟨h3, h⟩ := Bool.and_eq_true_iff.mp h
  obtain ⟨h4, h⟩ := Bool.and_eq_true_iff.mp h
  obtain ⟨h5, h⟩ := Bool.and_eq_true_iff.mp h
  obtain ⟨h6, h⟩ := Bool.and_eq_true_iff.mp h
  obtain ⟨h7, h8⟩ := Bool.and_eq_true_iff.mp h
  exact ⟨h1, h2, isBi_eq h3, isBi_eq h4, someB_eq h5, someB_eq h6, h7, someB_eq h8⟩

theorem looks_isType {K : Frag} {C : Addr} {h : Heap} {M : Model} (X : K.In h) (hc : (clsIn K C).isSome = true) : Looks M h (isType (.ref C)) true := by
  unfold clsIn at hc
  split at hc
  · rename_i ho
    exact (Looks.ld (X _ _ ho)).andThen .now
  · (first | subst hc | contradiction | (injection hc with hc; subst hc) | cases hc)

section
variable {prog : Program} {w : World} {A : Around} {E : Value → Shared → Prop} {s : Shared} {K : Frag} {x C : Addr} {ox : Obj} {od : Obj}

theorem inst_cls {Q : Option Value → Shared → Prop} (X : K.In s.heap) (I : InstAt s.heap x ox C (some od)) (S : Shows K C) (h : Q (some (.ref C)) { s with toks := s.toks + 1 }) : wpAny (model prog w) A (getAttr? (.ref x) "__class__") Q E s := by
  obtain ⟨hga, hk⟩ := plainGet_of S.h1
  have hf := findObj_data (od := od) S.h7 S.h3 S.h4 S.h5
  obtain ⟨hh, g, d, t, os⟩ := s
  have L0 := I.type (M := model prog w)
  have L1 := looks_findIn (M := model prog w) X hga
  unfold getAttr? getAttrBy?
  refine wpAny_bind (wpAny_mkText (wpAny_bind (wpAny_attempt ?_)))
  unfold getAttrBy
  refine wpAny_holding (wpAny_bind (L0.at (wpAny_bind (L1.at ?_))))
  show wpAny _ _ (getAttrEveryday _ _ _) _ _ _
  refine wpAny_bind (wpAny_onRaise (wpAny_runValue (codeAny_builtin F.plainObj_entry_getattr_hooked ?_)))
  have L2 := looks_find (M := model prog w) X I hf
  have L3 := looks_findIn (M := model prog w) X hk
  refine wpAny_bind (wpAny_pure (wpAny_bind (L0.at (wpAny_bind (L2.at (wpAny_bind (L3.at ?_)))))))
  show wpAny _ _ (holding [Value.builtin "object.__class__"] (call (.builtin "getset_descriptor.__get__") [Value.builtin "object.__class__", .ref x, .ref C]) >>= ret) _ _ _
  refine wpAny_bind (wpAny_holding (wpAny_call (class_get (s := ⟨hh, g, d, t + 1, os⟩) (ox := ox) (od := some od) X I S.h6 ?_)))
  exact wpAny_pure (handed_on rfl (wpAny_pure h))

theorem isn_inst {cls : Value} {Q : Value → Shared → Prop} (X : K.In s.heap) (I : InstAt s.heap x ox C (some od)) (S : Shows K C) (hne : (Value.ref C == cls) = false) (hT : ∀ M, Looks M s.heap (typeOf cls) (.type "type")) (hC : ∀ M, Looks M s.heap (isType cls) true)
    (hs : subIn K (.ref C) cls = some false) (h : Q (.bool false) { s with toks := s.toks + 1 }) : wpAny (model prog w) A (call (.builtin "isinstance") [.ref x, cls]) Q E s := by
  refine call_isinstance_of ?_ (by intro e; (first | subst e | contradiction | (injection e with e; subst e) | cases e))
  unfold Builtin.«isinstance.nested»
  obtain ⟨hh, g, d, t, os⟩ := s
  have L0 := I.type (M := model prog w)
  have L4 : Looks (model prog w) hh (isSubtype (.ref C) cls) false := looks_subIn X hs
  have L3 : Looks (model prog w) hh (isInstance (.ref x) cls) false := L0.andThen L4
  have LT := hT (model prog w)
  have LC := hC (model prog w)
  refine wpAny_bind (L0.at ?_)
  rw [if_neg (by rw [hne]; decide)]
  refine wpAny_bind (LT.at ?_)
  rw [if_pos (by decide)]
  k_delta "plainIsInstance"
  refine wpAny_bind (wpAny_bind (LC.at ?_))
  simp only [Bool.not_true, Bool.false_eq_true, if_false]
  refine wpAny_bind (L3.at ?_)
  simp only [Bool.false_eq_true, if_false]
  refine wpAny_bind (inst_cls X I S ?_)
  refine wpAny_bind ((looks_isType X S.h7).at ?_)
  simp only [Bool.not_true, Bool.false_eq_true, if_false]
  refine wpAny_bind (wpAny_rule (L4.at ?_))
  exact wpAny_pure h
end
end Mine

end

section
open PySem PySem.W PySem.Spec PySem.Calls PyProof.Rows
set_option maxRecDepth 100000
namespace Mine

noncomputable def clsGood (K : Frag) (c : Addr) : Bool := shows K c && (isNotIn K "int" c && (isIn K (.ref c) c && (someB false (subIn K (.ref c) (.type "int")) && (someB false (subIn K (.ref c) (.type "bool")) && isTy (typeIn K (.ref c))))))

structure TabOk (W : Wd) (T : Tab) : Prop where
  fn : ∀ a f, T.fn a = some f → fnIn W.K a = some f
  cls : ∀ c ns, T.cls c = some ns → clsInit W.K c = some ns ∧ clsGood W.K c = true
  rel : ∀ c c', (T.cls c).isSome = true → (T.cls c').isSome = true → c ≠ c' → subIn W.K (.ref c) (.ref c') = some false

theorem repds_nil {σ : List Addr} {B : Addr → Prop} {h : Heap} {vs : List Value} (r : RepDs σ B h vs []) : vs = [] := by
  induction vs using List.casesOn with
  | nil => rfl
  | cons _ _ => exact r.elim
theorem repds_cons {σ : List Addr} {B : Addr → Prop} {h : Heap} {vs : List Value} {d : D} {ds : List D} (r : RepDs σ B h vs (d :: ds)) : ∃ v vs', vs = v :: vs' ∧ RepD σ B h v d ∧ RepDs σ B h vs' ds := by
  induction vs using List.casesOn with
  | nil => exact r.elim
  | cons v vs' => exact ⟨v, vs', rfl, r.1, r.2⟩

theorem repds1 {σ : List Addr} {B : Addr → Prop} {h : Heap} {vs : List Value} {d : D} (r : RepDs σ B h vs [d]) : ∃ v, vs = [v] ∧ RepD σ B h v d := by
  obtain ⟨v, vs', rfl, r1, r2⟩ := repds_cons r
  exact ⟨v, by rw [repds_nil r2], r1⟩
theorem repds2 {σ : List Addr} {B : Addr → Prop} {h : Heap} {vs : List Value} {d e : D} (r : RepDs σ B h vs [d, e]) : ∃ v u, vs = [v, u] ∧ RepD σ B h v d ∧ RepD σ B h u e := by
  obtain ⟨v, vs', rfl, r1, r2⟩ := repds_cons r
  obtain ⟨u, rfl, r3⟩ := repds1 r2
  exact ⟨v, u, rfl, r1, r3⟩

section
variable {W : Wd} {A : Around} {Λ σ : List Addr} {E : Value → Shared → Prop} {s : Shared} {st : Sto} {ds : List D} {vs : List Value} {Q : Value → Shared → Prop}

theorem po_some {α β : Type} {Λ : List Addr} {X : Addr → Prop} {Rel : List Addr → Heap → β → α → Prop} {E : Value → Shared → Prop} {σ : List Addr} {s : Shared} {o : Option α} {Q : β → Shared → Prop} (H : Po W Λ X Rel E σ s (ofO st o) Q) : ∃ a, o = some a ∧ Po W Λ X Rel E σ s (.ok a st) Q := by
  induction o using Option.casesOn with
  | none => exact H.elim
  | some a => exact ⟨a, rfl, H⟩
theorem abs_sound (iv : Inv W σ Λ s.heap st) (hr : RepDs σ (Bad σ Λ) s.heap vs ds) (H : Po W Λ NoX (relD Λ) E σ s (fAbs ds st) Q) : wpAny (model W.prog W.w) A (call (.builtin "abs") vs) Q E s := by
  replace H := po_some H
  obtain ⟨a, e, H⟩ := H
  obtain ⟨i, hi, rfl⟩ := Option.map_eq_some_iff.mp e
  cases int1_is hi
  obtain ⟨v, rfl, t, rfl⟩ := repds1 hr
  exact call_abs_int fun u tk => Po.now H iv ⟨u, rfl⟩
theorem rep_if {B : Addr → Prop} {h : Heap} {p : Prop} [Decidable p] {a b : Int} {t t' : Tok} : Rep B h (if p then Value.int a t else Value.int b t') (.int (if p then a else b)) := by
  split <;> exact ⟨_, rfl⟩
theorem min_sound (hh : A.handled = none) (iv : Inv W σ Λ s.heap st) (hr : RepDs σ (Bad σ Λ) s.heap vs ds) (H : Po W Λ NoX (relD Λ) E σ s (fMin ds st) Q) : wpAny (model W.prog W.w) A (call (.builtin "min") vs) Q E s := by
  replace H := po_some H
  obtain ⟨d, e, H⟩ := H
  obtain ⟨a, b, rfl, e⟩ := int2_is e
  (first | subst e | contradiction | (injection e with e; subst e) | cases e)
  obtain ⟨v, u, rfl, ⟨t, rfl⟩, t', rfl⟩ := repds2 hr
  exact min_two_ints hh fun h' tk hk => H σ h' tk _ Fresh.refl (Kp.all hk) (iv.grow hk) (show Rep _ _ _ _ from rep_if)
theorem max_sound (hh : A.handled = none) (iv : Inv W σ Λ s.heap st) (hr : RepDs σ (Bad σ Λ) s.heap vs ds) (H : Po W Λ NoX (relD Λ) E σ s (fMax ds st) Q) : wpAny (model W.prog W.w) A (call (.builtin "max") vs) Q E s := by
  replace H := po_some H
  obtain ⟨d, e, H⟩ := H
  obtain ⟨a, b, rfl, e⟩ := int2_is e
  (first | subst e | contradiction | (injection e with e; subst e) | cases e)
  obtain ⟨v, u, rfl, ⟨t, rfl⟩, t', rfl⟩ := repds2 hr
  exact max_two_ints hh fun h' tk hk => H σ h' tk _ Fresh.refl (Kp.all hk) (iv.grow hk) (show Rep _ _ _ _ from rep_if)
theorem ite_some {α : Type} {b : Bool} {x y : α} (h : (if b then some x else Option.none) = some y) : b = true ∧ x = y := by
  induction b using Bool.casesOn with
  | false => (first | subst h | contradiction | (injection h with h; subst h) | cases h)
  | true => (first | subst h | contradiction | (injection h with h; subst h) | cases h); exact ⟨rfl, rfl⟩
theorem itp_some {α : Type} {p : Prop} [Decidable p] {x y : α} (h : (if p then some x else Option.none) = some y) : p ∧ x = y := by
  by_cases q : p
  · rw [if_pos q] at h; (first | subst h | contradiction | (injection h with h; subst h) | cases h); exact ⟨q, rfl⟩
  · rw [if_neg q] at h; (first | subst h | contradiction | (injection h with h; subst h) | cases h)
theorem divmod_sound (iv : Inv W σ Λ s.heap st) (hr : RepDs σ (Bad σ Λ) s.heap vs ds) (H : Po W Λ NoX (relD Λ) E σ s (fDivmod ds st) Q) : wpAny (model W.prog W.w) A (call (.builtin "divmod") vs) Q E s := by
  replace H := po_some H
  obtain ⟨d, e, H⟩ := H
  obtain ⟨a, b, rfl, e⟩ := int2_is e
  obtain ⟨hd, rfl⟩ := ite_some e
  obtain ⟨h1, h2⟩ := Bool.and_eq_true_iff.mp hd
  obtain ⟨v, u, rfl, ⟨t, rfl⟩, t', rfl⟩ := repds2 hr
  refine divmod_int (of_decide_eq_true h1) (H σ _ _ _ Fresh.refl (Kp.push _) (iv.push _) ?_) (.inl (PyProof.noPylong_of_log2 (of_decide_eq_true h2)))
  show Rep _ _ _ _
  unfold Rep
  exact ⟨_, _, 0, rfl, iv.newAddr, Heap.get?_push_size _ rfl, ⟨_, rfl⟩, ⟨_, rfl⟩, trivial⟩
theorem len_sound (iv : Inv W σ Λ s.heap st) (hr : RepDs σ (Bad σ Λ) s.heap vs ds) (H : Po W Λ NoX (relD Λ) E σ s (fLen ds st) Q) : wpAny (model W.prog W.w) A (call (.builtin "len") vs) Q E s := by
  replace H := po_some H
  obtain ⟨x, e, H⟩ := H
  obtain ⟨d, h1, e⟩ := Option.bind_eq_some_iff.mp e
  obtain ⟨l, hl, e⟩ := Option.bind_eq_some_iff.mp e
  obtain ⟨hz, hx⟩ := ite_some e
  subst hx
  cases arg1_is h1
  obtain ⟨v, rfl, r⟩ := repds1 hr
  have fin : ∀ (us : List Value), Reps (Bad σ Λ) s.heap us l → us.toArray.size ≤ 2 ^ 20 ∧ Q (.int us.toArray.size (s.toks + 1)) { s with toks := s.toks + 1 + 1 } := fun us rr => by
    rw [List.size_toArray, rr.length]
    exact ⟨of_decide_eq_true hz, Po.now (tk := s.toks + 1 + 1) H iv ⟨_, rfl⟩⟩
  have big : ∀ {n : Nat}, n ≤ 2 ^ 20 → (n : Int) < 2 ^ 63 := fun h => by omega
  rcases seqOf_is hl with rfl | rfl | ⟨j, rfl, hl⟩
  · have r : Rep (Bad σ Λ) s.heap v (.lst l) := r
    unfold Rep at r
    obtain ⟨a, o, us, n, rfl, hb, ho, hc, hd, rr⟩ := r
    exact Calls.call_len_list ⟨o, ho, hc, n, hd⟩ (big (fin us rr).1) (fin us rr).2
  · have r : Rep (Bad σ Λ) s.heap v (.tup l) := r
    unfold Rep at r
    obtain ⟨a, us, n, rfl, hb, ho, rr⟩ := r
    exact len_tuple ⟨_, ho, rfl, n, rfl⟩ (big (fin us rr).1) (fin us rr).2
  · obtain ⟨a, ha, rfl⟩ := r
    obtain ⟨us, pl, rr, _⟩ := iv.store.2.2 _ a l ha hl
    exact Calls.call_len_list pl.isList (big (fin us rr).1) (fin us rr).2
theorem ints_of {B : Addr → Prop} {h : Heap} : ∀ {l : List V} {us : List Value} {ns : List Int}, Reps B h us l → intsOf l = some ns → IntsAre us ns
  | [], [], ns, _, e => by (first | subst e | contradiction | (injection e with e; subst e) | cases e); exact .nil
  | .int i :: l, u :: us, ns, r, e => by
    unfold intsOf at e
    obtain ⟨ns', h1, rfl⟩ := Option.map_eq_some_iff.mp e
    obtain ⟨t, rfl⟩ := r.1
    exact .cons i t (ints_of r.2 h1)
  | [], _ :: _, _, r, _ => r.elim
  | _ :: _, [], _, r, _ => r.elim
  | .none :: _, _ :: _, _, _, e => nomatch e
  | .bool _ :: _, _ :: _, _, _, e => nomatch e
  | .str _ :: _, _ :: _, _, _, e => nomatch e
  | .tup _ :: _, _ :: _, _, _, e => nomatch e
  | .lst _ :: _, _ :: _, _, _, e => nomatch e
  | .inst _ _ _ :: _, _ :: _, _, _, e => nomatch e
  | .rng _ _ :: _, _ :: _, _, _, e => nomatch e
  | .val _ :: _, _ :: _, _, _, e => nomatch e
theorem sum_sound (hh : A.handled = none) (iv : Inv W σ Λ s.heap st) (hr : RepDs σ (Bad σ Λ) s.heap vs ds) (H : Po W Λ NoX (relD Λ) E σ s (fSum ds st) Q) : wpAny (model W.prog W.w) A (call (.builtin "sum") vs) Q E s := by
  replace H := po_some H
  obtain ⟨x, e, H⟩ := H
  obtain ⟨d, h1, e⟩ := Option.bind_eq_some_iff.mp e
  obtain ⟨l, hl, e⟩ := Option.bind_eq_some_iff.mp e
  obtain ⟨ns, hns, rfl⟩ := Option.map_eq_some_iff.mp e
  cases arg1_is h1
  cases lstD_v hl
  obtain ⟨v, rfl, r⟩ := repds1 hr
  have r : Rep (Bad σ Λ) s.heap v (.lst l) := r
  unfold Rep at r
  obtain ⟨a, o, us, n, rfl, hb, ho, hc, hd, rr⟩ := r
  have hi := ints_of rr hns
  obtain ⟨xs, hx⟩ := hi.allInts.items
  have hl : s.heap.IsList a us.toArray := ⟨o, ho, hc, n, hd⟩
  have hl' : s.heap.IsList a (intItems xs) := hx ▸ hl
  refine sum_intListG hh hl' fun h' tk t' hk => ?_
  have e1 : ns = xs.toList.map (·.1) := by
    rw [← nums_intItems, ← hx]
    exact (show numsOf us.toArray.toList = ns from hi.numsOf).symm
  have e2 : preSum (numAt xs) xs.size = ns.sum := by
    rw [preSum_eq, List.take_of_length_le (by simp), e1]
  rw [e2]
  exact H σ h' tk _ Fresh.refl (Kp.all hk) (iv.grow hk) ⟨t', rfl⟩
theorem int_sound (iv : Inv W σ Λ s.heap st) (hr : RepDs σ (Bad σ Λ) s.heap vs ds) (H : Po W Λ NoX (relD Λ) E σ s (fInt ds st) Q) : wpAny (model W.prog W.w) A (call (.type "int") vs) Q E s := by
  replace H := po_some H
  obtain ⟨x, e, H⟩ := H
  obtain ⟨d, h1, e⟩ := Option.bind_eq_some_iff.mp e
  obtain ⟨b, hb, rfl⟩ := Option.map_eq_some_iff.mp e
  cases arg1_is h1
  cases boolD_v hb
  obtain ⟨v, rfl, r⟩ := repds1 hr
  have r : v = .bool b := r
  subst r
  exact call_int_bool (H.now iv ⟨_, rfl⟩)
theorem range_sound (iv : Inv W σ Λ s.heap st) (hfr : ∃ L m, L ∈ Λ ∧ s.heap.Ns L m) (hr : RepDs σ (Bad σ Λ) s.heap vs ds) (H : Po W Λ NoX (relD Λ) E σ s (fRange ds st) Q) : wpAny (model W.prog W.w) A (call (.type "range") vs) Q E s := by
  obtain ⟨L, m, hL, hn⟩ := hfr
  have fr : Fr W.base L s.heap m := ⟨hn, iv.keep, (iv.new _ (.inr hL)).1⟩
  replace H := po_some H
  obtain ⟨x, e, H⟩ := H
  generalize hi : int1 ds = zz
  induction zz using Option.casesOn with
  | some b =>
    rw [hi] at e
    obtain ⟨hb, rfl⟩ := itp_some e
    cases int1_is hi
    obtain ⟨v, rfl, t, rfl⟩ := repds1 hr
    exact range1_rows (news := []) fr (fun p hp => nomatch hp) fun h' tk t1 u1 v1 hR _ _ hk => H σ h' tk _ Fresh.refl (Kp.all hk) (iv.grow hk) (show Rep _ _ _ _ from ⟨_, t1, u1, v1, rfl, iv.newAddr, hR⟩)
  | none =>
    rw [hi] at e
    obtain ⟨a, b, rfl, e⟩ := int2_is e
    obtain ⟨hb, rfl⟩ := itp_some e
    obtain ⟨v, u, rfl, ⟨t, rfl⟩, t', rfl⟩ := repds2 hr
    exact range2_rows (news := []) fr (fun p hp => nomatch hp) fun h' tk t1 u1 v1 hR _ _ hk => H σ h' tk _ Fresh.refl (Kp.all hk) (iv.grow hk) (show Rep _ _ _ _ from ⟨_, t1, u1, v1, rfl, iv.newAddr, hR⟩)

theorem clsGood_is {K : Frag} {c : Addr} (h : clsGood K c = true) : Shows K c ∧ isNotIn K "int" c = true ∧ isIn K (.ref c) c = true ∧ subIn K (.ref c) (.type "int") = some false ∧ subIn K (.ref c) (.type "bool") = some false ∧ typeIn K (.ref c) = some (.type "type") := by
  unfold clsGood at h
  obtain ⟨h1, h⟩ := Bool.and_eq_true_iff.mp h
  obtain ⟨h2, h⟩ := Bool.and_eq_true_iff.mp h
  obtain ⟨h3, h⟩ := Bool.and_eq_true_iff.mp h
  obtain ⟨h4, h⟩ := Bool.and_eq_true_iff.mp h
  obtain ⟨h5, h6⟩ := Bool.and_eq_true_iff.mp h
  exact ⟨shows_is h1, h2, h3, someB_eq h4, someB_eq h5, isTy_eq h6⟩
theorem TabOk.good {T : Tab} (hT : TabOk W T) {c : Addr} (h : (T.cls c).isSome = true) : Shows W.K c ∧ isNotIn W.K "int" c = true ∧ isIn W.K (.ref c) c = true ∧ subIn W.K (.ref c) (.type "int") = some false ∧ subIn W.K (.ref c) (.type "bool") = some false ∧ typeIn W.K (.ref c) = some (.type "type") := by
  obtain ⟨ns, hns⟩ := Option.isSome_iff_exists.mp h
  exact clsGood_is (hT.cls c ns hns).2

theorem inst_rep {v : Value} {c' : Addr} {ns : List Str} {l : List V} (r : Rep (Bad σ Λ) s.heap v (.inst c' ns l)) : ∃ x ox od, v = .ref x ∧ PySem.W.InstAt s.heap x ox c' (some od) := by
  unfold Rep at r
  obtain ⟨x, dx, es, n, rfl, nx, nd, ox, od, ky, rr⟩ := r
  obtain ⟨oi, sl, I⟩ := inst_at ox od
  exact ⟨x, oi, _, rfl, I⟩
theorem isiT_sound {T : Tab} {x : V} {t : String} {b : Bool} {v : Value} (hT : TabOk W T) (iv : Inv W σ Λ s.heap st) (r1 : Rep (Bad σ Λ) s.heap v x) (hb : isiT T x t = some b) (q : ∀ tk, Q (.bool b) { s with toks := tk }) : wpAny (model W.prog W.w) A (call (.builtin "isinstance") [v, .type t]) Q E s := by
  have X := bases_in iv
  induction x using Mine.V.casesOn with
  | int i =>
    obtain ⟨u, rfl⟩ := r1
    by_cases h1 : (t == "int") = true
    · have hb : (if t == "int" then some true else if t == "bool" then some false else Option.none) = some b := hb
      rw [if_pos h1] at hb; (first | subst hb | contradiction | (injection hb with hb; subst hb) | cases hb)
      rw [beq_iff_eq.mp h1]; exact IsiPair.int_int (q s.toks)
    · have hb : (if t == "int" then some true else if t == "bool" then some false else Option.none) = some b := hb
      rw [if_neg h1] at hb
      obtain ⟨h2, rfl⟩ := ite_some hb
      rw [beq_iff_eq.mp h2]; exact IsiPair.int_bool (q _)
  | bool i =>
    have r1 : v = .bool i := r1
    subst r1
    obtain ⟨ht, rfl⟩ := ite_some hb
    rcases Bool.or_eq_true_iff.mp ht with ht | ht
    · rw [beq_iff_eq.mp ht]; exact IsiPair.bool_int (q s.toks)
    · rw [beq_iff_eq.mp ht]; exact IsiPair.bool_bool (q s.toks)
  | inst c ns l =>
    obtain ⟨ht, rfl⟩ := ite_some hb
    obtain ⟨ht, hc⟩ := Bool.and_eq_true_iff.mp ht
    obtain ⟨g1, _, _, g4, g5, _⟩ := hT.good hc
    obtain ⟨x, ox, od, rfl, I⟩ := inst_rep r1
    rcases Bool.or_eq_true_iff.mp ht with ht | ht
    · rw [beq_iff_eq.mp ht]; exact isn_inst X I g1 rfl (fun M => Looks.of_pure (by kernel_rfl)) (fun M => Looks.of_pure rfl) g4 (q _)
    · rw [beq_iff_eq.mp ht]; exact isn_inst X I g1 rfl (fun M => Looks.of_pure (by kernel_rfl)) (fun M => Looks.of_pure rfl) g5 (q _)
  | _ => (first | subst hb | contradiction | (injection hb with hb; subst hb) | cases hb)
theorem isiR_sound {T : Tab} {x : V} {c : Addr} {b : Bool} {v : Value} (hT : TabOk W T) (iv : Inv W σ Λ s.heap st) (r1 : Rep (Bad σ Λ) s.heap v x) (hb : isiR T x c = some b) (q : ∀ tk, Q (.bool b) { s with toks := tk }) : wpAny (model W.prog W.w) A (call (.builtin "isinstance") [v, .ref c]) Q E s := by
  have X := bases_in iv
  induction x using Mine.V.casesOn with
  | int i =>
    obtain ⟨u, rfl⟩ := r1
    obtain ⟨hc, rfl⟩ := ite_some hb
    exact isn_call (P := fun _ => True) X (fun M => Looks.of_pure rfl) (hT.good hc).2.1 (by intro e; (first | subst e | contradiction | (injection e with e; subst e) | cases e)) trivial int_cls (q _)
  | inst c' ns l =>
    obtain ⟨hc, rfl⟩ := ite_some hb
    obtain ⟨h1, h2⟩ := Bool.and_eq_true_iff.mp hc
    obtain ⟨x, ox, od, rfl, I⟩ := inst_rep r1
    obtain ⟨g1, g2, g3, g4, g5, g6⟩ := hT.good h1
    by_cases hcc : c = c'
    · subst hcc
      rw [beq_self_eq_true] at q
      exact isi_call X (fun M => I.type) g3 (by intro e; (first | subst e | contradiction | (injection e with e; subst e) | cases e)) (q s.toks)
    · rw [beq_eq_false_iff_ne.mpr hcc] at q
      exact isn_inst X I (hT.good h2).1 (beq_eq_false_iff_ne.mpr fun e => hcc (by (first | subst e | contradiction | (injection e with e; subst e) | cases e); rfl)) (fun M => looks_typeIn X g6) (fun M => looks_isType X g1.h7) (hT.rel c' c h2 h1 fun e => hcc e.symm) (q _)
  | _ => (first | subst hb | contradiction | (injection hb with hb; subst hb) | cases hb)
theorem isi_sound {T : Tab} (hT : TabOk W T) (iv : Inv W σ Λ s.heap st) (hr : RepDs σ (Bad σ Λ) s.heap vs ds) (H : Po W Λ NoX (relD Λ) E σ s (fIsi T ds st) Q) : wpAny (model W.prog W.w) A (call (.builtin "isinstance") vs) Q E s := by
  replace H := po_some H
  obtain ⟨y, e, H⟩ := H
  obtain ⟨d, h1, e⟩ := Option.bind_eq_some_iff.mp e
  obtain ⟨d', h2, e⟩ := Option.bind_eq_some_iff.mp e
  obtain ⟨x, h3, e⟩ := Option.bind_eq_some_iff.mp e
  obtain ⟨c, h4, e⟩ := Option.bind_eq_some_iff.mp e
  obtain ⟨b, hb, rfl⟩ := Option.map_eq_some_iff.mp e
  cases arg2_is h1 h2
  cases vD_v h3
  cases valD_v h4
  obtain ⟨v, u, rfl, r1, hu⟩ := repds2 hr
  have hu : u = c := hu
  subst hu
  have q : ∀ tk, Q (.bool b) { s with toks := tk } := fun tk => Po.now (tk := tk) H iv rfl
  cases u with
  | type t => exact isiT_sound hT iv r1 hb q
  | ref c => exact isiR_sound hT iv r1 hb q
  | _ => (first | subst hb | contradiction | (injection hb with hb; subst hb) | cases hb)

theorem bin1_sound {T : Tab} {v : Value} (hA : A.handled = none) (hT : TabOk W T) (iv : Inv W σ Λ s.heap st) (hfr : ∃ L m, L ∈ Λ ∧ s.heap.Ns L m) (hr : RepDs σ (Bad σ Λ) s.heap vs ds)
    (H : Po W Λ NoX (relD Λ) E σ s (bin1 T v ds st) Q) : wpAny (model W.prog W.w) A (call v vs) Q E s := by
  unfold bin1 at H
  split at H
  · rename_i b
    by_cases q : (b == "isinstance") = true
    · rw [if_pos q] at H; rw [beq_iff_eq.mp q]; exact isi_sound hT iv hr H
    rw [if_neg q] at H; clear q
    by_cases q : (b == "abs") = true
    · rw [if_pos q] at H; rw [beq_iff_eq.mp q]; exact abs_sound iv hr H
    rw [if_neg q] at H; clear q
    by_cases q : (b == "min") = true
    · rw [if_pos q] at H; rw [beq_iff_eq.mp q]; exact min_sound hA iv hr H
    rw [if_neg q] at H; clear q
    by_cases q : (b == "max") = true
    · rw [if_pos q] at H; rw [beq_iff_eq.mp q]; exact max_sound hA iv hr H
    rw [if_neg q] at H; clear q
    by_cases q : (b == "len") = true
    · rw [if_pos q] at H; rw [beq_iff_eq.mp q]; exact len_sound iv hr H
    rw [if_neg q] at H; clear q
    by_cases q : (b == "divmod") = true
    · rw [if_pos q] at H; rw [beq_iff_eq.mp q]; exact divmod_sound iv hr H
    rw [if_neg q] at H; clear q
    by_cases q : (b == "sum") = true
    · rw [if_pos q] at H; rw [beq_iff_eq.mp q]; exact sum_sound hA iv hr H
    rw [if_neg q] at H
    exact H.elim
  · rename_i t
    by_cases q : (t == "range") = true
    · rw [if_pos q] at H; rw [beq_iff_eq.mp q]; exact range_sound iv hfr hr H
    rw [if_neg q] at H; clear q
    by_cases q : (t == "int") = true
    · rw [if_pos q] at H; rw [beq_iff_eq.mp q]; exact int_sound iv hr H
    rw [if_neg q] at H
    exact H.elim
  · exact H.elim
end
end Mine

end

section
open PySem PySem.W PySem.Spec PySem.Calls PyProof.Rows
set_option maxRecDepth 100000
namespace Mine

theorem CxOk.push {W : Wd} {C : Cx} (h : CxOk W C) (L : Addr) : CxOk (W.push L) C := ⟨h.G, h.able, h.meth, h.attr⟩
theorem ExOk.push {W : Wd} {C : Cx} (h : ExOk W C) (L : Addr) : ExOk (W.push L) C := ⟨h.xc, h.sub⟩
theorem TabOk.push {W : Wd} {T : Tab} (h : TabOk W T) (L : Addr) : TabOk (W.push L) T := ⟨h.fn, h.cls, h.rel⟩
theorem R_sound {C : Cx} {T : Tab} : ∀ (n : Nat) (W : Wd) (A : Around), CxOk W C → ExOk W C → TabOk W T → Stk A W → A.handled = none → A.depth + 2 * n + 8 < recursionLimit → A.units + 8 * n + 100 < cLine → CS W A (R C T n)
  | 0, _, _, _, _, _, _, _, _, _ => fun _ _ _ _ _ _ _ _ _ _ _ _ H => H.elim
  | n + 1, W, A, hC, hX, hT, hK, h1, h2, h3 => fun Λ d ds v vs E σ s st Q iv pre H => by
    obtain ⟨hfr, rd, rds⟩ := pre
    have ih := fun env L hK' => R_sound n (W.push L) (A.deeper env) (hC.push L) (hX.push L) (hT.push L) hK' h1 (by show A.depth + 1 + 2 * n + 8 < _; omega) (by show A.units + 3 + 8 * n + 100 < _; omega)
    change Po W Λ NoX (relD Λ) E σ s (callS C T (R C T n) d ds st) Q at H
    unfold callS at H
    split at H
    · rename_i a
      have rd : v = .ref a := rd
      subst rd
      split at H
      · rename_i f hf
        exact runBody_sound (by omega) hK (hT.fn a f hf) (fun env L hK' => (X_sound (A := A.deeper env) h1 (by show A.depth + 1 + 4 < _; omega) (by show A.units + 3 + 90 < cLine; omega) (hC.push L) (hX.push L) (ih env L hK') 64).2.2) iv rds H
      · split at H
        · rename_i ns hns
          split at H
          · rename_i hl
            exact mk_sound (by omega) (hT.cls a ns hns).1 hl iv rds H
          · exact H.elim
        · exact H.elim
    · rename_i w hw
      have rd : v = w := rd
      subst rd
      exact bin1_sound h1 hT iv hfr rds H
    · exact H.elim
end Mine

end

section
open PySem PySem.W
set_option maxRecDepth 100000
namespace Mine

noncomputable def Ok {α : Type} (r : Out α) (Q : α → Sto → Prop) (E : V → Sto → Prop) : Prop :=
  match r with
  | .ok a st => Q a st
  | .exc x st => E x st
  | .stuck => False

section
variable {α β : Type} {E : V → Sto → Prop} {st : Sto}
theorem Ok.bind {r : Out α} {f : α → Sto → Out β} {Q : β → Sto → Prop} (h : Ok r (fun a st => Ok (f a st) Q E) E) : Ok (r.bind f) Q E := by
  induction r using Mine.Out.casesOn with
  | ok a st => exact h
  | exc x st => exact h
  | stuck => exact h
theorem Ok.mono {r : Out α} {Q Q' : α → Sto → Prop} (h : Ok r Q E) (k : ∀ a st, Q a st → Q' a st) : Ok r Q' E := by
  induction r using Mine.Out.casesOn with
  | ok a st => exact k _ _ h
  | exc x st => exact h
  | stuck => exact h
noncomputable abbrev NoE : V → Sto → Prop := fun _ _ => False
theorem Ok.quiet {r : Out α} {Q : α → Sto → Prop} (h : Ok r Q NoE) : Ok r.quiet Q E := by
  induction r using Mine.Out.casesOn with
  | ok a st => exact h
  | exc x st => exact h
  | stuck => exact h
theorem Ok.ofO {o : Option α} {Q : α → Sto → Prop} (h : ∃ a, o = some a ∧ Q a st) : Ok (ofO st o) Q E := by
  obtain ⟨a, rfl, q⟩ := h
  exact q
end

section
variable {C : Cx} {Φ : D → List D → Sto → Out D} {n : Nat} {sc : Scope} {ρ : En} {st : Sto} {E : V → Sto → Prop}

noncomputable def nameV (C : Cx) (sc : Scope) (ρ : En) (x : Str) : Option D :=
  if badName x then none else if isLoc sc x then ρ.lookup x else if sc.names.lookup x == some .globalImplicit then (C.G x).map fun v => D.v (gV v) else none

theorem ok_if {α : Type} {r : Out Bool} {a b : Sto → Out α} {Q : α → Sto → Prop} (h : Ok r (fun t st => (t = true → Ok (a st) Q E) ∧ (t = false → Ok (b st) Q E)) E) : Ok (r.bind fun t st => if t then a st else b st) Q E :=
  Ok.bind (h.mono fun t st h => by
    induction t using Bool.casesOn with
    | true => exact h.1 rfl
    | false => exact h.2 rfl)
theorem ok_boolV_and {f : PySem.Expr → Sto → Out D} {e e' : PySem.Expr} {es : List PySem.Expr} {Q : D → Sto → Prop} (h : Ok (f e st) (fun d st₁ => ∃ t, truth d = some t ∧ (t = false → Q d st₁) ∧ (t = true → Ok (boolV f .And (e' :: es) st₁) Q E)) E) : Ok (boolV f .And (e :: e' :: es) st) Q E := by
  unfold boolV
  refine Ok.bind (h.mono fun d st₁ h => ?_)
  obtain ⟨t, e, q⟩ := h
  rw [e]
  induction t using Bool.casesOn with
  | true => exact q.2 rfl
  | false => exact q.1 rfl
theorem ok_boolV_or {f : PySem.Expr → Sto → Out D} {e e' : PySem.Expr} {es : List PySem.Expr} {Q : D → Sto → Prop} (h : Ok (f e st) (fun d st₁ => ∃ t, truth d = some t ∧ (t = true → Q d st₁) ∧ (t = false → Ok (boolV f .Or (e' :: es) st₁) Q E)) E) : Ok (boolV f .Or (e :: e' :: es) st) Q E := by
  unfold boolV
  refine Ok.bind (h.mono fun d st₁ h => ?_)
  obtain ⟨t, e, q⟩ := h
  rw [e]
  induction t using Bool.casesOn with
  | true => exact q.1 rfl
  | false => exact q.2 rfl
theorem ok_chain_one {f : PySem.Expr → Sto → Out D} {a : D} {op : CmpOp} {r : PySem.Expr} {Q : Bool → Sto → Prop} (h : Ok (f r st) (fun b st₁ => ∃ c, cmp op a b st₁ = some c ∧ Q c st₁) E) : Ok (chain f a [op] [r] st) Q E := by
  unfold chain
  exact Ok.bind (h.mono fun b st₁ h => Ok.ofO h)
theorem ok_chain_more {f : PySem.Expr → Sto → Out D} {a : D} {op op' : CmpOp} {ops : List CmpOp} {r r' : PySem.Expr} {rs : List PySem.Expr} {Q : Bool → Sto → Prop}
    (h : Ok (f r st) (fun b st₁ => ∃ c, cmp op a b st₁ = some c ∧ (c = false → Q false st₁) ∧ (c = true → Ok (chain f b (op' :: ops) (r' :: rs) st₁) Q E)) E) : Ok (chain f a (op :: op' :: ops) (r :: r' :: rs) st) Q E := by
  unfold chain
  refine Ok.bind (h.mono fun b st₁ h => ?_)
  obtain ⟨c, e, q⟩ := h
  rw [e]
  induction c using Bool.casesOn with
  | true => exact q.2 rfl
  | false => exact q.1 rfl
theorem ok_compL_nil {put : V → En → Option En} {test : En → Sto → Out Bool} {elt : En → Sto → Out D} {acc : List V} {Q : List V → Sto → Prop} (q : Q acc st) : Ok (compL put test elt [] ρ acc st) Q E := q
theorem ok_compL_cons {put : V → En → Option En} {test : En → Sto → Out Bool} {elt : En → Sto → Out D} {x : V} {r acc : List V} {ρ₁ : En} {Q : List V → Sto → Prop} (hp : put x ρ = some ρ₁)
    (h : Ok (test ρ₁ st) (fun b st₁ => (b = true → Ok (elt ρ₁ st₁) (fun d st₂ => ∃ y, d = .v y ∧ szOk acc.length = true ∧ Ok (compL put test elt r ρ₁ (acc ++ [y]) st₂) Q E) NoE) ∧ (b = false → Ok (compL put test elt r ρ₁ acc st₁) Q E)) NoE) : Ok (compL put test elt (x :: r) ρ acc st) Q E := by
  unfold compL
  rw [hp]
  refine Ok.bind (Ok.quiet h |>.mono fun b st₁ h => ?_)
  induction b using Bool.casesOn with
  | true =>
    refine Ok.bind (Ok.quiet (h.1 rfl) |>.mono fun d st₂ h => ?_)
    obtain ⟨y, rfl, h1, h2⟩ := h
    dsimp only
    rw [if_pos h1]
    exact h2
  | false => exact h.2 rfl

theorem ok_allT_and {f : PySem.Expr → Sto → Out Bool} {e : PySem.Expr} {es : List PySem.Expr} {Q : Bool → Sto → Prop} (h : Ok (f e st) (fun b st₁ => (b = true → Ok (allT f .And es st₁) Q E) ∧ (b = false → Q false st₁)) E) : Ok (allT f .And (e :: es) st) Q E := by
  unfold allT
  exact Ok.bind (h.mono fun b st₁ h => by cases b with
    | true => exact h.1 rfl
    | false => exact h.2 rfl)
theorem ok_allT_or {f : PySem.Expr → Sto → Out Bool} {e : PySem.Expr} {es : List PySem.Expr} {Q : Bool → Sto → Prop} (h : Ok (f e st) (fun b st₁ => (b = true → Q true st₁) ∧ (b = false → Ok (allT f .Or es st₁) Q E)) E) : Ok (allT f .Or (e :: es) st) Q E := by
  unfold allT
  exact Ok.bind (h.mono fun b st₁ h => by cases b with
    | true => exact h.1 rfl
    | false => exact h.2 rfl)
/-- what comes behind a statement -/
noncomputable def after (f : En → Stmt → Sto → Out (Fl × En)) (r : List Stmt) (Q : Fl × En → Sto → Prop) (E : V → Sto → Prop) (p : Fl × En) (st : Sto) : Prop :=
  match p.1 with
  | .next => Ok (exs f r p.2 st) Q E
  | fl => Q (fl, p.2) st
theorem ok_exs_cons {f : En → Stmt → Sto → Out (Fl × En)} {s : Stmt} {r : List Stmt} {Q : Fl × En → Sto → Prop} (h : Ok (f ρ s st) (after f r Q E) E) : Ok (exs f (s :: r) ρ st) Q E := by
  unfold exs
  refine Ok.bind (h.mono fun p st₁ h => ?_)
  obtain ⟨fl, ρ₁⟩ := p
  cases fl <;> exact h
/-- what a loop's body comes back with -/
noncomputable def again (I : En → Sto → Prop) (Q : Fl × En → Sto → Prop) (p : Fl × En) (st : Sto) : Prop :=
  match p.1 with
  | .next => I p.2 st
  | .cont => I p.2 st
  | .brk => Q (.next, p.2) st
  | .ret d => Q (.ret d, p.2) st
theorem again_next {I : En → Sto → Prop} {Q : Fl × En → Sto → Prop} (h : I ρ st) : again I Q (.next, ρ) st := h
theorem again_cont {I : En → Sto → Prop} {Q : Fl × En → Sto → Prop} (h : I ρ st) : again I Q (.cont, ρ) st := h
theorem again_brk {I : En → Sto → Prop} {Q : Fl × En → Sto → Prop} (h : Q (.next, ρ) st) : again I Q (.brk, ρ) st := h
theorem again_ret {I : En → Sto → Prop} {d : D} {Q : Fl × En → Sto → Prop} (h : Q (.ret d, ρ) st) : again I Q (.ret d, ρ) st := h

theorem ok_while {tst : En → Sto → Out Bool} {body : En → Sto → Out (Fl × En)} {Q : Fl × En → Sto → Prop} (I : Nat → En → Sto → Prop)
    (h : ∀ k ρ st, I k ρ st → Ok (tst ρ st) (fun t st₁ => (t = true → Ok (body ρ st₁) (again (fun ρ st => ∃ k', k' < k ∧ I k' ρ st) Q) NoE) ∧ (t = false → Q (.next, ρ) st₁)) NoE) :
    ∀ (k N : Nat) (ρ : En) (st : Sto), k < N → I k ρ st → Ok (whileN tst body N ρ st) Q E := by
  intro k
  induction k using Nat.strongRecOn with
  | ind k ih =>
    intro N ρ st hk hI
    obtain ⟨N, rfl⟩ : ∃ M, N = M + 1 := ⟨N - 1, by omega⟩
    unfold whileN
    refine ok_if (Ok.quiet (h k ρ st hI) |>.mono fun t st₁ h => ⟨fun e => ?_, fun e => h.2 e⟩)
    refine Ok.bind (Ok.quiet (h.1 e) |>.mono fun p st₂ h => ?_)
    obtain ⟨fl, ρ₂⟩ := p
    induction fl using Mine.Fl.casesOn with
    | next =>
      obtain ⟨k', hk', h⟩ := h
      exact ih k' hk' N ρ₂ st₂ (by omega) h
    | cont =>
      obtain ⟨k', hk', h⟩ := h
      exact ih k' hk' N ρ₂ st₂ (by omega) h
    | brk => exact h
    | ret d => exact h
theorem ok_for {put : V → En → Option En} {body : En → Sto → Out (Fl × En)} {Q : Fl × En → Sto → Prop} (I : List V → En → Sto → Prop)
    (h0 : ∀ ρ st, I [] ρ st → Q (.next, ρ) st)
    (h : ∀ x r ρ st, I (x :: r) ρ st → ∃ ρ₁, put x ρ = some ρ₁ ∧ Ok (body ρ₁ st) (again (I r) Q) NoE) :
    ∀ (l : List V) (ρ : En) (st : Sto), I l ρ st → Ok (forL put body l ρ st) Q E
  | [], ρ, st, hI => h0 ρ st hI
  | x :: r, ρ, st, hI => by
    unfold forL
    obtain ⟨ρ₁, h1, h2⟩ := h x r ρ st hI
    rw [h1]
    refine Ok.bind (Ok.quiet h2 |>.mono fun p st₂ h' => ?_)
    obtain ⟨fl, ρ₂⟩ := p
    induction fl using Mine.Fl.casesOn with
    | next => exact ok_for I h0 h r ρ₂ st₂ h'
    | cont => exact ok_for I h0 h r ρ₂ st₂ h'
    | brk => exact h'
    | ret d => exact h'
end

theorem ok_fn {C : Cx} {T : Tab} {n : Nat} {a : Addr} {f : FnI} {ds : List D} {st : Sto} {Q : D → Sto → Prop} {E : V → Sto → Prop} (h0 : T.fn a = some f) (h : Ok (runBody C (R C T n) f ds st) Q E) : Ok (R C T (n + 1) (.v (.val (.ref a))) ds st) Q E := by
  show Ok (match T.fn a with | some f => _ | none => _) Q E
  rw [h0]
  exact h
theorem ok_cls {C : Cx} {T : Tab} {n : Nat} {a : Addr} {ns : List Str} {ds : List D} {l : List V} {st : Sto} {Q : D → Sto → Prop} {E : V → Sto → Prop} (h0 : T.fn a = none) (h1 : T.cls a = some ns) (h2 : ns.length = ds.length) (h3 : vals ds = some l) (q : Q (.v (.inst a ns l)) st) : Ok (R C T (n + 1) (.v (.val (.ref a))) ds st) Q E := by
  show Ok (match T.fn a with | some f => _ | none => _) Q E
  rw [h0, h1]
  dsimp only
  rw [if_pos h2, h3]
  exact q
end Mine

end

section
open PySem PySem.W
set_option maxRecDepth 100000
namespace Mine

/-! what must hold, reckoned by the kernel -/
noncomputable abbrev KD := D → Sto → Prop
noncomputable abbrev KV := V → Sto → Prop

structure CallK (r : Out D) (K : KD) (E : KV) : Prop where of ::
  ok : Ok r K E
structure LoopK {α : Type} (r : Out α) (K : α → Sto → Prop) (E : KV) : Prop where of ::
  ok : Ok r K E

/-- what is to be shown aside -/
structure Side (p : Prop) : Prop where of ::
  get : p

noncomputable def optK {α : Type} (o : Option α) (k : α → Prop) : Prop :=
  match o with
  | some a => k a
  | none => False
theorem optK.get {α : Type} {o : Option α} {k : α → Prop} (h : optK o k) : ∃ a, o = some a ∧ k a := by
  induction o using Option.casesOn with
  | none => exact h.elim
  | some a => exact ⟨a, rfl, h⟩
theorem optK.of {α : Type} {o : Option α} {k : α → Prop} {a : α} (h : o = some a) (q : k a) : optK o k := by rw [h]; exact q
noncomputable def brK (t : Bool) (p q : Prop) : Prop := (t = true → p) ∧ (t = false → q)

noncomputable def binIK (op : Operator) (x y : Int) (k : V → Prop) : Prop :=
  match op with
  | .Add => k (.int (x + y))
  | .Sub => k (.int (x - y))
  | .Mult => Side (mulOk x y = true) ∧ k (.int (x * y))
  | .FloorDiv => Side (dvOk y = true) ∧ k (.int (x.fdiv y))
  | .Mod => Side (y ≠ 0) ∧ k (.int (x.fmod y))
  | .Pow => Side (0 ≤ y ∧ (Builtin.Int.intBits x : Int) * y ≤ 2 ^ 27) ∧ k (.int (x ^ y.toNat))
  | .LShift => Side (0 ≤ y ∧ (Builtin.Int.intBits x : Int) + y ≤ 2 ^ 27) ∧ k (.int (x * 2 ^ y.toNat))
  | .RShift => Side (0 ≤ y) ∧ k (.int (x.fdiv (2 ^ y.toNat)))
  | .BitAnd => k (.int (Builtin.bitAnd x y))
  | _ => False
theorem binIK.get {op : Operator} {x y : Int} {k : V → Prop} (h : binIK op x y k) : ∃ z, binI op x y = some z ∧ k (.int z) := by
  unfold binIK at h
  unfold binI
  split at h
  · exact ⟨_, rfl, h⟩
  · exact ⟨_, rfl, h⟩
  · exact ⟨_, if_pos h.1.get, h.2⟩
  · exact ⟨_, if_pos h.1.get, h.2⟩
  · exact ⟨_, if_neg h.1.get, h.2⟩
  · exact ⟨_, if_pos h.1.get, h.2⟩
  · exact ⟨_, if_pos h.1.get, h.2⟩
  · exact ⟨_, if_pos h.1.get, h.2⟩
  · exact ⟨_, rfl, h⟩
  · exact h.elim
noncomputable def binK (op : Operator) (a b : D) (k : V → Prop) : Prop :=
  match intD a with
  | some x => (match intD b with
    | some y => binIK op x y k
    | none => optK (binS op a b) k)
  | none => optK (binS op a b) k
theorem binK.get {op : Operator} {a b : D} {k : V → Prop} (h : binK op a b k) : ∃ v, binop op a b = some v ∧ k v := by
  unfold binK at h
  unfold binop
  generalize ha : intD a = zz
  induction zz using Option.casesOn with
  | none => rw [ha] at h; exact h.get
  | some x =>
    rw [ha] at h
    generalize hb : intD b = zz
    induction zz using Option.casesOn with
    | none => rw [hb] at h; exact h.get
    | some y =>
      rw [hb] at h
      obtain ⟨z, h1, h2⟩ := binIK.get h
      exact ⟨.int z, by dsimp only; rw [h1]; rfl, h2⟩

noncomputable def strD : D → Option Str
  | .v (.str x) => some x
  | _ => none
noncomputable def strsOk (x y : Str) : Bool := SeqAt.shaped (.str x) && SeqAt.shaped (.str y)
noncomputable def cmpEK (op : CmpOp) (a b : D) (st : Sto) (k : Bool → Prop) : Prop := ∃ c, cmpE op a b st = some c ∧ k c
noncomputable def cmpK (op : CmpOp) (a b : D) (st : Sto) (k : Bool → Prop) : Prop :=
  match intD a with
  | some x => (match intD b with
    | some y => optK (cmpI op x y) k
    | none => cmpEK op a b st k)
  | none => (match strD a with
    | some x => (match strD b with
      | some y => (match op with
        | .Eq => Side (strsOk x y = true) ∧ k (x == y)
        | .NotEq => Side (strsOk x y = true) ∧ k (!(x == y))
        | _ => False)
      | none => cmpEK op a b st k)
    | none => cmpEK op a b st k)
theorem strD_v {d : D} {i : Str} (h : strD d = some i) : d = .v (.str i) := by
  unfold strD at h; split at h <;> (first | subst h | contradiction | (injection h with h; subst h) | cases h); rfl
theorem eqD_str {x y : Str} {st : Sto} (h : strsOk x y = true) : eqD (.v (.str x)) (.v (.str y)) st = some (x == y) := by
  show (if strsOk x y then some (PyData.eqv (.str x) (.str y)) else none) = _
  rw [if_pos h]
  unfold PyData.eqv; rfl
theorem cmpK.get {op : CmpOp} {a b : D} {st : Sto} {k : Bool → Prop} (h : cmpK op a b st k) : ∃ c, cmp op a b st = some c ∧ k c := by
  unfold cmpK at h
  unfold cmp
  generalize ha : intD a = zz
  induction zz using Option.casesOn with
  | some x =>
    rw [ha] at h
    generalize hb : intD b = zz
    induction zz using Option.casesOn with
    | none => rw [hb] at h; exact h
    | some y => rw [hb] at h; exact h.get
  | none =>
    rw [ha] at h
    generalize ha' : strD a = zz
    induction zz using Option.casesOn with
    | none => rw [ha'] at h; exact h
    | some x =>
      rw [ha'] at h
      generalize hb' : strD b = zz
      induction zz using Option.casesOn with
      | none => rw [hb'] at h; exact h
      | some y =>
        rw [hb'] at h
        rw [strD_v ha', strD_v hb']
        dsimp only at h ⊢
        split at h
        · exact ⟨_, eqD_str (st := st) h.1.get, h.2⟩
        · exact ⟨_, by show (eqD _ _ st).map not = _; rw [eqD_str h.1.get]; rfl, h.2⟩
        · exact h.elim

noncomputable def afterK (p : Fl × En) (st : Sto) (k : En → Sto → Prop) (K : Fl × En → Sto → Prop) : Prop :=
  match p.1 with
  | .next => k p.2 st
  | fl => K (fl, p.2) st

noncomputable def outK {α : Type} (r : Out α) (K : α → Sto → Prop) : Prop :=
  match r with
  | .ok a st => K a st
  | _ => False
theorem outK.ok {α : Type} {r : Out α} {K : α → Sto → Prop} {E : KV} (h : outK r K) : Ok r K E := by
  induction r using Mine.Out.casesOn with
  | ok a st => exact h
  | exc _ _ => exact h.elim
  | stuck => exact h.elim

/-- a result that is an int is laid bare -/
noncomputable def forceK (K : KD) (d : D) (st : Sto) : Prop :=
  match intD d with
  | some i => K (.v (.int i)) st
  | none => K d st
theorem forceK.get {K : KD} {d : D} {st : Sto} (h : forceK K d st) : K d st := by
  unfold forceK at h
  generalize e : intD d = zz
  induction zz using Option.casesOn with
  | none => rw [e] at h; exact h
  | some i => rw [e] at h; rw [intD_v e]; exact h
noncomputable def isiK (T : Tab) (ds : List D) (st : Sto) (K : KD) : Prop := optK (arg2a ds) fun d => optK (arg2b ds) fun e => optK (vD d) fun x => optK (valD e) fun c => optK (isiV T x c) fun b => K (.v (.bool b)) st
noncomputable def int2K (ds : List D) (k : Int → Int → Prop) : Prop := optK (arg2a ds) fun d => optK (arg2b ds) fun e => optK (intD d) fun a => optK (intD e) fun b => k a b
noncomputable def bin1K (T : Tab) (v : Value) (ds : List D) (st : Sto) (K : KD) : Prop :=
  match v with
  | .builtin b =>
    if b == "isinstance" then isiK T ds st K
    else if b == "divmod" then int2K ds fun a b => Side (dvOk b = true) ∧ K (.v (.tup [.int (a.fdiv b), .int (a.fmod b)])) st
    else if b == "len" then optK (arg1 ds) fun d => optK (seqOf d st) fun l => Side (szOk l.length = true) ∧ K (.v (.int l.length)) st
    else outK (bin1 T v ds st) (forceK K)
  | .type t => if t == "range" then (match int1 ds with
      | some b => Side (b.natAbs < 2 ^ 20) ∧ K (.v (.rng 0 b)) st
      | none => int2K ds fun a b => Side (a.natAbs < 2 ^ 20 ∧ b.natAbs < 2 ^ 20) ∧ K (.v (.rng a b)) st)
    else outK (bin1 T v ds st) (forceK K)
  | _ => False
theorem ofO_k {α : Type} {o : Option α} {st : Sto} {K : α → Sto → Prop} {E : KV} (a : α) (e : o = some a) (q : K a st) : Ok (ofO st o) K E := by rw [e]; exact q
theorem int2K.get {α : Type} {ds : List D} {k : Int → Int → Prop} (f : Int → Int → Option α) (h : int2K ds k) : ∃ a b, int2 ds f = f a b ∧ k a b := by
  obtain ⟨d, h1, h⟩ := optK.get h
  obtain ⟨e, h2, h⟩ := optK.get h
  obtain ⟨a, h3, h⟩ := optK.get h
  obtain ⟨b, h4, h⟩ := optK.get h
  refine ⟨a, b, ?_, h⟩
  unfold int2
  rw [h1, h2]
  show (intD d).bind (fun a => (intD e).bind fun b => f a b) = _
  rw [h3, h4]; rfl
theorem bin1K.ok {T : Tab} {v : Value} {ds : List D} {st : Sto} {K : KD} {E : KV} (h : bin1K T v ds st K) : Ok (bin1 T v ds st) K E := by
  cases v with
  | builtin b =>
    change (if b == "isinstance" then _ else _) at h
    by_cases q : (b == "isinstance") = true
    · rw [if_pos q] at h
      rw [beq_iff_eq.mp q]
      obtain ⟨d, h1, h⟩ := optK.get h
      obtain ⟨e, h2, h⟩ := h.get
      obtain ⟨x, h3, h⟩ := h.get
      obtain ⟨c, h4, h⟩ := h.get
      obtain ⟨b, h5, h⟩ := h.get
      refine ofO_k _ ?_ h
      rw [h1, h2]
      show (vD d).bind (fun x => (valD e).bind fun c => (isiV T x c).map fun b => D.v (.bool b)) = _
      rw [h3, h4]
      show (isiV T x c).map _ = _
      rw [h5]; rfl
    rw [if_neg q] at h
    by_cases q2 : (b == "divmod") = true
    · rw [if_pos q2] at h
      rw [beq_iff_eq.mp q2]
      obtain ⟨x, y, e, h1, h2⟩ := int2K.get (fun a b => if dvOk b then some (D.v (.tup [.int (a.fdiv b), .int (a.fmod b)])) else Option.none) h
      exact ofO_k _ (e.trans (if_pos h1.get)) h2
    rw [if_neg q2] at h
    by_cases q3 : (b == "len") = true
    · rw [if_pos q3] at h
      rw [beq_iff_eq.mp q3]
      obtain ⟨d, h1, h⟩ := optK.get h
      obtain ⟨l, h2, h3, h4⟩ := h.get
      refine ofO_k _ ?_ h4
      rw [h1]
      show (seqOf d st).bind _ = _
      rw [h2]
      exact if_pos h3.get
    rw [if_neg q3] at h
    exact h.ok.mono fun _ _ => forceK.get
  | type t =>
    change (if t == "range" then _ else _) at h
    by_cases q : (t == "range") = true
    · rw [if_pos q] at h
      rw [beq_iff_eq.mp q]
      show Ok (fRange ds st) K E
      unfold fRange
      generalize hi : int1 ds = zz
      induction zz using Option.casesOn with
      | some b => rw [hi] at h; exact ofO_k _ (if_pos h.1.get) h.2
      | none =>
        rw [hi] at h
        obtain ⟨x, y, e, h1, h2⟩ := int2K.get (fun a b => if a.natAbs < 2 ^ 20 ∧ b.natAbs < 2 ^ 20 then some (D.v (.rng a b)) else Option.none) h
        exact ofO_k _ (e.trans (if_pos h1.get)) h2
    rw [if_neg q] at h
    exact h.ok.mono fun _ _ => forceK.get
  | _ => exact h.elim
/-- a call: the program's own functions stay, all else is reckoned -/
noncomputable def callK (C : Cx) (T : Tab) (m : Nat) (v : Value) (ds : List D) (st : Sto) (K : KD) (E : KV) : Prop :=
  match v with
  | .ref a => (match (T.fn a).isSome with
    | true => CallK (R C T (m + 1) (.v (.val (.ref a))) ds st) K E
    | false => optK (T.cls a) fun ns => if ns.length = ds.length then optK (vals ds) fun l => K (.v (.inst a ns l)) st else False)
  | v => bin1K T v ds st K
theorem callK.ok {C : Cx} {T : Tab} {m : Nat} {v : Value} {ds : List D} {st : Sto} {K : KD} {E : KV} (h : callK C T m v ds st K E) : Ok (R C T (m + 1) (.v (.val v)) ds st) K E := by
  unfold callK at h
  split at h
  · rename_i a
    split at h
    · exact h.ok
    · rename_i hf
      have hf : T.fn a = none := by generalize z : T.fn a = zz; induction zz using Option.casesOn with | none => rfl | some f => rw [z] at hf; (first | subst hf | contradiction | (injection hf with hf; subst hf) | cases hf)
      obtain ⟨ns, h1, h⟩ := h.get
      split at h
      · rename_i hl
        obtain ⟨l, h2, h⟩ := h.get
        exact ok_cls hf h1 hl h2 h
      · exact h.elim
  · rename_i hv
    cases v with
    | ref a => exact absurd rfl (hv a)
    | _ => exact h.ok

noncomputable def clausesK (C : Cx) (J : Scope → En → PySem.Expr → Sto → Out D) (sc : Scope) (ρ : En) (c : Addr) (ns : List Str) (l : List V) : List ExceptHandler → Sto → (Fl × En → Sto → Prop) → Prop
  | [], _, _ => False
  | h :: r, st, K => (match hParts h with
    | none => False
    | some p => (match gName C sc p.1 with
      | some (.ref hc) => (match C.esub c hc with
        | some true => if sc.names.lookup p.2.1 == some .local then LoopK (J sc (setE p.2.1 (.v (.inst c ns l)) ρ) p.2.2 st) (fun d st => K (.ret d, dropE p.2.1 ρ) st) NoE else False
        | some false => clausesK C J sc ρ c ns l r st K
        | none => False)
      | _ => False))

end Mine

end

section
open PySem PySem.W
set_option maxRecDepth 100000
set_option maxHeartbeats 1000000
namespace Mine

/-! what must hold, reckoned on a stack: no lambda stands in what is recorded -/
inductive Ctl where
  | ex (k : Nat) (e : PySem.Expr)
  | tt (k : Nat) (e : PySem.Expr)
  | sts (k : Nat) (ss : List Stmt)
  | retb (k : Nat) (ss : List Stmt)
  | bin (op : Operator)
  | cmp (op : CmpOp)
  | chain (k : Nat) (ops : List CmpOp) (rs : List PySem.Expr)
  | cmpC (k : Nat) (op : CmpOp) (ops : List CmpOp) (rs : List PySem.Expr)
  | notV | notB | truthB
  | ifx (k : Nat) (a b : PySem.Expr)
  | ift (k : Nat) (a b : PySem.Expr)
  | ifs (k : Nat) (a b : List Stmt)
  | retI (k : Nat) (e : PySem.Expr) (r : List Stmt)
  | boolV (k : Nat) (op : BoolOp) (es : List PySem.Expr)
  | allT (k : Nat) (op : BoolOp) (es : List PySem.Expr)
  | tup (n : Nat)
  | lst (n : Nat) (pos : Pos)
  | slice (lo hi : Option PySem.Expr)
  | sub
  | attr (a : Str)
  | meth (k : Nat) (name : Str) (args : List PySem.Expr)
  | callee (k : Nat) (args : List PySem.Expr)
  | call (n : Nat) (v : Value)
  | listM (name : Str) (i n : Nat)
  | comp (k : Nat) (elt target : PySem.Expr) (ifs : List PySem.Expr) (scope : Scope) (pos : Pos)
  | ret | pop
  | sto (x : Str)
  | stoT (xs : List Str)
  | raise (c : Addr) (xi : XcI) (n : Nat)
  | forE (k : Nat) (t : PySem.Expr) (b : List Stmt)
  | loop (k : Nat) (b : List Stmt)
  | restE (E : KV)

noncomputable abbrev Self := List Ctl → List D → En → Sto → KV → Prop
noncomputable abbrev KF := Fl × En → Sto → Prop
noncomputable abbrev XI (C : Cx) (T : Tab) (m k : Nat) : In := XJ C (R C T (m + 1)) (XH C) k

noncomputable def pushes (k : Nat) : List PySem.Expr → List Ctl → List Ctl
  | [], cs => cs
  | e :: es, cs => .ex k e :: pushes k es cs
noncomputable def popA (n : Nat) (stk : List D) : List D := (stk.take n).reverse
noncomputable def popK : Nat → List D → List D → (List D → List D → Prop) → Prop
  | 0, stk, acc, k => k acc stk
  | n + 1, d :: stk, acc, k => popK n stk (d :: acc) k
  | _ + 1, [], _, _ => False
noncomputable def popB (n : Nat) (stk : List D) : List D := stk.drop n

section
variable (S : Self) (cs : List Ctl) (stk : List D) (ρ : En)
noncomputable def afterD (E : KV) (d : D) (st : Sto) : Prop := S cs (d :: stk) ρ st E
noncomputable def afterF (E : KV) (Kf : KF) (p : Fl × En) (st : Sto) : Prop := afterK p st (fun ρ st => S cs stk ρ st E) Kf
noncomputable def afterL (E : KV) (mt : Bool) (acc : List V) (st : Sto) : Prop :=
  match mt with
  | true => S cs (.m st.length :: stk) ρ (st ++ [acc]) E
  | false => S cs (.v (.lst acc) :: stk) ρ st E
variable (st : Sto) (E : KV)
noncomputable def pushD (d : D) : Prop := S cs (d :: stk) ρ st E
noncomputable def pushV (v : V) : Prop := S cs (.v v :: stk) ρ st E
noncomputable def pushB (b : Bool) : Prop := S cs (.v (.bool b) :: stk) ρ st E
noncomputable def pushNB (b : Bool) : Prop := S cs (.v (.bool (!b)) :: stk) ρ st E
noncomputable def pushT (l : List V) : Prop := S cs (.v (.tup l) :: stk) ρ st E
noncomputable def pushL (mt : Bool) (l : List V) : Prop :=
  match mt with
  | true => S cs (.m st.length :: stk) ρ (st ++ [l]) E
  | false => S cs (.v (.lst l) :: stk) ρ st E
noncomputable def pushX (x : V) : Prop :=
  match isVal x with
  | true => False
  | false => S cs (.v x :: stk) ρ st E
noncomputable def cmpN (k : Nat) (ops : List CmpOp) (rs : List PySem.Expr) (b : D) (c : Bool) : Prop := brK c (S (.chain k ops rs :: cs) (b :: stk) ρ st E) (S cs (.v (.bool false) :: stk) ρ st E)
noncomputable def boolN (k : Nat) (op : BoolOp) (e : PySem.Expr) (es : List PySem.Expr) (d : D) (t : Bool) : Prop :=
  match op with
  | .And => brK t (S (.ex k e :: .boolV k op es :: cs) stk ρ st E) (S cs (d :: stk) ρ st E)
  | .Or => brK t (S cs (d :: stk) ρ st E) (S (.ex k e :: .boolV k op es :: cs) stk ρ st E)
noncomputable def sliceN (l : List V) (a b : Option Nat) : Prop := Side (szOk l.length = true) ∧ optK (cutL l a b) fun m => S cs (.v (.lst m) :: stk) ρ st E
end
noncomputable def onK (b : Bool) (p : Prop) : Prop :=
  match b with
  | true => p
  | false => False
noncomputable def offK (b : Bool) (p : Prop) : Prop :=
  match b with
  | true => False
  | false => p
noncomputable def pop1 (stk : List D) (f : D → List D → Prop) : Prop :=
  match stk with
  | d :: r => f d r
  | [] => False
noncomputable def bools (d : D) (f : Bool → Prop) : Prop := optK (boolD d) f

section
variable (C : Cx) (T : Tab) (m : Nat) (sc : Scope) (Kf : KF)
noncomputable def handE (ρ : En) (hs : List ExceptHandler) (x : V) (st : Sto) : Prop :=
  match x with
  | .inst c ns l => clausesK C (XH C) sc ρ c ns l hs st Kf
  | _ => False

noncomputable def goEx (S : Self) (k : Nat) (e : PySem.Expr) (cs : List Ctl) (stk : List D) (ρ : En) (st : Sto) (E : KV) : Prop :=
  match e with
  | .Constant (.int i) _ _ => S cs (.v (.int i) :: stk) ρ st E
  | .Constant (.bool b) _ _ => S cs (.v (.bool b) :: stk) ρ st E
  | .Constant (.str s) _ _ => S cs (.v (.str s) :: stk) ρ st E
  | .Constant .none _ _ => S cs (.v .none :: stk) ρ st E
  | .Name x _ => optK (nameV C sc ρ x) (pushD S cs stk ρ st E)
  | .BinOp l op r _ => offK (C.hand && isShl op) (S (.ex k l :: .ex k r :: .bin op :: cs) stk ρ st E)
  | .UnaryOp .Not x _ => S (.ex k x :: .notV :: cs) stk ρ st E
  | .IfExp c a b _ => S (.tt k c :: .ifx k a b :: cs) stk ρ st E
  | .BoolOp op (e :: es) _ => S (.ex k e :: .boolV k op es :: cs) stk ρ st E
  | .Compare l ops rs _ => onK (noDisp rs && ops.length == rs.length) (S (.ex k l :: .chain k ops rs :: cs) stk ρ st E)
  | .Tuple es _ _ => onK (noStar es && szOk es.length) (S (pushes k es (.tup es.length :: cs)) stk ρ st E)
  | .List es pos => onK (noStar es && szOk es.length) (S (pushes k es (.lst es.length pos :: cs)) stk ρ st E)
  | .Subscript o (.Slice lo hi none _) _ => S (.ex k o :: .slice lo hi :: cs) stk ρ st E
  | .Subscript o i _ => offK (isStar i) (S (.ex k o :: .ex k i :: .sub :: cs) stk ρ st E)
  | .Attribute o a _ => offK (isBare o) (S (.ex k o :: .attr a :: cs) stk ρ st E)
  | .Call (.Attribute o name ap) args [] pos => onK (!isBare o && noStar args && decide (args.length < 20) && ap.endLine == pos.line) (S (.ex k o :: .meth k name args :: cs) stk ρ st E)
  | .Call f args [] _ => offK (isAttr f || !noStar args) (S (.ex k f :: .callee k args :: cs) stk ρ st E)
  | .ListComp elt gens scope pos => (match oneGen gens with
    | some g => onK (((compOk scope sc && !isDisp g.2.1) && isNm g.1) && !C.hand) (S (.ex k g.2.1 :: .comp k elt g.1 g.2.2 scope pos :: cs) stk ρ st E)
    | none => False)
  | _ => False
noncomputable def goTt (S : Self) (k : Nat) (e : PySem.Expr) (cs : List Ctl) (stk : List D) (ρ : En) (st : Sto) (E : KV) : Prop :=
  match e with
  | .UnaryOp .Not x _ => S (.tt k x :: .notB :: cs) stk ρ st E
  | .BoolOp op es _ => (match es with
    | [] => False
    | e :: es => S (.tt k e :: .allT k op es :: cs) stk ρ st E)
  | .IfExp c a b _ => S (.tt k c :: .ift k a b :: cs) stk ρ st E
  | .Compare l ops rs _ => onK (noDisp rs && ops.length == rs.length) (S (.ex k l :: .chain k ops rs :: cs) stk ρ st E)
  | e => S (.ex k e :: .truthB :: cs) stk ρ st E
noncomputable def goSt (S : Self) (k : Nat) (s : Stmt) (cs : List Ctl) (stk : List D) (ρ : En) (st : Sto) (E : KV) : Prop :=
  match s with
  | .Pass _ => S cs stk ρ st E
  | .Break _ => Kf (.brk, ρ) st
  | .Continue _ => Kf (.cont, ρ) st
  | .Return (some e) _ => S [.ex k e, .ret] stk ρ st E
  | .Expr e _ => offK (isComp e) (S (.ex k e :: .pop :: cs) stk ρ st E)
  | .Assign [.Name x _] e _ => offK (isComp e) (S (.ex k e :: .sto x :: cs) stk ρ st E)
  | .Assign [.Tuple ts kk tp] e _ => offK (isComp e) (optK (namesOf ts) fun xs => onK (distinct xs && swOk sc ts kk tp e xs) (S (.ex k e :: .stoT xs :: cs) stk ρ st E))
  | .If c a b _ => S (.tt k c :: .ifs k a b :: cs) stk ρ st E
  | .While c b [] _ => LoopK (whileN (fun ρ st => (XI C T m k).tt sc ρ c st) (fun ρ st => exs ((XI C T m k).st sc) b ρ st) LIM ρ st) (afterF S cs stk E Kf) E
  | .For t it b [] _ => offK (isDisp it) (S (.ex k it :: .forE k t b :: cs) stk ρ st E)
  | .Raise (some (.Call (.Name x _) args [] _)) none _ => (match gName C sc x with
    | some (.ref c) => optK (C.xc c) fun xi => onK (noStar args) (S (pushes k args [.raise c xi args.length]) stk ρ st E)
    | _ => False)
  | .Try body (h :: hs) [] [] _ => S [.retb k body] stk ρ st (handE C sc Kf ρ (h :: hs))
  | _ => False
noncomputable def goC (S : Self) (c : Ctl) (cs : List Ctl) (stk : List D) (ρ : En) (st : Sto) (E : KV) : Prop :=
  match c with
  | .ex k e => (match k with
    | 0 => False
    | k + 1 => goEx C sc S k e cs stk ρ st E)
  | .tt k e => (match k with
    | 0 => False
    | k + 1 => goTt S k e cs stk ρ st E)
  | .sts k ss => (match ss with
    | [] => S cs stk ρ st E
    | s :: r => (match k with
      | 0 => False
      | k + 1 => goSt C T m sc Kf S k s (.sts (k + 1) r :: cs) stk ρ st E))
  | .retb k ss => (match ss with
    | [] => False
    | s :: r => (match retOf s with
      | some e => onK (r.isEmpty) (S [.ex k e, .ret] stk ρ st E)
      | none => (match ifRet s with
        | some p => S [.tt k p.1, .retI k p.2 r] stk ρ st E
        | none => False)))
  | .retI k e r => pop1 stk fun d stk => bools d fun t => brK t (S [.ex k e, .ret] stk ρ st E) (S [.retb k r] stk ρ st E)
  | .bin op => pop1 stk fun b stk => pop1 stk fun a stk => binK op a b (pushV S cs stk ρ st E)
  | .cmp op => pop1 stk fun b stk => pop1 stk fun a stk => cmpK op a b st (pushB S cs stk ρ st E)
  | .chain k ops rs => pop1 stk fun a stk => (match ops, rs with
    | op :: ops, r :: rs => (match ops.isEmpty && rs.isEmpty with
      | true => S (.ex k r :: .cmp op :: cs) (a :: stk) ρ st E
      | false => S (.ex k r :: .cmpC k op ops rs :: cs) (a :: stk) ρ st E)
    | _, _ => False)
  | .cmpC k op ops rs => pop1 stk fun b stk => pop1 stk fun a stk => cmpK op a b st (cmpN S cs stk ρ st E k ops rs b)
  | .notV => pop1 stk fun d stk => optK (truth d) (pushNB S cs stk ρ st E)
  | .notB => pop1 stk fun d stk => bools d (pushNB S cs stk ρ st E)
  | .truthB => pop1 stk fun d stk => optK (truth d) (pushB S cs stk ρ st E)
  | .ifx k a b => pop1 stk fun d stk => bools d fun t => brK t (S (.ex k a :: cs) stk ρ st E) (S (.ex k b :: cs) stk ρ st E)
  | .ift k a b => pop1 stk fun d stk => bools d fun t => brK t (S (.tt k a :: cs) stk ρ st E) (S (.tt k b :: cs) stk ρ st E)
  | .ifs k a b => pop1 stk fun d stk => bools d fun t => brK t (S (.sts k a :: cs) stk ρ st E) (S (.sts k b :: cs) stk ρ st E)
  | .boolV k op es => pop1 stk fun d stk => (match es with
    | [] => S cs (d :: stk) ρ st E
    | e :: es => optK (truth d) (boolN S cs stk ρ st E k op e es d))
  | .allT k op es => pop1 stk fun d stk => (match es with
    | [] => bools d (pushB S cs stk ρ st E)
    | e :: es => bools d fun t => (match op with
      | .And => brK t (S (.tt k e :: .allT k op es :: cs) stk ρ st E) (S cs (.v (.bool false) :: stk) ρ st E)
      | .Or => brK t (S cs (.v (.bool true) :: stk) ρ st E) (S (.tt k e :: .allT k op es :: cs) stk ρ st E)))
  | .tup n => popK n stk [] fun ds stk => optK (vals ds) (pushT S cs stk ρ st E)
  | .lst n pos => popK n stk [] fun ds stk => optK (vals ds) (pushL S cs stk ρ st E (C.mt pos))
  | .slice lo hi => pop1 stk fun d stk => optK (lstD d) fun l => optK (partI lo) fun a => optK (partI hi) fun b => sliceN S cs stk ρ st E l a b
  | .sub => pop1 stk fun k stk => pop1 stk fun d stk => optK (sub1 d k st) (pushV S cs stk ρ st E)
  | .attr a => pop1 stk fun d stk => (match d with
    | .v (.inst c ns vs) => onK (C.attr c a) (optK ((ns.zip vs).lookup a) (pushX S cs stk ρ st E))
    | _ => False)
  | .meth k name args => pop1 stk fun d stk => (match d with
    | .m i => S (pushes k args (.restE E :: .listM name i args.length :: cs)) stk ρ st NoE
    | .v (.int i) => outK (intM name i args st) (afterD S cs stk ρ E)
    | .v (.inst c ns vs) => optK (C.meth c name) fun f => offK (ns.contains name) (S (pushes k args (.call (args.length + 1) (.ref f) :: cs)) (.v (.inst c ns vs) :: stk) ρ st E)
    | _ => False)
  | .callee k args => pop1 stk fun d stk => (match d with
    | .v (.val v) => onK (C.able v) (S (pushes k args (.call args.length v :: cs)) stk ρ st E)
    | _ => False)
  | .call n v => popK n stk [] fun ds stk => callK C T m v ds st (afterD S cs stk ρ E) E
  | .listM name i n => popK n stk [] fun ds stk => LoopK (listM name i ds st) (afterD S cs stk ρ E) E
  | .comp k elt t ifs scope pos => pop1 stk fun d stk => optK (itemsOf d) fun l => LoopK (compL (putT (relab scope sc) t) (tests ((XI C T m k).tt (relab scope sc)) ifs) (fun ρ st => (XI C T m k).ex (relab scope sc) ρ elt st) l (freeOf (relab scope sc) ρ) [] st) (afterL S cs stk ρ E (C.mt pos)) E
  | .ret => pop1 stk fun d _ => Kf (.ret d, ρ) st
  | .pop => pop1 stk fun _ stk => S cs stk ρ st E
  | .sto x => pop1 stk fun d stk => onK (sc.names.lookup x == some .local) (S cs stk (setE x d ρ) st E)
  | .stoT xs => pop1 stk fun d stk => optK (tupD d) fun l => optK (putAll sc xs l ρ) fun ρ' => S cs stk ρ' st E
  | .raise c xi n => popK n stk [] fun ds _ => optK (vals ds) fun l => onK (l.length == xi.ps.length) (E (.inst c xi.ns (xi.vs l)) st)
  | .forE k t b => pop1 stk fun d stk => optK (itemsOf d) fun l => LoopK (forL (putT sc t) (fun ρ st => exs ((XI C T m k).st sc) b ρ st) l ρ st) (afterF S cs stk E Kf) E
  | .loop k b => pop1 stk fun d stk => bools d fun t => brK t (S (.sts k b :: cs) stk ρ st E) (Kf (.brk, ρ) st)
  | .restE E => S cs stk ρ st E
noncomputable def go : Nat → Self
  | 0, _, _, _, _, _ => False
  | _ + 1, [], _, ρ, st, _ => Kf (.next, ρ) st
  | N + 1, c :: cs, stk, ρ, st, E => goC C T m sc Kf (go N) c cs stk ρ st E
end
end Mine

end

section
open PySem PySem.W
set_option maxRecDepth 100000
set_option maxHeartbeats 1000000
namespace Mine
noncomputable abbrev SK := List D → En → Sto → KV → Prop
section
variable (C : Cx) (T : Tab) (m : Nat) (sc : Scope) (Kf : KF)
/-- what a piece of the control stands for -/
noncomputable def semC (c : Ctl) (K : SK) (stk : List D) (ρ : En) (st : Sto) (E : KV) : Prop :=
  let vx := fun (e : Out D) (stk : List D) => Ok e (fun d st => K (d :: stk) ρ st E) E
  let vb := fun (e : Out Bool) (stk : List D) => Ok e (fun b st => K (.v (.bool b) :: stk) ρ st E) E
  let vs := fun (e : Out (Fl × En)) (stk : List D) => Ok e (fun p st => afterK p st (fun ρ st => K stk ρ st E) Kf) E
  let vr := fun (e : Out D) => Ok e (fun d st => Kf (.ret d, ρ) st) E
  match c with
  | .ex k e => vx ((XI C T m k).ex sc ρ e st) stk
  | .tt k e => vb ((XI C T m k).tt sc ρ e st) stk
  | .sts k ss => vs (exs ((XI C T m k).st sc) ss ρ st) stk
  | .retb k ss => vr (retB ((XI C T m k).ex sc ρ) ((XI C T m k).tt sc ρ) ss st)
  | .retI k e r => pop1 stk fun d _ => bools d fun t => (t = true → vr ((XI C T m k).ex sc ρ e st)) ∧ (t = false → vr (retB ((XI C T m k).ex sc ρ) ((XI C T m k).tt sc ρ) r st))
  | .bin op => pop1 stk fun b stk => pop1 stk fun a stk => optK (binop op a b) fun v => K (.v v :: stk) ρ st E
  | .cmp op => pop1 stk fun b stk => pop1 stk fun a stk => optK (Mine.cmp op a b st) fun v => K (.v (.bool v) :: stk) ρ st E
  | .chain k ops rs => pop1 stk fun a stk => vb (Mine.chain ((XI C T m k).ex sc ρ) a ops rs st) stk
  | .cmpC k op ops rs => pop1 stk fun b stk => pop1 stk fun a stk => optK (Mine.cmp op a b st) fun c => (c = true → vb (Mine.chain ((XI C T m k).ex sc ρ) b ops rs st) stk) ∧ (c = false → K (.v (.bool false) :: stk) ρ st E)
  | .notV => pop1 stk fun d stk => optK (truth d) fun b => K (.v (.bool (!b)) :: stk) ρ st E
  | .notB => pop1 stk fun d stk => bools d fun b => K (.v (.bool (!b)) :: stk) ρ st E
  | .truthB => pop1 stk fun d stk => optK (truth d) fun b => K (.v (.bool b) :: stk) ρ st E
  | .ifx k a b => pop1 stk fun d stk => bools d fun t => (t = true → vx ((XI C T m k).ex sc ρ a st) stk) ∧ (t = false → vx ((XI C T m k).ex sc ρ b st) stk)
  | .ift k a b => pop1 stk fun d stk => bools d fun t => (t = true → vb ((XI C T m k).tt sc ρ a st) stk) ∧ (t = false → vb ((XI C T m k).tt sc ρ b st) stk)
  | .ifs k a b => pop1 stk fun d stk => bools d fun t => (t = true → vs (exs ((XI C T m k).st sc) a ρ st) stk) ∧ (t = false → vs (exs ((XI C T m k).st sc) b ρ st) stk)
  | .boolV k op es => pop1 stk fun d stk => (match es with
    | [] => K (d :: stk) ρ st E
    | e :: es => optK (truth d) fun t => (t = true → (match op with
      | .And => vx (Mine.boolV ((XI C T m k).ex sc ρ) op (e :: es) st) stk
      | .Or => K (d :: stk) ρ st E)) ∧ (t = false → (match op with
      | .And => K (d :: stk) ρ st E
      | .Or => vx (Mine.boolV ((XI C T m k).ex sc ρ) op (e :: es) st) stk)))
  | .allT k op es => pop1 stk fun d stk => bools d fun t => (t = true → (match op with
      | .And => vb (Mine.allT ((XI C T m k).tt sc ρ) op es st) stk
      | .Or => K (.v (.bool true) :: stk) ρ st E)) ∧ (t = false → (match op with
      | .And => K (.v (.bool false) :: stk) ρ st E
      | .Or => vb (Mine.allT ((XI C T m k).tt sc ρ) op es st) stk))
  | .tup n => optK (vals (popA n stk)) fun l => K (.v (.tup l) :: popB n stk) ρ st E
  | .lst n pos => optK (vals (popA n stk)) fun l => (if C.mt pos then K (.m st.length :: popB n stk) ρ (st ++ [l]) E else K (.v (.lst l) :: popB n stk) ρ st E)
  | .slice lo hi => pop1 stk fun d stk => ∃ l a b m, d = .v (.lst l) ∧ partI lo = some a ∧ partI hi = some b ∧ szOk l.length = true ∧ cutL l a b = some m ∧ K (.v (.lst m) :: stk) ρ st E
  | .sub => pop1 stk fun k stk => pop1 stk fun d stk => optK (sub1 d k st) fun v => K (.v v :: stk) ρ st E
  | .attr a => pop1 stk fun d stk => ∃ c ns vs x, d = .v (.inst c ns vs) ∧ C.attr c a = true ∧ (ns.zip vs).lookup a = some x ∧ isVal x = false ∧ K (.v x :: stk) ρ st E
  | .meth k name args => pop1 stk fun d stk => vx (match d with
      | .m i => (evs ((XI C T m k).ex sc ρ) args st).quiet.bind fun ds st => Mine.listM name i ds st
      | .v (.int i) => intM name i args st
      | .v (.inst c ns _) => (match C.meth c name with
        | some f => if ns.contains name then .stuck else (evs ((XI C T m k).ex sc ρ) args st).bind fun ds st => R C T (m + 1) (.v (.val (.ref f))) (d :: ds) st
        | Option.none => .stuck)
      | _ => .stuck) stk
  | .callee k args => pop1 stk fun d stk => vx (match d with
      | .v (.val v) => if C.able v then (evs ((XI C T m k).ex sc ρ) args st).bind fun ds st => R C T (m + 1) d ds st else .stuck
      | _ => .stuck) stk
  | .call n v => vx (R C T (m + 1) (.v (.val v)) (popA n stk) st) (popB n stk)
  | .listM name i n => vx (Mine.listM name i (popA n stk) st) (popB n stk)
  | .comp k elt t ifs scope pos => pop1 stk fun d stk => optK (itemsOf d) fun l => Ok (compL (putT (relab scope sc) t) (tests ((XI C T m k).tt (relab scope sc)) ifs) (fun ρ st => (XI C T m k).ex (relab scope sc) ρ elt st) l (freeOf (relab scope sc) ρ) [] st)
      (fun acc st => if C.mt pos then K (.m st.length :: stk) ρ (st ++ [acc]) E else K (.v (.lst acc) :: stk) ρ st E) E
  | .ret => pop1 stk fun d _ => Kf (.ret d, ρ) st
  | .pop => pop1 stk fun _ stk => K stk ρ st E
  | .sto x => pop1 stk fun d stk => (sc.names.lookup x == some .local) = true ∧ K stk (setE x d ρ) st E
  | .stoT xs => pop1 stk fun d stk => ∃ l ρ', d = .v (.tup l) ∧ putAll sc xs l ρ = some ρ' ∧ K stk ρ' st E
  | .raise c xi n => ∃ l, vals (popA n stk) = some l ∧ (l.length == xi.ps.length) = true ∧ E (.inst c xi.ns (xi.vs l)) st
  | .forE k t b => pop1 stk fun d stk => optK (itemsOf d) fun l => vs (forL (putT sc t) (fun ρ st => exs ((XI C T m k).st sc) b ρ st) l ρ st) stk
  | .loop k b => pop1 stk fun d stk => bools d fun t => (t = true → vs (exs ((XI C T m k).st sc) b ρ st) stk) ∧ (t = false → Kf (.brk, ρ) st)
  | .restE E => K stk ρ st E
noncomputable def sem : List Ctl → SK
  | [], _, ρ, st, _ => Kf (.next, ρ) st
  | c :: cs, stk, ρ, st, E => semC C T m sc Kf c (sem cs) stk ρ st E
end

theorem optK.mono {α : Type} {o : Option α} {k k' : α → Prop} (h : optK o k) (i : ∀ a, k a → k' a) : optK o k' := by
  induction o using Option.casesOn with
  | none => exact h
  | some a => exact i a h
theorem pop1.mono {stk : List D} {f f' : D → List D → Prop} (h : pop1 stk f) (i : ∀ d r, f d r → f' d r) : pop1 stk f' := by
  induction stk using List.casesOn with
  | nil => exact h
  | cons d r => exact i d r h
theorem popK.get0 {k : List D → List D → Prop} : ∀ {n : Nat} {stk acc : List D}, popK n stk acc k → k ((stk.take n).reverse ++ acc) (stk.drop n)
  | 0, _, _, h => h
  | n + 1, d :: stk, acc, h => by
    have h := popK.get0 (n := n) h
    rw [List.take_succ_cons, List.reverse_cons, List.append_assoc]; exact h
  | _ + 1, [], _, h => h.elim
theorem popK.get {k : List D → List D → Prop} {n : Nat} {stk : List D} (h : popK n stk [] k) : k (popA n stk) (popB n stk) := by
  have h := popK.get0 h
  rw [List.append_nil] at h; exact h
theorem popA_rev {ds stk : List D} : popA ds.length (ds.reverse ++ stk) = ds := by
  unfold popA
  rw [← List.length_reverse, List.take_left, List.reverse_reverse]
theorem popB_rev {ds stk : List D} : popB ds.length (ds.reverse ++ stk) = stk := by
  unfold popB
  rw [← List.length_reverse, List.drop_left]

section
variable {C : Cx} {T : Tab} {m : Nat} {sc : Scope} {Kf : KF} {S : Self} {cs : List Ctl} {stk : List D} {ρ : En} {st : Sto} {E : KV} {k : Nat}
noncomputable def Fit (C : Cx) (T : Tab) (m : Nat) (sc : Scope) (Kf : KF) (S : Self) : Prop := ∀ cs stk ρ st E, S cs stk ρ st E → sem C T m sc Kf cs stk ρ st E

theorem sem_pushes : ∀ {es : List PySem.Expr} {stk : List D} {st : Sto}, sem C T m sc Kf (pushes k es cs) stk ρ st E → Ok (evs ((XI C T m k).ex sc ρ) es st) (fun ds st => ds.length = es.length ∧ sem C T m sc Kf cs (ds.reverse ++ stk) ρ st E) E
  | [], _, _, h => ⟨rfl, h⟩
  | e :: es, stk, st, h => by
    unfold evs
    exact Ok.bind (Ok.mono h fun d st h => Ok.bind ((sem_pushes h).mono fun ds st h => ⟨congrArg (· + 1) h.1, by rw [List.reverse_cons, List.append_assoc]; exact h.2⟩))
theorem args_sem {α : Type} {es : List PySem.Expr} {f : List D → Sto → Out α} {Q : α → Sto → Prop} {stk : List D} (h : sem C T m sc Kf (pushes k es cs) stk ρ st E)
    (i : ∀ ds st, ds.length = es.length → sem C T m sc Kf cs (ds.reverse ++ stk) ρ st E → Ok (f ds st) Q E) : Ok ((evs ((XI C T m k).ex sc ρ) es st).bind f) Q E :=
  Ok.bind ((sem_pushes h).mono fun ds st h => i ds st h.1 h.2)
end
end Mine

end

section
open PySem PySem.W
set_option maxRecDepth 100000
set_option maxHeartbeats 1000000
namespace Mine
section
variable {α : Type} {b : Bool} {p : Prop} {r r' : Out α} {Q : α → Sto → Prop} {E : KV}
theorem onK.get (h : onK b p) : b = true ∧ p := by
  induction b using Bool.casesOn with
  | true => exact ⟨rfl, h⟩
  | false => exact h.elim
theorem offK.get (h : offK b p) : b = false ∧ p := by
  induction b using Bool.casesOn with
  | true => exact h.elim
  | false => exact ⟨rfl, h⟩
theorem onK_ok (h : onK b p) (i : p → Ok r Q E) : Ok (if b then r else .stuck) Q E := by
  rw [if_pos h.get.1]; exact i h.get.2
theorem offK_ok (h : offK b p) (i : p → Ok r Q E) : Ok (if b then .stuck else r) Q E := by
  rw [if_neg (by rw [h.get.1]; decide)]; exact i h.get.2
theorem ofO_ok {o : Option α} {st : Sto} (h : optK o fun a => Q a st) : Ok (ofO st o) Q E := by
  induction o using Option.casesOn with
  | none => exact h.elim
  | some a => exact h
theorem map_ok {β : Type} {o : Option β} {f : β → α} {st : Sto} (h : optK o fun a => Q (f a) st) : Ok (ofO st (o.map f)) Q E := by
  induction o using Option.casesOn with
  | none => exact h.elim
  | some a => exact h
theorem brK.mono {t : Bool} {p q p' q' : Prop} (h : brK t p q) (i : p → p') (j : q → q') : (t = true → p') ∧ (t = false → q') := ⟨fun e => i (h.1 e), fun e => j (h.2 e)⟩
theorem mt_ok {mt : Bool} {a b : α} {s₁ s₂ : Sto} (h : if mt then Q a s₁ else Q b s₂) : Ok (if mt then .ok a s₁ else .ok b s₂) Q E := by
  cases mt <;> exact h
theorem if_of {a b : Sto → Out α} {t : Bool} {st : Sto} (h : (t = true → Ok (a st) Q E) ∧ (t = false → Ok (b st) Q E)) : Ok (if t then a st else b st) Q E := by
  induction t using Bool.casesOn with
  | true => exact h.1 rfl
  | false => exact h.2 rfl
theorem binK.o {op : Operator} {a b : D} {k : V → Prop} (h : binK op a b k) : optK (binop op a b) k := by
  obtain ⟨v, e, h⟩ := h.get
  exact .of e h
theorem cmpK.o {op : CmpOp} {a b : D} {st : Sto} {k : Bool → Prop} (h : cmpK op a b st k) : optK (cmp op a b st) k := by
  obtain ⟨v, e, h⟩ := h.get
  exact .of e h
end

section
variable {C : Cx} {T : Tab} {m : Nat} {sc : Scope} {Kf : KF} {S : Self} {cs : List Ctl} {stk : List D} {ρ : En} {st : Sto} {E : KV} {k : Nat}

theorem name_ok {x : Str} {p : Pos} {K : KD} (h : optK (nameV C sc ρ x) fun d => K d st) : Ok ((XI C T m (k + 1)).ex sc ρ (.Name x p) st) K E := by
  have : (XI C T m (k + 1)).ex sc ρ (.Name x p) st = ofO st (nameV C sc ρ x) := by
    show (if badName x then Out.stuck else if isLoc sc x then ofO st (ρ.lookup x) else if sc.names.lookup x == some .globalImplicit then ofO st ((C.G x).map fun v => D.v (gV v)) else .stuck) = _
    unfold nameV
    split
    · rfl
    · split
      · rfl
      · split <;> rfl
  rw [this]
  exact ofO_ok h
theorem sem_sub (hS : Fit C T m sc Kf S) {o i : PySem.Expr} (h : offK (isStar i) (S (.ex k o :: .ex k i :: .sub :: cs) stk ρ st E)) : Ok (if isStar i then .stuck else ((XI C T m k).ex sc ρ o st).bind fun d st => ((XI C T m k).ex sc ρ i st).bind fun k st => ofO st ((sub1 d k st).map D.v)) (fun d st => sem C T m sc Kf cs (d :: stk) ρ st E) E :=
  offK_ok h fun h => Ok.bind (Ok.mono (hS _ _ _ _ _ h) fun _ _ h => Ok.bind (Ok.mono h fun _ _ h => map_ok h))
theorem sem_slice (hS : Fit C T m sc Kf S) {o : PySem.Expr} {lo hi : Option PySem.Expr} (h : S (.ex k o :: .slice lo hi :: cs) stk ρ st E) : Ok (((XI C T m k).ex sc ρ o st).bind fun d st => match d, partI lo, partI hi with
      | .v (.lst l), some a, some b => if szOk l.length then ofO st ((cutL l a b).map fun m => D.v (.lst m)) else .stuck
      | _, _, _ => .stuck) (fun d st => sem C T m sc Kf cs (d :: stk) ρ st E) E :=
  Ok.bind (Ok.mono (hS _ _ _ _ _ h) fun d st h => by
    obtain ⟨l, a, b, mm, rfl, h2, h3, h4, h5, h⟩ := h
    rw [h2, h3]
    show Ok (if szOk l.length then _ else _) _ E
    rw [if_pos h4, h5]
    exact h)
theorem sem_call (hS : Fit C T m sc Kf S) {f : PySem.Expr} {args : List PySem.Expr} (h : offK (isAttr f || !noStar args) (S (.ex k f :: .callee k args :: cs) stk ρ st E)) : Ok (if isAttr f || !noStar args then .stuck else ((XI C T m k).ex sc ρ f st).bind fun d st => match d with
        | .v (.val v) => if C.able v then (evs ((XI C T m k).ex sc ρ) args st).bind fun ds st => R C T (m + 1) d ds st else .stuck
        | _ => .stuck) (fun d st => sem C T m sc Kf cs (d :: stk) ρ st E) E :=
  offK_ok h fun h => Ok.bind (hS _ _ _ _ _ h)
theorem gx_call (hS : Fit C T m sc Kf S) {f : PySem.Expr} {args : List PySem.Expr} {kws : List Keyword} {pos : Pos} : goEx C sc S k (.Call f args kws pos) cs stk ρ st E → sem C T m sc Kf (.ex (k + 1) (.Call f args kws pos) :: cs) stk ρ st E := by
  have gen := @sem_call C T m sc Kf S cs stk ρ st E k hS f args
  induction kws using List.casesOn with
  | cons _ _ => cases f <;> exact False.elim
  | nil =>
    induction f using PySem.Expr.casesOn with
    | Attribute o name ap => exact fun h => onK_ok h fun h => Ok.bind (hS _ _ _ _ _ h)
    | _ => exact gen
theorem gx_sub (hS : Fit C T m sc Kf S) {o i : PySem.Expr} {pos : Pos} : goEx C sc S k (.Subscript o i pos) cs stk ρ st E → sem C T m sc Kf (.ex (k + 1) (.Subscript o i pos) :: cs) stk ρ st E := by
  have gen := @sem_sub C T m sc Kf S cs stk ρ st E k hS o i
  induction i using PySem.Expr.casesOn with
  | Slice lo hi stp p =>
    induction stp using Option.casesOn with
    | some z => exact gen
    | none => exact sem_slice hS
  | _ => exact gen
theorem boolV_sem {op : BoolOp} {e : PySem.Expr} {es : List PySem.Expr} (h : sem C T m sc Kf (.ex k e :: .boolV k op es :: cs) stk ρ st E) : Ok (boolV ((XI C T m k).ex sc ρ) op (e :: es) st) (fun d st => sem C T m sc Kf cs (d :: stk) ρ st E) E := by
  induction es using List.casesOn with
  | nil => exact h
  | cons e' es =>
    induction op using PySem.BoolOp.casesOn with
    | And =>
      exact ok_boolV_and (Ok.mono h fun d st h => by
        obtain ⟨t, h1, h2⟩ := optK.get h
        exact ⟨t, h1, h2.2, h2.1⟩)
    | Or =>
      exact ok_boolV_or (Ok.mono h fun d st h => by
        obtain ⟨t, h1, h2⟩ := optK.get h
        exact ⟨t, h1, h2.1, h2.2⟩)
theorem goEx_ok (hS : Fit C T m sc Kf S) {e : PySem.Expr} (h : goEx C sc S k e cs stk ρ st E) : sem C T m sc Kf (.ex (k + 1) e :: cs) stk ρ st E := by
  induction e using PySem.Expr.casesOn with
  | Constant c kk pos => cases c <;> first | exact (hS _ _ _ _ _ h : sem C T m sc Kf cs _ ρ st E) | exact False.elim h
  | Name x pos => exact name_ok (optK.mono h fun d h => hS _ _ _ _ _ h)
  | BinOp l op r pos => exact offK_ok h fun h => Ok.bind (Ok.mono (hS _ _ _ _ _ h) fun _ _ h => Ok.bind (Ok.mono h fun _ _ h => map_ok h))
  | UnaryOp op x pos =>
    induction op using PySem.UnaryOp.casesOn with
    | Not => exact Ok.bind (Ok.mono (hS _ _ _ _ _ h) fun _ _ h => map_ok h)
    | _ => exact h.elim
  | IfExp c a b pos => exact Ok.bind (Ok.mono (hS _ _ _ _ _ h) fun _ _ h => if_of h)
  | BoolOp op vs pos =>
    induction vs using List.casesOn with
    | nil => exact h.elim
    | cons e es => exact boolV_sem (hS _ _ _ _ _ h)
  | Compare l ops rs pos => exact onK_ok h fun h => Ok.bind (Ok.mono (hS _ _ _ _ _ h) fun _ _ h => Ok.bind h)
  | Tuple es kk pos =>
    exact onK_ok h fun h => args_sem (hS _ _ _ _ _ h) fun ds st hl h => by
      rw [← hl] at h
      have h : optK (vals (popA ds.length (ds.reverse ++ stk))) fun l => sem C T m sc Kf cs (.v (.tup l) :: popB ds.length (ds.reverse ++ stk)) ρ st E := h
      rw [popA_rev, popB_rev] at h
      exact map_ok h
  | List es pos =>
    exact onK_ok h fun h => args_sem (hS _ _ _ _ _ h) fun ds st hl h => by
      rw [← hl] at h
      have h : optK (vals (popA ds.length (ds.reverse ++ stk))) fun l => (if C.mt pos then sem C T m sc Kf cs (.m st.length :: popB ds.length (ds.reverse ++ stk)) ρ (st ++ [l]) E else sem C T m sc Kf cs (.v (.lst l) :: popB ds.length (ds.reverse ++ stk)) ρ st E) := h
      rw [popA_rev, popB_rev] at h
      obtain ⟨l, h1, h⟩ := optK.get h
      rw [h1]
      exact mt_ok h
  | Attribute o a pos =>
    exact offK_ok h fun h => Ok.bind (Ok.mono (hS _ _ _ _ _ h) fun d st h => by
      obtain ⟨c, ns, vs, x, rfl, h1, h2, h3, h⟩ := h
      dsimp only
      rw [if_pos h1, h2]
      dsimp only
      rw [if_neg (by rw [h3]; decide)]
      exact h)
  | Subscript o i pos => exact gx_sub hS h
  | Call f args kws pos => exact gx_call hS h
  | ListComp elt gens scope pos =>
    change (match oneGen gens with | some g => onK _ _ | none => False) at h
    show Ok (match oneGen gens with | some (target, iter, ifs) => _ | none => _) _ E
    generalize hg : oneGen gens = zz
    induction zz using Option.casesOn with
    | none => rw [hg] at h; exact h.elim
    | some g =>
      rw [hg] at h
      exact onK_ok h fun h => Ok.bind (Ok.mono (hS _ _ _ _ _ h) fun d st h => by
        obtain ⟨l, h1, h⟩ := optK.get h
        rw [h1]
        exact Ok.bind (h.mono fun acc st h => mt_ok h))
  | _ => exact h.elim
end
end Mine

end

section
open PySem PySem.W
set_option maxRecDepth 100000
set_option maxHeartbeats 1000000
namespace Mine
theorem clausesK_ok {C : Cx} {J : Scope → En → PySem.Expr → Sto → Out D} {sc : Scope} {ρ : En} {c : Addr} {ns : List Str} {l : List V} {E : KV} : ∀ {hs : List ExceptHandler} {st : Sto} {K K' : Fl × En → Sto → Prop}, clausesK C J sc ρ c ns l hs st K → (∀ d ρ st, K (.ret d, ρ) st → K' (.ret d, ρ) st) → Ok (clauses C J sc ρ c ns l hs st) K' E
  | [], _, _, _, h, _ => h.elim
  | hd :: r, st, K, K', h, i => by
    unfold clausesK at h
    unfold clauses
    generalize h1 : hParts hd = zz
    induction zz using Option.casesOn with
    | none => rw [h1] at h; exact h.elim
    | some p =>
      rw [h1] at h
      dsimp only at h ⊢
      split at h
      · rename_i hc hg
        try rw [hg]
        try dsimp only
        split at h
        · rename_i hs
          try rw [hs]
          try dsimp only
          split at h
          · rename_i hn
            rw [if_pos hn]
            exact Ok.bind (Ok.quiet (h.ok.mono fun d st h => i _ _ _ h))
          · exact h.elim
        · rename_i hs
          try rw [hs]
          exact clausesK_ok h i
        · exact h.elim
      · exact h.elim

section
variable {C : Cx} {T : Tab} {m : Nat} {sc : Scope} {Kf : KF} {S : Self} {cs : List Ctl} {stk : List D} {ρ : En} {st : Sto} {E : KV} {k : Nat}
theorem tt_gen (hS : Fit C T m sc Kf S) {e : PySem.Expr} (h : S (.ex k e :: .truthB :: cs) stk ρ st E) : Ok (((XI C T m k).ex sc ρ e st).bind fun d st => ofO st (truth d)) (fun b st => sem C T m sc Kf cs (.v (.bool b) :: stk) ρ st E) E :=
  Ok.bind (Ok.mono (hS _ _ _ _ _ h) fun _ _ h => ofO_ok h)
theorem allT_ok {op : BoolOp} {e : PySem.Expr} {es : List PySem.Expr} (h : sem C T m sc Kf (.tt k e :: .allT k op es :: cs) stk ρ st E) : Ok (allT ((XI C T m k).tt sc ρ) op (e :: es) st) (fun b st => sem C T m sc Kf cs (.v (.bool b) :: stk) ρ st E) E := by
  induction op using PySem.BoolOp.casesOn with
  | And => exact ok_allT_and h
  | Or => exact ok_allT_or h
theorem goTt_ok (hS : Fit C T m sc Kf S) {e : PySem.Expr} : goTt S k e cs stk ρ st E → sem C T m sc Kf (.tt (k + 1) e :: cs) stk ρ st E := by
  have gen := @tt_gen C T m sc Kf S cs stk ρ st E k hS e
  induction e using PySem.Expr.casesOn with
  | UnaryOp op x pos =>
    induction op using PySem.UnaryOp.casesOn with
    | Not => exact fun h => Ok.bind (hS _ _ _ _ _ h)
    | _ => exact gen
  | BoolOp op vs pos =>
    induction vs using List.casesOn with
    | nil => exact False.elim
    | cons e es => exact fun h => allT_ok (hS _ _ _ _ _ h)
  | IfExp c a b pos => exact fun h => Ok.bind (Ok.mono (hS _ _ _ _ _ h) fun _ _ h => if_of h)
  | Compare l ops rs pos => exact fun h => onK_ok h fun h => Ok.bind (hS _ _ _ _ _ h)
  | _ => exact gen

theorem exs_of {s : Stmt} {r : List Stmt} (h : Ok ((XI C T m (k + 1)).st sc ρ s st) (fun p st => afterK p st (fun ρ st => sem C T m sc Kf (.sts (k + 1) r :: cs) stk ρ st E) Kf) E) : sem C T m sc Kf (.sts (k + 1) (s :: r) :: cs) stk ρ st E := by
  refine ok_exs_cons (h.mono fun p st h => ?_)
  obtain ⟨fl, ρ'⟩ := p
  cases fl <;> exact h
theorem st_asg (hS : Fit C T m sc Kf S) {ts : List PySem.Expr} {e : PySem.Expr} {pos : Pos} (h : goSt C T m sc Kf S k (.Assign ts e pos) cs stk ρ st E) : Ok ((XI C T m (k + 1)).st sc ρ (.Assign ts e pos) st) (fun p st => afterK p st (fun ρ st => sem C T m sc Kf cs stk ρ st E) Kf) E := by
  induction ts using List.casesOn with
  | nil => exact h.elim
  | cons t r =>
    induction r using List.casesOn with
    | cons t' r' => cases t <;> exact h.elim
    | nil =>
      induction t using PySem.Expr.casesOn with
      | Name x p =>
        exact offK_ok h fun h => Ok.bind (Ok.mono (hS _ _ _ _ _ h) fun d st h => by
          obtain ⟨h1, h⟩ := h
          rw [if_pos h1]; exact h)
      | Tuple es kk tp =>
        refine offK_ok h fun h => ?_
        obtain ⟨xs, h1, h⟩ := optK.get h
        show Ok (match namesOf es with | some xs => _ | none => _) _ E
        rw [h1]
        exact onK_ok h fun h => Ok.bind (Ok.mono (hS _ _ _ _ _ h) fun d st h => by
          obtain ⟨l, ρ', rfl, h3, h⟩ := h
          dsimp only
          rw [h3]; exact h)
      | _ => exact h.elim
theorem st_raise (hS : Fit C T m sc Kf S) {x : Str} {np cp pos : Pos} {args : List PySem.Expr} {Q : Fl × En → Sto → Prop} (h : goSt C T m sc Kf S k (.Raise (some (.Call (.Name x np) args [] cp)) none pos) cs stk ρ st E) : Ok ((XI C T m (k + 1)).st sc ρ (.Raise (some (.Call (.Name x np) args [] cp)) none pos) st) Q E := by
  change (match gName C sc x with
      | some (.ref c) => optK (C.xc c) fun xi => onK (noStar args) (S (pushes k args [.raise c xi args.length]) stk ρ st E)
      | _ => False) at h
  show Ok (match gName C sc x with
      | some (.ref c) => (match C.xc c with
        | some xi => if noStar args then (evs ((XI C T m k).ex sc ρ) args st).bind fun ds st => (match vals ds with
            | some l => if l.length == xi.ps.length then .exc (.inst c xi.ns (xi.vs l)) st else .stuck
            | Option.none => .stuck) else .stuck
        | Option.none => .stuck)
      | _ => .stuck) _ E
  split at h
  · rename_i c hg
    obtain ⟨xi, h1, h⟩ := h.get
    rw [h1]
    exact onK_ok h fun h => args_sem (hS _ _ _ _ _ h) fun ds st hl h => by
      rw [← hl] at h
      obtain ⟨l, h2, h3, h4⟩ := h
      rw [popA_rev] at h2
      rw [h2]
      dsimp only
      rw [if_pos h3]; exact h4
  · exact h.elim
theorem st_try (hS : Fit C T m sc Kf S) {body : List Stmt} {h₀ : ExceptHandler} {hs : List ExceptHandler} {pos : Pos} (h : goSt C T m sc Kf S k (.Try body (h₀ :: hs) [] [] pos) cs stk ρ st E) : Ok ((XI C T m (k + 1)).st sc ρ (.Try body (h₀ :: hs) [] [] pos) st) (fun p st => afterK p st (fun ρ st => sem C T m sc Kf cs stk ρ st E) Kf) E := by
  have h := hS _ _ _ _ _ h
  have h : Ok (retB ((XI C T m k).ex sc ρ) ((XI C T m k).tt sc ρ) body st) (fun d st => Kf (.ret d, ρ) st) (handE C sc Kf ρ (h₀ :: hs)) := h
  show Ok (match retB ((XI C T m k).ex sc ρ) ((XI C T m k).tt sc ρ) body st with
      | .ok d st => .ok (.ret d, ρ) st
      | .exc (.inst c ns l) st => clauses C (XH C) sc ρ c ns l (h₀ :: hs) st
      | _ => .stuck) _ E
  revert h
  generalize retB ((XI C T m k).ex sc ρ) ((XI C T m k).tt sc ρ) body st = r
  intro h
  induction r using Mine.Out.casesOn with
  | ok d st => exact h
  | stuck => exact h.elim
  | exc x st =>
    induction x using Mine.V.casesOn with
    | inst c ns l => exact clausesK_ok h fun _ _ _ h => h
    | _ => exact h.elim
theorem st_while {c : PySem.Expr} {b : List Stmt} {pos : Pos} (hS : Fit C T m sc Kf S) (h : goSt C T m sc Kf S k (.While c b [] pos) cs stk ρ st E) : Ok ((XI C T m (k + 1)).st sc ρ (.While c b [] pos) st) (fun p st => afterK p st (fun ρ st => sem C T m sc Kf cs stk ρ st E) Kf) E :=
  Ok.mono (LoopK.ok h) fun p st h => by
    obtain ⟨fl, ρ'⟩ := p
    induction fl using Mine.Fl.casesOn with
    | next => exact hS _ _ _ _ _ h
    | _ => exact h
theorem goSt_ok (hS : Fit C T m sc Kf S) {s : Stmt} (h : goSt C T m sc Kf S k s cs stk ρ st E) : Ok ((XI C T m (k + 1)).st sc ρ s st) (fun p st => afterK p st (fun ρ st => sem C T m sc Kf cs stk ρ st E) Kf) E := by
  induction s using PySem.Stmt.casesOn with
  | Pass pos => exact hS _ _ _ _ _ h
  | Break pos => exact h
  | Continue pos => exact h
  | Return e pos =>
    induction e using Option.casesOn with
    | none => exact h.elim
    | some e => exact Ok.bind (Ok.mono (hS _ _ _ _ _ h) fun _ _ h => h)
  | Expr e pos => exact offK_ok h fun h => Ok.bind (Ok.mono (hS _ _ _ _ _ h) fun _ _ h => h)
  | Assign ts e pos => exact st_asg hS h
  | If c a b pos => exact Ok.bind (Ok.mono (hS _ _ _ _ _ h) fun _ _ h => if_of h)
  | While c b orelse pos =>
    induction orelse using List.casesOn with
    | cons _ _ => exact h.elim
    | nil => exact st_while hS h
  | For t it b orelse pos =>
    induction orelse using List.casesOn with
    | cons _ _ => exact h.elim
    | nil => exact offK_ok h fun h => Ok.bind (Ok.mono (hS _ _ _ _ _ h) fun d st h => by
        obtain ⟨l, h1, h⟩ := optK.get h
        rw [h1]; exact h)
  | Raise exc cause pos =>
    induction exc using Option.casesOn with
    | none => exact h.elim
    | some e =>
      induction e using PySem.Expr.casesOn with
      | Call f args kws cp =>
        induction f using PySem.Expr.casesOn with
        | Name x np =>
          induction kws using List.casesOn with
          | cons _ _ => exact h.elim
          | nil =>
            induction cause using Option.casesOn with
            | some _ => exact h.elim
            | none => exact st_raise hS h
        | _ => exact h.elim
      | _ => exact h.elim
  | Try body hs orelse final pos =>
    induction hs using List.casesOn with
    | nil => exact h.elim
    | cons h₀ hs =>
      induction orelse using List.casesOn with
      | cons _ _ => exact h.elim
      | nil =>
        induction final using List.casesOn with
        | cons _ _ => exact h.elim
        | nil => exact st_try hS h
  | _ => exact h.elim
end
end Mine

end

section
open PySem PySem.W
set_option maxRecDepth 100000
set_option maxHeartbeats 1000000
namespace Mine
section
variable {C : Cx} {T : Tab} {m : Nat} {sc : Scope} {Kf : KF} {S : Self} {cs : List Ctl} {stk : List D} {ρ : En} {st : Sto} {E : KV} {k : Nat}
theorem CallK.mono {r : Out D} {K K' : KD} {E : KV} (h : CallK r K E) (k : ∀ d st, K d st → K' d st) : CallK r K' E := CallK.of (h.ok.mono k)
theorem b2_ok {d : D} {p q p' q' : Prop} {f : Bool → Prop} (h : bools d f) (hf : ∀ t, f t → (t = true → p') ∧ (t = false → q')) : bools d fun t => (t = true → p') ∧ (t = false → q') := optK.mono h hf
theorem chainC {a : D} {ops : List CmpOp} {rs : List PySem.Expr} {st : Sto} (hS : Fit C T m sc Kf S) (h : goC C T m sc Kf S (.chain k ops rs) cs (a :: stk) ρ st E) : Ok (chain ((XI C T m k).ex sc ρ) a ops rs st) (fun b st => sem C T m sc Kf cs (.v (.bool b) :: stk) ρ st E) E := by
  induction ops using List.casesOn with
  | nil => exact h.elim
  | cons op ops =>
    induction rs using List.casesOn with
    | nil => exact h.elim
    | cons r rs =>
      have gen : sem C T m sc Kf (.ex k r :: .cmpC k op ops rs :: cs) (a :: stk) ρ st E → Ok (((XI C T m k).ex sc ρ r st).bind fun b st => match cmp op a b st with
          | some true => chain ((XI C T m k).ex sc ρ) b ops rs st
          | some false => .ok false st
          | Option.none => .stuck) (fun b st => sem C T m sc Kf cs (.v (.bool b) :: stk) ρ st E) E := fun h => Ok.bind (Ok.mono h fun b st h => by
        obtain ⟨c, h1, h⟩ := optK.get h
        rw [h1]
        induction c using Bool.casesOn with
        | true => exact h.1 rfl
        | false => exact h.2 rfl)
      induction ops using List.casesOn with
      | nil =>
        induction rs using List.casesOn with
        | nil =>
          exact Ok.bind (Ok.mono (hS _ _ _ _ _ h) fun b st h => ofO_ok h)
        | cons _ _ => exact gen (hS _ _ _ _ _ h)
      | cons _ _ => exact gen (hS _ _ _ _ _ h)
theorem methC {o : D} {name : Str} {args : List PySem.Expr} (hS : Fit C T m sc Kf S) (h : goC C T m sc Kf S (.meth k name args) cs (o :: stk) ρ st E) : sem C T m sc Kf (.meth k name args :: cs) (o :: stk) ρ st E := by
  induction o using Mine.D.casesOn with
  | m i => exact Ok.bind (Ok.quiet ((sem_pushes (hS _ _ _ _ _ h)).mono fun ds st h => by
      have h := h.2
      have hl := ‹ds.length = args.length ∧ _›.1
      rw [← hl] at h
      have h : Ok (listM name i (popA ds.length (ds.reverse ++ stk)) st) (fun d st => sem C T m sc Kf cs (d :: popB ds.length (ds.reverse ++ stk)) ρ st E) E := h
      rw [popA_rev, popB_rev] at h
      exact h))
  | v x =>
    induction x using Mine.V.casesOn with
    | int i => exact Ok.mono (outK.ok h) fun _ _ h => hS _ _ _ _ _ h
    | inst c ns vs =>
      obtain ⟨fa, h1, h⟩ := optK.get h
      show Ok (match C.meth c name with | some f => _ | none => _) _ E
      rw [h1]
      exact offK_ok h fun h => args_sem (hS _ _ _ _ _ h) fun ds st hl h => by
        have e : (args.length + 1) = ((D.v (.inst c ns vs)) :: ds).length := by rw [List.length_cons, hl]
        rw [e] at h
        have h : Ok (R C T (m + 1) (.v (.val (.ref fa))) (popA ((D.v (.inst c ns vs)) :: ds).length (ds.reverse ++ (D.v (.inst c ns vs)) :: stk)) st) (fun d st => sem C T m sc Kf cs (d :: popB ((D.v (.inst c ns vs)) :: ds).length (ds.reverse ++ (D.v (.inst c ns vs)) :: stk)) ρ st E) E := h
        have e2 : ds.reverse ++ (D.v (.inst c ns vs)) :: stk = ((D.v (.inst c ns vs)) :: ds).reverse ++ stk := by rw [List.reverse_cons, List.append_assoc]; rfl
        rw [e2, popA_rev, popB_rev] at h
        exact h
    | _ => exact h.elim
theorem calleeC {o : D} {args : List PySem.Expr} (hS : Fit C T m sc Kf S) (h : goC C T m sc Kf S (.callee k args) cs (o :: stk) ρ st E) : sem C T m sc Kf (.callee k args :: cs) (o :: stk) ρ st E := by
  induction o using Mine.D.casesOn with
  | m i => exact h.elim
  | v x =>
    induction x using Mine.V.casesOn with
    | val v =>
      exact onK_ok h fun h => args_sem (hS _ _ _ _ _ h) fun ds st hl h => by
        rw [← hl] at h
        have h : Ok (R C T (m + 1) (.v (.val v)) (popA ds.length (ds.reverse ++ stk)) st) (fun d st => sem C T m sc Kf cs (d :: popB ds.length (ds.reverse ++ stk)) ρ st E) E := h
        rw [popA_rev, popB_rev] at h
        exact h
    | _ => exact h.elim
theorem compC {d : D} {elt t : PySem.Expr} {ifs : List PySem.Expr} {scope : Scope} {pos : Pos} (hS : Fit C T m sc Kf S) (h : goC C T m sc Kf S (.comp k elt t ifs scope pos) cs (d :: stk) ρ st E) : sem C T m sc Kf (.comp k elt t ifs scope pos :: cs) (d :: stk) ρ st E :=
  optK.mono h fun l h => Ok.mono (LoopK.ok h) fun acc st h => by
    unfold afterL at h
    by_cases hm : C.mt pos = true
    · rw [hm] at h
      rw [if_pos hm]; exact hS _ _ _ _ _ h
    · rw [Bool.eq_false_iff.mpr hm] at h
      rw [if_neg hm]; exact hS _ _ _ _ _ h
theorem forC {d : D} {t : PySem.Expr} {b : List Stmt} (hS : Fit C T m sc Kf S) (h : goC C T m sc Kf S (.forE k t b) cs (d :: stk) ρ st E) : sem C T m sc Kf (.forE k t b :: cs) (d :: stk) ρ st E :=
  optK.mono h fun l h => Ok.mono (LoopK.ok h) fun p st h => by
    obtain ⟨fl, ρ'⟩ := p
    induction fl using Mine.Fl.casesOn with
    | next => exact hS _ _ _ _ _ h
    | _ => exact h
theorem sliceC {d : D} {lo hi : Option PySem.Expr} (hS : Fit C T m sc Kf S) (h : goC C T m sc Kf S (.slice lo hi) cs (d :: stk) ρ st E) : sem C T m sc Kf (.slice lo hi :: cs) (d :: stk) ρ st E := by
  obtain ⟨l, h1, h⟩ := optK.get h
  obtain ⟨a, h2, h⟩ := optK.get h
  obtain ⟨b, h3, h4, h⟩ := optK.get h
  obtain ⟨mm, h5, h⟩ := optK.get h
  have hd : d = .v (.lst l) := by unfold lstD at h1; split at h1 <;> (first | subst h1 | contradiction | (injection h1 with h1; subst h1) | cases h1); rfl
  exact ⟨l, a, b, mm, hd, h2, h3, h4.get, h5, hS _ _ _ _ _ h⟩
theorem attrC {d : D} {a : Str} (hS : Fit C T m sc Kf S) (h : goC C T m sc Kf S (.attr a) cs (d :: stk) ρ st E) : sem C T m sc Kf (.attr a :: cs) (d :: stk) ρ st E := by
  induction d using Mine.D.casesOn with
  | m i => exact h.elim
  | v x =>
    induction x using Mine.V.casesOn with
    | inst c ns vs =>
      obtain ⟨h1, h⟩ := onK.get h
      obtain ⟨x, h2, h⟩ := optK.get h
      unfold pushX at h
      generalize h3 : isVal x = zz
      induction zz using Bool.casesOn with
      | true => rw [h3] at h; exact h.elim
      | false => rw [h3] at h; exact ⟨c, ns, vs, x, rfl, h1, h2, h3, hS _ _ _ _ _ h⟩
    | _ => exact h.elim
theorem retbC {ss : List Stmt} (hS : Fit C T m sc Kf S) (h : goC C T m sc Kf S (.retb k ss) cs stk ρ st E) : sem C T m sc Kf (.retb k ss :: cs) stk ρ st E := by
  induction ss using List.casesOn with
  | nil => exact h.elim
  | cons s r =>
    change (match retOf s with
      | some e => onK r.isEmpty (S [.ex k e, .ret] stk ρ st E)
      | none => (match ifRet s with
        | some p => S [.tt k p.1, .retI k p.2 r] stk ρ st E
        | none => False)) at h
    show Ok (match retOf s with
    | some e => if r.isEmpty then (XI C T m k).ex sc ρ e st else .stuck
    | Option.none => (match ifRet s with
      | some p => ((XI C T m k).tt sc ρ p.1 st).bind fun b st => if b then (XI C T m k).ex sc ρ p.2 st else retB ((XI C T m k).ex sc ρ) ((XI C T m k).tt sc ρ) r st
      | Option.none => .stuck)) _ E
    generalize h1 : retOf s = zz
    induction zz using Option.casesOn with
    | some e =>
      rw [h1] at h
      exact onK_ok h fun h => Ok.mono (hS _ _ _ _ _ h) fun _ _ h => h
    | none =>
      rw [h1] at h
      dsimp only at h ⊢
      generalize h2 : ifRet s = zz
      induction zz using Option.casesOn with
      | none => rw [h2] at h; exact h.elim
      | some p =>
        rw [h2] at h
        exact Ok.bind (Ok.mono (hS _ _ _ _ _ h) fun _ _ h => if_of h)
theorem boolC {d : D} {op : BoolOp} {es : List PySem.Expr} (hS : Fit C T m sc Kf S) (h : goC C T m sc Kf S (.boolV k op es) cs (d :: stk) ρ st E) : sem C T m sc Kf (.boolV k op es :: cs) (d :: stk) ρ st E := by
  induction es using List.casesOn with
  | nil => exact (hS _ _ _ _ _ h : sem C T m sc Kf cs (d :: stk) ρ st E)
  | cons e es =>
    have key : S (.ex k e :: .boolV k op es :: cs) stk ρ st E → Ok (boolV ((XI C T m k).ex sc ρ) op (e :: es) st) (fun d st => sem C T m sc Kf cs (d :: stk) ρ st E) E := fun h => boolV_sem (hS _ _ _ _ _ h)
    induction op using PySem.BoolOp.casesOn with
    | And => exact optK.mono h fun t h => brK.mono h key fun h => hS _ _ _ _ _ h
    | Or => exact optK.mono h fun t h => brK.mono h (fun h => hS _ _ _ _ _ h) key
theorem allC {d : D} {op : BoolOp} {es : List PySem.Expr} (hS : Fit C T m sc Kf S) (h : goC C T m sc Kf S (.allT k op es) cs (d :: stk) ρ st E) : sem C T m sc Kf (.allT k op es :: cs) (d :: stk) ρ st E := by
  induction es using List.casesOn with
  | nil =>
    exact optK.mono h fun t h => by
      have h : sem C T m sc Kf cs (.v (.bool t) :: stk) ρ st E := hS _ _ _ _ _ h
      cases op <;> cases t <;> exact ⟨fun e => (by first | exact h | (first | subst e | contradiction | (injection e with e; subst e) | cases e)), fun e => (by first | exact h | (first | subst e | contradiction | (injection e with e; subst e) | cases e))⟩
  | cons e es =>
    induction op using PySem.BoolOp.casesOn with
    | And => exact optK.mono h fun t h => brK.mono h (fun h => allT_ok (hS _ _ _ _ _ h)) fun h => hS _ _ _ _ _ h
    | Or => exact optK.mono h fun t h => brK.mono h (fun h => hS _ _ _ _ _ h) fun h => allT_ok (hS _ _ _ _ _ h)
noncomputable def one1 : Ctl → Bool
  | .ex _ _ | .tt _ _ | .sts _ _ | .retb _ _ | .tup _ | .lst _ _ | .call _ _ | .listM _ _ _ | .raise _ _ _ | .restE _ => false
  | _ => true
theorem goC1 (hS : Fit C T m sc Kf S) {c : Ctl} {d : D} (h1 : one1 c = true) (h : goC C T m sc Kf S c cs (d :: stk) ρ st E) : sem C T m sc Kf (c :: cs) (d :: stk) ρ st E := by
  induction c using Mine.Ctl.casesOn with
  | retI k e r => exact optK.mono h fun t h => brK.mono h (fun h => Ok.mono (hS _ _ _ _ _ h) fun _ _ h => h) fun h => hS _ _ _ _ _ h
  | bin op =>
    induction stk using List.casesOn with
    | nil => exact h.elim
    | cons a stk => exact optK.mono (binK.o h) fun _ h => hS _ _ _ _ _ h
  | cmp op =>
    induction stk using List.casesOn with
    | nil => exact h.elim
    | cons a stk => exact optK.mono (cmpK.o h) fun _ h => hS _ _ _ _ _ h
  | chain k ops rs => exact chainC hS h
  | cmpC k op ops rs =>
    induction stk using List.casesOn with
    | nil => exact h.elim
    | cons a stk => exact optK.mono (cmpK.o h) fun _ h => brK.mono h (fun h => hS _ _ _ _ _ h) fun h => hS _ _ _ _ _ h
  | notV => exact optK.mono h fun _ h => hS _ _ _ _ _ h
  | notB => exact optK.mono h fun _ h => hS _ _ _ _ _ h
  | truthB => exact optK.mono h fun _ h => hS _ _ _ _ _ h
  | ifx k a b => exact optK.mono h fun t h => brK.mono h (fun h => hS _ _ _ _ _ h) fun h => hS _ _ _ _ _ h
  | ift k a b => exact optK.mono h fun t h => brK.mono h (fun h => hS _ _ _ _ _ h) fun h => hS _ _ _ _ _ h
  | ifs k a b => exact optK.mono h fun t h => brK.mono h (fun h => hS _ _ _ _ _ h) fun h => hS _ _ _ _ _ h
  | boolV k op es => exact boolC hS h
  | allT k op es => exact allC hS h
  | slice lo hi => exact sliceC hS h
  | sub =>
    induction stk using List.casesOn with
    | nil => exact h.elim
    | cons a stk => exact optK.mono h fun _ h => hS _ _ _ _ _ h
  | attr a => exact attrC hS h
  | meth k name args => exact methC hS h
  | callee k args => exact calleeC hS h
  | comp k elt t ifs scope pos => exact compC hS h
  | ret => exact h
  | pop => exact (hS _ _ _ _ _ h : sem C T m sc Kf cs stk ρ st E)
  | sto x => exact ⟨(onK.get h).1, hS _ _ _ _ _ (onK.get h).2⟩
  | stoT xs =>
    obtain ⟨l, h1, h⟩ := optK.get h
    obtain ⟨ρ', h2, h⟩ := optK.get h
    have hd : d = .v (.tup l) := by unfold tupD at h1; split at h1 <;> (first | subst h1 | contradiction | (injection h1 with h1; subst h1) | cases h1); rfl
    exact ⟨l, ρ', hd, h2, hS _ _ _ _ _ h⟩
  | forE k t b => exact forC hS h
  | loop k b => exact optK.mono h fun t h => brK.mono h (fun h => hS _ _ _ _ _ h) fun h => h
  | _ => (first | subst h1 | contradiction | (injection h1 with h1; subst h1) | cases h1)
theorem goC_ok (hS : Fit C T m sc Kf S) {c : Ctl} (h : goC C T m sc Kf S c cs stk ρ st E) : sem C T m sc Kf (c :: cs) stk ρ st E := by
  induction c using Mine.Ctl.casesOn with
  | ex k e =>
    induction k using Nat.casesOn with
    | zero => exact h.elim
    | succ k => exact goEx_ok hS h
  | tt k e =>
    induction k using Nat.casesOn with
    | zero => exact h.elim
    | succ k => exact goTt_ok hS h
  | sts k ss =>
    induction ss using List.casesOn with
    | nil => exact (hS _ _ _ _ _ h : sem C T m sc Kf cs stk ρ st E)
    | cons s r =>
      induction k using Nat.casesOn with
      | zero => exact h.elim
      | succ k => exact exs_of (goSt_ok hS h)
  | retb k ss => exact retbC hS h
  | tup n => exact optK.mono (popK.get h) fun l h => hS _ _ _ _ _ h
  | lst n pos =>
    exact optK.mono (popK.get h) fun l h => by
      unfold pushL at h
      by_cases hm : C.mt pos = true
      · rw [hm] at h
        rw [if_pos hm]; exact hS _ _ _ _ _ h
      · rw [Bool.eq_false_iff.mpr hm] at h
        rw [if_neg hm]; exact hS _ _ _ _ _ h
  | call n v => exact Ok.mono (callK.ok (popK.get h)) fun _ _ h => hS _ _ _ _ _ h
  | listM name i n => exact Ok.mono (LoopK.ok (popK.get h)) fun _ _ h => hS _ _ _ _ _ h
  | raise c xi n =>
    obtain ⟨l, h1, h⟩ := optK.get (popK.get h)
    obtain ⟨h2, h⟩ := onK.get h
    exact ⟨l, h1, h2, h⟩
  | restE E => exact (hS _ _ _ _ _ h : sem C T m sc Kf cs stk ρ st E)
  | _ =>
    induction stk using List.casesOn with
    | nil => exact h.elim
    | cons d stk => exact goC1 hS rfl h
theorem go_ok : ∀ N, Fit C T m sc Kf (go C T m sc Kf N)
  | 0, _, _, _, _, _, h => h.elim
  | _ + 1, [], _, _, _, _, h => h
  | N + 1, _ :: _, _, _, _, _, h => goC_ok (go_ok N) h
end
end Mine

end

section
open PySem PySem.W
set_option maxRecDepth 100000
set_option maxHeartbeats 1000000
namespace Mine
/-- how a body ends -/
noncomputable def endK (n : Nat) (Q : KD) (p : Fl × En) (st : Sto) : Prop :=
  match p.1 with
  | .next => Q (.v .none) (st.take n)
  | .ret d => (match d with
    | .v x => Q (.v x) (st.take n)
    | .m i => if i < n then Q (.m i) (st.take n) else Q (.m i) st)
  | _ => False
/-- how a comprehension's element ends -/
noncomputable def eltK (Q : V → Sto → Prop) (p : Fl × En) (st : Sto) : Prop :=
  match p.1 with
  | .ret d => (match d with
    | .v x => Q x st
    | .m _ => False)
  | _ => False
noncomputable abbrev FUEL : Nat := 100000
section
variable {C : Cx} {T : Tab} {m : Nat}
theorem take_v {st : Sto} {Q : KD} {d : D} (q : Q d st) : Q d (st.take st.length) := by rw [List.take_length]; exact q
/-- a called function's body -/
theorem fn_G {a : Addr} {f : FnI} {ds : List D} {st : Sto} {Q : KD} {E : KV} (h0 : T.fn a = some f) (h1 : f.ps.length = ds.length) (h : go C T m f.sc (endK st.length Q) FUEL [.sts 64 f.body] [] (f.ps.zip ds) st E) : CallK (R C T (m + 2) (.v (.val (.ref a))) ds st) Q E := by
  refine CallK.of (ok_fn h0 ?_)
  unfold runBody
  rw [if_pos h1]
  refine Ok.bind (Ok.mono (go_ok FUEL _ _ _ _ _ h) fun p st' h => ?_)
  obtain ⟨fl, ρ⟩ := p
  induction fl using Mine.Fl.casesOn with
  | next => exact h
  | ret d =>
    induction d using Mine.D.casesOn with
    | v x => exact h
    | m i =>
      change (if i < st.length then _ else _) at h
      show Ok (if i < st.length then _ else _) Q E
      split at h
      · rename_i hi; rw [if_pos hi]; exact h
      · rename_i hi; rw [if_neg hi]; exact h
  | _ => exact h.elim
/-- a while, by an invariant that counts down -/
theorem while_G {k : Nat} {sc : Scope} {c : PySem.Expr} {b : List Stmt} {ρ₀ : En} {st₀ : Sto} {Q : Fl × En → Sto → Prop} {E : KV} (I : Nat → En → Sto → Prop) {k₀ : Nat} (hk : k₀ < LIM) (h0 : I k₀ ρ₀ st₀)
    (h : ∀ i ρ st, I i ρ st → go C T m sc (again (fun ρ st => ∃ k', k' < i ∧ I k' ρ st) Q) FUEL [.tt k c, .loop k b] [] ρ st NoE) :
    LoopK (whileN (fun ρ st => (XI C T m k).tt sc ρ c st) (fun ρ st => exs ((XI C T m k).st sc) b ρ st) LIM ρ₀ st₀) Q E :=
  LoopK.of (ok_while I (fun i ρ st hI => Ok.mono (go_ok FUEL _ _ _ _ _ (h i ρ st hI)) fun t st₁ h => ⟨fun e => Ok.mono (h.1 e) fun p st h => by
    obtain ⟨fl, ρ'⟩ := p
    cases fl <;> exact h, fun e => h.2 e⟩) k₀ LIM ρ₀ st₀ hk h0)
theorem for_G {k : Nat} {sc : Scope} {t : PySem.Expr} {b : List Stmt} {l₀ : List V} {ρ₀ : En} {st₀ : Sto} {Q : Fl × En → Sto → Prop} {E : KV} (I : List V → En → Sto → Prop) (hI : I l₀ ρ₀ st₀)
    (h0 : ∀ ρ st, I [] ρ st → Q (.next, ρ) st) (h : ∀ x r ρ st, I (x :: r) ρ st → ∃ ρ₁, putT sc t x ρ = some ρ₁ ∧ go C T m sc (again (I r) Q) FUEL [.sts k b] [] ρ₁ st NoE) :
    LoopK (forL (putT sc t) (fun ρ st => exs ((XI C T m k).st sc) b ρ st) l₀ ρ₀ st₀) Q E :=
  LoopK.of (ok_for I h0 (fun x r ρ st hI => by
    obtain ⟨ρ₁, h1, h2⟩ := h x r ρ st hI
    exact ⟨ρ₁, h1, Ok.mono (go_ok FUEL _ _ _ _ _ h2) fun p st h => by
      obtain ⟨fl, ρ'⟩ := p
      cases fl <;> exact h⟩) l₀ ρ₀ st₀ hI)
theorem law_G {sc : Scope} {body : List Stmt} {ρ : En} {st : Sto} {K : Fl × En → Sto → Prop} {E : KV} (h : go C T m sc K FUEL [.sts 64 body] [] ρ st E) : Ok (exs ((X C (R C T (m + 1)) 64).st sc) body ρ st) K E :=
  Ok.mono (go_ok FUEL _ _ _ _ _ h) fun p st h => by
    obtain ⟨fl, ρ'⟩ := p
    cases fl <;> exact h
theorem ok_comp {put : V → En → Option En} {test : En → Sto → Out Bool} {elt : En → Sto → Out D} {Q : List V → Sto → Prop} {E : V → Sto → Prop} (I : List V → En → List V → Sto → Prop)
    (h0 : ∀ ρ acc st, I [] ρ acc st → Q acc st)
    (h : ∀ x r ρ acc st, I (x :: r) ρ acc st → ∃ ρ₁, put x ρ = some ρ₁ ∧ Ok (test ρ₁ st) (fun b st₁ => (b = true → Ok (elt ρ₁ st₁) (fun d st₂ => ∃ y, d = .v y ∧ szOk acc.length = true ∧ I r ρ₁ (acc ++ [y]) st₂) NoE) ∧ (b = false → I r ρ₁ acc st₁)) NoE) :
    ∀ (l : List V) (ρ : En) (acc : List V) (st : Sto), I l ρ acc st → Ok (compL put test elt l ρ acc st) Q E
  | [], ρ, acc, st, hI => ok_compL_nil (h0 ρ acc st hI)
  | x :: r, ρ, acc, st, hI => by
    obtain ⟨ρ₁, h1, h2⟩ := h x r ρ acc st hI
    refine ok_compL_cons h1 (h2.mono fun b st₁ h3 => ⟨fun e => (h3.1 e).mono fun d st₂ h4 => ?_, fun e => ok_comp I h0 h r ρ₁ acc st₁ (h3.2 e)⟩)
    obtain ⟨y, h5, h6, h7⟩ := h4
    exact ⟨y, h5, h6, ok_comp I h0 h r ρ₁ (acc ++ [y]) st₂ h7⟩
theorem comp_G {k : Nat} {sc : Scope} {t e : PySem.Expr} {l₀ acc₀ : List V} {ρ₀ : En} {st₀ : Sto} {Q : List V → Sto → Prop} {E : KV} (I : List V → En → List V → Sto → Prop) (hI : I l₀ ρ₀ acc₀ st₀)
    (h0 : ∀ ρ acc st, I [] ρ acc st → Q acc st)
    (h : ∀ x r ρ acc st, I (x :: r) ρ acc st → ∃ ρ₁, putT sc t x ρ = some ρ₁ ∧ go C T m sc (eltK fun y st₂ => szOk acc.length = true ∧ I r ρ₁ (acc ++ [y]) st₂) FUEL [.ex k e, .ret] [] ρ₁ st NoE) :
    LoopK (compL (putT sc t) (tests ((XI C T m k).tt sc) []) (fun ρ st => (XI C T m k).ex sc ρ e st) l₀ ρ₀ acc₀ st₀) Q E :=
  LoopK.of (ok_comp I h0 (fun x r ρ acc st hI => by
    obtain ⟨ρ₁, h1, h2⟩ := h x r ρ acc st hI
    exact ⟨ρ₁, h1, ⟨fun _ => Ok.mono (go_ok FUEL _ _ _ _ _ h2) fun d st h => by
      induction d using Mine.D.casesOn with
      | v x => exact ⟨x, rfl, h⟩
      | m i => exact h.elim, fun z => by (first | subst z | contradiction | (injection z with z; subst z) | cases z)⟩⟩) l₀ ρ₀ acc₀ st₀ hI)
end
end Mine

end

section
open PySem PySem.W PySem.Spec PySem.Calls PyProof.Rows
set_option maxRecDepth 100000
set_option maxHeartbeats 8000000
namespace Mine
theorem left2 : LeftO PySem.Challenge.pw_nt0210_02 q2 loose2 (XtG q2 hlv2 PySem.Challenge.rw_nt0210_02.row.toRowW.records) (YfG as2) (YaG K2) 9696 :=
  left_of_run (boot_open (by kernel_rfl) (by kernel_rfl) (fun s => by kernel_rfl)) (fun w os => run2_ok w os)
theorem hd2 {d : DefRec} {kwd : List (Str × PySem.Expr)} (h1 : defOf q2 PySem.Challenge.rw_nt0210_02.row.name = some (d, kwd)) (h2 : PySem.Challenge.rw_nt0210_02.row.prog.theDef PySem.Challenge.rw_nt0210_02.row.name = some (d.params, d.body, d.scope))
    (h3 : kwWritten? d.params.kwonlyargs d.params.kw_defaults = some kwd)
    (hc : WalkO q2 loose2 (PySem.W.XL q2 hlv2) (kHook K2 as2 as2_ok).says PySem.Challenge.rw_nt0210_02.row.toRowW d kwd fun f vs => PySem.call f vs) : PySem.Challenge.rw_nt0210_02.Holds := by
  w_on
  refine holds_law (by rw [PySem.W.Fast.mSaid_eq]; kernel_rfl) fun said => ?_
  refine PySem.W.holds_open (q := q2) (loose := loose2) (Xt := XtG q2 hlv2 PySem.Challenge.rw_nt0210_02.row.toRowW.records) (XP := PySem.W.XL q2 hlv2) (Yf := YfG as2) (Ya := YaG K2) (YP := (kHook K2 as2 as2_ok).says) (N := 9696) left2 (Hook.of (kHook K2 as2 as2_ok)) (Hook.keeps (kHook K2 as2 as2_ok)) (fun s e => xl_of s (Bool.and_eq_true_iff.mp e).1) PySem.W.XL.keeps h1 h2 h3 (fun s e => recFacts_of (Bool.and_eq_true_iff.mp e).2) (by rfl) said (by decide +kernel) ⟨rfl, rfl, rfl, rfl, rfl, by decide +kernel⟩ ?hw hc
  case hw => w_witness2
end Mine

end

section
open PySem PySem.W PySem.Spec PySem.Calls PyProof.Rows
set_option maxRecDepth 100000
namespace Mine

structure TbD where
  G : List (Str × Value)
  mt : List (Nat × Nat)
  meth : List (Addr × Str × Addr)
  attr : List (Addr × Str)
  able : List Addr
  bi : List String
  ty : List String
  fn : List (Addr × FnI)
  cls : List (Addr × List Str)
  xc : List (Addr × XcI)
  esub : List ((Addr × Addr) × Bool)

noncomputable def methL : List (Addr × Str × Addr) → Addr → Str → Option Addr
  | [], _, _ => none
  | (c, n, f) :: r, c', n' => if c == c' && n == n' then some f else methL r c' n'
noncomputable def TbD.cx (d : TbD) : Cx where
  G := fun x => d.G.lookup x
  mt := fun p => d.mt.any fun q => q.1 == p.line && q.2 == p.col
  meth := methL d.meth
  attr := fun c a => d.attr.any fun q => q.1 == c && q.2 == a
  able := fun v => match v with
    | .ref a => d.able.contains a
    | .builtin i => d.bi.contains i
    | .type t => d.ty.contains t
    | _ => false
  xc := fun a => d.xc.lookup a
  esub := fun a b => d.esub.lookup (a, b)
  hand := false
noncomputable def TbD.tab (d : TbD) : Tab where
  fn := fun a => d.fn.lookup a
  cls := fun a => d.cls.lookup a

noncomputable def gB (K : Frag) (p : Str × Value) : Bool := match p.2 with
  | .ref a => (match nsIn K mainGlobals p.1 with | some (some (.ref b)) => a == b | _ => false)
  | .int i t => (match nsIn K mainGlobals p.1 with | some (some (.int j u)) => i == j && t == u | _ => false)
  | .builtin i => (match nsIn K mainGlobals p.1 with | some none => (match bootBuiltins p.1 with | some (.builtin j) => i == j && p.1 != "__name__" | _ => false) | _ => false)
  | .type i => (match nsIn K mainGlobals p.1 with | some none => (match bootBuiltins p.1 with | some (.type j) => i == j && p.1 != "__name__" | _ => false) | _ => false)
  | _ => false
noncomputable def methB (K : Frag) (p : Addr × Str × Addr) : Bool := plainGet K p.1 p.2.1 && ((match findIn K (.ref p.1) p.2.1 with | some (some (.ref f)) => f == p.2.2 | _ => false) && (isFn K (.ref p.2.2) && keepIn K (.ref p.2.2)))
noncomputable def excG (K : Frag) (C : Addr) : Bool := isBi "BaseException.__getattribute__" (findIn K (.ref C) "__getattribute__") && ((match findIn K (.ref C) "__getattr__" with | some none => true | _ => false) && someB true (subIn K (.ref C) (.type "BaseException")))
theorem excG_is {K : Frag} {C : Addr} (h : excG K C = true) : ExG K C := by
  unfold excG at h
  obtain ⟨h1, h⟩ := Bool.and_eq_true_iff.mp h
  obtain ⟨h2, h3⟩ := Bool.and_eq_true_iff.mp h
  refine ⟨isBi_eq h1, ?_, someB_eq h3⟩
  split at h2
  · assumption
  · (first | subst h2 | contradiction | (injection h2 with h2; subst h2) | cases h2)
noncomputable def attrB (K : Frag) (p : Addr × Str) : Bool := (plainGet K p.1 p.2 || excG K p.1) && (hasDictIn K p.1 && (match findIn K (.ref p.1) p.2 with | some a => noGet K a | none => false))

theorem lookup_mem {α β : Type} [BEq α] [LawfulBEq α] : ∀ {l : List (α × β)} {x : α} {b : β}, l.lookup x = some b → (x, b) ∈ l
  | [], _, _, h => by (first | subst h | contradiction | (injection h with h; subst h) | cases h)
  | (y, b') :: r, x, b, h => by
    rw [List.lookup_cons] at h
    cases q : x == y with
    | true =>
      rw [q] at h
      (first | subst h | contradiction | (injection h with h; subst h) | cases h)
      rw [beq_iff_eq.mp q]
      exact .head _
    | false =>
      rw [q] at h
      exact .tail _ (lookup_mem h)
theorem methL_mem : ∀ {l : List (Addr × Str × Addr)} {c : Addr} {n : Str} {f : Addr}, methL l c n = some f → (c, n, f) ∈ l
  | [], _, _, _, h => by (first | subst h | contradiction | (injection h with h; subst h) | cases h)
  | (c', n', f') :: r, c, n, f, h => by
    unfold methL at h
    split at h
    · rename_i q
      (first | subst h | contradiction | (injection h with h; subst h) | cases h)
      rw [Bool.and_eq_true, beq_iff_eq, beq_iff_eq] at q
      rw [q.1, q.2]
      exact .head _
    · exact .tail _ (methL_mem h)

theorem gB_ok {K : Frag} {x : Str} {v : Value} (h : gB K (x, v) = true) : nsIn K mainGlobals x = some (some v) ∨ (nsIn K mainGlobals x = some none ∧ bootBuiltins x = some v ∧ x ≠ "__name__") := by
  unfold gB at h
  dsimp only at h
  split at h
  · split at h
    · rename_i e
      rw [beq_iff_eq] at h
      subst h
      exact .inl e
    · (first | subst h | contradiction | (injection h with h; subst h) | cases h)
  · split at h
    · rename_i e
      obtain ⟨h1, h2⟩ := Bool.and_eq_true_iff.mp h
      rw [beq_iff_eq] at h1 h2
      subst h1 h2
      exact .inl e
    · (first | subst h | contradiction | (injection h with h; subst h) | cases h)
  · split at h
    · rename_i e1
      split at h
      · rename_i e2
        rw [Bool.and_eq_true, beq_iff_eq, bne_iff_ne] at h
        rw [h.1]
        exact .inr ⟨e1, e2, h.2⟩
      · (first | subst h | contradiction | (injection h with h; subst h) | cases h)
    · (first | subst h | contradiction | (injection h with h; subst h) | cases h)
  · split at h
    · rename_i e1
      split at h
      · rename_i e2
        rw [Bool.and_eq_true, beq_iff_eq, bne_iff_ne] at h
        rw [h.1]
        exact .inr ⟨e1, e2, h.2⟩
      · (first | subst h | contradiction | (injection h with h; subst h) | cases h)
    · (first | subst h | contradiction | (injection h with h; subst h) | cases h)
  · (first | subst h | contradiction | (injection h with h; subst h) | cases h)

theorem TbD.cxOk {W : Wd} (d : TbD) (h1 : d.G.all (gB W.K) = true) (h2 : d.meth.all (methB W.K) = true) (h3 : d.attr.all (attrB W.K) = true) (h4 : (d.able.all fun a => keepIn W.K (.ref a)) = true) : CxOk W d.cx := by
  refine ⟨fun x v e => gB_ok (List.all_eq_true.mp h1 _ (lookup_mem e)), fun v e M h X => ?_, fun c n f e => ?_, fun c n e => ?_⟩
  · cases v with
    | ref a =>
      have e : d.able.contains a = true := e
      exact keeps_K (List.all_eq_true.mp h4 a (List.contains_iff_mem.mp e)) h X
    | builtin i => exact ⟨.machine, .inr (.inl rfl), Looks.of_pure rfl⟩
    | type t => exact ⟨.machine, .inr (.inl rfl), Looks.of_pure rfl⟩
    | _ => (first | subst e | contradiction | (injection e with e; subst e) | cases e)
  · have := List.all_eq_true.mp h2 _ (methL_mem e)
    unfold methB at this
    obtain ⟨q1, this⟩ := Bool.and_eq_true_iff.mp this
    obtain ⟨q2, this⟩ := Bool.and_eq_true_iff.mp this
    obtain ⟨q3, q4⟩ := Bool.and_eq_true_iff.mp this
    refine ⟨q1, ?_, q3, q4⟩
    split at q2
    · rename_i e'
      rw [beq_iff_eq] at q2
      have q2 : _ = f := q2
      rw [← q2]; exact e'
    · (first | subst q2 | contradiction | (injection q2 with q2; subst q2) | cases q2)
  · have e : (d.attr.any fun q => q.1 == c && q.2 == n) = true := e
    obtain ⟨q, hq, e⟩ := List.any_eq_true.mp e
    rw [Bool.and_eq_true, beq_iff_eq, beq_iff_eq] at e
    have := List.all_eq_true.mp h3 q hq
    unfold attrB at this
    rw [e.1, e.2] at this
    obtain ⟨q1, this⟩ := Bool.and_eq_true_iff.mp this
    obtain ⟨q2, q3⟩ := Bool.and_eq_true_iff.mp this
    refine ⟨(Bool.or_eq_true_iff.mp q1).imp id excG_is, q2, ?_⟩
    split at q3
    · rename_i a e'
      exact ⟨a, e', q3⟩
    · (first | subst q3 | contradiction | (injection q3 with q3; subst q3) | cases q3)

noncomputable def esubB (K : Frag) (p : (Addr × Addr) × Bool) : Bool := someB p.2 (subIn K (.ref p.1.1) (.ref p.1.2)) && (someB true (subIn K (.ref p.1.2) (.type "BaseException")) && (someB false (instIn K (.ref p.1.2) (.type "tuple")) && (clsIn K p.1.2).isSome))
theorem TbD.exOk {W : Wd} (d : TbD) (h1 : ∀ p ∈ d.xc, XcP W.K p.1 p.2) (h2 : d.esub.all (esubB W.K) = true) : ExOk W d.cx := by
  refine ⟨fun c xi e => h1 (c, xi) (lookup_mem e), fun c hc b e => ?_⟩
  have := List.all_eq_true.mp h2 _ (lookup_mem e)
  unfold esubB at this
  obtain ⟨q1, this⟩ := Bool.and_eq_true_iff.mp this
  obtain ⟨q2, this⟩ := Bool.and_eq_true_iff.mp this
  obtain ⟨q3, q4⟩ := Bool.and_eq_true_iff.mp this
  exact ⟨someB_eq q1, someB_eq q2, someB_eq q3, q4⟩

noncomputable def relB2 (K : Frag) (p : Addr × List Str) (q : Addr × List Str) : Bool := p.1 == q.1 || someB false (subIn K (.ref p.1) (.ref q.1))
theorem TbD.tabOk {W : Wd} (d : TbD) (h1 : ∀ p ∈ d.fn, fnIn W.K p.1 = some p.2) (h2 : ∀ p ∈ d.cls, clsInit W.K p.1 = some p.2) (h3 : (d.cls.all fun p => clsGood W.K p.1) = true) (h4 : (d.cls.all fun p => d.cls.all (relB2 W.K p)) = true) : TabOk W d.tab := by
  refine ⟨fun a f e => h1 (a, f) (lookup_mem e), fun c ns e => ⟨h2 (c, ns) (lookup_mem e), List.all_eq_true.mp h3 (c, ns) (lookup_mem e)⟩, fun c c' e e' hne => ?_⟩
  obtain ⟨ns, e⟩ := Option.isSome_iff_exists.mp e
  obtain ⟨ns', e'⟩ := Option.isSome_iff_exists.mp e'
  have := List.all_eq_true.mp (List.all_eq_true.mp h4 _ (lookup_mem e)) _ (lookup_mem e')
  unfold relB2 at this
  rcases Bool.or_eq_true_iff.mp this with q | q
  · exact absurd (beq_iff_eq.mp q) hne
  · exact someB_eq q

/-- the heap cut behind its last object -/
theorem get?_pop {h : Heap} {k : Nat} (hk : h.objs.size = k + 1) (hd : h.get? k = none) (b : Addr) : (⟨h.objs.pop, h.life⟩ : Heap).get? b = h.get? b := by
  by_cases q : b = k
  · subst q
    rw [hd]
    unfold Heap.get?
    have : (⟨h.objs.pop, h.life⟩ : Heap).objs[b]? = none := by
      show h.objs.pop[b]? = none
      rw [Array.getElem?_eq_none_iff, Array.size_pop, hk]
      exact Nat.le_refl _
    rw [this]
  · unfold Heap.get?
    have : (⟨h.objs.pop, h.life⟩ : Heap).objs[b]? = h.objs[b]? := by
      show h.objs.pop[b]? = h.objs[b]?
      rw [Array.getElem?_pop, hk]
      split
      · rfl
      · rename_i hb
        symm
        rw [Array.getElem?_eq_none_iff, hk]
        exact Nat.lt_of_le_of_ne (Nat.not_lt.mp hb) (fun z => q z.symm)
    rw [this]
theorem trim : ∀ (k : Nat) (h : Heap), h.objs.size = k → (∃ b o, h.get? b = some o) → ∃ h' : Heap, (∀ b, h'.get? b = h.get? b) ∧ (∃ o, h'.get? (h'.objs.size - 1) = some o) ∧ h'.objs.size ≤ h.objs.size
  | 0, h, hk, ⟨b, o, e⟩ => absurd (Heap.lt_size e) (by rw [hk]; exact Nat.not_lt_zero _)
  | k + 1, h, hk, he => by
    generalize hd : h.get? k = zz
    induction zz using Option.casesOn with
    | some o => exact ⟨h, fun _ => rfl, ⟨o, by rw [hk]; exact hd⟩, Nat.le_refl _⟩
    | none =>
      have hs : (⟨h.objs.pop, h.life⟩ : Heap).objs.size = k := by
        show h.objs.pop.size = k
        rw [Array.size_pop, hk]; rfl
      obtain ⟨b, o, e⟩ := he
      obtain ⟨h', a1, a2, a3⟩ := trim k ⟨h.objs.pop, h.life⟩ hs ⟨b, o, by rw [get?_pop hk hd]; exact e⟩
      exact ⟨h', fun b => (a1 b).trans (get?_pop hk hd b), a2, Nat.le_trans a3 (by rw [hs, hk]; exact Nat.le_succ _)⟩
end Mine

end

section
open PySem PySem.W PySem.Spec PySem.Calls PyProof.Rows
set_option maxRecDepth 100000
namespace Mine

theorem ints_reps {B : Addr → Prop} {h : Heap} {vs : List Value} {ns : List Int} (x : IntsAre vs ns) : Reps B h vs (ns.map V.int) := by
  induction x with
  | nil => trivial
  | cons n t _ ih => exact ⟨⟨t, rfl⟩, ih⟩

theorem Ok.po {α β : Type} {W : Wd} {Λ : List Addr} {X : Addr → Prop} {Rel : List Addr → Heap → β → α → Prop} {E : Value → Shared → Prop} {σ : List Addr} {s : Shared} {r : Out α} {P : α → Sto → Prop} {Q : β → Shared → Prop}
    (h : Ok r P (fun _ _ => False)) (k : ∀ a st', P a st' → Po W Λ X Rel E σ s (.ok a st') Q) : Po W Λ X Rel E σ s r Q := by
  induction r using Mine.Out.casesOn with
  | ok a st => exact k a st h
  | exc x st => exact h.elim
  | stuck => exact h

theorem key {prog : Program} {w : World} {K : Frag} {p : Program} {loose : List Str} {mg mb : Str → Option Value} {h₀ : Heap} {m : Str → Option Value} {env : Env} {sc : Scope} {body : List Stmt} {C : Cx} {T : Tab} {ns : List Int} {a : Addr} {vs : List Value} {x : Str}
    {A : Around} {E : Value → Shared → Prop} {Q : Flow → Shared → Prop} {s : Shared} {n : Nat}
    (KX : K.In h₀) (TT : TopRead p loose mg mb h₀) (F : Fr h₀ h₀.objs.size s.heap m) (hL : h₀.IsList a vs.toArray) (hI : IntsAre vs ns)
    (hC : ∀ W : Wd, W.K = K → CxOk W C) (hX : ∀ W : Wd, W.K = K → ExOk W C) (hT : ∀ W : Wd, W.K = K → TabOk W T)
    (e1 : env.scope = sc) (e2 : sc.kind = .function) (e3 : env.globals = mainGlobals) (e4 : env.builtins = builtinsNs) (e5 : env.locals = h₀.objs.size) (e6 : env.cells = []) (e7 : (sc.names.all fun x => x.2 != .cell && x.2 != .free) = true)
    (hm : m x = some (.ref a)) (hA1 : A.handled = none) (hA2 : A.depth + 2 * n + 8 < recursionLimit) (hA3 : A.units + 8 * n + 100 < cLine) (hfr : A.frames = some [env]) (hf0 : env.frame = some h₀.objs.size)
    (hlaw : Ok (exs ((Mine.X C (R C T n) 64).st sc) body [(x, .v (.lst (ns.map V.int)))] []) (fun p _ => p.1 = .ret (.v (.bool true))) (fun _ _ => False))
    (q : ∀ h' tk, (∀ b o, h₀.get? b = some o → h'.get? b = some o) → Q (.ret (.bool true)) { s with heap := h', toks := tk }) :
    wpAny (model prog w) A (execs body env) Q E s := by
  obtain ⟨ob, hob, hcls, nn, hdat⟩ := hL
  obtain ⟨base, b1, b2, b3⟩ := trim _ h₀ rfl ⟨a, ob, hob⟩
  let W : Wd := ⟨prog, w, K, base, p, loose, mg, mb, fun b o e => (b1 b).trans (KX b o e), TT.keeps fun b o e => (b1 b).trans e, b2, [h₀.objs.size]⟩
  have hfo : FrOk W [env] := fun env' hm => by
    rw [List.mem_singleton.mp hm]
    exact ⟨by rw [e1, e2]; decide, _, hf0, .head _⟩
  obtain ⟨oL, hoL⟩ := ns_obj F.ns
  have iv : Inv W [] [h₀.objs.size] s.heap [] := by
    refine ⟨fun b o e => F.keep b o ((b1 b).symm.trans e), fun b q => ?_, ⟨rfl, List.nodup_nil, fun i a l e => (nomatch e)⟩, fun a h => (nomatch h), fun a q => by rw [List.mem_singleton.mp q]; exact ⟨.head _, m, F.ns⟩⟩
    rcases q with q | q
    · (first | subst q | contradiction | (injection q with q; subst q) | cases q)
    · rw [List.mem_singleton.mp q]
      exact ⟨b3, oL, hoL⟩
  have noc : ∀ x k, sc.names.lookup x = some k → k ≠ .cell ∧ k ≠ .free := fun x k e => by
    have := List.all_eq_true.mp e7 _ (mem_of_lookup e)
    simpa using this
  have hE : EnvOk [h₀.objs.size] sc env := by
    refine ⟨e2, e1, e3, e4, by rw [e5]; exact .head _, fun x c e => (by rw [e6] at e; (first | subst e | contradiction | (injection e with e; subst e) | cases e)), fun x q => ?_⟩
    rcases q with q | q
    · exact absurd rfl (noc x _ q).1
    · exact absurd rfl (noc x _ q).2
  have hV : Vars [h₀.objs.size] sc env [(x, .v (.lst (ns.map V.int)))] [] s.heap := by
    refine ⟨m, by rw [e5]; exact F.ns, fun y d e => ⟨fun _ => ?_, fun q => ?_⟩⟩
    · rw [List.lookup_cons] at e
      cases z : y == x with
      | false => rw [z] at e; (first | subst e | contradiction | (injection e with e; subst e) | cases e)
      | true =>
        rw [z] at e
        (first | subst e | contradiction | (injection e with e; subst e) | cases e)
        rw [beq_iff_eq.mp z]
        refine ⟨.ref a, hm, ?_⟩
        show Rep _ _ _ _
        unfold Rep
        refine ⟨a, ob, vs, nn, rfl, fun q => ?_, F.keep a ob hob, hcls, hdat, ints_reps hI⟩
        rcases q with q | q
        · (first | subst q | contradiction | (injection q with q; subst q) | cases q)
        · rw [List.mem_singleton.mp q, get_size] at hob; (first | subst hob | contradiction | (injection hob with hob; subst hob) | cases hob)
    · rcases q with q | q
      · exact absurd rfl (noc y _ q).1
      · exact absurd rfl (noc y _ q).2
  have IS0 := (X_sound (W := W) (A := A) hA1 (by omega) (by omega) (hC W rfl) (hX W rfl) (R_sound n W A (hC W rfl) (hX W rfl) (hT W rfl) ⟨_, hfr, hfo⟩ hA1 hA2 hA3) 64).2.2
  refine exs_sound hE ⟨_, _, hfr, hfo, hf0⟩ IS0 body _ E [] s [] Q iv hV (Ok.po hlaw fun pr st' hp => ?_)
  obtain ⟨fl, ρ'⟩ := pr
  have hp : fl = .ret (.v (.bool true)) := hp
  subst hp
  intro σ' h' tk b f k i r
  obtain ⟨r, _⟩ := r
  cases b with
  | ret v =>
    have r : v = .bool true := r
    subst r
    exact q h' tk fun b o e => i.keep b o ((b1 b).trans e)
  | _ => exact r.elim
end Mine

end

section
open PySem PySem.W PySem.Spec PySem.Calls PyProof.Rows
set_option maxRecDepth 100000
set_option maxHeartbeats 8000000
namespace Mine

noncomputable def fnS (s : Stmt) : FnI := match s with
  | .FunctionDef _ a b _ _ _ sc _ _ _ => ⟨a.args.map (·.arg), sc, b⟩
  | _ => ⟨[], default, []⟩
noncomputable def fi (i : Nat) : FnI := fnS (nthS PySem.Challenge.pw_nt0210_02.main.body i)
noncomputable def mi (i j : Nat) : FnI := fnS (clsS (nthS PySem.Challenge.pw_nt0210_02.main.body i) j)
noncomputable def gR (s : String) (a : Addr) : Str × Value := (Str.ofString s, .ref a)
noncomputable def gB1 (s : String) : Str × Value := (Str.ofString s, .builtin s)
noncomputable def gT (s : String) : Str × Value := (Str.ofString s, .type s)
noncomputable def gI (s : String) (i : Int) (t : Nat) : Str × Value := (Str.ofString s, .int i t)
noncomputable def fE (a : Addr) (f : FnI) : Addr × FnI := (a, f)
noncomputable def d2 : TbD where
  G := [gB1 "isinstance", gB1 "abs", gB1 "min", gB1 "max", gB1 "len", gB1 "divmod", gB1 "sum", gT "int", gT "bool", gT "range", gR "size_of" 126, gR "sign_of_whole" 133, gR "zeros_below" 140, gR "lean" 147, gR "nearest_shift" 154, gR "shifted_round" 161, gR "with_sticky" 168, gR "rounded" 175, gR "place_of" 189, gR "sign_of" 196, gR "negative" 203, gR "far_sum" 231, gR "add_reals" 238, gR "subtract_reals" 245, gR "multiply_reals" 252, gR "divide_reals" 259, gR "is_whole" 301, gR "is_exact" 308, gR "top_of" 315, gR "bottom_of" 322, gR "gcd_of" 329, gR "made" 336, gR "sign_of_exact" 350, gR "negate_exact" 357, gR "add_exact" 364, gR "subtract_exact" 371, gR "multiply_exact" 378, gR "reciprocal_exact" 385, gR "divide_exact" 392, gR "is_inexact" 413, gR "sign" 420, gR "to_inexact" 441, gR "_law_low" 763, gR "_law_near" 770, gR "_law_real" 777, gR "_law_number" 784, gR "_law_fraction" 791, gR "_law_shown" 798, gR "_law_rounded" 805, gR "_law_due" 812, gR "_law_told" 819, gR "is_exact_exact" 308, gR "to_inexact_numkinds" 441, gR "Ratio" 290, gR "Real" 115, gR "Tower" 752, gR "DivisionByZero" 96, gR "SchemeError" 38, gI "REACH" 65536 314]
  mt := []
  meth := [(752, "to_inexact", 574), (752, "add", 581), (752, "subtract", 588), (752, "multiply", 595), (752, "divide", 602)]
  attr := [(290, "top"), (290, "bottom"), (115, "mantissa"), (115, "exponent"), (752, "precision"), (96, "irritants")]
  able := [126, 133, 140, 147, 154, 161, 168, 175, 189, 196, 203, 231, 238, 245, 252, 259, 301, 308, 315, 322, 329, 336, 350, 357, 364, 371, 378, 385, 392, 413, 420, 441, 763, 770, 777, 784, 791, 798, 805, 812, 819, 574, 581, 588, 595, 602, 290, 115, 752]
  bi := ["isinstance", "abs", "min", "max", "len", "divmod", "sum"]
  ty := ["int", "bool", "range"]
  fn := [fE 126 (fi 9), fE 133 (fi 10), fE 140 (fi 11), fE 147 (fi 12), fE 154 (fi 13), fE 161 (fi 14), fE 168 (fi 15), fE 175 (fi 16), fE 189 (fi 18), fE 196 (fi 19), fE 203 (fi 20), fE 231 (fi 24), fE 238 (fi 25), fE 245 (fi 26), fE 252 (fi 27), fE 259 (fi 28), fE 301 (fi 33), fE 308 (fi 34), fE 315 (fi 36), fE 322 (fi 37), fE 329 (fi 38), fE 336 (fi 39), fE 350 (fi 41), fE 357 (fi 42), fE 364 (fi 43), fE 371 (fi 44), fE 378 (fi 45), fE 385 (fi 46), fE 392 (fi 47), fE 413 (fi 51), fE 420 (fi 52), fE 441 (fi 56), fE 763 (fi 65), fE 770 (fi 66), fE 777 (fi 67), fE 784 (fi 68), fE 791 (fi 69), fE 798 (fi 70), fE 805 (fi 71), fE 812 (fi 72), fE 819 (fi 73), fE 574 (mi 63 14), fE 581 (mi 63 15), fE 588 (mi 63 16), fE 595 (mi 63 17), fE 602 (mi 63 18)]
  cls := [(290, ["top", "bottom"]), (115, ["mantissa", "exponent"]), (752, ["precision"])]
  xc := [(96, ⟨["name"], "word", "irritants", "DivisionByZero"⟩)]
  esub := [((96, 96), true)]

noncomputable abbrev C2 : Cx := d2.cx
noncomputable abbrev T2 : Tab := d2.tab

theorem cxOk2 {W : Wd} {p : Params} (hK : W.K = K2 p) : CxOk W C2 := by
  refine d2.cxOk ?_ ?_ ?_ ?_ <;> rw [hK] <;> kernel_rfl
theorem exOk2 {W : Wd} {p : Params} (hK : W.K = K2 p) : ExOk W C2 := by
  refine d2.exOk ?_ ?_ <;> rw [hK]
  · have h : ∀ q ∈ d2.xc, XcP (K2 p) q.1 q.2 := by
      unfold d2
      dsimp only
      simp only [List.forall_mem_cons, List.not_mem_nil, false_implies, implies_true, and_true]
      exact ⟨⟨38, 93, 35, "SchemeError", (mi 5 0), (mi 2 0), _, _, _, _, _, _, _, _, _, _, _, _, _⟩, ⟨by kernel_rfl, by kernel_rfl, by kernel_rfl, by kernel_rfl, by kernel_rfl, by kernel_rfl, by kernel_rfl, by kernel_rfl, by kernel_rfl, by kernel_rfl, by kernel_rfl, by kernel_rfl, by kernel_rfl, by kernel_rfl, by kernel_rfl⟩, ⟨rfl, rfl, rfl, rfl, rfl, rfl, rfl, rfl, rfl, rfl, rfl, rfl⟩⟩
    exact h
  · kernel_rfl
theorem tabOk2 {W : Wd} {p : Params} (hK : W.K = K2 p) : TabOk W T2 := by
  refine d2.tabOk ?_ ?_ ?_ ?_ <;> rw [hK]
  · have h : ∀ q ∈ d2.fn, fnIn (K2 p) q.1 = some q.2 := by
      unfold d2
      dsimp only
      simp only [List.forall_mem_cons, List.not_mem_nil, false_implies, implies_true, and_true]
      refine ⟨?_, ?_, ?_, ?_, ?_, ?_, ?_, ?_, ?_, ?_, ?_, ?_, ?_, ?_, ?_, ?_, ?_, ?_, ?_, ?_, ?_, ?_, ?_, ?_, ?_, ?_, ?_, ?_, ?_, ?_, ?_, ?_, ?_, ?_, ?_, ?_, ?_, ?_, ?_, ?_, ?_, ?_, ?_, ?_, ?_, ?_⟩ <;> kernel_rfl
    exact h
  · unfold d2
    dsimp only
    simp only [List.forall_mem_cons, List.not_mem_nil, false_implies, implies_true, and_true]
    refine ⟨?_, ?_, ?_⟩ <;> kernel_rfl
  · kernel_rfl
  · kernel_rfl
end Mine

end

section
open PySem PySem.W PySem.Spec PySem.Calls PyProof.Rows
set_option maxRecDepth 100000
set_option maxHeartbeats 8000000
namespace Mine

theorem callerA_frames : callerA.frames = some [] := by first | rfl | kernel_rfl

theorem H2 (hlaw : ∀ ns : List Int, ns.length ≤ 63 → go C2 T2 99 (fi 74).sc (fun p _ => p.1 = Fl.ret (.v (.bool true))) FUEL [.sts 64 (fi 74).body] [] [(Str.ofString "script", .v (.lst (ns.map V.int)))] [] NoE) :
    PySem.Challenge.rw_nt0210_02.Holds := hd2 (by rfl) (by rfl) (by rfl) (by
  k_fill
  intro w s₀ s₁ mg mb G Y fa o pm cd doc dV kV ho hd hcd hD hmg hg args vals as hpre hlay hrd hwl hlo
  have KX := kIn_of Y
  have X := (Ground.X G).1
  have V := (Ground.X G).2
  refine Ground.open G ?_
  intro T B D TE TW
  try (refine guard_noD D (by decide +kernel) ?_; clear D)
  obtain ⟨_, _, M⟩ := bmod_of_top T
  have TA := at_of_top T
  try (obtain ⟨_, _, he, B0⟩ := based_of_top T rfl hmg ho hd; have he' : cd = _ := he; subst he'; clear he)
  clear hmg
  wrow_args hpre hlay hrd hwl hlo
  all_goals (
    first | refine callC_kw (enter_call ?_) | refine enter_call ?_ | refine callC_kw (enter_callW ?_) | refine enter_callW ?_ | w_how
    w_top on
    try refine codeAny_mono ?_ (fun _ _ g => GoodW.toG g)
    have K0 := below_caller (Top.heap T)
    w_call any ho hd hcd hD T F
    clear hd TA
    k_drop
    skip)
  all_goals (try k_fold)
  rename_i hL _ _ _ hI _ hc _ h₁ N0
  refine key (n := 99 + 1) (C := C2) (T := T2) (sc := (fi 74).sc) (x := Str.ofString "script") (by assumption) (topRead_of (by assumption)) F hL hI (fun W h => cxOk2 h) (fun W h => exOk2 h) (fun W h => tabOk2 h) rfl rfl rfl rfl rfl rfl (by decide +kernel) rfl rfl (show callerA.depth + 1 + 2 * (99 + 1) + 8 < recursionLimit from by decide +kernel) (show callerA.units + 3 + 8 * (99 + 1) + 100 < cLine from by decide +kernel) ?zza ?zzb ?zzc (fun h' tk hk => ?zzd)
  case zzc => exact law_G (hlaw _ (by omega))
  case zzb => rfl
  case zza => exact Around.frames_deeper callerA_frames
  refine ⟨.inl ⟨.bool true, .bool true, [], rfl, fun _ => rfl, ?_, ?_, ?_⟩, hk, rfl, by assumption⟩
  · constructor
  · kernel_rfl
  · exact fun _ => ⟨List.nodup_nil, fun a h => nomatch h⟩)
end Mine

end

section
open PySem PySem.W
set_option maxRecDepth 100000
set_option maxHeartbeats 8000000
set_option exponentiation.threshold 20000
set_option linter.unusedSimpArgs false
set_option linter.unusedVariables false
namespace Mine

section
variable {A B : Prop}
theorem br_true {t : Bool} (h : t = true) (a : A) : (t = true → A) ∧ (t = false → B) := ⟨fun _ => a, fun e => by rw [h] at e; (first | subst e | contradiction | (injection e with e; subst e) | cases e)⟩
theorem br_false {t : Bool} (h : t = false) (b : B) : (t = true → A) ∧ (t = false → B) := ⟨fun e => (by rw [h] at e; (first | subst e | contradiction | (injection e with e; subst e) | cases e)), fun _ => b⟩
theorem br_dec {p : Prop} [Decidable p] (a : p → A) (b : ¬p → B) : (decide p = true → A) ∧ (decide p = false → B) := ⟨fun e => a (of_decide_eq_true e), fun e => b (of_decide_eq_false e)⟩
theorem br_beq {x y : Int} (a : x = y → A) (b : x ≠ y → B) : ((x == y) = true → A) ∧ ((x == y) = false → B) := ⟨fun e => a (by simpa using e), fun e => b (by simpa using e)⟩
theorem br_bne {x y : Int} (a : x ≠ y → A) (b : x = y → B) : ((x != y) = true → A) ∧ ((x != y) = false → B) := ⟨fun e => a (by simpa using e), fun e => b (by simpa using e)⟩
theorem br_not {t : Bool} (h : (t = true → B) ∧ (t = false → A)) : ((!t) = true → A) ∧ ((!t) = false → B) := by cases t <;> simpa using h
theorem sd_and {p : Prop} (k : A) (h : p) : Side p ∧ A := ⟨Side.of h, k⟩
theorem optK.of' {α : Type} {o : Option α} {k : α → Prop} (a : α) (h : o = some a) (q : k a) : optK o k := by rw [h]; exact q
end


noncomputable def nV (t b : Int) : V := if b = 1 then .int t else .inst 290 ["top", "bottom"] [.int t, .int b]
noncomputable def rV (m e : Int) : V := .inst 115 ["mantissa", "exponent"] [.int m, .int e]
theorem iabs {a : Int} : (if a < 0 then -a else a) = (a.natAbs : Int) := by split <;> omega
theorem nV1 {t : Int} : nV t 1 = .int t := if_pos rfl
section
variable {n : Nat} {t b u c : Int} {st : Sto} {E : KV} {Q : KD}
theorem c_made (q : Q (.v (nV t b)) st) : CallK (R C2 T2 (n + 2) (.v (.val (.ref 336))) [.v (.int t), .v (.int b)] st) Q E := by
  unfold nV at q
  refine fn_G rfl rfl ?_
  (((conv => whnf); (repeat ((first | ((with_reducible apply br_true); (· exact rfl)) | ((with_reducible apply br_false); (· exact rfl))); (conv => whnf)))); repeat' (first | ((with_reducible first | apply br_dec | apply br_beq | apply br_bne) <;> (intro _; ((conv => whnf); (repeat ((first | ((with_reducible apply br_true); (· exact rfl)) | ((with_reducible apply br_false); (· exact rfl))); (conv => whnf)))))) | ((with_reducible first | apply sd_and); ((conv => whnf); (repeat ((first | ((with_reducible apply br_true); (· exact rfl)) | ((with_reducible apply br_false); (· exact rfl))); (conv => whnf)))))))
  · rename_i h; rw [if_pos h] at q; rw [List.take_length]; exact q
  · rename_i h; rw [if_neg h] at q; rw [List.take_length]; exact q
theorem c_top (q : Q (.v (.int t)) st) : CallK (R C2 T2 (n + 2) (.v (.val (.ref 315))) [.v (nV t b)] st) Q E := by
  unfold nV
  split
  all_goals
    refine fn_G rfl rfl ?_
    (((conv => whnf); (repeat ((first | ((with_reducible apply br_true); (· exact rfl)) | ((with_reducible apply br_false); (· exact rfl))); (conv => whnf)))); repeat' (first | ((with_reducible first | apply br_dec | apply br_beq | apply br_bne) <;> (intro _; ((conv => whnf); (repeat ((first | ((with_reducible apply br_true); (· exact rfl)) | ((with_reducible apply br_false); (· exact rfl))); (conv => whnf)))))) | ((with_reducible first | apply sd_and); ((conv => whnf); (repeat ((first | ((with_reducible apply br_true); (· exact rfl)) | ((with_reducible apply br_false); (· exact rfl))); (conv => whnf)))))))
    rw [List.take_length]; exact q
theorem c_bot (q : Q (.v (.int b)) st) : CallK (R C2 T2 (n + 2) (.v (.val (.ref 322))) [.v (nV t b)] st) Q E := by
  unfold nV
  split
  all_goals
    rename_i h
    refine fn_G rfl rfl ?_
    (((conv => whnf); (repeat ((first | ((with_reducible apply br_true); (· exact rfl)) | ((with_reducible apply br_false); (· exact rfl))); (conv => whnf)))); repeat' (first | ((with_reducible first | apply br_dec | apply br_beq | apply br_bne) <;> (intro _; ((conv => whnf); (repeat ((first | ((with_reducible apply br_true); (· exact rfl)) | ((with_reducible apply br_false); (· exact rfl))); (conv => whnf)))))) | ((with_reducible first | apply sd_and); ((conv => whnf); (repeat ((first | ((with_reducible apply br_true); (· exact rfl)) | ((with_reducible apply br_false); (· exact rfl))); (conv => whnf)))))))
    rw [List.take_length]
    first | exact q | (rw [h] at q; exact q)
theorem c_whole (q : Q (.v (.bool (decide (b = 1)))) st) : CallK (R C2 T2 (n + 2) (.v (.val (.ref 301))) [.v (nV t b)] st) Q E := by
  unfold nV
  split
  · rename_i h
    rw [decide_eq_true h] at q
    refine fn_G rfl rfl ?_
    (((conv => whnf); (repeat ((first | ((with_reducible apply br_true); (· exact rfl)) | ((with_reducible apply br_false); (· exact rfl))); (conv => whnf)))); repeat' (first | ((with_reducible first | apply br_dec | apply br_beq | apply br_bne) <;> (intro _; ((conv => whnf); (repeat ((first | ((with_reducible apply br_true); (· exact rfl)) | ((with_reducible apply br_false); (· exact rfl))); (conv => whnf)))))) | ((with_reducible first | apply sd_and); ((conv => whnf); (repeat ((first | ((with_reducible apply br_true); (· exact rfl)) | ((with_reducible apply br_false); (· exact rfl))); (conv => whnf)))))))
    rw [List.take_length]; exact q
  · rename_i h
    rw [decide_eq_false h] at q
    refine fn_G rfl rfl ?_
    (((conv => whnf); (repeat ((first | ((with_reducible apply br_true); (· exact rfl)) | ((with_reducible apply br_false); (· exact rfl))); (conv => whnf)))); repeat' (first | ((with_reducible first | apply br_dec | apply br_beq | apply br_bne) <;> (intro _; ((conv => whnf); (repeat ((first | ((with_reducible apply br_true); (· exact rfl)) | ((with_reducible apply br_false); (· exact rfl))); (conv => whnf)))))) | ((with_reducible first | apply sd_and); ((conv => whnf); (repeat ((first | ((with_reducible apply br_true); (· exact rfl)) | ((with_reducible apply br_false); (· exact rfl))); (conv => whnf)))))))
    rw [List.take_length]; exact q
theorem c_wholeR {m e : Int} (q : Q (.v (.bool false)) st) : CallK (R C2 T2 (n + 2) (.v (.val (.ref 301))) [.v (rV m e)] st) Q E := by
  refine fn_G rfl rfl ?_
  (((conv => whnf); (repeat ((first | ((with_reducible apply br_true); (· exact rfl)) | ((with_reducible apply br_false); (· exact rfl))); (conv => whnf)))); repeat' (first | ((with_reducible first | apply br_dec | apply br_beq | apply br_bne) <;> (intro _; ((conv => whnf); (repeat ((first | ((with_reducible apply br_true); (· exact rfl)) | ((with_reducible apply br_false); (· exact rfl))); (conv => whnf)))))) | ((with_reducible first | apply sd_and); ((conv => whnf); (repeat ((first | ((with_reducible apply br_true); (· exact rfl)) | ((with_reducible apply br_false); (· exact rfl))); (conv => whnf)))))))
  rw [List.take_length]; exact q
end

section
variable {n : Nat} {t b u c m e : Int} {st : Sto} {E : KV} {Q : KD}
theorem c_exact (q : Q (.v (.bool true)) st) : CallK (R C2 T2 (n + 3) (.v (.val (.ref 308))) [.v (nV t b)] st) Q E := by
  refine fn_G rfl rfl ?_
  (((conv => whnf); (repeat ((first | ((with_reducible apply br_true); (· exact rfl)) | ((with_reducible apply br_false); (· exact rfl))); (conv => whnf)))); repeat' (first | ((with_reducible first | apply br_dec | apply br_beq | apply br_bne) <;> (intro _; ((conv => whnf); (repeat ((first | ((with_reducible apply br_true); (· exact rfl)) | ((with_reducible apply br_false); (· exact rfl))); (conv => whnf)))))) | ((with_reducible first | apply sd_and | apply c_whole); ((conv => whnf); (repeat ((first | ((with_reducible apply br_true); (· exact rfl)) | ((with_reducible apply br_false); (· exact rfl))); (conv => whnf)))))))
  · rename_i h; rw [List.take_length, decide_eq_true h]; exact q
  · rename_i h
    have e : nV t b = .inst 290 ["top", "bottom"] [.int t, .int b] := if_neg h
    rw [e]
    (((conv => whnf); (repeat ((first | ((with_reducible apply br_true); (· exact rfl)) | ((with_reducible apply br_false); (· exact rfl))); (conv => whnf)))); repeat' (first | ((with_reducible first | apply br_dec | apply br_beq | apply br_bne) <;> (intro _; ((conv => whnf); (repeat ((first | ((with_reducible apply br_true); (· exact rfl)) | ((with_reducible apply br_false); (· exact rfl))); (conv => whnf)))))) | ((with_reducible first | apply sd_and | apply c_whole); ((conv => whnf); (repeat ((first | ((with_reducible apply br_true); (· exact rfl)) | ((with_reducible apply br_false); (· exact rfl))); (conv => whnf)))))))
    rw [List.take_length]; exact q
theorem c_exactR (q : Q (.v (.bool false)) st) : CallK (R C2 T2 (n + 3) (.v (.val (.ref 308))) [.v (rV m e)] st) Q E := by
  refine fn_G rfl rfl ?_
  (((conv => whnf); (repeat ((first | ((with_reducible apply br_true); (· exact rfl)) | ((with_reducible apply br_false); (· exact rfl))); (conv => whnf)))); repeat' (first | ((with_reducible first | apply br_dec | apply br_beq | apply br_bne) <;> (intro _; ((conv => whnf); (repeat ((first | ((with_reducible apply br_true); (· exact rfl)) | ((with_reducible apply br_false); (· exact rfl))); (conv => whnf)))))) | ((with_reducible first | apply sd_and | apply c_wholeR); ((conv => whnf); (repeat ((first | ((with_reducible apply br_true); (· exact rfl)) | ((with_reducible apply br_false); (· exact rfl))); (conv => whnf)))))))
  rw [List.take_length]; exact q
theorem c_inex (q : Q (.v (.bool false)) st) : CallK (R C2 T2 (n + 2) (.v (.val (.ref 413))) [.v (nV t b)] st) Q E := by
  unfold nV
  split
  all_goals
    refine fn_G rfl rfl ?_
    (((conv => whnf); (repeat ((first | ((with_reducible apply br_true); (· exact rfl)) | ((with_reducible apply br_false); (· exact rfl))); (conv => whnf)))); repeat' (first | ((with_reducible first | apply br_dec | apply br_beq | apply br_bne) <;> (intro _; ((conv => whnf); (repeat ((first | ((with_reducible apply br_true); (· exact rfl)) | ((with_reducible apply br_false); (· exact rfl))); (conv => whnf)))))) | ((with_reducible first | apply sd_and); ((conv => whnf); (repeat ((first | ((with_reducible apply br_true); (· exact rfl)) | ((with_reducible apply br_false); (· exact rfl))); (conv => whnf)))))))
    rw [List.take_length]; exact q
theorem c_inexR (q : Q (.v (.bool true)) st) : CallK (R C2 T2 (n + 2) (.v (.val (.ref 413))) [.v (rV m e)] st) Q E := by
  refine fn_G rfl rfl ?_
  (((conv => whnf); (repeat ((first | ((with_reducible apply br_true); (· exact rfl)) | ((with_reducible apply br_false); (· exact rfl))); (conv => whnf)))); repeat' (first | ((with_reducible first | apply br_dec | apply br_beq | apply br_bne) <;> (intro _; ((conv => whnf); (repeat ((first | ((with_reducible apply br_true); (· exact rfl)) | ((with_reducible apply br_false); (· exact rfl))); (conv => whnf)))))) | ((with_reducible first | apply sd_and); ((conv => whnf); (repeat ((first | ((with_reducible apply br_true); (· exact rfl)) | ((with_reducible apply br_false); (· exact rfl))); (conv => whnf)))))))
  rw [List.take_length]; exact q
theorem sgn (x : Int) : b2i (decide (0 < x)) - b2i (decide (x < 0)) = x.sign := by
  rcases Int.lt_trichotomy x 0 with h | h | h
  · rw [Int.sign_eq_neg_one_of_neg h, decide_eq_true h, decide_eq_false (by omega)]; rfl
  · subst h; rfl
  · rw [Int.sign_eq_one_of_pos h, decide_eq_true h, decide_eq_false (by omega)]; rfl
theorem c_signE (q : Q (.v (.int t.sign)) st) : CallK (R C2 T2 (n + 3) (.v (.val (.ref 350))) [.v (nV t b)] st) Q E := by
  refine fn_G rfl rfl ?_
  (((conv => whnf); (repeat ((first | ((with_reducible apply br_true); (· exact rfl)) | ((with_reducible apply br_false); (· exact rfl))); (conv => whnf)))); repeat' (first | ((with_reducible first | apply br_dec | apply br_beq | apply br_bne) <;> (intro _; ((conv => whnf); (repeat ((first | ((with_reducible apply br_true); (· exact rfl)) | ((with_reducible apply br_false); (· exact rfl))); (conv => whnf)))))) | ((with_reducible first | apply sd_and | apply c_top); ((conv => whnf); (repeat ((first | ((with_reducible apply br_true); (· exact rfl)) | ((with_reducible apply br_false); (· exact rfl))); (conv => whnf)))))))
  rw [List.take_length]
  rw [sgn]; exact q
theorem c_neg (q : Q (.v (nV (-t) b)) st) : CallK (R C2 T2 (n + 3) (.v (.val (.ref 357))) [.v (nV t b)] st) Q E := by
  refine fn_G rfl rfl ?_
  (((conv => whnf); (repeat ((first | ((with_reducible apply br_true); (· exact rfl)) | ((with_reducible apply br_false); (· exact rfl))); (conv => whnf)))); repeat' (first | ((with_reducible first | apply br_dec | apply br_beq | apply br_bne) <;> (intro _; ((conv => whnf); (repeat ((first | ((with_reducible apply br_true); (· exact rfl)) | ((with_reducible apply br_false); (· exact rfl))); (conv => whnf)))))) | ((with_reducible first | apply sd_and | apply c_made | apply c_top | apply c_bot); ((conv => whnf); (repeat ((first | ((with_reducible apply br_true); (· exact rfl)) | ((with_reducible apply br_false); (· exact rfl))); (conv => whnf)))))))
  rw [List.take_length, Int.zero_sub]; exact q
end

noncomputable def mu (x y : Nat) : Nat := if y = 0 then 0 else Nat.log2 (x * y) + 2 + (if x < y then 1 else 0)
theorem log2_dbl {n m : Nat} (hn : 0 < n) (h : 2 * n ≤ m) : Nat.log2 n + 1 ≤ Nat.log2 m := by
  have h1 : 2 ^ (Nat.log2 n) ≤ n := Nat.log2_self_le (by omega)
  have h2 : m < 2 ^ (Nat.log2 m + 1) := Nat.lt_log2_self
  have h3 : 2 ^ (Nat.log2 n + 1) ≤ m := by rw [Nat.pow_succ]; omega
  exact (Nat.le_log2 (by omega)).mpr h3
theorem mu_step {x y : Nat} (hy : y ≠ 0) : mu y (x % y) < mu x y := by
  unfold mu
  rw [if_neg hy]
  by_cases hr : x % y = 0
  · rw [if_pos hr]; omega
  · rw [if_neg hr]
    have hlt : x % y < y := Nat.mod_lt _ (by omega)
    rw [if_neg (by omega)]
    by_cases hxy : x < y
    · rw [if_pos hxy, Nat.mod_eq_of_lt hxy, Nat.mul_comm y x]; omega
    · rw [if_neg hxy]
      have e := Nat.div_add_mod x y
      have q : 1 ≤ x / y := (Nat.one_le_div_iff (by omega)).mpr (by omega)
      have h2 : y + x % y ≤ x := by
        have : y * 1 ≤ y * (x / y) := Nat.mul_le_mul_left y q
        omega
      have h3 : 2 * (y * (x % y)) ≤ x * y := by
        have : (2 * (x % y)) * y ≤ x * y := Nat.mul_le_mul_right y (by omega)
        calc 2 * (y * (x % y)) = (2 * (x % y)) * y := by rw [Nat.mul_comm y, Nat.mul_assoc]
          _ ≤ x * y := this
      have h4 := log2_dbl (n := y * (x % y)) (Nat.mul_pos (by omega) (by omega)) h3
      omega

theorem small_mu {x y : Nat} (hx : x < 2 ^ 10000) (hy : y < 2 ^ 10000) : mu x y < 20010 := by
  unfold mu
  split
  · omega
  · have h : x * y < 2 ^ 20000 := by
      calc x * y < 2 ^ 10000 * 2 ^ 10000 := Nat.mul_lt_mul'' hx hy
        _ = 2 ^ 20000 := by rw [← Nat.pow_add]
    have : Nat.log2 (x * y) < 20000 ∨ x * y = 0 := by
      by_cases z : x * y = 0
      · exact .inr z
      · exact .inl ((Nat.log2_lt z).mpr h)
    rcases this with h | h
    · split <;> omega
    · rw [h]
      have : Nat.log2 0 = 0 := by decide
      rw [this]
      split <;> omega

noncomputable def Bg (x : Int) : Prop := x.natAbs < 2 ^ 10000
noncomputable def Sm (x : Int) : Prop := x.natAbs < 2 ^ 4000
theorem log_lt {x k : Nat} (h : x < 2 ^ k) (hk : 0 < k) : x.log2 < k := by
  by_cases z : x = 0
  · subst z
    have : Nat.log2 0 = 0 := by decide
    omega
  · exact (Nat.log2_lt z).mpr h
theorem small_of {x : Int} {k : Nat} (h : x.natAbs < 2 ^ k) (hk : 0 < k) (hk' : k ≤ 9000) : small x = true := by
  unfold small
  exact decide_eq_true (Nat.lt_of_lt_of_le (log_lt h hk) hk')
theorem mul_of {x y : Int} (hx : Sm x) (hy : Sm y) : mulOk x y = true := by
  unfold mulOk
  rw [small_of hx (by decide) (by decide), small_of hy (by decide) (by decide)]; rfl
theorem dv_of {x : Int} (h0 : x ≠ 0) (hx : Sm x) : dvOk x = true := by
  unfold dvOk
  rw [small_of hx (by decide) (by decide), decide_eq_true h0]; rfl
theorem Sm.of_le {x y : Int} (hy : Sm y) (h : x.natAbs ≤ y.natAbs) : Sm x := Nat.lt_of_le_of_lt h hy
theorem gcd_le {a b : Int} (hb : b ≠ 0) : Int.gcd a b ≤ b.natAbs := Nat.le_of_dvd (by omega) (Int.gcd_dvd_natAbs_right a b)
theorem gcd_pos' {a b : Int} (hb : b ≠ 0) : 0 < Int.gcd a b := Nat.pos_of_ne_zero fun h => hb (Int.gcd_eq_zero_iff.mp h).2
theorem Sm.big {x : Int} (h : Sm x) : Bg x := Nat.lt_trans h (Nat.pow_lt_pow_right (by decide) (by decide))
theorem fdiv_nat {a : Int} {g : Nat} : a.fdiv (g : Int) = a / (g : Int) := Int.fdiv_eq_ediv_of_nonneg _ (by omega)

noncomputable def exG (b c : Int) : Int := Int.gcd b c
noncomputable def exT (t b u c : Int) : Int := t * (c / exG b c) + u * (b / exG b c)
noncomputable def exS (t b u c : Int) : Int := Int.gcd (exT t b u c) (exG b c)
theorem div_le_nat {b : Int} {g : Nat} (h : 0 ≤ b) : (b / (g : Int)).natAbs ≤ b.natAbs := by
  have h1 := Int.ediv_le_self (g : Int) h
  have h2 := Int.ediv_nonneg h (Int.natCast_nonneg g)
  omega
theorem Sm.mul_lt {x y : Int} (hx : Sm x) (hy : Sm y) : (x * y).natAbs < 2 ^ 8000 := by
  unfold Sm at hx hy
  rw [Int.natAbs_mul]
  calc x.natAbs * y.natAbs < 2 ^ 4000 * 2 ^ 4000 := Nat.mul_lt_mul'' hx hy
    _ = 2 ^ 8000 := by rw [← Nat.pow_add]
theorem bg_add {x y : Int} (hx : x.natAbs < 2 ^ 8000) (hy : y.natAbs < 2 ^ 8000) : Bg (x + y) := by
  unfold Bg
  have h1 : (x + y).natAbs ≤ x.natAbs + y.natAbs := Int.natAbs_add_le x y
  have h2 : x.natAbs + y.natAbs < 2 ^ 8000 + 2 ^ 8000 := Nat.add_lt_add hx hy
  have h3 : (2 : Nat) ^ 8000 + 2 ^ 8000 ≤ 2 ^ 10000 := by
    rw [← Nat.two_mul, ← Nat.pow_succ']
    exact Nat.pow_le_pow_right (by decide) (by decide)
  exact Nat.lt_of_le_of_lt h1 (Nat.lt_of_lt_of_le h2 h3)

section
variable {n : Nat} {t b u c m e : Int} {st : Sto} {E : KV} {Q : KD}
theorem c_gcd {a b : Int} (ha : Bg a) (hb : Bg b) (q : Q (.v (.int (Int.gcd a b))) st) : CallK (R C2 T2 (n + 2) (.v (.val (.ref 329))) [.v (.int a), .v (.int b)] st) Q E := by
  refine fn_G rfl rfl ?_
  (((conv => whnf); (repeat ((first | ((with_reducible apply br_true); (· exact rfl)) | ((with_reducible apply br_false); (· exact rfl))); (conv => whnf)))); repeat' (first | ((with_reducible first | apply br_dec | apply br_beq | apply br_bne) <;> (intro _; ((conv => whnf); (repeat ((first | ((with_reducible apply br_true); (· exact rfl)) | ((with_reducible apply br_false); (· exact rfl))); (conv => whnf)))))) | ((with_reducible first | apply sd_and); ((conv => whnf); (repeat ((first | ((with_reducible apply br_true); (· exact rfl)) | ((with_reducible apply br_false); (· exact rfl))); (conv => whnf)))))))
  refine while_G (fun k ρ st' => st' = st ∧ ∃ x y : Nat, k = mu x y ∧ Nat.gcd x y = Int.gcd a b ∧ ρ = [(Str.ofString "one", .v (.int x)), (Str.ofString "other", .v (.int y))]) (k₀ := mu a.natAbs b.natAbs) ?_ ⟨rfl, a.natAbs, b.natAbs, rfl, rfl, ?_⟩ (fun k ρ st' hI => ?_)
  · have := small_mu ha hb
    show _ < 1000000000
    omega
  · rw [← iabs, ← iabs]; rfl
  · obtain ⟨rfl, x, y, rfl, hg, rfl⟩ := hI
    (((conv => whnf); (repeat ((first | ((with_reducible apply br_true); (· exact rfl)) | ((with_reducible apply br_false); (· exact rfl))); (conv => whnf)))); repeat' (first | ((with_reducible first | apply br_dec | apply br_beq | apply br_bne) <;> (intro _; ((conv => whnf); (repeat ((first | ((with_reducible apply br_true); (· exact rfl)) | ((with_reducible apply br_false); (· exact rfl))); (conv => whnf)))))) | ((with_reducible first | apply sd_and); ((conv => whnf); (repeat ((first | ((with_reducible apply br_true); (· exact rfl)) | ((with_reducible apply br_false); (· exact rfl))); (conv => whnf)))))))
    · rename_i hy
      have hy' : y ≠ 0 := fun z => hy (by rw [z]; rfl)
      refine ⟨_, mu_step hy', rfl, y, x % y, rfl, ?_, ?_⟩
      · rw [← hg, Nat.gcd_comm x y, Nat.gcd_rec y x, Nat.gcd_comm]
      · rw [Int.fmod_eq_emod_of_nonneg _ (Int.natCast_nonneg y)]; rfl
    · assumption
    · rename_i hy
      have hy' : y = 0 := Int.ofNat_eq_zero.mp hy
      subst hy'
      rw [Nat.gcd_zero_right] at hg
      rw [← hg] at q
      (((conv => whnf); (repeat ((first | ((with_reducible apply br_true); (· exact rfl)) | ((with_reducible apply br_false); (· exact rfl))); (conv => whnf)))); repeat' (first | ((with_reducible first | apply br_dec | apply br_beq | apply br_bne) <;> (intro _; ((conv => whnf); (repeat ((first | ((with_reducible apply br_true); (· exact rfl)) | ((with_reducible apply br_false); (· exact rfl))); (conv => whnf)))))) | ((with_reducible first | apply sd_and); ((conv => whnf); (repeat ((first | ((with_reducible apply br_true); (· exact rfl)) | ((with_reducible apply br_false); (· exact rfl))); (conv => whnf)))))))
      rw [List.take_length]
      exact q
end
section
variable {n : Nat} {t b u c m e : Int} {st : Sto} {E : KV} {Q : KD}
theorem c_recip (h0 : t ≠ 0) (q : Q (.v (if t < 0 then nV (-b) (-t) else nV b t)) st) : CallK (R C2 T2 (n + 3) (.v (.val (.ref 385))) [.v (nV t b)] st) Q E := by
  refine fn_G rfl rfl ?_
  (((conv => whnf); (repeat ((first | ((with_reducible apply br_true); (· exact rfl)) | ((with_reducible apply br_false); (· exact rfl))); (conv => whnf)))); repeat' (first | ((with_reducible first | apply br_dec | apply br_beq | apply br_bne) <;> (intro _; ((conv => whnf); (repeat ((first | ((with_reducible apply br_true); (· exact rfl)) | ((with_reducible apply br_false); (· exact rfl))); (conv => whnf)))))) | ((with_reducible first | apply sd_and | apply c_made | apply c_top | apply c_bot); ((conv => whnf); (repeat ((first | ((with_reducible apply br_true); (· exact rfl)) | ((with_reducible apply br_false); (· exact rfl))); (conv => whnf)))))))
  · rename_i h; rw [if_pos h] at q; rw [List.take_length, Int.zero_sub, Int.zero_sub]; exact q
  · rename_i h; rw [if_neg h] at q; rw [List.take_length]; exact q
theorem c_add (ht : Sm t) (hb : Sm b) (hu : Sm u) (hc : Sm c) (h0 : 0 < b) (h1 : 0 < c) (q : Q (.v (nV (exT t b u c / exS t b u c) (b / exG b c * (c / exS t b u c)))) st) :
    CallK (R C2 T2 (n + 4) (.v (.val (.ref 364))) [.v (nV t b), .v (nV u c)] st) Q E := by
  have hg : 0 < Int.gcd b c := gcd_pos' (by omega)
  have Sg : Sm (Int.gcd b c : Int) := hc.of_le (by have := gcd_le (a := b) (b := c) (by omega); omega)
  have Sc : Sm (c.fdiv (Int.gcd b c : Int)) := hc.of_le (by rw [fdiv_nat]; exact div_le_nat (by omega))
  have Sb : Sm (b.fdiv (Int.gcd b c : Int)) := hb.of_le (by rw [fdiv_nat]; exact div_le_nat (by omega))
  have B1 : Bg (t * c.fdiv (Int.gcd b c : Int) + u * b.fdiv (Int.gcd b c : Int)) := bg_add (ht.mul_lt Sc) (hu.mul_lt Sb)
  have hs : 0 < Int.gcd (t * c.fdiv (Int.gcd b c : Int) + u * b.fdiv (Int.gcd b c : Int)) (Int.gcd b c : Int) := gcd_pos' (by omega)
  have Ss : Sm (Int.gcd (t * c.fdiv (Int.gcd b c : Int) + u * b.fdiv (Int.gcd b c : Int)) (Int.gcd b c : Int) : Int) := Sg.of_le (by have := gcd_le (a := t * c.fdiv (Int.gcd b c : Int) + u * b.fdiv (Int.gcd b c : Int)) (b := (Int.gcd b c : Int)) (by omega); omega)
  have Sc2 : Sm (c.fdiv (Int.gcd (t * c.fdiv (Int.gcd b c : Int) + u * b.fdiv (Int.gcd b c : Int)) (Int.gcd b c : Int) : Int)) := hc.of_le (by rw [fdiv_nat]; exact div_le_nat (by omega))
  have q' : Q (.v (nV ((t * c.fdiv (Int.gcd b c : Int) + u * b.fdiv (Int.gcd b c : Int)).fdiv (Int.gcd (t * c.fdiv (Int.gcd b c : Int) + u * b.fdiv (Int.gcd b c : Int)) (Int.gcd b c : Int) : Int)) (b.fdiv (Int.gcd b c : Int) * c.fdiv (Int.gcd (t * c.fdiv (Int.gcd b c : Int) + u * b.fdiv (Int.gcd b c : Int)) (Int.gcd b c : Int) : Int)))) st := by
    have e : exS t b u c = (Int.gcd (exT t b u c) (Int.gcd b c : Int) : Int) := rfl
    rw [e] at q
    unfold exT exG at q
    simp only [fdiv_nat]
    exact q
  have hgi : (Int.gcd b c : Int) ≠ 0 := by omega
  have hsi : (Int.gcd (t * c.fdiv (Int.gcd b c : Int) + u * b.fdiv (Int.gcd b c : Int)) (Int.gcd b c : Int) : Int) ≠ 0 := by omega
  refine fn_G rfl rfl ?_
  (((conv => whnf); (repeat ((first | ((with_reducible apply br_true); (· exact rfl)) | ((with_reducible apply br_false); (· exact rfl))); (conv => whnf)))); repeat' (first | ((with_reducible first | apply br_dec | apply br_beq | apply br_bne) <;> (intro _; ((conv => whnf); (repeat ((first | ((with_reducible apply br_true); (· exact rfl)) | ((with_reducible apply br_false); (· exact rfl))); (conv => whnf)))))) | ((with_reducible first | apply sd_and | apply c_made | apply c_top | apply c_bot | apply c_whole); ((conv => whnf); (repeat ((first | ((with_reducible apply br_true); (· exact rfl)) | ((with_reducible apply br_false); (· exact rfl))); (conv => whnf)))))))
  · rename_i hb1 hc1
    subst hb1 hc1
    (((conv => whnf); (repeat ((first | ((with_reducible apply br_true); (· exact rfl)) | ((with_reducible apply br_false); (· exact rfl))); (conv => whnf)))); repeat' (first | ((with_reducible first | apply br_dec | apply br_beq | apply br_bne) <;> (intro _; ((conv => whnf); (repeat ((first | ((with_reducible apply br_true); (· exact rfl)) | ((with_reducible apply br_false); (· exact rfl))); (conv => whnf)))))) | ((with_reducible first | apply sd_and | apply c_made | apply c_top | apply c_bot | apply c_whole); ((conv => whnf); (repeat ((first | ((with_reducible apply br_true); (· exact rfl)) | ((with_reducible apply br_false); (· exact rfl))); (conv => whnf)))))))
    have e : nV (exT t 1 u 1 / exS t 1 u 1) (1 / exG 1 1 * (1 / exS t 1 u 1)) = .int (t + u) := by
      have e1 : exG 1 1 = 1 := by decide
      have e2 : exT t 1 u 1 = t + u := by unfold exT; rw [e1]; simp
      have e3 : exS t 1 u 1 = 1 := by unfold exS; rw [e1, Int.gcd_one]; rfl
      rw [e1, e2, e3]; simp [nV]
    rw [e] at q
    rw [List.take_length]
    exact q
  all_goals
    refine c_gcd hb.big hc.big ?_
    (((conv => whnf); (repeat ((first | ((with_reducible apply br_true); (· exact rfl)) | ((with_reducible apply br_false); (· exact rfl))); (conv => whnf)))); repeat' (first | ((with_reducible first | apply br_dec | apply br_beq | apply br_bne) <;> (intro _; ((conv => whnf); (repeat ((first | ((with_reducible apply br_true); (· exact rfl)) | ((with_reducible apply br_false); (· exact rfl))); (conv => whnf)))))) | ((with_reducible first | apply sd_and | apply c_made | apply c_top | apply c_bot | apply c_whole); ((conv => whnf); (repeat ((first | ((with_reducible apply br_true); (· exact rfl)) | ((with_reducible apply br_false); (· exact rfl))); (conv => whnf)))))))
    · refine c_gcd B1 Sg.big ?_
      (((conv => whnf); (repeat ((first | ((with_reducible apply br_true); (· exact rfl)) | ((with_reducible apply br_false); (· exact rfl))); (conv => whnf)))); repeat' (first | ((with_reducible first | apply br_dec | apply br_beq | apply br_bne) <;> (intro _; ((conv => whnf); (repeat ((first | ((with_reducible apply br_true); (· exact rfl)) | ((with_reducible apply br_false); (· exact rfl))); (conv => whnf)))))) | ((with_reducible first | apply sd_and | apply c_made | apply c_top | apply c_bot | apply c_whole); ((conv => whnf); (repeat ((first | ((with_reducible apply br_true); (· exact rfl)) | ((with_reducible apply br_false); (· exact rfl))); (conv => whnf)))))))
      · rw [List.take_length]; exact q'
      all_goals first | exact mul_of Sb Sc2 | exact dv_of hsi Ss | exact dv_of hgi Sg
    all_goals first | exact dv_of hgi Sg | exact mul_of ht Sc | exact mul_of hu Sb
theorem c_sub (ht : Sm t) (hb : Sm b) (hu : Sm u) (hc : Sm c) (h0 : 0 < b) (h1 : 0 < c) (q : Q (.v (nV (exT t b (-u) c / exS t b (-u) c) (b / exG b c * (c / exS t b (-u) c)))) st) :
    CallK (R C2 T2 (n + 5) (.v (.val (.ref 371))) [.v (nV t b), .v (nV u c)] st) Q E := by
  refine fn_G rfl rfl ?_
  (((conv => whnf); (repeat ((first | ((with_reducible apply br_true); (· exact rfl)) | ((with_reducible apply br_false); (· exact rfl))); (conv => whnf)))); repeat' (first | ((with_reducible first | apply br_dec | apply br_beq | apply br_bne) <;> (intro _; ((conv => whnf); (repeat ((first | ((with_reducible apply br_true); (· exact rfl)) | ((with_reducible apply br_false); (· exact rfl))); (conv => whnf)))))) | ((with_reducible first | apply sd_and | apply c_neg); ((conv => whnf); (repeat ((first | ((with_reducible apply br_true); (· exact rfl)) | ((with_reducible apply br_false); (· exact rfl))); (conv => whnf)))))))
  refine c_add ht hb (by unfold Sm at hu ⊢; rw [Int.natAbs_neg]; exact hu) hc h0 h1 ?_
  (((conv => whnf); (repeat ((first | ((with_reducible apply br_true); (· exact rfl)) | ((with_reducible apply br_false); (· exact rfl))); (conv => whnf)))); repeat' (first | ((with_reducible first | apply br_dec | apply br_beq | apply br_bne) <;> (intro _; ((conv => whnf); (repeat ((first | ((with_reducible apply br_true); (· exact rfl)) | ((with_reducible apply br_false); (· exact rfl))); (conv => whnf)))))) | ((with_reducible first | apply sd_and | apply c_neg); ((conv => whnf); (repeat ((first | ((with_reducible apply br_true); (· exact rfl)) | ((with_reducible apply br_false); (· exact rfl))); (conv => whnf)))))))
  rw [List.take_length]; exact q
noncomputable def muX (t c : Int) : Int := Int.gcd t c
theorem c_mul (ht : Sm t) (hb : Sm b) (hu : Sm u) (hc : Sm c) (h0 : 0 < b) (h1 : 0 < c) (q : Q (.v (nV (t / muX t c * (u / muX u b)) (b / muX u b * (c / muX t c)))) st) :
    CallK (R C2 T2 (n + 4) (.v (.val (.ref 378))) [.v (nV t b), .v (nV u c)] st) Q E := by
  have g1 : 0 < Int.gcd t c := gcd_pos' (by omega)
  have g2 : 0 < Int.gcd u b := gcd_pos' (by omega)
  have S1 : Sm (Int.gcd t c : Int) := hc.of_le (by have := gcd_le (a := t) (b := c) (by omega); omega)
  have S2 : Sm (Int.gcd u b : Int) := hb.of_le (by have := gcd_le (a := u) (b := b) (by omega); omega)
  have n1 : (Int.gcd t c : Int) ≠ 0 := by omega
  have n2 : (Int.gcd u b : Int) ≠ 0 := by omega
  have D1 : Sm (t.fdiv (Int.gcd t c : Int)) := ht.of_le (by rw [fdiv_nat]; exact Int.natAbs_ediv_le_natAbs _ _)
  have D2 : Sm (u.fdiv (Int.gcd u b : Int)) := hu.of_le (by rw [fdiv_nat]; exact Int.natAbs_ediv_le_natAbs _ _)
  have D3 : Sm (b.fdiv (Int.gcd u b : Int)) := hb.of_le (by rw [fdiv_nat]; exact Int.natAbs_ediv_le_natAbs _ _)
  have D4 : Sm (c.fdiv (Int.gcd t c : Int)) := hc.of_le (by rw [fdiv_nat]; exact Int.natAbs_ediv_le_natAbs _ _)
  have q' : Q (.v (nV (t.fdiv (Int.gcd t c : Int) * u.fdiv (Int.gcd u b : Int)) (b.fdiv (Int.gcd u b : Int) * c.fdiv (Int.gcd t c : Int)))) st := by
    simp only [fdiv_nat]; exact q
  refine fn_G rfl rfl ?_
  (((conv => whnf); (repeat ((first | ((with_reducible apply br_true); (· exact rfl)) | ((with_reducible apply br_false); (· exact rfl))); (conv => whnf)))); repeat' (first | ((with_reducible first | apply br_dec | apply br_beq | apply br_bne) <;> (intro _; ((conv => whnf); (repeat ((first | ((with_reducible apply br_true); (· exact rfl)) | ((with_reducible apply br_false); (· exact rfl))); (conv => whnf)))))) | ((with_reducible first | apply sd_and | apply c_made | apply c_top | apply c_bot | apply c_whole); ((conv => whnf); (repeat ((first | ((with_reducible apply br_true); (· exact rfl)) | ((with_reducible apply br_false); (· exact rfl))); (conv => whnf)))))))
  · rename_i hb1 hc1
    subst hb1 hc1
    (((conv => whnf); (repeat ((first | ((with_reducible apply br_true); (· exact rfl)) | ((with_reducible apply br_false); (· exact rfl))); (conv => whnf)))); repeat' (first | ((with_reducible first | apply br_dec | apply br_beq | apply br_bne) <;> (intro _; ((conv => whnf); (repeat ((first | ((with_reducible apply br_true); (· exact rfl)) | ((with_reducible apply br_false); (· exact rfl))); (conv => whnf)))))) | ((with_reducible first | apply sd_and | apply c_made | apply c_top | apply c_bot | apply c_whole); ((conv => whnf); (repeat ((first | ((with_reducible apply br_true); (· exact rfl)) | ((with_reducible apply br_false); (· exact rfl))); (conv => whnf)))))))
    · have e : nV (t / muX t 1 * (u / muX u 1)) (1 / muX u 1 * (1 / muX t 1)) = .int (t * u) := by
        unfold muX
        rw [Int.gcd_one, Int.gcd_one]; simp [nV]
      rw [e] at q
      rw [List.take_length]
      exact q
    · exact mul_of ht hu
  all_goals
    refine c_gcd ht.big hc.big ?_
    (((conv => whnf); (repeat ((first | ((with_reducible apply br_true); (· exact rfl)) | ((with_reducible apply br_false); (· exact rfl))); (conv => whnf)))); repeat' (first | ((with_reducible first | apply br_dec | apply br_beq | apply br_bne) <;> (intro _; ((conv => whnf); (repeat ((first | ((with_reducible apply br_true); (· exact rfl)) | ((with_reducible apply br_false); (· exact rfl))); (conv => whnf)))))) | ((with_reducible first | apply sd_and | apply c_made | apply c_top | apply c_bot | apply c_whole); ((conv => whnf); (repeat ((first | ((with_reducible apply br_true); (· exact rfl)) | ((with_reducible apply br_false); (· exact rfl))); (conv => whnf)))))))
    refine c_gcd hu.big hb.big ?_
    (((conv => whnf); (repeat ((first | ((with_reducible apply br_true); (· exact rfl)) | ((with_reducible apply br_false); (· exact rfl))); (conv => whnf)))); repeat' (first | ((with_reducible first | apply br_dec | apply br_beq | apply br_bne) <;> (intro _; ((conv => whnf); (repeat ((first | ((with_reducible apply br_true); (· exact rfl)) | ((with_reducible apply br_false); (· exact rfl))); (conv => whnf)))))) | ((with_reducible first | apply sd_and | apply c_made | apply c_top | apply c_bot | apply c_whole); ((conv => whnf); (repeat ((first | ((with_reducible apply br_true); (· exact rfl)) | ((with_reducible apply br_false); (· exact rfl))); (conv => whnf)))))))
    · rw [List.take_length]; exact q'
    all_goals first | exact dv_of n1 S1 | exact dv_of n2 S2 | exact mul_of D1 D2 | exact mul_of D3 D4
theorem c_div (ht : Sm t) (hb : Sm b) (hu : Sm u) (hc : Sm c) (h0 : 0 < b) (h1 : 0 < c) (hz : u ≠ 0) (q : ∀ u' c', (u' = if u < 0 then -c else c) → (c' = if u < 0 then -u else u) → Q (.v (nV (t / muX t c' * (u' / muX u' b)) (b / muX u' b * (c' / muX t c')))) st) :
    CallK (R C2 T2 (n + 5) (.v (.val (.ref 392))) [.v (nV t b), .v (nV u c)] st) Q E := by
  refine fn_G rfl rfl ?_
  (((conv => whnf); (repeat ((first | ((with_reducible apply br_true); (· exact rfl)) | ((with_reducible apply br_false); (· exact rfl))); (conv => whnf)))); repeat' (first | ((with_reducible first | apply br_dec | apply br_beq | apply br_bne) <;> (intro _; ((conv => whnf); (repeat ((first | ((with_reducible apply br_true); (· exact rfl)) | ((with_reducible apply br_false); (· exact rfl))); (conv => whnf)))))) | ((with_reducible first | apply sd_and); ((conv => whnf); (repeat ((first | ((with_reducible apply br_true); (· exact rfl)) | ((with_reducible apply br_false); (· exact rfl))); (conv => whnf)))))))
  refine c_recip hz ?_
  by_cases hn : u < 0
  · rw [if_pos hn]
    (((conv => whnf); (repeat ((first | ((with_reducible apply br_true); (· exact rfl)) | ((with_reducible apply br_false); (· exact rfl))); (conv => whnf)))); repeat' (first | ((with_reducible first | apply br_dec | apply br_beq | apply br_bne) <;> (intro _; ((conv => whnf); (repeat ((first | ((with_reducible apply br_true); (· exact rfl)) | ((with_reducible apply br_false); (· exact rfl))); (conv => whnf)))))) | ((with_reducible first | apply sd_and); ((conv => whnf); (repeat ((first | ((with_reducible apply br_true); (· exact rfl)) | ((with_reducible apply br_false); (· exact rfl))); (conv => whnf)))))))
    refine c_mul ht hb (by unfold Sm at hc ⊢; rw [Int.natAbs_neg]; exact hc) (by unfold Sm at hu ⊢; rw [Int.natAbs_neg]; exact hu) h0 (by omega) ?_
    (((conv => whnf); (repeat ((first | ((with_reducible apply br_true); (· exact rfl)) | ((with_reducible apply br_false); (· exact rfl))); (conv => whnf)))); repeat' (first | ((with_reducible first | apply br_dec | apply br_beq | apply br_bne) <;> (intro _; ((conv => whnf); (repeat ((first | ((with_reducible apply br_true); (· exact rfl)) | ((with_reducible apply br_false); (· exact rfl))); (conv => whnf)))))) | ((with_reducible first | apply sd_and); ((conv => whnf); (repeat ((first | ((with_reducible apply br_true); (· exact rfl)) | ((with_reducible apply br_false); (· exact rfl))); (conv => whnf)))))))
    rw [List.take_length]; exact q (-c) (-u) (by rw [if_pos hn]) (by rw [if_pos hn])
  · rw [if_neg hn]
    (((conv => whnf); (repeat ((first | ((with_reducible apply br_true); (· exact rfl)) | ((with_reducible apply br_false); (· exact rfl))); (conv => whnf)))); repeat' (first | ((with_reducible first | apply br_dec | apply br_beq | apply br_bne) <;> (intro _; ((conv => whnf); (repeat ((first | ((with_reducible apply br_true); (· exact rfl)) | ((with_reducible apply br_false); (· exact rfl))); (conv => whnf)))))) | ((with_reducible first | apply sd_and); ((conv => whnf); (repeat ((first | ((with_reducible apply br_true); (· exact rfl)) | ((with_reducible apply br_false); (· exact rfl))); (conv => whnf)))))))
    refine c_mul ht hb hc hu h0 (by omega) ?_
    (((conv => whnf); (repeat ((first | ((with_reducible apply br_true); (· exact rfl)) | ((with_reducible apply br_false); (· exact rfl))); (conv => whnf)))); repeat' (first | ((with_reducible first | apply br_dec | apply br_beq | apply br_bne) <;> (intro _; ((conv => whnf); (repeat ((first | ((with_reducible apply br_true); (· exact rfl)) | ((with_reducible apply br_false); (· exact rfl))); (conv => whnf)))))) | ((with_reducible first | apply sd_and); ((conv => whnf); (repeat ((first | ((with_reducible apply br_true); (· exact rfl)) | ((with_reducible apply br_false); (· exact rfl))); (conv => whnf)))))))
    rw [List.take_length]; exact q c u (by rw [if_neg hn]) (by rw [if_neg hn])
end


/-- half up to even -/
noncomputable def rhe (A B : Nat) : Nat := if B < 2 * (A % B) ∨ (2 * (A % B) = B ∧ A / B % 2 = 1) then A / B + 1 else A / B
theorem rhe_scale {A B k : Nat} (hk : 0 < k) : rhe (k * A) (k * B) = rhe A B := by
  unfold rhe
  rw [Nat.mul_div_mul_left _ _ hk, Nat.mul_mod_mul_left]
  have e1 : (k * B < 2 * (k * (A % B))) ↔ (B < 2 * (A % B)) := by
    rw [show 2 * (k * (A % B)) = k * (2 * (A % B)) from Nat.mul_left_comm ..]
    exact ⟨fun h => Nat.lt_of_mul_lt_mul_left h, fun h => Nat.mul_lt_mul_of_pos_left h hk⟩
  have e2 : (2 * (k * (A % B)) = k * B) ↔ (2 * (A % B) = B) := by
    rw [show 2 * (k * (A % B)) = k * (2 * (A % B)) from Nat.mul_left_comm ..]
    exact ⟨fun h => Nat.eq_of_mul_eq_mul_left hk h, fun h => by rw [h]⟩
  simp only [e1, e2]
theorem rhe_congr {A B A' B' : Nat} (hB : 0 < B) (hB' : 0 < B') (h : A * B' = A' * B) : rhe A B = rhe A' B' := by
  rw [← rhe_scale (A := A) (B := B) hB', ← rhe_scale (A := A') (B := B') hB, Nat.mul_comm B' A, h, Nat.mul_comm A' B, Nat.mul_comm B' B]

/-- m * 2 ^ e is what a / b is rounded to with p bits; m is odd -/
noncomputable def Near (p a b m : Nat) (e : Int) : Prop := ∃ i j k : Nat, 2 ^ (p - 1) * (b * 2 ^ i) ≤ a * 2 ^ j ∧ a * 2 ^ j < 2 ^ p * (b * 2 ^ i) ∧ rhe (a * 2 ^ j) (b * 2 ^ i) = m * 2 ^ k ∧ m % 2 = 1 ∧ e = (i : Int) - j + k

theorem p2 (n : Nat) : 0 < 2 ^ n := Nat.pow_pos (by decide)
theorem odd_unique {m n k l : Nat} (hm : m % 2 = 1) (hn : n % 2 = 1) (h : m * 2 ^ k = n * 2 ^ l) : m = n ∧ k = l := by
  rcases Nat.lt_trichotomy k l with hl | hl | hl
  · obtain ⟨d, rfl⟩ := Nat.exists_eq_add_of_lt hl
    exfalso
    have : m = n * 2 ^ (d + 1) := Nat.eq_of_mul_eq_mul_right (p2 k) (by rw [h, Nat.mul_assoc, ← Nat.pow_add]; congr 2; omega)
    rw [this, Nat.pow_succ, ← Nat.mul_assoc, Nat.mul_mod_left] at hm
    (first | subst hm | contradiction | (injection hm with hm; subst hm) | cases hm)
  · subst hl
    exact ⟨Nat.eq_of_mul_eq_mul_right (p2 k) h, rfl⟩
  · obtain ⟨d, rfl⟩ := Nat.exists_eq_add_of_lt hl
    exfalso
    have : n = m * 2 ^ (d + 1) := Nat.eq_of_mul_eq_mul_right (p2 l) (by rw [← h, Nat.mul_assoc, ← Nat.pow_add]; congr 2; omega)
    rw [this, Nat.pow_succ, ← Nat.mul_assoc, Nat.mul_mod_left] at hn
    (first | subst hn | contradiction | (injection hn with hn; subst hn) | cases hn)

theorem scale_lt {p a b a' b' i j i' j' : Nat} (hp : 0 < p) (hb : 0 < b) (hb' : 0 < b') (h : a * b' = a' * b) (hi : a * 2 ^ j < 2 ^ p * (b * 2 ^ i)) (lo : 2 ^ (p - 1) * (b' * 2 ^ i') ≤ a' * 2 ^ j') : i' + j ≤ i + j' := by
  apply Classical.byContradiction
  intro hn
  have hn : i + j' + 1 ≤ i' + j := by omega
  have h1 : a * 2 ^ j * (b' * 2 ^ j') < 2 ^ p * (b * 2 ^ i) * (b' * 2 ^ j') := Nat.mul_lt_mul_of_pos_right hi (Nat.mul_pos hb' (p2 _))
  have h2 : 2 ^ (p - 1) * (b' * 2 ^ i') * (b * 2 ^ j) ≤ a' * 2 ^ j' * (b * 2 ^ j) := Nat.mul_le_mul_right _ lo
  have e : a' * 2 ^ j' * (b * 2 ^ j) = a * 2 ^ j * (b' * 2 ^ j') := by
    calc a' * 2 ^ j' * (b * 2 ^ j) = (a' * b) * (2 ^ j * 2 ^ j') := by simp only [Nat.mul_assoc, Nat.mul_comm, Nat.mul_left_comm]
      _ = (a * b') * (2 ^ j * 2 ^ j') := by rw [h]
      _ = a * 2 ^ j * (b' * 2 ^ j') := by simp only [Nat.mul_assoc, Nat.mul_comm, Nat.mul_left_comm]
  rw [e] at h2
  have h3 := Nat.lt_of_le_of_lt h2 h1
  have e1 : 2 ^ (p - 1) * (b' * 2 ^ i') * (b * 2 ^ j) = (b * b') * 2 ^ (p - 1 + i' + j) := by
    rw [Nat.pow_add, Nat.pow_add]; simp only [Nat.mul_assoc, Nat.mul_comm, Nat.mul_left_comm]
  have e2 : 2 ^ p * (b * 2 ^ i) * (b' * 2 ^ j') = (b * b') * 2 ^ (p + i + j') := by
    rw [Nat.pow_add, Nat.pow_add]; simp only [Nat.mul_assoc, Nat.mul_comm, Nat.mul_left_comm]
  rw [e1, e2] at h3
  have h4 := Nat.lt_of_mul_lt_mul_left h3
  have h5 := (Nat.pow_lt_pow_iff_right (by decide : 1 < 2)).mp h4
  omega

theorem near_unique {p a b a' b' m m' : Nat} {e e' : Int} (hp : 0 < p) (hb : 0 < b) (hb' : 0 < b') (h : a * b' = a' * b) (n : Near p a b m e) (n' : Near p a' b' m' e') : m = m' ∧ e = e' := by
  obtain ⟨i, j, k, lo, hi, w, o, rfl⟩ := n
  obtain ⟨i', j', k', lo', hi', w', o', rfl⟩ := n'
  have h1 := scale_lt hp hb hb' h hi lo'
  have h2 := scale_lt hp hb' hb h.symm hi' lo
  have hw : m * 2 ^ k = m' * 2 ^ k' := by
    rw [← w, ← w']
    refine rhe_congr (Nat.mul_pos hb (p2 _)) (Nat.mul_pos hb' (p2 _)) ?_
    calc a * 2 ^ j * (b' * 2 ^ i') = (a * b') * 2 ^ (i' + j) := by rw [Nat.pow_add]; simp only [Nat.mul_assoc, Nat.mul_comm, Nat.mul_left_comm]
      _ = (a' * b) * 2 ^ (i + j') := by rw [h, show i' + j = i + j' by omega]
      _ = a' * 2 ^ j' * (b * 2 ^ i) := by rw [Nat.pow_add]; simp only [Nat.mul_assoc, Nat.mul_comm, Nat.mul_left_comm]
  obtain ⟨q1, q2⟩ := odd_unique o o' hw
  exact ⟨q1, by omega⟩

theorem near_congr {p a b a' b' m : Nat} {e : Int} (hb : 0 < b) (hb' : 0 < b') (h : a * b' = a' * b) (n : Near p a b m e) : Near p a' b' m e := by
  obtain ⟨i, j, k, lo, hi, w, o, rfl⟩ := n
  have t1 : a * 2 ^ j * b' = a' * 2 ^ j * b := by
    calc a * 2 ^ j * b' = (a * b') * 2 ^ j := by simp only [Nat.mul_assoc, Nat.mul_comm, Nat.mul_left_comm]
      _ = (a' * b) * 2 ^ j := by rw [h]
      _ = _ := by simp only [Nat.mul_assoc, Nat.mul_comm, Nat.mul_left_comm]
  refine ⟨i, j, k, ?_, ?_, ?_, o, rfl⟩
  · refine Nat.le_of_mul_le_mul_right (c := b) ?_ hb
    rw [← t1]
    calc 2 ^ (p - 1) * (b' * 2 ^ i) * b = 2 ^ (p - 1) * (b * 2 ^ i) * b' := by simp only [Nat.mul_assoc, Nat.mul_comm, Nat.mul_left_comm]
      _ ≤ _ := Nat.mul_le_mul_right _ lo
  · refine Nat.lt_of_mul_lt_mul_right (a := b) ?_
    rw [← t1]
    calc a * 2 ^ j * b' < 2 ^ p * (b * 2 ^ i) * b' := Nat.mul_lt_mul_of_pos_right hi hb'
      _ = _ := by simp only [Nat.mul_assoc, Nat.mul_comm, Nat.mul_left_comm]
  · rw [← w]
    refine (rhe_congr (Nat.mul_pos hb (p2 _)) (Nat.mul_pos hb' (p2 _)) ?_).symm
    calc a * 2 ^ j * (b' * 2 ^ i) = (a * 2 ^ j * b') * 2 ^ i := by simp only [Nat.mul_assoc]
      _ = _ := by rw [t1, Nat.mul_assoc]
theorem near_A {p a b m t : Nat} {e : Int} (n : Near p (a * 2 ^ t) b m e) : Near p a b m (e - t) := by
  obtain ⟨i, j, k, lo, hi, w, o, rfl⟩ := n
  have q : a * 2 ^ t * 2 ^ j = a * 2 ^ (j + t) := by rw [Nat.pow_add, Nat.mul_assoc, Nat.mul_comm (2 ^ t)]
  rw [q] at lo hi w
  exact ⟨i, j + t, k, lo, hi, w, o, by omega⟩
theorem near_B {p a b m t : Nat} {e : Int} (n : Near p a (b * 2 ^ t) m e) : Near p a b m (e + t) := by
  obtain ⟨i, j, k, lo, hi, w, o, rfl⟩ := n
  have q : b * 2 ^ t * 2 ^ i = b * 2 ^ (i + t) := by rw [Nat.pow_add, Nat.mul_assoc, Nat.mul_comm (2 ^ t)]
  rw [q] at lo hi w
  exact ⟨i + t, j, k, lo, hi, w, o, by omega⟩
theorem near_A' {p a b m t : Nat} {e : Int} (hb : 0 < b) (n : Near p a b m e) : Near p (a * 2 ^ t) b m (e + t) :=
  near_B (near_congr hb (Nat.mul_pos hb (p2 t)) (by simp only [Nat.mul_assoc, Nat.mul_comm, Nat.mul_left_comm]) n)
theorem near_B' {p a b m t : Nat} {e : Int} (hb : 0 < b) (n : Near p a b m e) : Near p a (b * 2 ^ t) m (e - t) :=
  near_A (near_congr hb (Nat.mul_pos hb (p2 t)) (by simp only [Nat.mul_assoc, Nat.mul_comm, Nat.mul_left_comm]) n)

theorem lt_lt {X Y U V : Nat} (A : X < Y) (B : U < V) : (2 * Y < 2 * X ↔ 2 * V < 2 * U) ∧ (2 * X = 2 * Y ↔ 2 * U = 2 * V) :=
  ⟨⟨fun z => absurd z (by omega), fun z => absurd z (by omega)⟩, ⟨fun z => absurd z (by omega), fun z => absurd z (by omega)⟩⟩
theorem gt_gt {X Y U V : Nat} (A : Y < X) (B : V < U) : (2 * Y < 2 * X ↔ 2 * V < 2 * U) ∧ (2 * X = 2 * Y ↔ 2 * U = 2 * V) :=
  ⟨⟨fun _ => by omega, fun _ => by omega⟩, ⟨fun z => absurd z (by omega), fun z => absurd z (by omega)⟩⟩
theorem eq_eq {X r Y d : Nat} (h : r = 0 ↔ d = 0) : (2 * X < 2 * (X + r) ↔ 2 * Y < 2 * (Y + d)) ∧ (2 * (X + r) = 2 * X ↔ 2 * (Y + d) = 2 * Y) := by
  by_cases z : r = 0
  · rw [z, h.mp z]
    exact ⟨⟨fun z => absurd z (Nat.lt_irrefl _), fun z => absurd z (Nat.lt_irrefl _)⟩, ⟨fun _ => rfl, fun _ => rfl⟩⟩
  · have z' : d ≠ 0 := fun q => z (h.mpr q)
    exact ⟨⟨fun _ => by omega, fun _ => by omega⟩, ⟨fun z => absurd z (by omega), fun z => absurd z (by omega)⟩⟩
theorem st_cmp {b h M r δ : Nat} (hr : r < b) (hd : δ ≤ 1) (h0 : r = 0 ↔ δ = 0) : (2 * (b * h) < 2 * (b * M + r) ↔ 2 * (2 * h) < 2 * (2 * M + δ)) ∧ (2 * (b * M + r) = 2 * (b * h) ↔ 2 * (2 * M + δ) = 2 * (2 * h)) := by
  rcases Nat.lt_trichotomy M h with hm | hm | hm
  · have : b * M + b ≤ b * h := by rw [← Nat.mul_succ]; exact Nat.mul_le_mul_left _ hm
    exact lt_lt (Nat.lt_of_lt_of_le (Nat.add_lt_add_left hr _) this) (by omega)
  · subst hm
    exact eq_eq h0
  · have : b * h + b ≤ b * M := by rw [← Nat.mul_succ]; exact Nat.mul_le_mul_left _ hm
    exact gt_gt (Nat.lt_of_lt_of_le (Nat.lt_add_of_pos_right (Nat.lt_of_le_of_lt (Nat.zero_le _) hr)) (Nat.le_trans this (Nat.le_add_right _ _))) (by omega)
/-- what lies below the last bit but one may be told by one bit -/
theorem near_sticky {p a b m : Nat} {e : Int} (hp : 0 < p) (hb : 0 < b) (hK : 2 ^ p ≤ a / b) (n : Near p (2 * (a / b) + if a % b = 0 then 0 else 1) 2 m e) : Near p a b m e := by
  obtain ⟨i, j, k, lo, hi, w, o, rfl⟩ := n
  obtain ⟨δ, hδ, hδ1, hδ0⟩ : ∃ δ, (if a % b = 0 then 0 else 1) = δ ∧ δ ≤ 1 ∧ (a % b = 0 ↔ δ = 0) := by
    by_cases z : a % b = 0
    · exact ⟨0, if_pos z, by omega, by omega⟩
    · exact ⟨1, if_neg z, by omega, by omega⟩
  rw [hδ] at lo hi w
  have hr := Nat.mod_lt a hb
  have ha := Nat.div_add_mod a b
  generalize a / b = K at *
  generalize a % b = r at *
  have hij : j < i := by
    apply Classical.byContradiction
    intro hn
    have h1 : 2 ^ i ≤ 2 ^ j := Nat.pow_le_pow_right (by decide) (by omega)
    have h2 : 2 ^ p * (2 * 2 ^ i) ≤ (2 * K + δ) * 2 ^ j := by
      calc 2 ^ p * (2 * 2 ^ i) ≤ K * (2 * 2 ^ j) := Nat.mul_le_mul hK (Nat.mul_le_mul_left 2 h1)
        _ = (2 * K) * 2 ^ j := by rw [Nat.mul_left_comm, Nat.mul_assoc]
        _ ≤ _ := Nat.mul_le_mul_right _ (Nat.le_add_right _ _)
    omega
  obtain ⟨s, rfl⟩ : ∃ s, i = j + (s + 1) := ⟨i - j - 1, by omega⟩
  have e1 : (2 : Nat) * 2 ^ (j + (s + 1)) = (2 * 2 ^ (s + 1)) * 2 ^ j := by rw [Nat.pow_add 2 j, Nat.mul_assoc, Nat.mul_comm (2 ^ j)]
  rw [e1] at lo hi w
  have lo1 : 2 ^ (p - 1) * (2 * 2 ^ (s + 1)) ≤ 2 * K + δ := Nat.le_of_mul_le_mul_right (by rw [Nat.mul_assoc]; exact lo) (p2 j)
  have hi1 : 2 * K + δ < 2 ^ p * (2 * 2 ^ (s + 1)) := Nat.lt_of_mul_lt_mul_right (a := 2 ^ j) (by rw [Nat.mul_assoc]; exact hi)
  have w1 : rhe (2 * K + δ) (2 * 2 ^ (s + 1)) = m * 2 ^ k := by
    rw [← w, Nat.mul_comm _ (2 ^ j), Nat.mul_comm _ (2 ^ j), rhe_scale (p2 j)]
  have lo2 : 2 ^ (p - 1) * 2 ^ (s + 1) ≤ K := by
    have : 2 ^ (p - 1) * (2 * 2 ^ (s + 1)) = 2 * (2 ^ (p - 1) * 2 ^ (s + 1)) := Nat.mul_left_comm ..
    omega
  have hi2 : K < 2 ^ p * 2 ^ (s + 1) := by
    have : 2 ^ p * (2 * 2 ^ (s + 1)) = 2 * (2 ^ p * 2 ^ (s + 1)) := Nat.mul_left_comm ..
    omega
  refine ⟨s + 1, 0, k, ?_, ?_, ?_, o, by omega⟩
  · rw [Nat.pow_zero, Nat.mul_one]
    calc 2 ^ (p - 1) * (b * 2 ^ (s + 1)) = b * (2 ^ (p - 1) * 2 ^ (s + 1)) := Nat.mul_left_comm ..
      _ ≤ b * K := Nat.mul_le_mul_left _ lo2
      _ ≤ a := by omega
  · rw [Nat.pow_zero, Nat.mul_one]
    calc a < b * (K + 1) := by rw [Nat.mul_succ]; omega
      _ ≤ b * (2 ^ p * 2 ^ (s + 1)) := Nat.mul_le_mul_left _ hi2
      _ = _ := Nat.mul_left_comm ..
  · rw [← w1, Nat.pow_zero, Nat.mul_one]
    have hH : (2 : Nat) ^ (s + 1) = 2 * 2 ^ s := by rw [Nat.pow_succ, Nat.mul_comm]
    have hh := p2 s
    rw [hH]
    generalize (2 : Nat) ^ s = h at *
    have kq := Nat.div_add_mod K (2 * h)
    have km := Nat.mod_lt K (show 0 < 2 * h by omega)
    generalize K / (2 * h) = q at *
    generalize K % (2 * h) = M at *
    have bM : b * M + r < b * (2 * h) := by
      calc b * M + r < b * M + b := by omega
        _ = b * (M + 1) := (Nat.mul_succ ..).symm
        _ ≤ _ := Nat.mul_le_mul_left _ km
    have da : a = (b * M + r) + (b * (2 * h)) * q := by
      rw [← ha, ← kq, Nat.mul_add, ← Nat.mul_assoc]; omega
    have dN : 2 * K + δ = (2 * M + δ) + (2 * (2 * h)) * q := by
      rw [← kq, Nat.mul_add, ← Nat.mul_assoc]; omega
    have q1 : a / (b * (2 * h)) = q := by rw [da, Nat.add_mul_div_left _ _ (by omega), Nat.div_eq_of_lt bM, Nat.zero_add]
    have q2 : a % (b * (2 * h)) = b * M + r := by rw [da, Nat.add_mul_mod_self_left, Nat.mod_eq_of_lt bM]
    have q3 : (2 * K + δ) / (2 * (2 * h)) = q := by rw [dN, Nat.add_mul_div_left _ _ (by omega), Nat.div_eq_of_lt (by omega), Nat.zero_add]
    have q4 : (2 * K + δ) % (2 * (2 * h)) = 2 * M + δ := by rw [dN, Nat.add_mul_mod_self_left, Nat.mod_eq_of_lt (by omega)]
    unfold rhe
    rw [q1, q2, q3, q4]
    have bh : b * (2 * h) = 2 * (b * h) := Nat.mul_left_comm ..
    rw [bh]
    obtain ⟨c1, c2⟩ := st_cmp (h := h) (M := M) hr hδ1 hδ0
    simp only [c1, c2]


theorem co_mul {a b c : Int} (h1 : Int.gcd a c = 1) (h2 : Int.gcd b c = 1) : Int.gcd (a * b) c = 1 := by
  show Nat.gcd (a * b).natAbs c.natAbs = 1
  rw [Int.natAbs_mul]
  exact Nat.Coprime.mul_left h1 h2
theorem co_dvd {a k c : Int} (h : a ∣ k) (h1 : Int.gcd k c = 1) : Int.gcd a c = 1 :=
  Nat.Coprime.coprime_dvd_left (Int.natAbs_dvd_natAbs.mpr h) h1
structure AddR (t b u c p q : Int) : Prop where
  q0 : 0 < q
  g : Int.gcd p q = 1
  v : p * (b * c) = (t * c + u * b) * q
  qm : q ≤ b * c
  pm : p.natAbs ≤ t.natAbs * c.natAbs + u.natAbs * b.natAbs
theorem add_ok {t b u c : Int} (hb : 0 < b) (hc : 0 < c) (g1 : Int.gcd t b = 1) (g2 : Int.gcd u c = 1) : AddR t b u c (exT t b u c / exS t b u c) (b / exG b c * (c / exS t b u c)) := by
  have hg : 0 < Int.gcd b c := Nat.pos_of_ne_zero fun h => by have := (Int.gcd_eq_zero_iff.mp h).1; omega
  have hs : 0 < Int.gcd (exT t b u c) (exG b c) := Nat.pos_of_ne_zero fun h => by
    have := (Int.gcd_eq_zero_iff.mp h).2
    unfold exG at this
    omega
  have eb := Int.ediv_mul_cancel (Int.gcd_dvd_left b c)
  have ec := Int.ediv_mul_cancel (Int.gcd_dvd_right b c)
  have bc := Int.gcd_ediv_gcd_ediv_gcd hg
  have eT := Int.ediv_mul_cancel (Int.gcd_dvd_left (exT t b u c) (exG b c))
  have eg := Int.ediv_mul_cancel (Int.gcd_dvd_right (exT t b u c) (exG b c))
  have pg := Int.gcd_ediv_gcd_ediv_gcd hs
  have hT : exT t b u c = t * (c / (Int.gcd b c : Int)) + u * (b / (Int.gcd b c : Int)) := rfl
  have hS : exS t b u c = (Int.gcd (exT t b u c) (exG b c) : Int) := rfl
  have hG : exG b c = (Int.gcd b c : Int) := rfl
  rw [← hS] at eT eg pg
  have hs : 0 < exS t b u c := by rw [hS]; omega
  rw [hG] at eg pg ⊢
  generalize hg' : (Int.gcd b c : Int) = g at *
  have hg : 0 < g := by omega
  generalize exT t b u c = T at *
  generalize exS t b u c = s at *
  generalize hb' : b / g = b' at *
  generalize hc' : c / g = c' at *
  generalize hp : T / s = p at *
  generalize hk : g / s = k at *
  -- c / s = c' * k
  have hcs : c / s = c' * k := by
    have : c = (c' * k) * s := by rw [← ec, ← eg, Int.mul_assoc]
    rw [this, Int.mul_ediv_cancel _ (by omega)]
  rw [hcs]
  have hb0 : 0 < b' := Int.pos_of_mul_pos_left (a := b') (b := g) (by omega) hg
  have hc0 : 0 < c' := Int.pos_of_mul_pos_left (a := c') (b := g) (by omega) hg
  have hk0 : 0 < k := Int.pos_of_mul_pos_left (a := k) (b := s) (by omega) hs
  have pT : p ∣ T := ⟨s, eT.symm⟩
  have b'b : b' ∣ b := ⟨g, eb.symm⟩
  have c'c : c' ∣ c := ⟨g, ec.symm⟩
  have t1 : Int.gcd t b' = 1 := by rw [Int.gcd_comm]; exact co_dvd b'b (by rw [Int.gcd_comm]; exact g1)
  have u1 : Int.gcd u c' = 1 := by rw [Int.gcd_comm]; exact co_dvd c'c (by rw [Int.gcd_comm]; exact g2)
  have pb : Int.gcd p b' = 1 := by
    refine co_dvd pT ?_
    rw [hT, Int.gcd_add_mul_right_left]
    exact co_mul t1 (by rw [Int.gcd_comm]; exact bc)
  have pc : Int.gcd p c' = 1 := by
    refine co_dvd pT ?_
    rw [hT, Int.gcd_mul_right_add_left]
    exact co_mul u1 bc
  have hT2 : T * g = t * c + u * b := by
    rw [hT, Int.add_mul, Int.mul_assoc, Int.mul_assoc, ec, eb]
  refine ⟨Int.mul_pos hb0 (Int.mul_pos hc0 hk0), ?_, ?_, ?_, ?_⟩
  · rw [Int.gcd_comm]
    refine co_mul (by rw [Int.gcd_comm]; exact pb) (co_mul (by rw [Int.gcd_comm]; exact pc) (by rw [Int.gcd_comm]; exact pg))
  · rw [← hT2, ← eT]
    have : b * c = b' * (c' * k) * s * g := by
      have h : b * c = (b' * g) * (c' * (k * s)) := by rw [eb, eg, ec]
      rw [h]; simp only [Int.mul_assoc, Int.mul_comm, Int.mul_left_comm]
    rw [this]; simp only [Int.mul_assoc, Int.mul_comm, Int.mul_left_comm]
  · have : b * c = b' * (c' * k) * (s * g) := by
      have h : b * c = (b' * g) * (c' * (k * s)) := by rw [eb, eg, ec]
      rw [h]; simp only [Int.mul_assoc, Int.mul_comm, Int.mul_left_comm]
    rw [this]
    have h1 : 0 < b' * (c' * k) := Int.mul_pos hb0 (Int.mul_pos hc0 hk0)
    have h2 : 0 < s * g := Int.mul_pos hs hg
    have := Int.mul_le_mul_of_nonneg_left (show (1 : Int) ≤ s * g by omega) (show 0 ≤ b' * (c' * k) by omega)
    omega
  · have h1 : p.natAbs ≤ T.natAbs := by
      rw [← eT, Int.natAbs_mul]
      exact Nat.le_mul_of_pos_right _ (by omega)
    have h2 : T.natAbs ≤ t.natAbs * c'.natAbs + u.natAbs * b'.natAbs := by
      rw [hT, ← Int.natAbs_mul, ← Int.natAbs_mul]
      exact Int.natAbs_add_le _ _
    have h3 : c'.natAbs ≤ c.natAbs := by
      rw [← ec, Int.natAbs_mul]
      exact Nat.le_mul_of_pos_right _ (by omega)
    have h4 : b'.natAbs ≤ b.natAbs := by
      rw [← eb, Int.natAbs_mul]
      exact Nat.le_mul_of_pos_right _ (by omega)
    exact Nat.le_trans h1 (Nat.le_trans h2 (Nat.add_le_add (Nat.mul_le_mul_left _ h3) (Nat.mul_le_mul_left _ h4)))


/-- T / D is A / B in lowest terms -/
structure Lw (A B T D : Int) : Prop where
  d0 : 0 < D
  g : Int.gcd T D = 1
  v : T * B = A * D
theorem Lw.unique {A B T D T' D' : Int} (hB : B ≠ 0) (h : Lw A B T D) (h' : Lw A B T' D') : T = T' ∧ D = D' := by
  have hx : T * D' = T' * D := by
    refine Int.eq_of_mul_eq_mul_right hB ?_
    calc T * D' * B = T * B * D' := by simp only [Int.mul_assoc, Int.mul_comm, Int.mul_left_comm]
      _ = A * D * D' := by rw [h.v]
      _ = A * D' * D := by simp only [Int.mul_assoc, Int.mul_comm, Int.mul_left_comm]
      _ = T' * B * D := by rw [h'.v]
      _ = T' * D * B := by simp only [Int.mul_assoc, Int.mul_comm, Int.mul_left_comm]
  have d1 : D ∣ D' := by
    have k : Nat.Coprime D.natAbs T.natAbs := by have := h.g; rw [Int.gcd_comm] at this; exact this
    exact Int.natAbs_dvd_natAbs.mp (k.dvd_of_dvd_mul_left (by rw [← Int.natAbs_mul, hx, Int.natAbs_mul]; exact Nat.dvd_mul_left _ _))
  have d2 : D' ∣ D := by
    have k : Nat.Coprime D'.natAbs T'.natAbs := by have := h'.g; rw [Int.gcd_comm] at this; exact this
    exact Int.natAbs_dvd_natAbs.mp (k.dvd_of_dvd_mul_left (by rw [← Int.natAbs_mul, ← hx, Int.natAbs_mul]; exact Nat.dvd_mul_left _ _))
  have e : D = D' := Int.dvd_antisymm (Int.le_of_lt h.d0) (Int.le_of_lt h'.d0) d1 d2
  subst e
  exact ⟨Int.eq_of_mul_eq_mul_right (by have := h.d0; omega) hx, rfl⟩
theorem lw_add {t b u c : Int} (hb : 0 < b) (hc : 0 < c) (g1 : Int.gcd t b = 1) (g2 : Int.gcd u c = 1) : Lw (t * c + u * b) (b * c) (exT t b u c / exS t b u c) (b / exG b c * (c / exS t b u c)) :=
  ⟨(add_ok hb hc g1 g2).q0, (add_ok hb hc g1 g2).g, (add_ok hb hc g1 g2).v⟩
theorem lw_mul {t b u c : Int} (hb : 0 < b) (hc : 0 < c) (g1 : Int.gcd t b = 1) (g2 : Int.gcd u c = 1) : Lw (t * u) (b * c) (t / muX t c * (u / muX u b)) (b / muX u b * (c / muX t c)) := by
  have h1 : 0 < Int.gcd t c := gcd_pos' (by omega)
  have h2 : 0 < Int.gcd u b := gcd_pos' (by omega)
  have k1 := Int.gcd_ediv_gcd_ediv_gcd h1
  have k2 := Int.gcd_ediv_gcd_ediv_gcd h2
  have e1 := Int.ediv_mul_cancel (Int.gcd_dvd_left t c)
  have e2 := Int.ediv_mul_cancel (Int.gcd_dvd_right t c)
  have e3 := Int.ediv_mul_cancel (Int.gcd_dvd_left u b)
  have e4 := Int.ediv_mul_cancel (Int.gcd_dvd_right u b)
  unfold muX
  generalize hx : (Int.gcd t c : Int) = x at *
  generalize hy : (Int.gcd u b : Int) = y at *
  generalize t / x = t' at *
  generalize c / x = c' at *
  generalize u / y = u' at *
  generalize b / y = b' at *
  have hb0 : 0 < b' := Int.pos_of_mul_pos_left (a := b') (b := y) (by omega) (by omega)
  have hc0 : 0 < c' := Int.pos_of_mul_pos_left (a := c') (b := x) (by omega) (by omega)
  have q1 : Int.gcd t' b' = 1 := co_dvd ⟨x, e1.symm⟩ (by rw [Int.gcd_comm]; exact co_dvd ⟨y, e4.symm⟩ (by rw [Int.gcd_comm]; exact g1))
  have q2 : Int.gcd u' c' = 1 := co_dvd ⟨y, e3.symm⟩ (by rw [Int.gcd_comm]; exact co_dvd ⟨x, e2.symm⟩ (by rw [Int.gcd_comm]; exact g2))
  refine ⟨Int.mul_pos hb0 hc0, ?_, ?_⟩
  · refine co_mul ?_ ?_
    · rw [Int.gcd_comm]; exact co_mul (by rw [Int.gcd_comm]; exact q1) (by rw [Int.gcd_comm]; exact k1)
    · rw [Int.gcd_comm]; exact co_mul (by rw [Int.gcd_comm]; exact k2) (by rw [Int.gcd_comm]; exact q2)
  · rw [← e1, ← e2, ← e3, ← e4]; simp only [Int.mul_assoc, Int.mul_comm, Int.mul_left_comm]




theorem and_step {a b : Nat} : (2 * a) &&& (2 * b + 1) = 2 * (a &&& b) := by
  refine Nat.eq_of_testBit_eq fun i => ?_
  induction i using Nat.casesOn with
  | zero => simp [Nat.testBit_zero]
  | succ i =>
    rw [Nat.testBit_and, Nat.testBit_succ, Nat.testBit_succ, Nat.testBit_succ, Nat.mul_div_cancel_left _ (by decide), Nat.mul_div_cancel_left _ (by decide), Nat.testBit_and]
    congr 2
    omega
theorem and_low {m : Nat} (hm : m % 2 = 1) : ∀ z, (m * 2 ^ z) &&& (m * 2 ^ z - 1) = (m - 1) * 2 ^ z
  | 0 => by
    rw [Nat.pow_zero, Nat.mul_one, Nat.mul_one]
    refine Nat.eq_of_testBit_eq fun i => ?_
    induction i using Nat.casesOn with
    | zero => simp [Nat.testBit_zero, hm]
    | succ i =>
      rw [Nat.testBit_and, Nat.testBit_succ, Nat.testBit_succ]
      have : (m - 1) / 2 = m / 2 := by omega
      rw [this, Bool.and_self]
  | z + 1 => by
    have hp : 0 < m * 2 ^ z := Nat.mul_pos (by omega) (p2 z)
    have e1 : m * 2 ^ (z + 1) = 2 * (m * 2 ^ z) := by rw [Nat.pow_succ]; simp only [Nat.mul_assoc, Nat.mul_comm, Nat.mul_left_comm]
    have e2 : 2 * (m * 2 ^ z) - 1 = 2 * (m * 2 ^ z - 1) + 1 := by omega
    rw [e1, e2, and_step, and_low hm z, Nat.pow_succ]
    simp only [Nat.mul_assoc, Nat.mul_comm, Nat.mul_left_comm]
theorem bnot_sub {X : Nat} (h : 0 < X) : (Builtin.bitNot (0 - (X : Int))).toNat = X - 1 := by unfold Builtin.bitNot; omega
theorem low_key {X Y T : Nat} (h : Y + T = X) : (X : Int) - (Y : Int) = (T : Int) := by omega
theorem low_bit {m z : Nat} {x : Int} (hm : m % 2 = 1) (hx : x.natAbs = m * 2 ^ z) : Builtin.bitAnd x (0 - x) = ((2 ^ z : Nat) : Int) := by
  have m0 : 0 < m := Nat.pos_of_ne_zero fun q => by rw [q] at hm; (first | subst hm | contradiction | (injection hm with hm; subst hm) | cases hm)
  have hp : 0 < m * 2 ^ z := Nat.mul_pos m0 (p2 z)
  have key : ((m * 2 ^ z : Nat) : Int) - (((m * 2 ^ z) &&& (m * 2 ^ z - 1) : Nat) : Int) = ((2 ^ z : Nat) : Int) := by
    rw [and_low hm z]
    exact low_key (by rw [← Nat.succ_mul, Nat.succ_eq_add_one, Nat.sub_add_cancel m0])
  generalize m * 2 ^ z = X at *
  have hn : ¬ 0 ≤ 0 - (X : Int) := by omega
  have b := bnot_sub hp
  unfold Builtin.bitAnd
  rcases Int.natAbs_eq x with e | e <;> rw [hx] at e <;> rw [e]
  · rw [decide_eq_true (Int.natCast_nonneg X), decide_eq_false hn]
    show (X : Int) - (((X : Int).toNat &&& (Builtin.bitNot (0 - (X : Int))).toNat : Nat) : Int) = _
    rw [Int.toNat_natCast, b]; exact key
  · rw [← Int.zero_sub, show 0 - (0 - (X : Int)) = X from Int.sub_sub_self _ _, decide_eq_false hn, decide_eq_true (Int.natCast_nonneg X)]
    show (X : Int) - (((X : Int).toNat &&& (Builtin.bitNot (0 - (X : Int))).toNat : Nat) : Int) = _
    rw [Int.toNat_natCast, b]; exact key
theorem odd_part : ∀ {n : Nat}, 0 < n → ∃ m z, m % 2 = 1 ∧ n = m * 2 ^ z := by
  intro n
  induction n using Nat.strongRecOn with
  | ind n ih =>
    intro hn
    by_cases h : n % 2 = 1
    · exact ⟨n, 0, h, by simp⟩
    · obtain ⟨m, z, h1, h2⟩ := ih (n / 2) (by omega) (by omega)
      exact ⟨m, z + 1, h1, by rw [Nat.pow_succ, ← Nat.mul_assoc, ← h2]; omega⟩
noncomputable def sz (x : Int) : Nat := Builtin.Int.intBits x
theorem sz_pos {x : Int} (h : x ≠ 0) : sz x = x.natAbs.log2 + 1 := by
  unfold sz Builtin.Int.intBits
  rw [if_neg (by simpa using h)]
theorem sz_lo {x : Int} (h : x ≠ 0) : 2 ^ (sz x - 1) ≤ x.natAbs := by
  rw [sz_pos h]; exact Nat.log2_self_le (by omega)
theorem sz_hi (x : Int) : x.natAbs < 2 ^ sz x := by
  by_cases h : x = 0
  · subst h; exact p2 _
  · rw [sz_pos h]; exact Nat.lt_log2_self
theorem sz_le {x : Int} {k : Nat} (h : x.natAbs < 2 ^ k) : sz x ≤ k := by
  by_cases z : x = 0
  · subst z; exact Nat.zero_le _
  · rw [sz_pos z]; exact (Nat.log2_lt (by omega)).mpr h
theorem sz_pow {z : Nat} : sz ((2 ^ z : Nat) : Int) = z + 1 := by
  have hp := p2 z
  rw [sz_pos (by omega), Int.natAbs_natCast, Nat.log2_two_pow]
theorem fdiv_pow {x : Int} {m z : Nat} (hx : x.natAbs = m * 2 ^ z) : x.fdiv (2 ^ z : Int) = x.sign * m := by
  have hp : (0 : Int) < 2 ^ z := Int.pow_pos (by decide)
  rw [Int.fdiv_eq_ediv_of_nonneg _ (by omega)]
  have e : x = (x.sign * m) * 2 ^ z := by
    rw [Int.mul_assoc]
    have : ((m : Int) * 2 ^ z) = (x.natAbs : Int) := by rw [hx]; simp
    rw [this, Int.sign_mul_natAbs]
  exact Int.ediv_eq_of_eq_mul_left (by omega) e

section
variable {n : Nat} {t b u c m e : Int} {st : Sto} {E : KV} {Q : KD}
theorem c_size {x : Int} (q : Q (.v (.int (sz x))) st) : CallK (R C2 T2 (n + 2) (.v (.val (.ref 126))) [.v (.int x)] st) Q E := by
  refine fn_G rfl rfl ?_
  (((conv => whnf); (repeat ((first | ((with_reducible apply br_true); (· exact rfl)) | ((with_reducible apply br_false); (· exact rfl))); (conv => whnf)))); repeat' (first | ((with_reducible first | apply br_dec | apply br_beq | apply br_bne) <;> (intro _; ((conv => whnf); (repeat ((first | ((with_reducible apply br_true); (· exact rfl)) | ((with_reducible apply br_false); (· exact rfl))); (conv => whnf)))))) | ((with_reducible first | apply sd_and); ((conv => whnf); (repeat ((first | ((with_reducible apply br_true); (· exact rfl)) | ((with_reducible apply br_false); (· exact rfl))); (conv => whnf)))))))
  rw [List.take_length, iabs]
  have : sz (x.natAbs : Int) = sz x := by
    by_cases z : x = 0
    · subst z; rfl
    · rw [sz_pos z, sz_pos (by omega), Int.natAbs_natCast]
  unfold sz at q this
  rw [this]; exact q
theorem c_signW {x : Int} (q : Q (.v (.int x.sign)) st) : CallK (R C2 T2 (n + 2) (.v (.val (.ref 133))) [.v (.int x)] st) Q E := by
  refine fn_G rfl rfl ?_
  (((conv => whnf); (repeat ((first | ((with_reducible apply br_true); (· exact rfl)) | ((with_reducible apply br_false); (· exact rfl))); (conv => whnf)))); repeat' (first | ((with_reducible first | apply br_dec | apply br_beq | apply br_bne) <;> (intro _; ((conv => whnf); (repeat ((first | ((with_reducible apply br_true); (· exact rfl)) | ((with_reducible apply br_false); (· exact rfl))); (conv => whnf)))))) | ((with_reducible first | apply sd_and); ((conv => whnf); (repeat ((first | ((with_reducible apply br_true); (· exact rfl)) | ((with_reducible apply br_false); (· exact rfl))); (conv => whnf)))))))
  rw [List.take_length, sgn]; exact q
theorem c_zeros {x : Int} {m z : Nat} (hm : m % 2 = 1) (hx : x.natAbs = m * 2 ^ z) (q : Q (.v (.int z)) st) : CallK (R C2 T2 (n + 2) (.v (.val (.ref 140))) [.v (.int x)] st) Q E := by
  refine fn_G rfl rfl ?_
  (((conv => whnf); (repeat ((first | ((with_reducible apply br_true); (· exact rfl)) | ((with_reducible apply br_false); (· exact rfl))); (conv => whnf)))); repeat' (first | ((with_reducible first | apply br_dec | apply br_beq | apply br_bne) <;> (intro _; ((conv => whnf); (repeat ((first | ((with_reducible apply br_true); (· exact rfl)) | ((with_reducible apply br_false); (· exact rfl))); (conv => whnf)))))) | ((with_reducible first | apply sd_and); ((conv => whnf); (repeat ((first | ((with_reducible apply br_true); (· exact rfl)) | ((with_reducible apply br_false); (· exact rfl))); (conv => whnf)))))))
  rw [List.take_length, low_bit hm hx]
  have := sz_pow (z := z)
  unfold sz at this
  rw [this]
  have e : ((z + 1 : Nat) : Int) - 1 = z := by omega
  rw [e]; exact q
end
section
variable {n : Nat} {t b u c e : Int} {st : Sto} {E : KV} {Q : KD}
theorem c_lean {x : Int} {m z : Nat} (hm : m % 2 = 1) (hx : x.natAbs = m * 2 ^ z) (hp : ((sz x : Int) + e).natAbs ≤ 65536) (q : Q (.v (rV (x.sign * m) (e + z))) st) : CallK (R C2 T2 (n + 3) (.v (.val (.ref 147))) [.v (.int x), .v (.int e)] st) Q E := by
  have h0 : x ≠ 0 := fun h => by
    subst h
    have := Nat.mul_pos (show 0 < m by omega) (p2 z)
    omega
  refine fn_G rfl rfl ?_
  (((conv => whnf); (repeat ((first | ((with_reducible apply br_true); (· exact rfl)) | ((with_reducible apply br_false); (· exact rfl))); (conv => whnf)))); repeat' (first | ((with_reducible first | apply br_dec | apply br_beq | apply br_bne) <;> (intro _; ((conv => whnf); (repeat ((first | ((with_reducible apply br_true); (· exact rfl)) | ((with_reducible apply br_false); (· exact rfl))); (conv => whnf)))))) | ((with_reducible first | apply sd_and | apply c_size); ((conv => whnf); (repeat ((first | ((with_reducible apply br_true); (· exact rfl)) | ((with_reducible apply br_false); (· exact rfl))); (conv => whnf)))))))
  · rename_i h; exact absurd h h0
  · refine c_zeros hm hx ?_
    (((conv => whnf); (repeat ((first | ((with_reducible apply br_true); (· exact rfl)) | ((with_reducible apply br_false); (· exact rfl))); (conv => whnf)))); repeat' (first | ((with_reducible first | apply br_dec | apply br_beq | apply br_bne) <;> (intro _; ((conv => whnf); (repeat ((first | ((with_reducible apply br_true); (· exact rfl)) | ((with_reducible apply br_false); (· exact rfl))); (conv => whnf)))))) | ((with_reducible first | apply sd_and | apply c_size); ((conv => whnf); (repeat ((first | ((with_reducible apply br_true); (· exact rfl)) | ((with_reducible apply br_false); (· exact rfl))); (conv => whnf)))))))
    · rename_i h
      exact absurd h (by rw [iabs]; omega)
    · rw [List.take_length]
      have e1 : x.fdiv (2 ^ (Int.toNat (z : Int))) = x.sign * m := by rw [Int.toNat_natCast]; exact fdiv_pow hx
      rw [e1]; exact q
    all_goals omega
theorem c_lean0 (q : Q (.v (rV 0 0)) st) : CallK (R C2 T2 (n + 3) (.v (.val (.ref 147))) [.v (.int 0), .v (.int e)] st) Q E := by
  refine fn_G rfl rfl ?_
  (((conv => whnf); (repeat ((first | ((with_reducible apply br_true); (· exact rfl)) | ((with_reducible apply br_false); (· exact rfl))); (conv => whnf)))); repeat' (first | ((with_reducible first | apply br_dec | apply br_beq | apply br_bne) <;> (intro _; ((conv => whnf); (repeat ((first | ((with_reducible apply br_true); (· exact rfl)) | ((with_reducible apply br_false); (· exact rfl))); (conv => whnf)))))) | ((with_reducible first | apply sd_and); ((conv => whnf); (repeat ((first | ((with_reducible apply br_true); (· exact rfl)) | ((with_reducible apply br_false); (· exact rfl))); (conv => whnf)))))))
  · rw [List.take_length]; exact q
end
theorem nS_val {a g : Nat} (hg : 0 < g) : Builtin.bitAnd (a : Int) (1 * 2 ^ g - 1) = ((a % 2 ^ g : Nat) : Int) := by
  have hp := p2 g
  have e : (1 * 2 ^ g - 1 : Int) = ((2 ^ g - 1 : Nat) : Int) := by
    have : ((2 ^ g : Nat) : Int) = 2 ^ g := by simp
    omega
  rw [e]
  unfold Builtin.bitAnd
  rw [decide_eq_true (by omega), decide_eq_true (by omega)]
  show (((a : Int).toNat &&& (((2 ^ g - 1 : Nat) : Int)).toNat : Nat) : Int) = _
  rw [Int.toNat_natCast, Int.toNat_natCast, Nat.and_two_pow_sub_one_eq_mod]
theorem nS_div {a g : Nat} : (a : Int).fdiv (2 ^ g : Int) = ((a / 2 ^ g : Nat) : Int) := by
  have hp : (0 : Int) < 2 ^ g := Int.pow_pos (by decide)
  rw [Int.fdiv_eq_ediv_of_nonneg _ (by omega)]
  simp
theorem kept_mod (x : Nat) : Builtin.bitAnd (x : Int) 1 = ((x % 2 : Nat) : Int) := by
  have := nS_val (a := x) (g := 1) (by decide)
  simpa using this
section
variable {n : Nat} {t b u c e : Int} {st : Sto} {E : KV} {Q : KD}
theorem c_nshift {a g : Nat} (hg : 0 < g) (hg' : g ≤ 9000) (q : Q (.v (.int (rhe a (2 ^ g)))) st) : CallK (R C2 T2 (n + 2) (.v (.val (.ref 154))) [.v (.int a), .v (.int g)] st) Q E := by
  have h1 : (g : Int).toNat = g := Int.toNat_natCast g
  have h2 : ((g : Int) - 1).toNat = g - 1 := by omega
  have hb : Builtin.Int.intBits 1 = 1 := by decide
  have E1 : Builtin.bitAnd (a : Int) (1 * 2 ^ (g : Int).toNat - 1) = ((a % 2 ^ g : Nat) : Int) := by rw [h1]; exact nS_val hg
  have E2 : (1 * 2 ^ ((g : Int) - 1).toNat : Int) = ((2 ^ (g - 1) : Nat) : Int) := by rw [h2]; simp
  have E3 : (a : Int).fdiv (2 ^ (g : Int).toNat) = ((a / 2 ^ g : Nat) : Int) := by rw [h1]; exact nS_div
  have E4 : Builtin.bitAnd ((a : Int).fdiv (2 ^ (g : Int).toNat)) 1 = ((a / 2 ^ g % 2 : Nat) : Int) := by rw [E3]; exact kept_mod _
  have hG : 2 ^ g = 2 * 2 ^ (g - 1) := by rw [← Nat.pow_succ']; congr 1; omega
  have up : 2 ^ (g - 1) < a % 2 ^ g ∨ (a % 2 ^ g = 2 ^ (g - 1) ∧ a / 2 ^ g % 2 = 1) → rhe a (2 ^ g) = a / 2 ^ g + 1 := fun h => if_pos (by omega)
  have dn : ¬ (2 ^ (g - 1) < a % 2 ^ g ∨ (a % 2 ^ g = 2 ^ (g - 1) ∧ a / 2 ^ g % 2 = 1)) → rhe a (2 ^ g) = a / 2 ^ g := fun h => if_neg (by omega)
  refine fn_G rfl rfl ?_
  (((conv => whnf); (repeat ((first | ((with_reducible apply br_true); (· exact rfl)) | ((with_reducible apply br_false); (· exact rfl))); (conv => whnf)))); repeat' (first | ((with_reducible first | apply br_dec | apply br_beq | apply br_bne) <;> (intro _; ((conv => whnf); (repeat ((first | ((with_reducible apply br_true); (· exact rfl)) | ((with_reducible apply br_false); (· exact rfl))); (conv => whnf)))))) | ((with_reducible first | apply sd_and); ((conv => whnf); (repeat ((first | ((with_reducible apply br_true); (· exact rfl)) | ((with_reducible apply br_false); (· exact rfl))); (conv => whnf)))))))
  · rename_i c1
    rw [E1, E2] at c1
    rw [up (by omega)] at q
    rw [List.take_length, E3]; exact q
  · rename_i c1 c2 c3
    rw [E1, E2] at c1 c2
    rw [E4] at c3
    rw [up (by omega)] at q
    rw [List.take_length, E3]; exact q
  · rename_i c1 c2 c3
    rw [E1, E2] at c1 c2
    rw [E4] at c3
    rw [dn (by omega)] at q
    rw [List.take_length, E3]; exact q
  · rename_i c1 c2
    rw [E1, E2] at c1 c2
    rw [dn (by omega)] at q
    rw [List.take_length, E3]; exact q
  · rw [hb]; omega
  · rw [hb]; omega
  · omega
theorem pw_lt {k l x : Nat} (h : x < 2 ^ k) (hl : k ≤ l) : x < 2 ^ l := Nat.lt_of_lt_of_le h (Nat.pow_le_pow_right (by decide) hl)
theorem nab_add {a b : Int} {k l r : Nat} (ha : a.natAbs ≤ k) (hb : b.natAbs ≤ l) (h : k + l ≤ r) : (a + b).natAbs ≤ r := Nat.le_trans (Int.natAbs_add_le a b) (Nat.le_trans (Nat.add_le_add ha hb) h)
theorem nab_nat {s k : Nat} (h : s ≤ k) : (s : Int).natAbs ≤ k := by rw [Int.natAbs_natCast]; exact h
theorem rhe_one {x : Nat} : rhe x 1 = x := by
  unfold rhe
  rw [Nat.mod_one, Nat.div_one, if_neg (fun z => z.elim (by decide) fun z => absurd z.1 (by decide))]
theorem zer {d : Nat} : (0 : Int) = ((0 : Nat) : Int) - d + d := by omega
theorem zer2 {d z : Nat} : (z : Int) = ((0 : Nat) : Int) - d + ((d + z : Nat) : Int) := by omega
theorem zer3 {d z : Nat} : (d : Int) + (z : Int) = (d : Int) - ((0 : Nat) : Int) + (z : Int) := by omega
theorem lo_up {p s X : Nat} (h : s ≤ p) (hs : 0 < s) (z2 : 2 ^ (s - 1) ≤ X) : 2 ^ (p - 1) ≤ X * 2 ^ (p - s) := by
  obtain ⟨d, rfl⟩ := Nat.exists_eq_add_of_le h
  calc 2 ^ (s + d - 1) = 2 ^ (s - 1) * 2 ^ (s + d - s) := by rw [← Nat.pow_add, Nat.add_sub_cancel_left, Nat.sub_add_comm hs]
    _ ≤ _ := Nat.mul_le_mul_right _ z2
theorem hi_up {p s X : Nat} (h : s ≤ p) (z3 : X < 2 ^ s) : X * 2 ^ (p - s) < 2 ^ p := by
  calc X * 2 ^ (p - s) < 2 ^ s * 2 ^ (p - s) := Nat.mul_lt_mul_of_pos_right z3 (p2 _)
    _ = _ := by rw [← Nat.pow_add, Nat.add_sub_of_le h]
theorem sign_nab {x : Int} {w : Nat} (hx : x ≠ 0) (wp : 0 < w) : (x.sign * (w : Int)).natAbs = w ∧ (x.sign * (w : Int)).sign = x.sign := by
  refine ⟨by rw [Int.natAbs_mul, Int.natAbs_sign_of_ne_zero hx, Int.natAbs_natCast, Nat.one_mul], ?_⟩
  rw [Int.sign_mul, Int.sign_sign, Int.sign_natCast_of_ne_zero (Nat.ne_of_gt wp), Int.mul_one]
theorem rhe_lo {a b c : Nat} (h : c ≤ a / b) : c ≤ rhe a b := by
  unfold rhe
  split
  · exact Nat.le_succ_of_le h
  · exact h
theorem rhe_hi {a b c : Nat} (h : a / b < c) : rhe a b ≤ c := by
  unfold rhe
  split
  · exact h
  · exact Nat.le_of_lt h
theorem sr_pl {p : Nat} (h : p ≤ 1000) : p + 1 + (30000 + 4000) ≤ 65536 := by omega
theorem sr_pl3 {p s : Nat} (hp : 0 < p) (h : p < s) : p - 1 + (s - p) ≤ s - 1 := by
  obtain ⟨d, rfl⟩ := Nat.exists_eq_add_of_lt h
  rw [Nat.add_assoc, Nat.add_sub_cancel_left, Nat.sub_add_comm hp]
  exact Nat.le_refl _
theorem sr_pl2 {p : Nat} (h : p ≤ 1000) : p + 1 ≤ 4000 := by omega
/-- rounding a whole number -/
theorem c_sround {p : Nat} {x e : Int} (hp : 0 < p) (hp' : p ≤ 1000) (hx : x ≠ 0) (hs : x.natAbs < 2 ^ 4000) (he : e.natAbs ≤ 30000) (q : ∀ (m : Nat) (e' : Int), Near p x.natAbs 1 m e' → Q (.v (rV (x.sign * m) (e + e'))) st) :
    CallK (R C2 T2 (n + 4) (.v (.val (.ref 161))) [.v (.int p), .v (.int x), .v (.int e)] st) Q E := by
  have z1 : sz x ≤ 4000 := sz_le hs
  have z2 := sz_lo hx
  have z3 := sz_hi x
  have zp : 0 < sz x := by rw [sz_pos hx]; exact Nat.succ_pos _
  refine fn_G rfl rfl ?_
  (((conv => whnf); (repeat ((first | ((with_reducible apply br_true); (· exact rfl)) | ((with_reducible apply br_false); (· exact rfl))); (conv => whnf)))); repeat' (first | ((with_reducible first | apply br_dec | apply br_beq | apply br_bne) <;> (intro _; ((conv => whnf); (repeat ((first | ((with_reducible apply br_true); (· exact rfl)) | ((with_reducible apply br_false); (· exact rfl))); (conv => whnf)))))) | ((with_reducible first | apply sd_and | apply c_size | apply c_signW); ((conv => whnf); (repeat ((first | ((with_reducible apply br_true); (· exact rfl)) | ((with_reducible apply br_false); (· exact rfl))); (conv => whnf)))))))
  · rename_i hg
    have hsp : sz x ≤ p := Int.ofNat_le.mp (Int.le_of_sub_nonpos hg)
    obtain ⟨m, z, hm, hz⟩ := odd_part (n := x.natAbs) (Int.natAbs_pos.mpr hx)
    refine c_lean hm hz (nab_add (nab_nat z1) he (by decide)) ?_
    (((conv => whnf); (repeat ((first | ((with_reducible apply br_true); (· exact rfl)) | ((with_reducible apply br_false); (· exact rfl))); (conv => whnf)))); repeat' (first | ((with_reducible first | apply br_dec | apply br_beq | apply br_bne) <;> (intro _; ((conv => whnf); (repeat ((first | ((with_reducible apply br_true); (· exact rfl)) | ((with_reducible apply br_false); (· exact rfl))); (conv => whnf)))))) | ((with_reducible first | apply sd_and | apply c_size | apply c_signW); ((conv => whnf); (repeat ((first | ((with_reducible apply br_true); (· exact rfl)) | ((with_reducible apply br_false); (· exact rfl))); (conv => whnf)))))))
    rw [List.take_length]
    refine q m z ⟨0, p - sz x, (p - sz x) + z, ?_, ?_, ?_, hm, zer2⟩
    · rw [Nat.pow_zero, Nat.mul_one]; exact lo_up hsp zp z2
    · rw [Nat.pow_zero, Nat.mul_one]; exact hi_up hsp z3
    · rw [Nat.pow_zero, Nat.mul_one, rhe_one, hz, Nat.mul_assoc, ← Nat.pow_add, Nat.add_comm z]
  · rename_i hg
    have hsp : p < sz x := Nat.lt_of_not_le fun z => hg (Int.sub_nonpos_of_le (Int.ofNat_le.mpr z))
    rw [iabs, ← Int.natCast_sub (Nat.le_of_lt hsp)]
    refine c_nshift (Nat.sub_pos_of_lt hsp) (Nat.le_trans (Nat.sub_le ..) (Nat.le_trans z1 (by decide))) ?_
    have lo : 2 ^ (p - 1) * 2 ^ (sz x - p) ≤ x.natAbs := by
      rw [← Nat.pow_add]
      exact Nat.le_trans (Nat.pow_le_pow_right (by decide) (sr_pl3 hp hsp)) z2
    have hi : x.natAbs < 2 ^ p * 2 ^ (sz x - p) := by
      rw [← Nat.pow_add, Nat.add_sub_of_le (Nat.le_of_lt hsp)]; exact z3
    have w1 : 2 ^ (p - 1) ≤ rhe x.natAbs (2 ^ (sz x - p)) := rhe_lo ((Nat.le_div_iff_mul_le (p2 _)).mpr lo)
    have w2 : rhe x.natAbs (2 ^ (sz x - p)) ≤ 2 ^ p := rhe_hi (Nat.div_lt_of_lt_mul (by rw [Nat.mul_comm]; exact hi))
    generalize hw : rhe x.natAbs (2 ^ (sz x - p)) = w at *
    have wp : 0 < w := Nat.lt_of_lt_of_le (p2 _) w1
    obtain ⟨m, z, hm, hz⟩ := odd_part wp
    have w2' : w < 2 ^ (p + 1) := Nat.lt_of_le_of_lt w2 (Nat.pow_lt_pow_right (by decide) (Nat.lt_succ_self p))
    (((conv => whnf); (repeat ((first | ((with_reducible apply br_true); (· exact rfl)) | ((with_reducible apply br_false); (· exact rfl))); (conv => whnf)))); repeat' (first | ((with_reducible first | apply br_dec | apply br_beq | apply br_bne) <;> (intro _; ((conv => whnf); (repeat ((first | ((with_reducible apply br_true); (· exact rfl)) | ((with_reducible apply br_false); (· exact rfl))); (conv => whnf)))))) | ((with_reducible first | apply sd_and | apply c_size | apply c_signW); ((conv => whnf); (repeat ((first | ((with_reducible apply br_true); (· exact rfl)) | ((with_reducible apply br_false); (· exact rfl))); (conv => whnf)))))))
    · obtain ⟨wx, ws⟩ := sign_nab hx wp
      refine c_lean hm (wx.trans hz) (nab_add (nab_nat (sz_le (by rw [wx]; exact w2'))) (nab_add he (nab_nat (Nat.le_trans (Nat.sub_le (sz x) p) z1)) (Nat.le_refl _)) (sr_pl hp')) ?_
      (((conv => whnf); (repeat ((first | ((with_reducible apply br_true); (· exact rfl)) | ((with_reducible apply br_false); (· exact rfl))); (conv => whnf)))); repeat' (first | ((with_reducible first | apply br_dec | apply br_beq | apply br_bne) <;> (intro _; ((conv => whnf); (repeat ((first | ((with_reducible apply br_true); (· exact rfl)) | ((with_reducible apply br_false); (· exact rfl))); (conv => whnf)))))) | ((with_reducible first | apply sd_and | apply c_size | apply c_signW); ((conv => whnf); (repeat ((first | ((with_reducible apply br_true); (· exact rfl)) | ((with_reducible apply br_false); (· exact rfl))); (conv => whnf)))))))
      rw [List.take_length, ws]
      have := q m ((sz x - p : Nat) + z) ⟨sz x - p, 0, z, by rw [Nat.one_mul, Nat.pow_zero, Nat.mul_one]; exact lo, by rw [Nat.one_mul, Nat.pow_zero, Nat.mul_one]; exact hi, by rw [Nat.one_mul, Nat.pow_zero, Nat.mul_one, hw, hz], hm, zer3⟩
      rw [← Int.add_assoc] at this
      exact this
    · exact mul_of (by unfold Sm; rw [Int.natAbs_sign_of_ne_zero hx]; exact Nat.one_lt_two_pow (by decide)) (by unfold Sm; rw [Int.natAbs_natCast]; exact pw_lt w2' (sr_pl2 hp'))
theorem c_sround0 {p : Nat} {e : Int} (q : Q (.v (rV 0 0)) st) : CallK (R C2 T2 (n + 4) (.v (.val (.ref 161))) [.v (.int p), .v (.int 0), .v (.int e)] st) Q E := by
  refine fn_G rfl rfl ?_
  (((conv => whnf); (repeat ((first | ((with_reducible apply br_true); (· exact rfl)) | ((with_reducible apply br_false); (· exact rfl))); (conv => whnf)))); repeat' (first | ((with_reducible first | apply br_dec | apply br_beq | apply br_bne) <;> (intro _; ((conv => whnf); (repeat ((first | ((with_reducible apply br_true); (· exact rfl)) | ((with_reducible apply br_false); (· exact rfl))); (conv => whnf)))))) | ((with_reducible first | apply sd_and | apply c_size | apply c_signW); ((conv => whnf); (repeat ((first | ((with_reducible apply br_true); (· exact rfl)) | ((with_reducible apply br_false); (· exact rfl))); (conv => whnf)))))))
  · refine c_lean0 ?_
    (((conv => whnf); (repeat ((first | ((with_reducible apply br_true); (· exact rfl)) | ((with_reducible apply br_false); (· exact rfl))); (conv => whnf)))); repeat' (first | ((with_reducible first | apply br_dec | apply br_beq | apply br_bne) <;> (intro _; ((conv => whnf); (repeat ((first | ((with_reducible apply br_true); (· exact rfl)) | ((with_reducible apply br_false); (· exact rfl))); (conv => whnf)))))) | ((with_reducible first | apply sd_and | apply c_size | apply c_signW); ((conv => whnf); (repeat ((first | ((with_reducible apply br_true); (· exact rfl)) | ((with_reducible apply br_false); (· exact rfl))); (conv => whnf)))))))
    rw [List.take_length]; exact q
  · rename_i h
    exact absurd h (by show ¬ ¬ ((sz 0 : Int) - p ≤ 0); have : sz 0 = 0 := rfl; omega)
end




theorem sign_cases {x : Int} (h : x ≠ 0) : x.sign = 1 ∨ x.sign = -1 := by
  rcases Int.lt_trichotomy x 0 with h1 | h1 | h1
  · exact .inr (Int.sign_eq_neg_one_of_neg h1)
  · exact absurd h1 h
  · exact .inl (Int.sign_eq_one_of_pos h1)
theorem sgn_mul {x : Int} {w : Nat} (h : x ≠ 0) (hw : 0 < w) : (x.sign * (w : Int)).natAbs = w ∧ (x.sign * (w : Int)).sign = x.sign := by
  rcases sign_cases h with e | e <;> rw [e]
  · exact ⟨by omega, by rw [Int.one_mul]; exact Int.sign_natCast_of_ne_zero (by omega)⟩
  · refine ⟨by omega, ?_⟩
    rw [Int.neg_mul, Int.one_mul, Int.sign_neg, Int.sign_natCast_of_ne_zero (by omega)]
theorem sm_nat {w k : Nat} (h : w < 2 ^ k) (hk : k ≤ 4000) : Sm (w : Int) := by unfold Sm; rw [Int.natAbs_natCast]; exact pw_lt h hk
theorem sm_sign {x : Int} : Sm x.sign := by
  unfold Sm
  have : x.sign.natAbs ≤ 1 := by rcases Int.lt_trichotomy x 0 with h | h | h <;> simp [Int.sign_eq_neg_one_of_neg, Int.sign_eq_one_of_pos, h]
  exact Nat.lt_of_le_of_lt this (Nat.one_lt_two_pow (by decide))
theorem mul_lt_pow {a b k l : Nat} (ha : a < 2 ^ k) (hb : b < 2 ^ l) : a * b < 2 ^ (k + l) := by
  rw [Nat.pow_add]; exact Nat.mul_lt_mul'' ha hb
theorem mulp_lt {a k : Nat} (s : Nat) (ha : a < 2 ^ k) : a * 2 ^ s < 2 ^ (k + s) := by
  rw [Nat.pow_add]; exact Nat.mul_lt_mul_of_pos_right ha (p2 s)

section
variable {n : Nat} {t b u c e : Int} {st : Sto} {E : KV} {Q : KD}
theorem c_sticky {k : Int} {r : Bool} (hk : Sm k) (q : Q (.v (.int (2 * k + if r then 1 else 0))) st) : CallK (R C2 T2 (n + 2) (.v (.val (.ref 168))) [.v (.int k), .v (.bool r)] st) Q E := by
  have h2 : mulOk 2 k = true := mul_of (by unfold Sm; exact pw_lt (k := 2) (by decide) (by decide)) hk
  (first | subst r | contradiction | (injection r with r; subst r) | cases r)
  all_goals
    refine fn_G rfl rfl ?_
    (((conv => whnf); (repeat ((first | ((with_reducible apply br_true); (· exact rfl)) | ((with_reducible apply br_false); (· exact rfl))); (conv => whnf)))); repeat' (first | ((with_reducible first | apply br_dec | apply br_beq | apply br_bne) <;> (intro _; ((conv => whnf); (repeat ((first | ((with_reducible apply br_true); (· exact rfl)) | ((with_reducible apply br_false); (· exact rfl))); (conv => whnf)))))) | ((with_reducible first | apply sd_and); ((conv => whnf); (repeat ((first | ((with_reducible apply br_true); (· exact rfl)) | ((with_reducible apply br_false); (· exact rfl))); (conv => whnf)))))))
    · rw [List.take_length]; exact q
    · exact h2

theorem sm_st {k : Nat} {r : Bool} (h : k < 2 ^ 3000) : Sm (2 * (k : Int) + if r = true then 1 else 0) := by
  have h1 : (2 : Nat) ^ 3002 = 4 * 2 ^ 3000 := by rw [show (3002 : Nat) = 2 + 3000 from rfl, Nat.pow_add]
  have h2 : (2 : Nat) ^ 3002 ≤ 2 ^ 4000 := Nat.pow_le_pow_right (by decide) (by decide)
  have h3 := p2 3000
  unfold Sm
  generalize (2 : Nat) ^ 3000 = X at *
  generalize (2 : Nat) ^ 3002 = Y at *
  generalize (2 : Nat) ^ 4000 = Z at *
  split <;> omega
theorem c_rounded {p B : Nat} {x : Int} (hp : 0 < p) (hp' : p ≤ 500) (hx : x ≠ 0) (hB : 0 < B) (bx : x.natAbs < 2 ^ 500) (bB : B < 2 ^ 500) (q : ∀ (m : Nat) (e : Int), Near p x.natAbs B m e → Q (.v (rV (x.sign * m) e)) st) :
    CallK (R C2 T2 (n + 5) (.v (.val (.ref 175))) [.v (.int p), .v (.int x), .v (.int B)] st) Q E := by
  have z1 : sz x ≤ 500 := sz_le bx
  have z2 := sz_lo hx
  have z3 := sz_hi x
  have zp : 0 < sz x := by rw [sz_pos hx]; omega
  have y1 : sz (B : Int) ≤ 500 := sz_le (by rw [Int.natAbs_natCast]; exact bB)
  have y3 : B < 2 ^ sz (B : Int) := by have := sz_hi (B : Int); rw [Int.natAbs_natCast] at this; exact this
  -- what is common to both roads
  have fin : ∀ (K : KD) (a b : Nat) (s kept rest : Int), kept = ((a / b : Nat) : Int) → rest = ((a % b : Nat) : Int) → (∀ (m : Nat) (e : Int), Near p x.natAbs B m e → K (.v (rV (x.sign * m) e)) st) → 0 < b → a < 2 ^ 3000 → s.natAbs ≤ 3000 → 2 ^ p ≤ a / b → (∀ m e, Near p a b m e → Near p x.natAbs B m (e - s)) →
      CallK (R C2 T2 (n + 4) (.v (.val (.ref 161))) [.v (.int p), .v (.int (x.sign * (2 * kept + if rest != 0 then 1 else 0))), .v (.int (0 - s - 1))] st) K E := by
    intro K a b s kept rest hkept hrest q hb ha hs hK hN
    subst hkept hrest
    have hd : (if ((a % b : Nat) : Int) != 0 then (1 : Int) else 0) = ((if a % b = 0 then 0 else 1 : Nat) : Int) := by
      by_cases z : a % b = 0
      · rw [z]; rfl
      · rw [if_neg z, if_pos (by simp; omega)]; rfl
    rw [hd]
    have hw : (2 * ((a / b : Nat) : Int) + ((if a % b = 0 then 0 else 1 : Nat) : Int)) = ((2 * (a / b) + if a % b = 0 then 0 else 1 : Nat) : Int) := by omega
    rw [hw]
    have hle : a / b ≤ a := Nat.div_le_self ..
    have hN1 : (if a % b = 0 then 0 else 1) ≤ 1 := by split <;> omega
    have hpp := p2 p
    obtain ⟨w1, w2⟩ := sgn_mul (x := x) (w := 2 * (a / b) + if a % b = 0 then 0 else 1) hx (by omega)
    have hbig : 2 * (a / b) + (if a % b = 0 then 0 else 1) < 2 ^ 4000 := by
      have h1 : (2 : Nat) ^ 3002 = 4 * 2 ^ 3000 := by rw [show (3002 : Nat) = 2 + 3000 from rfl, Nat.pow_add]
      refine pw_lt (k := 3002) ?_ (by decide)
      omega
    refine c_sround hp (by omega) (fun z => by rw [z] at w1; simp only [Int.natAbs_zero] at w1; omega) (by rw [w1]; exact hbig) (by omega) fun m e' h => ?_
    rw [w1] at h
    rw [w2]
    have h1 : Near p (2 * (a / b) + if a % b = 0 then 0 else 1) (1 * 2 ^ 1) m (e' - (1 : Nat)) := near_B' (by decide) h
    have h2 := hN _ _ (near_sticky hp hb hK h1)
    have := q m _ h2
    rw [show (0 - s - 1 + e') = e' - ((1 : Nat) : Int) - s by omega]
    exact this
  have bsz : (Builtin.Int.intBits (x.natAbs : Int) : Int) ≤ 500 := by
    have : sz (x.natAbs : Int) ≤ 500 := sz_le (by rw [Int.natAbs_natCast]; exact bx)
    unfold sz at this; omega
  refine fn_G rfl rfl ?_
  (((conv => whnf); (repeat ((first | ((with_reducible apply br_true); (· exact rfl)) | ((with_reducible apply br_false); (· exact rfl))); (conv => whnf)))); repeat' (first | ((with_reducible first | apply br_dec | apply br_beq | apply br_bne) <;> (intro _; ((conv => whnf); (repeat ((first | ((with_reducible apply br_true); (· exact rfl)) | ((with_reducible apply br_false); (· exact rfl))); (conv => whnf)))))) | ((with_reducible first | apply sd_and | apply c_size | apply c_signW); ((conv => whnf); (repeat ((first | ((with_reducible apply br_true); (· exact rfl)) | ((with_reducible apply br_false); (· exact rfl))); (conv => whnf)))))))
  · rename_i h; exact absurd h hx
  · rename_i h1 h2
    generalize hS : (p : Int) + 2 + sz (B : Int) - sz x = S at *
    obtain ⟨s, rfl⟩ := Int.eq_ofNat_of_zero_le h2
    have e0 : (if x < 0 then -x else x) * 2 ^ (s : Int).toNat = ((x.natAbs * 2 ^ s : Nat) : Int) := by rw [iabs, Int.toNat_natCast]; simp
    have e1 : ((if x < 0 then -x else x) * 2 ^ (s : Int).toNat).fdiv (B : Int) = ((x.natAbs * 2 ^ s / B : Nat) : Int) := by rw [e0, Int.fdiv_eq_ediv_of_nonneg _ (by omega)]; rfl
    have e2 : ((if x < 0 then -x else x) * 2 ^ (s : Int).toNat).fmod (B : Int) = ((x.natAbs * 2 ^ s % B : Nat) : Int) := by rw [e0, Int.fmod_eq_emod_of_nonneg _ (by omega)]; rfl
    have ha : x.natAbs * 2 ^ s < 2 ^ 3000 := pw_lt (mulp_lt s bx) (by omega)
    have hle : x.natAbs * 2 ^ s / B ≤ x.natAbs * 2 ^ s := Nat.div_le_self ..
    refine c_sticky (by rw [e1]; exact sm_nat (Nat.lt_of_le_of_lt hle ha) (by decide)) ?_
    (((conv => whnf); (repeat ((first | ((with_reducible apply br_true); (· exact rfl)) | ((with_reducible apply br_false); (· exact rfl))); (conv => whnf)))); repeat' (first | ((with_reducible first | apply br_dec | apply br_beq | apply br_bne) <;> (intro _; ((conv => whnf); (repeat ((first | ((with_reducible apply br_true); (· exact rfl)) | ((with_reducible apply br_false); (· exact rfl))); (conv => whnf)))))) | ((with_reducible first | apply sd_and | apply c_size | apply c_signW); ((conv => whnf); (repeat ((first | ((with_reducible apply br_true); (· exact rfl)) | ((with_reducible apply br_false); (· exact rfl))); (conv => whnf)))))))
    · refine fin _ (x.natAbs * 2 ^ s) B s _ _ e1 e2 (fun m e h => ?_) hB ha (by omega) ?_ fun m e h => near_A h
      · (((conv => whnf); (repeat ((first | ((with_reducible apply br_true); (· exact rfl)) | ((with_reducible apply br_false); (· exact rfl))); (conv => whnf)))); repeat' (first | ((with_reducible first | apply br_dec | apply br_beq | apply br_bne) <;> (intro _; ((conv => whnf); (repeat ((first | ((with_reducible apply br_true); (· exact rfl)) | ((with_reducible apply br_false); (· exact rfl))); (conv => whnf)))))) | ((with_reducible first | apply sd_and | apply c_size | apply c_signW); ((conv => whnf); (repeat ((first | ((with_reducible apply br_true); (· exact rfl)) | ((with_reducible apply br_false); (· exact rfl))); (conv => whnf)))))))
        rw [List.take_length]; exact q m e h
      · refine (Nat.le_div_iff_mul_le hB).mpr ?_
        calc 2 ^ p * B ≤ 2 ^ p * 2 ^ sz (B : Int) := Nat.mul_le_mul_left _ (by omega)
          _ ≤ 2 ^ (sz x - 1) * 2 ^ s := by rw [← Nat.pow_add, ← Nat.pow_add]; exact Nat.pow_le_pow_right (by decide) (by omega)
          _ ≤ _ := Nat.mul_le_mul_right _ z2
    · refine mul_of sm_sign ?_
      rw [e1]
      exact sm_st (Nat.lt_of_le_of_lt hle ha)
  iterate 2
    · first | exact dv_of (by omega) (sm_nat bB (by decide)) | (refine ⟨by assumption, ?_⟩; rw [iabs]; omega)
  · rename_i h1 h2
    generalize hS : (p : Int) + 2 + sz (B : Int) - sz x = S at *
    obtain ⟨s, hs⟩ : ∃ s : Nat, 0 - S = s := Int.eq_ofNat_of_zero_le (by omega)
    have e0 : (B : Int) * 2 ^ (0 - S).toNat = ((B * 2 ^ s : Nat) : Int) := by rw [hs, Int.toNat_natCast]; simp
    have e1 : (if x < 0 then -x else x).fdiv ((B : Int) * 2 ^ (0 - S).toNat) = ((x.natAbs / (B * 2 ^ s) : Nat) : Int) := by rw [e0, iabs, Int.fdiv_eq_ediv_of_nonneg _ (by omega)]; rfl
    have e2 : (if x < 0 then -x else x).fmod ((B : Int) * 2 ^ (0 - S).toNat) = ((x.natAbs % (B * 2 ^ s) : Nat) : Int) := by rw [e0, iabs, Int.fmod_eq_emod_of_nonneg _ (by omega)]; rfl
    have ha : x.natAbs < 2 ^ 3000 := pw_lt bx (by decide)
    have hBs : 0 < B * 2 ^ s := Nat.mul_pos hB (p2 s)
    have hle : x.natAbs / (B * 2 ^ s) ≤ x.natAbs := Nat.div_le_self ..
    refine c_sticky (by rw [e1]; exact sm_nat (Nat.lt_of_le_of_lt hle ha) (by decide)) ?_
    (((conv => whnf); (repeat ((first | ((with_reducible apply br_true); (· exact rfl)) | ((with_reducible apply br_false); (· exact rfl))); (conv => whnf)))); repeat' (first | ((with_reducible first | apply br_dec | apply br_beq | apply br_bne) <;> (intro _; ((conv => whnf); (repeat ((first | ((with_reducible apply br_true); (· exact rfl)) | ((with_reducible apply br_false); (· exact rfl))); (conv => whnf)))))) | ((with_reducible first | apply sd_and | apply c_size | apply c_signW); ((conv => whnf); (repeat ((first | ((with_reducible apply br_true); (· exact rfl)) | ((with_reducible apply br_false); (· exact rfl))); (conv => whnf)))))))
    · refine fin _ x.natAbs (B * 2 ^ s) S _ _ e1 e2 (fun m e h => ?_) hBs ha (by omega) ?_ fun m e h => ?_
      · (((conv => whnf); (repeat ((first | ((with_reducible apply br_true); (· exact rfl)) | ((with_reducible apply br_false); (· exact rfl))); (conv => whnf)))); repeat' (first | ((with_reducible first | apply br_dec | apply br_beq | apply br_bne) <;> (intro _; ((conv => whnf); (repeat ((first | ((with_reducible apply br_true); (· exact rfl)) | ((with_reducible apply br_false); (· exact rfl))); (conv => whnf)))))) | ((with_reducible first | apply sd_and | apply c_size | apply c_signW); ((conv => whnf); (repeat ((first | ((with_reducible apply br_true); (· exact rfl)) | ((with_reducible apply br_false); (· exact rfl))); (conv => whnf)))))))
        rw [List.take_length]; exact q m e h
      · refine (Nat.le_div_iff_mul_le hBs).mpr ?_
        calc 2 ^ p * (B * 2 ^ s) ≤ 2 ^ p * (2 ^ sz (B : Int) * 2 ^ s) := Nat.mul_le_mul_left _ (Nat.mul_le_mul_right _ (by omega))
          _ ≤ 2 ^ (sz x - 1) := by rw [← Nat.pow_add, ← Nat.pow_add]; exact Nat.pow_le_pow_right (by decide) (by omega)
          _ ≤ _ := z2
      · have := near_B h
        rw [show e - S = e + s by omega]
        exact this
    · refine mul_of sm_sign ?_
      rw [e1]
      exact sm_st (Nat.lt_of_le_of_lt hle ha)
  · rename_i h1 h2
    obtain ⟨s, hs⟩ : ∃ s : Nat, 0 - ((p : Int) + 2 + sz (B : Int) - sz x) = s := Int.eq_ofNat_of_zero_le (by omega)
    have e0 : (B : Int) * 2 ^ (0 - ((p : Int) + 2 + sz (B : Int) - sz x)).toNat = ((B * 2 ^ s : Nat) : Int) := by rw [hs, Int.toNat_natCast]; simp
    have hBs : 0 < B * 2 ^ s := Nat.mul_pos hB (p2 s)
    rw [e0]
    exact dv_of (by omega) (sm_nat (mulp_lt s bB) (by omega))
  · rename_i h1 h2
    have : (Builtin.Int.intBits (B : Int) : Int) ≤ 500 := by unfold sz at y1; omega
    omega
end





section
variable {n : Nat} {t b u c m e m' e' : Int} {st : Sto} {E : KV} {Q : KD}
theorem c_place (q : Q (.v (.int (sz m + e))) st) : CallK (R C2 T2 (n + 3) (.v (.val (.ref 189))) [.v (rV m e)] st) Q E := by
  refine fn_G rfl rfl ?_
  (((conv => whnf); (repeat ((first | ((with_reducible apply br_true); (· exact rfl)) | ((with_reducible apply br_false); (· exact rfl))); (conv => whnf)))); repeat' (first | ((with_reducible first | apply br_dec | apply br_beq | apply br_bne) <;> (intro _; ((conv => whnf); (repeat ((first | ((with_reducible apply br_true); (· exact rfl)) | ((with_reducible apply br_false); (· exact rfl))); (conv => whnf)))))) | ((with_reducible first | apply sd_and | apply c_size); ((conv => whnf); (repeat ((first | ((with_reducible apply br_true); (· exact rfl)) | ((with_reducible apply br_false); (· exact rfl))); (conv => whnf)))))))
  rw [List.take_length]; exact q
theorem c_signR (q : Q (.v (.int m.sign)) st) : CallK (R C2 T2 (n + 3) (.v (.val (.ref 196))) [.v (rV m e)] st) Q E := by
  refine fn_G rfl rfl ?_
  (((conv => whnf); (repeat ((first | ((with_reducible apply br_true); (· exact rfl)) | ((with_reducible apply br_false); (· exact rfl))); (conv => whnf)))); repeat' (first | ((with_reducible first | apply br_dec | apply br_beq | apply br_bne) <;> (intro _; ((conv => whnf); (repeat ((first | ((with_reducible apply br_true); (· exact rfl)) | ((with_reducible apply br_false); (· exact rfl))); (conv => whnf)))))) | ((with_reducible first | apply sd_and | apply c_signW); ((conv => whnf); (repeat ((first | ((with_reducible apply br_true); (· exact rfl)) | ((with_reducible apply br_false); (· exact rfl))); (conv => whnf)))))))
  rw [List.take_length]; exact q
theorem c_negR (q : Q (.v (rV (-m) e)) st) : CallK (R C2 T2 (n + 2) (.v (.val (.ref 203))) [.v (rV m e)] st) Q E := by
  refine fn_G rfl rfl ?_
  (((conv => whnf); (repeat ((first | ((with_reducible apply br_true); (· exact rfl)) | ((with_reducible apply br_false); (· exact rfl))); (conv => whnf)))); repeat' (first | ((with_reducible first | apply br_dec | apply br_beq | apply br_bne) <;> (intro _; ((conv => whnf); (repeat ((first | ((with_reducible apply br_true); (· exact rfl)) | ((with_reducible apply br_false); (· exact rfl))); (conv => whnf)))))) | ((with_reducible first | apply sd_and); ((conv => whnf); (repeat ((first | ((with_reducible apply br_true); (· exact rfl)) | ((with_reducible apply br_false); (· exact rfl))); (conv => whnf)))))))
  rw [List.take_length, Int.zero_sub]; exact q
end

theorem nab {x : Int} {k : Nat} (h : x.natAbs ≤ k) : -(k : Int) ≤ x ∧ x ≤ k := by omega
theorem nab_of {x : Int} {k : Nat} (h1 : -(k : Int) ≤ x) (h2 : x ≤ k) : x.natAbs ≤ k := by omega
theorem far_same {g D r : Nat} : ((g : Int) * (D : Int) + (r : Int)) = ((r + D * g : Nat) : Int) := by
  rw [Int.natCast_add, Int.natCast_mul, Int.mul_comm, Int.add_comm]
theorem far_diff {g D r : Nat} (hr : r ≤ D) : (((g + 1 : Nat) : Int) * (D : Int) - (r : Int)) = (((D - r) + D * g : Nat) : Int) := by
  have e : (((D - r) + D * g : Nat) : Int) = (D : Int) - r + D * g := by rw [Int.natCast_add, Int.natCast_mul, Int.natCast_sub hr]
  rw [e, Int.natCast_succ, Int.add_mul, Int.one_mul, Int.mul_comm (g : Int), Int.add_comm]
  omega
theorem far_key {p d w : Nat} {k : Int} {a q r : Nat} (hp : 0 < p) (ha : a = r + 2 ^ d * q) (hr : r < 2 ^ d) (h0 : r ≠ 0) (hq : 2 ^ p ≤ q) (h : Near p (2 * q + 1) 1 w k) : Near p a 1 w (k - 1 + d) := by
  have hD := p2 d
  have e1 : a / 2 ^ d = q := by rw [ha, Nat.add_mul_div_left _ _ hD, Nat.div_eq_of_lt hr, Nat.zero_add]
  have e2 : a % 2 ^ d = r := by rw [ha, Nat.add_mul_mod_self_left, Nat.mod_eq_of_lt hr]
  have h1 : Near p (2 * q + 1) (1 * 2 ^ 1) w (k - (1 : Nat)) := near_B' (by decide) h
  have : Near p a (1 * 2 ^ d) w (k - (1 : Nat)) := by
    rw [Nat.one_mul]
    refine near_sticky hp hD (by rw [e1]; exact hq) ?_
    rw [e1, e2, if_neg h0]; exact h1
  exact near_B this
/-- for a great one above 0 -/
theorem far_pos {p d w g r : Nat} {k : Int} (hp : 0 < p) (hr0 : r ≠ 0) (hG : 2 ^ p ≤ g) (hd : r < 2 ^ d) :
    (Near p (2 * (((g + 1 : Nat) : Int)) + 1).natAbs 1 w k → Near p (((g + 1 : Nat) : Int) * ((2 ^ d : Nat) : Int) + (r : Int)).natAbs 1 w (k - 1 + d)) ∧
    (Near p (2 * (((g + 1 : Nat) : Int)) + -1).natAbs 1 w k → Near p (((g + 1 : Nat) : Int) * ((2 ^ d : Nat) : Int) + -(r : Int)).natAbs 1 w (k - 1 + d)) := by
  refine ⟨fun h => ?_, fun h => ?_⟩
  · rw [far_same, Int.natAbs_natCast]
    exact far_key hp rfl hd hr0 (Nat.le_succ_of_le hG) h
  · rw [← Int.sub_eq_add_neg, far_diff (Nat.le_of_lt hd), Int.natAbs_natCast]
    rw [show (2 * (((g + 1 : Nat) : Int)) + -1).natAbs = 2 * g + 1 by omega] at h
    exact far_key hp rfl (by omega) (by omega) hG h
theorem far_sgn {G x D : Int} {r : Int} (hx : -1 ≤ x ∧ x ≤ 1) (hG : 0 < G) (hr : -D < r ∧ r < D) : (2 * G + x).sign = (G * D + r).sign := by
  have h1 : D * 1 ≤ D * G := Int.mul_le_mul_of_nonneg_left hG (by omega)
  rw [Int.mul_comm] at h1
  rw [Int.mul_comm D] at h1
  rw [Int.sign_eq_one_of_pos (by omega), Int.sign_eq_one_of_pos (by omega)]
theorem far_sgx {m' : Int} (h : m' ≠ 0) : ∃ r : Nat, r ≠ 0 ∧ m'.natAbs = r ∧ ((m'.sign = 1 ∧ m' = r) ∨ (m'.sign = -1 ∧ m' = -(r : Int))) := by
  refine ⟨m'.natAbs, by omega, rfl, ?_⟩
  rcases sign_cases h with e | e
  · exact .inl ⟨e, by rw [← Int.sign_mul_natAbs m', e, Int.one_mul]; rfl⟩
  · exact .inr ⟨e, by rw [← Int.sign_mul_natAbs m', e]; simp⟩
theorem far_near0 {p d w : Nat} {G m' k : Int} (hp : 0 < p) (hm' : m' ≠ 0) (hG0 : 0 < G) (hG : 2 ^ p < G.natAbs) (hd : m'.natAbs < 2 ^ d) (h : Near p (2 * G + m'.sign).natAbs 1 w k) :
    Near p (G * ((2 ^ d : Nat) : Int) + m').natAbs 1 w (k - 1 + d) ∧ (2 * G + m'.sign).sign = (G * ((2 ^ d : Nat) : Int) + m').sign := by
  obtain ⟨r, hr0, hr, hm⟩ := far_sgx hm'
  obtain ⟨g, rfl⟩ : ∃ g : Nat, G = ((g + 1 : Nat) : Int) := ⟨G.natAbs - 1, by omega⟩
  rw [Int.natAbs_natCast] at hG
  rw [hr] at hd
  have K := far_pos (w := w) (k := k) hp hr0 (Nat.le_of_lt_succ hG) hd
  have hb : -((2 ^ d : Nat) : Int) < (r : Int) ∧ (r : Int) < ((2 ^ d : Nat) : Int) := by omega
  rcases hm with ⟨e1, e2⟩ | ⟨e1, e2⟩
  · rw [e1] at h ⊢
    rw [e2]
    exact ⟨K.1 h, far_sgn (by decide) hG0 hb⟩
  · rw [e1] at h ⊢
    rw [e2]
    exact ⟨K.2 h, far_sgn (by decide) hG0 (by omega)⟩
theorem far_near {p s d w : Nat} {m m' k : Int} (hp : 0 < p) (hm' : m' ≠ 0) (hG : 2 ^ (p + 2) ≤ (m * 2 ^ s).natAbs) (hd : m'.natAbs < 2 ^ d) (h : Near p (2 * (m * 2 ^ s) + m'.sign).natAbs 1 w k) :
    Near p (m * 2 ^ s * 2 ^ d + m').natAbs 1 w (k - 1 + d) ∧ (2 * (m * 2 ^ s) + m'.sign).sign = (m * 2 ^ s * 2 ^ d + m').sign := by
  have hDi : (2 ^ d : Int) = ((2 ^ d : Nat) : Int) := by simp
  have hP : 2 ^ p < (m * 2 ^ s).natAbs := Nat.lt_of_lt_of_le (Nat.pow_lt_pow_right (by decide) (by omega)) hG
  rw [hDi]
  generalize m * 2 ^ s = G at *
  rcases Int.lt_trichotomy G 0 with c | c | c
  · have z := far_near0 (G := -G) (m' := -m') (w := w) (k := k) hp (by omega) (by omega) (by rw [Int.natAbs_neg]; exact hP) (by rw [Int.natAbs_neg]; exact hd) (by rw [Int.sign_neg, Int.mul_neg, ← Int.neg_add, Int.natAbs_neg]; exact h)
    rw [Int.sign_neg, Int.mul_neg, Int.neg_mul, ← Int.neg_add, ← Int.neg_add, Int.natAbs_neg, Int.sign_neg, Int.sign_neg] at z
    exact ⟨z.1, Int.neg_inj.mp z.2⟩
  · subst c; exact absurd hP (Nat.not_lt_zero _)
  · exact far_near0 hp hm' c hP hd h

noncomputable def lowT (e e' : Int) : Int := if e' < e then e' else e
noncomputable def sumT (m e m' e' : Int) : Int := m * 2 ^ (e - lowT e e').toNat + m' * 2 ^ (e' - lowT e e').toNat
theorem lowT_comm {e e' : Int} : lowT e e' = lowT e' e := by unfold lowT; split <;> split <;> omega
theorem sumT_comm {m e m' e' : Int} : sumT m e m' e' = sumT m' e' m e := by unfold sumT; rw [lowT_comm, Int.add_comm]
theorem sumT_lt {m e m' e' : Int} (bm : m.natAbs < 2 ^ 500) (bm' : m'.natAbs < 2 ^ 500) (be : e.natAbs ≤ 300) (be' : e'.natAbs ≤ 300) : (sumT m e m' e').natAbs < 2 ^ 4000 := by
  have t : ∀ {m : Int} {k : Nat}, m.natAbs < 2 ^ 500 → k ≤ 600 → (m * 2 ^ k).natAbs < 2 ^ 1100 := by
    intro m k h hk
    rw [Int.natAbs_mul, Int.natAbs_pow]
    exact pw_lt (mulp_lt k h) (by omega)
  have h1 : (m * 2 ^ (e - lowT e e').toNat).natAbs < 2 ^ 1100 := t bm (by unfold lowT; split <;> omega)
  have h2 : (m' * 2 ^ (e' - lowT e e').toNat).natAbs < 2 ^ 1100 := t bm' (by unfold lowT; split <;> omega)
  have h3 := Int.natAbs_add_le (m * 2 ^ (e - lowT e e').toNat) (m' * 2 ^ (e' - lowT e e').toNat)
  have h4 : (2 : Nat) ^ 1100 + 2 ^ 1100 = 2 ^ 1101 := by rw [← Nat.two_mul, ← Nat.pow_succ']
  exact pw_lt (k := 1101) (by unfold sumT; omega) (by decide)

section
variable {n : Nat} {t b u c m e m' e' : Int} {st : Sto} {E : KV} {Q : KD}
theorem c_sroundT {p : Nat} {x e : Int} (hp : 0 < p) (hp' : p ≤ 1000) (hs : x.natAbs < 2 ^ 4000) (he : e.natAbs ≤ 30000) (q0 : x = 0 → Q (.v (rV 0 0)) st) (q : ∀ (m : Nat) (e' : Int), x ≠ 0 → Near p x.natAbs 1 m e' → Q (.v (rV (x.sign * m) (e + e'))) st) :
    CallK (R C2 T2 (n + 4) (.v (.val (.ref 161))) [.v (.int p), .v (.int x), .v (.int e)] st) Q E := by
  by_cases hx : x = 0
  · subst hx
    exact c_sround0 (q0 rfl)
  · exact c_sround hp hp' hx hs he fun m e' h => q m e' hx h
theorem c_far {p : Nat} (hp : 0 < p) (hp' : p ≤ 500) (hm : m ≠ 0) (hm' : m' ≠ 0) (bm : m.natAbs < 2 ^ 500) (be : e.natAbs ≤ 300)
    (q : ∀ (w : Nat) (k : Int), Near p (2 * (m * 2 ^ (p + 3 - sz m)) + m'.sign).natAbs 1 w k → Q (.v (rV ((2 * (m * 2 ^ (p + 3 - sz m)) + m'.sign).sign * w) (e - (p + 3 - sz m : Nat) - 1 + k))) st) :
    CallK (R C2 T2 (n + 5) (.v (.val (.ref 231))) [.v (.int p), .v (rV m e), .v (rV m' e')] st) Q E := by
  have hS : (if 0 < (p : Int) + 3 - sz m then (p : Int) + 3 - sz m else 0) = ((p + 3 - sz m : Nat) : Int) := by split <;> omega
  have z1 : sz m ≤ 500 := sz_le bm
  have b1 : (m * 2 ^ (p + 3 - sz m)).natAbs < 2 ^ 1100 := by
    rw [Int.natAbs_mul, Int.natAbs_pow]
    exact pw_lt (mulp_lt _ bm) (by omega)
  have s1 := Int.natAbs_sign_of_ne_zero hm'
  refine fn_G rfl rfl ?_
  (((conv => whnf); (repeat ((first | ((with_reducible apply br_true); (· exact rfl)) | ((with_reducible apply br_false); (· exact rfl))); (conv => whnf)))); repeat' (first | ((with_reducible first | apply br_dec | apply br_beq | apply br_bne) <;> (intro _; ((conv => whnf); (repeat ((first | ((with_reducible apply br_true); (· exact rfl)) | ((with_reducible apply br_false); (· exact rfl))); (conv => whnf)))))) | ((with_reducible first | apply sd_and | apply c_size | apply c_signR); ((conv => whnf); (repeat ((first | ((with_reducible apply br_true); (· exact rfl)) | ((with_reducible apply br_false); (· exact rfl))); (conv => whnf)))))))
  · rw [hS, Int.toNat_natCast]
    refine c_sroundT hp (by omega) ?_ (by omega) (fun z => ?_) fun w k _ h => ?_
    · have h4 : (2 : Nat) ^ 1102 = 4 * 2 ^ 1100 := by rw [show (1102 : Nat) = 2 + 1100 from rfl, Nat.pow_add]
      have h5 := p2 1100
      exact pw_lt (k := 1102) (by omega) (by decide)
    · omega
    · (((conv => whnf); (repeat ((first | ((with_reducible apply br_true); (· exact rfl)) | ((with_reducible apply br_false); (· exact rfl))); (conv => whnf)))); repeat' (first | ((with_reducible first | apply br_dec | apply br_beq | apply br_bne) <;> (intro _; ((conv => whnf); (repeat ((first | ((with_reducible apply br_true); (· exact rfl)) | ((with_reducible apply br_false); (· exact rfl))); (conv => whnf)))))) | ((with_reducible first | apply sd_and | apply c_size | apply c_signR); ((conv => whnf); (repeat ((first | ((with_reducible apply br_true); (· exact rfl)) | ((with_reducible apply br_false); (· exact rfl))); (conv => whnf)))))))
      rw [List.take_length]; exact q w k h
  · rw [hS, Int.toNat_natCast]
    exact mul_of (by unfold Sm; exact pw_lt (k := 2) (by decide) (by decide)) (pw_lt b1 (by decide))
  · have : (Builtin.Int.intBits m : Int) ≤ 500 := by unfold sz at z1; omega
    rw [hS]; omega
theorem far_T {p : Nat} (hp : 0 < p) (hm : m ≠ 0) (hm' : m' ≠ 0) (hf : (sz m' : Int) + e' < if (sz m : Int) + e - p - 3 < e then (sz m : Int) + e - p - 3 else e) {w : Nat} {k : Int}
    (h : Near p (2 * (m * 2 ^ (p + 3 - sz m)) + m'.sign).natAbs 1 w k) :
    ∃ k', Near p (sumT m e m' e').natAbs 1 w k' ∧ rV ((2 * (m * 2 ^ (p + 3 - sz m)) + m'.sign).sign * w) (e - (p + 3 - sz m : Nat) - 1 + k) = rV ((sumT m e m' e').sign * w) (lowT e e' + k') := by
  have z2 := sz_lo hm
  have z3 := sz_hi m'
  have zp : 0 < sz m := by rw [sz_pos hm]; omega
  have hl : (sz m' : Int) + e' < e - ((p + 3 - sz m : Nat) : Int) := by
    have : (if (sz m : Int) + e - p - 3 < e then (sz m : Int) + e - p - 3 else e) ≤ e - ((p + 3 - sz m : Nat) : Int) := by split <;> omega
    omega
  obtain ⟨d, hd⟩ : ∃ d : Nat, e - ((p + 3 - sz m : Nat) : Int) - e' = d := Int.eq_ofNat_of_zero_le (by omega)
  have hlow : lowT e e' = e' := by unfold lowT; rw [if_pos (by omega)]
  have hT : sumT m e m' e' = m * 2 ^ (p + 3 - sz m) * 2 ^ d + m' := by
    unfold sumT
    rw [hlow, show (e - e').toNat = (p + 3 - sz m) + d by omega, show (e' - e').toNat = 0 by omega, Int.pow_add, Int.pow_zero, Int.mul_one, Int.mul_assoc]
  have hG : 2 ^ (p + 2) ≤ (m * 2 ^ (p + 3 - sz m)).natAbs := by
    rw [Int.natAbs_mul, Int.natAbs_pow]
    calc 2 ^ (p + 2) ≤ 2 ^ (sz m - 1) * 2 ^ (p + 3 - sz m) := by rw [← Nat.pow_add]; exact Nat.pow_le_pow_right (by decide) (by omega)
      _ ≤ _ := Nat.mul_le_mul_right _ z2
  obtain ⟨h1, h2⟩ := far_near hp hm' hG (pw_lt (l := d) z3 (by omega)) h
  refine ⟨_, by rw [hT]; exact h1, ?_⟩
  rw [h2, hT, hlow, show e - ((p + 3 - sz m : Nat) : Int) - 1 + k = e' + (k - 1 + d) by omega]
theorem bits_le {x : Int} {k : Nat} (h : x.natAbs < 2 ^ k) : (Builtin.Int.intBits x : Int) ≤ k := Int.ofNat_le.mpr (sz_le h)
theorem low_le {e e' : Int} : lowT e e' ≤ e ∧ lowT e e' ≤ e' := by unfold lowT; split <;> omega
theorem low_nab {k : Nat} (be : e.natAbs ≤ k) (be' : e'.natAbs ≤ k) : (lowT e e').natAbs ≤ k := by unfold lowT; split <;> assumption
theorem low_sh {x : Int} (hx : x ≤ (500 : Nat)) (be : e.natAbs ≤ 300) (be' : (lowT e e').natAbs ≤ 300) (h : lowT e e' ≤ e) : 0 ≤ e - lowT e e' ∧ x + (e - lowT e e') ≤ 2 ^ 27 := by
  have h1 := (nab be).2
  have h2 := (nab be').1
  clear be be'
  refine ⟨Int.sub_nonneg.mpr h, ?_⟩
  omega
theorem low_sh1 {x : Int} (hx : x ≤ (500 : Nat)) (be : e.natAbs ≤ 300) (be' : e'.natAbs ≤ 300) : 0 ≤ e - lowT e e' ∧ x + (e - lowT e e') ≤ 2 ^ 27 := low_sh hx be (low_nab be be') low_le.1
theorem low_sh2 {x : Int} (hx : x ≤ (500 : Nat)) (be : e.natAbs ≤ 300) (be' : e'.natAbs ≤ 300) : 0 ≤ e' - lowT e e' ∧ x + (e' - lowT e e') ≤ 2 ^ 27 := by
  rw [lowT_comm]; exact low_sh1 hx be' be
theorem add_lt_pow {a b : Int} {k r : Nat} (ha : a.natAbs < 2 ^ k) (hb : b.natAbs < 2 ^ k) (h : k + 1 ≤ r) : (a + b).natAbs < 2 ^ r := by
  have : 2 ^ k + 2 ^ k = 2 ^ (k + 1) := by rw [← Nat.two_mul, ← Nat.pow_succ']
  exact pw_lt (Nat.lt_of_le_of_lt (Int.natAbs_add_le a b) (this ▸ Nat.add_lt_add ha hb)) h
/-- one of both is 0 -/
theorem sum_zero (z : m = 0 → e = 0) (z' : m' = 0 → e' = 0) (h0 : m = 0 ∨ m' = 0) : ∃ t : Nat, sumT m e m' e' = (m + m') * 2 ^ t ∧ e + e' = lowT e e' + t := by
  unfold sumT
  rcases h0 with h | h
  · rw [z h, h, Int.zero_mul, Int.zero_add, Int.zero_add, Int.zero_add]
    refine ⟨_, rfl, ?_⟩
    have := (low_le (e := 0) (e' := e')).2
    omega
  · rw [z' h, h, Int.zero_mul, Int.add_zero, Int.add_zero, Int.add_zero]
    refine ⟨_, rfl, ?_⟩
    have := (low_le (e := e) (e' := 0)).1
    omega
theorem c_addR0 {p : Nat} (hp : 0 < p) (hp' : p ≤ 500) (z : m = 0 → e = 0) (z' : m' = 0 → e' = 0) (bm : m.natAbs < 2 ^ 500) (bm' : m'.natAbs < 2 ^ 500) (be : e.natAbs ≤ 300) (be' : e'.natAbs ≤ 300) (h0 : m = 0 ∨ m' = 0)
    (q0 : sumT m e m' e' = 0 → Q (.v (rV 0 0)) st) (q : ∀ (w : Nat) (k : Int), Near p (sumT m e m' e').natAbs 1 w k → Q (.v (rV ((sumT m e m' e').sign * w) (lowT e e' + k))) st) :
    CallK (R C2 T2 (n + 4) (.v (.val (.ref 161))) [.v (.int p), .v (.int (m + m')), .v (.int (e + e'))] st) Q E := by
  obtain ⟨t, k1, k2⟩ := sum_zero z z' h0
  rw [k1] at q0 q
  have sg : ((m + m') * 2 ^ t).sign = (m + m').sign := by rw [Int.sign_mul, Int.sign_eq_one_of_pos (Int.pow_pos (by decide)), Int.mul_one]
  refine c_sroundT hp (Nat.le_trans hp' (by decide)) (add_lt_pow bm bm' (by decide)) (nab_add be be' (by decide)) (fun h => q0 (by rw [h, Int.zero_mul])) fun w k h0 h => ?_
  have := q w (k + t) (by rw [Int.natAbs_mul, Int.natAbs_pow]; exact near_A' (by decide) h)
  rw [sg, ← Int.add_assoc, Int.add_right_comm, ← k2] at this
  exact this
/-- both stand, the greater one ahead -/
theorem c_addR1 {p N : Nat} {v v' : D} (hp : 0 < p) (hp' : p ≤ 500) (hm : m ≠ 0) (hm' : m' ≠ 0) (bm : m.natAbs < 2 ^ 500) (bm' : m'.natAbs < 2 ^ 500) (be : e.natAbs ≤ 300) (be' : e'.natAbs ≤ 300)
    (q0 : sumT m e m' e' = 0 → Q (.v (rV 0 0)) st) (q : ∀ (w : Nat) (k : Int), Near p (sumT m e m' e').natAbs 1 w k → Q (.v (rV ((sumT m e m' e').sign * w) (lowT e e' + k))) st) :
    go C2 T2 (n + 4) (fi 25).sc (endK st.length Q) (N + 400) [.sts 64 ((fi 25).body.drop 2)] [] [(Str.ofString "precision", .v (.int p)), (Str.ofString "one", v), (Str.ofString "other", v'), (Str.ofString "great", .v (rV m e)), (Str.ofString "small", .v (rV m' e'))] st E := by
  (((conv => whnf); (repeat ((first | ((with_reducible apply br_true); (· exact rfl)) | ((with_reducible apply br_false); (· exact rfl))); (conv => whnf)))); repeat' (first | ((with_reducible first | apply br_dec | apply br_beq | apply br_bne) <;> (intro _; ((conv => whnf); (repeat ((first | ((with_reducible apply br_true); (· exact rfl)) | ((with_reducible apply br_false); (· exact rfl))); (conv => whnf)))))) | ((with_reducible first | apply sd_and | apply c_place); ((conv => whnf); (repeat ((first | ((with_reducible apply br_true); (· exact rfl)) | ((with_reducible apply br_false); (· exact rfl))); (conv => whnf)))))))
  · rename_i h
    refine c_far hp hp' hm hm' bm be fun w k h => ?_
    obtain ⟨k', g1, g2⟩ := far_T hp hm hm' (by assumption) h
    (((conv => whnf); (repeat ((first | ((with_reducible apply br_true); (· exact rfl)) | ((with_reducible apply br_false); (· exact rfl))); (conv => whnf)))); repeat' (first | ((with_reducible first | apply br_dec | apply br_beq | apply br_bne) <;> (intro _; ((conv => whnf); (repeat ((first | ((with_reducible apply br_true); (· exact rfl)) | ((with_reducible apply br_false); (· exact rfl))); (conv => whnf)))))) | ((with_reducible first | apply sd_and | apply c_place); ((conv => whnf); (repeat ((first | ((with_reducible apply br_true); (· exact rfl)) | ((with_reducible apply br_false); (· exact rfl))); (conv => whnf)))))))
    rw [List.take_length, g2]; exact q w k' g1
  · refine c_sroundT (x := sumT m e m' e') (e := lowT e e') hp (Nat.le_trans hp' (by decide)) (sumT_lt bm bm' be be') (Nat.le_trans (low_nab be be') (by decide)) (fun h => ?_) fun w k h0 h => ?_
    · (((conv => whnf); (repeat ((first | ((with_reducible apply br_true); (· exact rfl)) | ((with_reducible apply br_false); (· exact rfl))); (conv => whnf)))); repeat' (first | ((with_reducible first | apply br_dec | apply br_beq | apply br_bne) <;> (intro _; ((conv => whnf); (repeat ((first | ((with_reducible apply br_true); (· exact rfl)) | ((with_reducible apply br_false); (· exact rfl))); (conv => whnf)))))) | ((with_reducible first | apply sd_and | apply c_place); ((conv => whnf); (repeat ((first | ((with_reducible apply br_true); (· exact rfl)) | ((with_reducible apply br_false); (· exact rfl))); (conv => whnf)))))))
      rw [List.take_length]; exact q0 h
    · (((conv => whnf); (repeat ((first | ((with_reducible apply br_true); (· exact rfl)) | ((with_reducible apply br_false); (· exact rfl))); (conv => whnf)))); repeat' (first | ((with_reducible first | apply br_dec | apply br_beq | apply br_bne) <;> (intro _; ((conv => whnf); (repeat ((first | ((with_reducible apply br_true); (· exact rfl)) | ((with_reducible apply br_false); (· exact rfl))); (conv => whnf)))))) | ((with_reducible first | apply sd_and | apply c_place); ((conv => whnf); (repeat ((first | ((with_reducible apply br_true); (· exact rfl)) | ((with_reducible apply br_false); (· exact rfl))); (conv => whnf)))))))
      rw [List.take_length]; exact q w k h
  · exact low_sh2 (bits_le bm') be be'
  · exact low_sh1 (bits_le bm) be be'
theorem c_addR {p : Nat} (hp : 0 < p) (hp' : p ≤ 500) (z : m = 0 → e = 0) (z' : m' = 0 → e' = 0) (bm : m.natAbs < 2 ^ 500) (bm' : m'.natAbs < 2 ^ 500) (be : e.natAbs ≤ 300) (be' : e'.natAbs ≤ 300)
    (q0 : sumT m e m' e' = 0 → Q (.v (rV 0 0)) st) (q : ∀ (w : Nat) (k : Int), Near p (sumT m e m' e').natAbs 1 w k → Q (.v (rV ((sumT m e m' e').sign * w) (lowT e e' + k))) st) :
    CallK (R C2 T2 (n + 6) (.v (.val (.ref 238))) [.v (.int p), .v (rV m e), .v (rV m' e')] st) Q E := by
  refine fn_G rfl rfl ?_
  (((conv => whnf); (repeat ((first | ((with_reducible apply br_true); (· exact rfl)) | ((with_reducible apply br_false); (· exact rfl))); (conv => whnf)))))
  refine c_signR ?_
  (((conv => whnf); (repeat ((first | ((with_reducible apply br_true); (· exact rfl)) | ((with_reducible apply br_false); (· exact rfl))); (conv => whnf)))))
  refine br_beq (fun h => ?_) (fun h1 => ?_)
  · (((conv => whnf); (repeat ((first | ((with_reducible apply br_true); (· exact rfl)) | ((with_reducible apply br_false); (· exact rfl))); (conv => whnf)))))
    refine c_addR0 hp hp' z z' bm bm' be be' (.inl (Int.sign_eq_zero_iff_zero.mp h)) (fun h => ?_) fun w k h => ?_
    · (((conv => whnf); (repeat ((first | ((with_reducible apply br_true); (· exact rfl)) | ((with_reducible apply br_false); (· exact rfl))); (conv => whnf)))); repeat' (first | ((with_reducible first | apply br_dec | apply br_beq | apply br_bne) <;> (intro _; ((conv => whnf); (repeat ((first | ((with_reducible apply br_true); (· exact rfl)) | ((with_reducible apply br_false); (· exact rfl))); (conv => whnf)))))) | ((with_reducible first | apply sd_and | apply c_place | apply c_signR); ((conv => whnf); (repeat ((first | ((with_reducible apply br_true); (· exact rfl)) | ((with_reducible apply br_false); (· exact rfl))); (conv => whnf)))))))
      rw [List.take_length]; exact q0 h
    · (((conv => whnf); (repeat ((first | ((with_reducible apply br_true); (· exact rfl)) | ((with_reducible apply br_false); (· exact rfl))); (conv => whnf)))); repeat' (first | ((with_reducible first | apply br_dec | apply br_beq | apply br_bne) <;> (intro _; ((conv => whnf); (repeat ((first | ((with_reducible apply br_true); (· exact rfl)) | ((with_reducible apply br_false); (· exact rfl))); (conv => whnf)))))) | ((with_reducible first | apply sd_and | apply c_place | apply c_signR); ((conv => whnf); (repeat ((first | ((with_reducible apply br_true); (· exact rfl)) | ((with_reducible apply br_false); (· exact rfl))); (conv => whnf)))))))
      rw [List.take_length]; exact q w k h
  (((conv => whnf); (repeat ((first | ((with_reducible apply br_true); (· exact rfl)) | ((with_reducible apply br_false); (· exact rfl))); (conv => whnf)))))
  refine c_signR ?_
  (((conv => whnf); (repeat ((first | ((with_reducible apply br_true); (· exact rfl)) | ((with_reducible apply br_false); (· exact rfl))); (conv => whnf)))))
  refine br_beq (fun h => ?_) (fun h2 => ?_)
  · (((conv => whnf); (repeat ((first | ((with_reducible apply br_true); (· exact rfl)) | ((with_reducible apply br_false); (· exact rfl))); (conv => whnf)))))
    refine c_addR0 hp hp' z z' bm bm' be be' (.inr (Int.sign_eq_zero_iff_zero.mp h)) (fun h => ?_) fun w k h => ?_
    · (((conv => whnf); (repeat ((first | ((with_reducible apply br_true); (· exact rfl)) | ((with_reducible apply br_false); (· exact rfl))); (conv => whnf)))); repeat' (first | ((with_reducible first | apply br_dec | apply br_beq | apply br_bne) <;> (intro _; ((conv => whnf); (repeat ((first | ((with_reducible apply br_true); (· exact rfl)) | ((with_reducible apply br_false); (· exact rfl))); (conv => whnf)))))) | ((with_reducible first | apply sd_and | apply c_place | apply c_signR); ((conv => whnf); (repeat ((first | ((with_reducible apply br_true); (· exact rfl)) | ((with_reducible apply br_false); (· exact rfl))); (conv => whnf)))))))
      rw [List.take_length]; exact q0 h
    · (((conv => whnf); (repeat ((first | ((with_reducible apply br_true); (· exact rfl)) | ((with_reducible apply br_false); (· exact rfl))); (conv => whnf)))); repeat' (first | ((with_reducible first | apply br_dec | apply br_beq | apply br_bne) <;> (intro _; ((conv => whnf); (repeat ((first | ((with_reducible apply br_true); (· exact rfl)) | ((with_reducible apply br_false); (· exact rfl))); (conv => whnf)))))) | ((with_reducible first | apply sd_and | apply c_place | apply c_signR); ((conv => whnf); (repeat ((first | ((with_reducible apply br_true); (· exact rfl)) | ((with_reducible apply br_false); (· exact rfl))); (conv => whnf)))))))
      rw [List.take_length]; exact q w k h
  have hm : m ≠ 0 := fun z => h1 (by rw [z]; rfl)
  have hm' : m' ≠ 0 := fun z => h2 (by rw [z]; rfl)
  (((conv => whnf); (repeat ((first | ((with_reducible apply br_true); (· exact rfl)) | ((with_reducible apply br_false); (· exact rfl))); (conv => whnf)))))
  refine c_place ?_
  (((conv => whnf); (repeat ((first | ((with_reducible apply br_true); (· exact rfl)) | ((with_reducible apply br_false); (· exact rfl))); (conv => whnf)))))
  refine c_place ?_
  (((conv => whnf); (repeat ((first | ((with_reducible apply br_true); (· exact rfl)) | ((with_reducible apply br_false); (· exact rfl))); (conv => whnf)))))
  refine br_dec (fun _ => ?_) (fun _ => ?_)
  · (((conv => whnf); (repeat ((first | ((with_reducible apply br_true); (· exact rfl)) | ((with_reducible apply br_false); (· exact rfl))); (conv => whnf)))))
    exact c_addR1 hp hp' hm hm' bm bm' be be' q0 q
  · rw [sumT_comm, lowT_comm] at q
    rw [sumT_comm] at q0
    (((conv => whnf); (repeat ((first | ((with_reducible apply br_true); (· exact rfl)) | ((with_reducible apply br_false); (· exact rfl))); (conv => whnf)))))
    exact c_addR1 hp hp' hm' hm bm' bm be' be q0 q
end





theorem rhe_le {a b p : Nat} (h : a < 2 ^ p * b) : rhe a b ≤ 2 ^ p := by
  have h1 : a / b < 2 ^ p := Nat.div_lt_of_lt_mul (by rw [Nat.mul_comm]; exact h)
  unfold rhe; split <;> omega
theorem near_bound {p a b w A : Nat} {k : Int} (hb : 0 < b) (ba : a < 2 ^ A) (bb : b < 2 ^ A) (h : Near p a b w k) : w ≤ 2 ^ p ∧ k.natAbs < A + p + 1 := by
  obtain ⟨i, j, k', lo, hi, ww, o, rfl⟩ := h
  have ha : 0 < a := Nat.pos_of_ne_zero fun z => by
    rw [z, Nat.zero_mul] at lo
    have := Nat.mul_pos (p2 (p - 1)) (Nat.mul_pos hb (p2 i))
    omega
  have r1 : w * 2 ^ k' ≤ 2 ^ p := by rw [← ww]; exact rhe_le hi
  have w1 : w ≤ w * 2 ^ k' := Nat.le_mul_of_pos_right _ (p2 _)
  have w2 : 2 ^ k' ≤ w * 2 ^ k' := Nat.le_mul_of_pos_left _ (by omega)
  have k1 : k' ≤ p := (Nat.pow_le_pow_iff_right (by decide : 1 < 2)).mp (Nat.le_trans w2 r1)
  have i1 : i < A + j := by
    refine (Nat.pow_lt_pow_iff_right (by decide : 1 < 2)).mp ?_
    rw [Nat.pow_add]
    calc 2 ^ i ≤ b * 2 ^ i := Nat.le_mul_of_pos_left _ hb
      _ ≤ 2 ^ (p - 1) * (b * 2 ^ i) := Nat.le_mul_of_pos_left _ (p2 _)
      _ ≤ a * 2 ^ j := lo
      _ < _ := Nat.mul_lt_mul_of_pos_right ba (p2 j)
  have j1 : j < p + (A + i) := by
    refine (Nat.pow_lt_pow_iff_right (by decide : 1 < 2)).mp ?_
    rw [Nat.pow_add, Nat.pow_add]
    calc 2 ^ j ≤ a * 2 ^ j := Nat.le_mul_of_pos_left _ ha
      _ < 2 ^ p * (b * 2 ^ i) := hi
      _ ≤ _ := Nat.mul_le_mul_left _ (Nat.mul_le_mul_right _ (by omega))
  exact ⟨by omega, by omega⟩

/-- v is a / b rounded to p bits -/
noncomputable def Rd (p : Nat) (a : Int) (b : Nat) (v : V) : Prop := (a = 0 ∧ v = rV 0 0) ∨ (a ≠ 0 ∧ ∃ (w : Nat) (k : Int), Near p a.natAbs b w k ∧ v = rV (a.sign * w) k)
noncomputable def frT (m e : Int) : Int := m * 2 ^ e.toNat
noncomputable def frB (e : Int) : Nat := 2 ^ (-e).toNat
theorem frB_pos {e : Int} : 0 < frB e := p2 _
theorem cross {a a' : Int} {b b' : Nat} (hb : 0 < b) (hb' : 0 < b') (h : a * b' = a' * b) : a.natAbs * b' = a'.natAbs * b ∧ a.sign = a'.sign := by
  refine ⟨?_, ?_⟩
  · have := congrArg Int.natAbs h
    rwa [Int.natAbs_mul, Int.natAbs_mul, Int.natAbs_natCast, Int.natAbs_natCast] at this
  · have := congrArg Int.sign h
    rwa [Int.sign_mul, Int.sign_mul, Int.sign_natCast_of_ne_zero (by omega), Int.sign_natCast_of_ne_zero (by omega), Int.mul_one, Int.mul_one] at this
theorem Rd.congr {p b b' : Nat} {a a' : Int} {v : V} (hb : 0 < b) (hb' : 0 < b') (h : a * b' = a' * b) (r : Rd p a b v) : Rd p a' b' v := by
  obtain ⟨h1, h2⟩ := cross hb hb' h
  rcases r with ⟨z, r⟩ | ⟨z, w, k, n, r⟩
  · refine .inl ⟨?_, r⟩
    rw [z] at h2
    exact Int.sign_eq_zero_iff_zero.mp h2.symm
  · refine .inr ⟨fun z' => z ?_, w, k, near_congr hb hb' h1 n, by rw [r, h2]⟩
    rw [z'] at h2
    exact Int.sign_eq_zero_iff_zero.mp h2
theorem Rd.unique {p b : Nat} {a : Int} {v v' : V} (hp : 0 < p) (hb : 0 < b) (r : Rd p a b v) (r' : Rd p a b v') : v = v' := by
  rcases r with ⟨z, r⟩ | ⟨z, w, k, n, r⟩ <;> rcases r' with ⟨z', r'⟩ | ⟨z', w', k', n', r'⟩
  · rw [r, r']
  · exact absurd z z'
  · exact absurd z' z
  · obtain ⟨q1, q2⟩ := near_unique hp hb hb rfl n n'
    rw [r, r', q1, q2]
theorem Rd.of0 {p b : Nat} {x low : Int} (h : x = 0) : Rd p (frT x low) b (rV 0 0) := .inl ⟨by rw [h]; exact Int.zero_mul _, rfl⟩
theorem frT_sign {x low : Int} : (frT x low).sign = x.sign := by
  have : ((2 : Int) ^ low.toNat).sign = 1 := Int.sign_eq_one_of_pos (Int.pow_pos (by decide))
  unfold frT
  rw [Int.sign_mul, this, Int.mul_one]
theorem frT_abs {x low : Int} : (frT x low).natAbs = x.natAbs * 2 ^ low.toNat := by
  unfold frT
  rw [Int.natAbs_mul, Int.natAbs_pow]; rfl
theorem frT_zero {x low : Int} (h : frT x low = 0) : x = 0 := by
  have := congrArg Int.sign h
  rw [frT_sign] at this
  exact Int.sign_eq_zero_iff_zero.mp this
theorem Rd.ofNB {p w b : Nat} {x low k : Int} (hb : 0 < b) (h0 : x ≠ 0) (h : Near p x.natAbs b w k) : Rd p (frT x low) (b * frB low) (rV (x.sign * w) (low + k)) := by
  refine .inr ⟨fun z => h0 (frT_zero z), w, low + k, ?_, by rw [frT_sign]⟩
  rw [frT_abs]
  unfold frB
  by_cases hl : 0 ≤ low
  · have e1 : (-low).toNat = 0 := by omega
    rw [e1, Nat.pow_zero, Nat.mul_one]
    have := near_A' (t := low.toNat) hb h
    rwa [show k + (low.toNat : Int) = low + k by omega] at this
  · have e1 : low.toNat = 0 := by omega
    rw [e1, Nat.pow_zero, Nat.mul_one]
    have := near_B' (t := (-low).toNat) hb h
    rwa [show k - ((-low).toNat : Int) = low + k by omega] at this
theorem Rd.ofN {p w : Nat} {x low k : Int} (h0 : x ≠ 0) (h : Near p x.natAbs 1 w k) : Rd p (frT x low) (frB low) (rV (x.sign * w) (low + k)) := by
  have := Rd.ofNB (low := low) (by decide) h0 h
  rwa [Nat.one_mul] at this
/-- a number of few bits is what it is rounded to -/
theorem Rd.self {p : Nat} {m e : Int} (hm : m.natAbs % 2 = 1) (hb : m.natAbs < 2 ^ p) : Rd p (frT m e) (frB e) (rV m e) := by
  have h0 : m ≠ 0 := by omega
  have z2 := sz_lo h0
  have z3 := sz_hi m
  have z4 := sz_le hb
  have zp : 0 < sz m := by rw [sz_pos h0]; omega
  have h : Near p m.natAbs 1 m.natAbs 0 := by
    refine ⟨0, p - sz m, p - sz m, ?_, ?_, ?_, hm, zer⟩
    · rw [Nat.pow_zero, Nat.mul_one]; exact lo_up z4 zp z2
    · rw [Nat.pow_zero, Nat.mul_one]; exact hi_up z4 z3
    · rw [Nat.pow_zero, Nat.mul_one, rhe_one]
  have := Rd.ofN (low := e) h0 h
  rwa [Int.sign_mul_natAbs, Int.add_zero] at this

theorem tn {x : Int} : (x.toNat : Int) = x + ((-x).toNat : Int) := by omega
theorem exp_mul {e e' : Int} : (e + e').toNat + (-e).toNat + (-e').toNat = e.toNat + e'.toNat + (-(e + e')).toNat := by
  have a := tn (x := e)
  have b := tn (x := e')
  have c := tn (x := e + e')
  generalize (e + e').toNat = x1 at *
  generalize (-(e + e')).toNat = x2 at *
  generalize e.toNat = x3 at *
  generalize e'.toNat = x4 at *
  generalize (-e).toNat = x5 at *
  generalize (-e').toNat = x6 at *
  omega
theorem exp_div {e e' : Int} : (e - e').toNat + (-e).toNat + e'.toNat = e.toNat + (-e').toNat + (-(e - e')).toNat := by
  have := exp_mul (e := e) (e' := -e')
  rwa [Int.neg_neg, ← Int.sub_eq_add_neg] at this
theorem exp_low {e l : Int} (h : l ≤ e) : (e - l).toNat + l.toNat + (-e).toNat = e.toNat + (-l).toNat := by
  have a := tn (x := e)
  have b := tn (x := l)
  have c := Int.toNat_of_nonneg (Int.sub_nonneg.mpr h)
  generalize (e - l).toNat = x1 at *
  generalize (-l).toNat = x2 at *
  generalize e.toNat = x3 at *
  generalize l.toNat = x4 at *
  generalize (-e).toNat = x5 at *
  omega
theorem exp_low1 {e e' l : Int} (h : l ≤ e) : (e - l).toNat + l.toNat + (-e).toNat + (-e').toNat = e.toNat + (-e').toNat + (-l).toNat := by
  rw [exp_low h, Nat.add_right_comm]
theorem exp_low2 {e e' l : Int} (h : l ≤ e') : (e' - l).toNat + l.toNat + (-e).toNat + (-e').toNat = e'.toNat + (-e).toNat + (-l).toNat := by
  rw [Nat.add_right_comm, exp_low h, Nat.add_right_comm]
theorem pz {k : Nat} : ((2 ^ k : Nat) : Int) = 2 ^ k := by simp
section
variable {n : Nat} {t b u c m e m' e' : Int} {st : Sto} {E : KV} {Q : KD}
theorem c_addR' {p : Nat} (hp : 0 < p) (hp' : p ≤ 500) (z : m = 0 → e = 0) (z' : m' = 0 → e' = 0) (bm : m.natAbs < 2 ^ 500) (bm' : m'.natAbs < 2 ^ 500) (be : e.natAbs ≤ 300) (be' : e'.natAbs ≤ 300)
    (q : ∀ v, Rd p (frT m e * frB e' + frT m' e' * frB e) (frB e * frB e') v → Q (.v v) st) :
    CallK (R C2 T2 (n + 6) (.v (.val (.ref 238))) [.v (.int p), .v (rV m e), .v (rV m' e')] st) Q E := by
  have hx : frT (sumT m e m' e') (lowT e e') * ((frB e * frB e' : Nat) : Int) = (frT m e * frB e' + frT m' e' * frB e) * (frB (lowT e e') : Nat) := by
    unfold frT frB sumT
    have l1 : lowT e e' ≤ e := low_le.1
    have l2 : lowT e e' ≤ e' := low_le.2
    generalize lowT e e' = l at *
    rw [Int.natCast_mul, pz, pz, pz, Int.add_mul, Int.add_mul, Int.add_mul]
    have h1 : ∀ {x : Int} {a1 a2 a3 a4 : Nat}, x * 2 ^ a1 * 2 ^ a2 * (2 ^ a3 * 2 ^ a4) = x * 2 ^ (a1 + a2 + a3 + a4) := by
      intro x a1 a2 a3 a4
      rw [Int.pow_add, Int.pow_add, Int.pow_add]; simp only [Int.mul_assoc]
    have h2 : ∀ {x : Int} {a1 a2 a3 : Nat}, x * 2 ^ a1 * 2 ^ a2 * 2 ^ a3 = x * 2 ^ (a1 + a2 + a3) := by
      intro x a1 a2 a3
      rw [Int.pow_add, Int.pow_add]; simp only [Int.mul_assoc]
    rw [h1, h1, h2, h2, exp_low1 l1, exp_low2 l2]
  refine c_addR hp hp' z z' bm bm' be be' (fun h => ?_) fun w k h => ?_
  · exact q _ (Rd.congr frB_pos (Nat.mul_pos frB_pos frB_pos) hx (Rd.of0 h))
  · refine q _ (Rd.congr frB_pos (Nat.mul_pos frB_pos frB_pos) hx (Rd.ofN (fun h0 => ?_) h))
    obtain ⟨i, j, k', lo, _⟩ := h
    rw [h0] at lo
    have := Nat.mul_pos (p2 (p - 1)) (Nat.mul_pos (show 0 < 1 by decide) (p2 i))
    simp only [Int.natAbs_zero, Nat.zero_mul] at lo
    omega
theorem frT_neg {m e : Int} : frT (-m) e = - frT m e := by unfold frT; rw [Int.neg_mul]
theorem c_subR {p : Nat} (hp : 0 < p) (hp' : p ≤ 500) (z : m = 0 → e = 0) (z' : m' = 0 → e' = 0) (bm : m.natAbs < 2 ^ 500) (bm' : m'.natAbs < 2 ^ 500) (be : e.natAbs ≤ 300) (be' : e'.natAbs ≤ 300)
    (q : ∀ v, Rd p (frT m e * frB e' - frT m' e' * frB e) (frB e * frB e') v → Q (.v v) st) :
    CallK (R C2 T2 (n + 7) (.v (.val (.ref 245))) [.v (.int p), .v (rV m e), .v (rV m' e')] st) Q E := by
  refine fn_G rfl rfl ?_
  (((conv => whnf); (repeat ((first | ((with_reducible apply br_true); (· exact rfl)) | ((with_reducible apply br_false); (· exact rfl))); (conv => whnf)))); repeat' (first | ((with_reducible first | apply br_dec | apply br_beq | apply br_bne) <;> (intro _; ((conv => whnf); (repeat ((first | ((with_reducible apply br_true); (· exact rfl)) | ((with_reducible apply br_false); (· exact rfl))); (conv => whnf)))))) | ((with_reducible first | apply sd_and | apply c_negR); ((conv => whnf); (repeat ((first | ((with_reducible apply br_true); (· exact rfl)) | ((with_reducible apply br_false); (· exact rfl))); (conv => whnf)))))))
  refine c_addR' hp hp' z (fun h => z' (by omega)) bm (by rw [Int.natAbs_neg]; exact bm') be be' fun v h => ?_
  rw [frT_neg, Int.neg_mul, ← Int.sub_eq_add_neg] at h
  (((conv => whnf); (repeat ((first | ((with_reducible apply br_true); (· exact rfl)) | ((with_reducible apply br_false); (· exact rfl))); (conv => whnf)))); repeat' (first | ((with_reducible first | apply br_dec | apply br_beq | apply br_bne) <;> (intro _; ((conv => whnf); (repeat ((first | ((with_reducible apply br_true); (· exact rfl)) | ((with_reducible apply br_false); (· exact rfl))); (conv => whnf)))))) | ((with_reducible first | apply sd_and | apply c_negR); ((conv => whnf); (repeat ((first | ((with_reducible apply br_true); (· exact rfl)) | ((with_reducible apply br_false); (· exact rfl))); (conv => whnf)))))))
  rw [List.take_length]; exact q v h
theorem c_mulR {p : Nat} (hp : 0 < p) (hp' : p ≤ 500) (bm : m.natAbs < 2 ^ 500) (bm' : m'.natAbs < 2 ^ 500) (be : e.natAbs ≤ 300) (be' : e'.natAbs ≤ 300)
    (q : ∀ v, Rd p (frT m e * frT m' e') (frB e * frB e') v → Q (.v v) st) :
    CallK (R C2 T2 (n + 5) (.v (.val (.ref 252))) [.v (.int p), .v (rV m e), .v (rV m' e')] st) Q E := by
  have hx : frT (m * m') (e + e') * ((frB e * frB e' : Nat) : Int) = (frT m e * frT m' e') * (frB (e + e') : Nat) := by
    unfold frT frB
    rw [Int.natCast_mul, pz, pz, pz]
    have h1 : m * m' * 2 ^ (e + e').toNat * (2 ^ (-e).toNat * 2 ^ (-e').toNat) = m * m' * 2 ^ ((e + e').toNat + (-e).toNat + (-e').toNat) := by
      rw [Int.pow_add, Int.pow_add]; simp only [Int.mul_assoc]
    have h2 : m * 2 ^ e.toNat * (m' * 2 ^ e'.toNat) * 2 ^ (-(e + e')).toNat = m * m' * 2 ^ (e.toNat + e'.toNat + (-(e + e')).toNat) := by
      rw [Int.pow_add, Int.pow_add]; simp only [Int.mul_assoc, Int.mul_comm, Int.mul_left_comm]
    rw [h1, h2, exp_mul]
  refine fn_G rfl rfl ?_
  (((conv => whnf); (repeat ((first | ((with_reducible apply br_true); (· exact rfl)) | ((with_reducible apply br_false); (· exact rfl))); (conv => whnf)))); repeat' (first | ((with_reducible first | apply br_dec | apply br_beq | apply br_bne) <;> (intro _; ((conv => whnf); (repeat ((first | ((with_reducible apply br_true); (· exact rfl)) | ((with_reducible apply br_false); (· exact rfl))); (conv => whnf)))))) | ((with_reducible first | apply sd_and); ((conv => whnf); (repeat ((first | ((with_reducible apply br_true); (· exact rfl)) | ((with_reducible apply br_false); (· exact rfl))); (conv => whnf)))))))
  · refine c_sroundT hp (Nat.le_trans hp' (by decide)) ?_ (nab_add be be' (by decide)) (fun h => ?_) fun w k h0 h => ?_
    · rw [Int.natAbs_mul]
      exact pw_lt (mul_lt_pow bm bm') (by decide)
    · (((conv => whnf); (repeat ((first | ((with_reducible apply br_true); (· exact rfl)) | ((with_reducible apply br_false); (· exact rfl))); (conv => whnf)))); repeat' (first | ((with_reducible first | apply br_dec | apply br_beq | apply br_bne) <;> (intro _; ((conv => whnf); (repeat ((first | ((with_reducible apply br_true); (· exact rfl)) | ((with_reducible apply br_false); (· exact rfl))); (conv => whnf)))))) | ((with_reducible first | apply sd_and); ((conv => whnf); (repeat ((first | ((with_reducible apply br_true); (· exact rfl)) | ((with_reducible apply br_false); (· exact rfl))); (conv => whnf)))))))
      rw [List.take_length]
      exact q _ (Rd.congr frB_pos (Nat.mul_pos frB_pos frB_pos) hx (Rd.of0 h))
    · (((conv => whnf); (repeat ((first | ((with_reducible apply br_true); (· exact rfl)) | ((with_reducible apply br_false); (· exact rfl))); (conv => whnf)))); repeat' (first | ((with_reducible first | apply br_dec | apply br_beq | apply br_bne) <;> (intro _; ((conv => whnf); (repeat ((first | ((with_reducible apply br_true); (· exact rfl)) | ((with_reducible apply br_false); (· exact rfl))); (conv => whnf)))))) | ((with_reducible first | apply sd_and); ((conv => whnf); (repeat ((first | ((with_reducible apply br_true); (· exact rfl)) | ((with_reducible apply br_false); (· exact rfl))); (conv => whnf)))))))
      rw [List.take_length]
      exact q _ (Rd.congr frB_pos (Nat.mul_pos frB_pos frB_pos) hx (Rd.ofN h0 h))
  · exact mul_of (pw_lt bm (by decide)) (pw_lt bm' (by decide))
theorem c_rounded0 {p B : Nat} (q : Q (.v (rV 0 0)) st) : CallK (R C2 T2 (n + 5) (.v (.val (.ref 175))) [.v (.int p), .v (.int 0), .v (.int B)] st) Q E := by
  refine fn_G rfl rfl ?_
  (((conv => whnf); (repeat ((first | ((with_reducible apply br_true); (· exact rfl)) | ((with_reducible apply br_false); (· exact rfl))); (conv => whnf)))); repeat' (first | ((with_reducible first | apply br_dec | apply br_beq | apply br_bne) <;> (intro _; ((conv => whnf); (repeat ((first | ((with_reducible apply br_true); (· exact rfl)) | ((with_reducible apply br_false); (· exact rfl))); (conv => whnf)))))) | ((with_reducible first | apply sd_and); ((conv => whnf); (repeat ((first | ((with_reducible apply br_true); (· exact rfl)) | ((with_reducible apply br_false); (· exact rfl))); (conv => whnf)))))))
  rw [List.take_length]; exact q
theorem c_roundedT {p B : Nat} {x : Int} (hp : 0 < p) (hp' : p ≤ 500) (hB : 0 < B) (bx : x.natAbs < 2 ^ 500) (bB : B < 2 ^ 500) (q : ∀ v, Rd p x B v → Q (.v v) st) :
    CallK (R C2 T2 (n + 5) (.v (.val (.ref 175))) [.v (.int p), .v (.int x), .v (.int B)] st) Q E := by
  by_cases hx : x = 0
  · subst hx
    exact c_rounded0 (q _ (.inl ⟨rfl, rfl⟩))
  · exact c_rounded hp hp' hx hB bx bB fun m e' h => q _ (.inr ⟨hx, m, e', h, rfl⟩)
theorem sgn_sz {x : Int} {w : Nat} (h : x ≠ 0) : (x.sign * (w : Int)).natAbs = w ∧ (0 < w → (x.sign * (w : Int)).sign = x.sign) := by
  by_cases hw : w = 0
  · subst hw; exact ⟨by simp, fun z => absurd z (by decide)⟩
  · exact ⟨(sgn_mul h (by omega)).1, fun _ => (sgn_mul h (by omega)).2⟩
theorem near_odd {p a b w : Nat} {k : Int} (h : Near p a b w k) : w % 2 = 1 := by
  obtain ⟨i, j, k', lo, hi, ww, o, _⟩ := h; exact o
theorem div_pl {s p : Nat} {k e e' : Int} (hs : s ≤ p + 1) (hp' : p ≤ 500) (b2 : k.natAbs < 500 + p + 1) (be : e.natAbs ≤ 300) (be' : e'.natAbs ≤ 300)   : ((s : Int) + (k + e - e')).natAbs ≤ 65536 := by
  have h1 : (s : Int).natAbs ≤ 501 := by rw [Int.natAbs_natCast]; exact Nat.le_trans hs (Nat.succ_le_succ hp')
  have h2 := nab_add (Nat.le_trans (Nat.le_of_lt_succ b2) (Nat.add_le_add_left hp' 500)) be (Nat.le_refl _)
  have h3 := nab_add h2 (b := -e') (by rw [Int.natAbs_neg]; exact be') (Nat.le_refl _)
  rw [← Int.sub_eq_add_neg] at h3
  exact nab_add h1 h3 (by decide)
theorem c_divR {p : Nat} (hp : 0 < p) (hp' : p ≤ 500) (h0 : m' ≠ 0) (bm : m.natAbs < 2 ^ 500) (bm' : m'.natAbs < 2 ^ 500) (be : e.natAbs ≤ 300) (be' : e'.natAbs ≤ 300)
    (q : ∀ v, Rd p (frT m e * frB e' * m'.sign) (frB e * (frT m' e').natAbs) v → Q (.v v) st) :
    CallK (R C2 T2 (n + 6) (.v (.val (.ref 259))) [.v (.int p), .v (rV m e), .v (rV m' e')] st) Q E := by
  have sn : m'.sign.natAbs = 1 := Int.natAbs_sign_of_ne_zero h0
  have bx : (m * m'.sign).natAbs < 2 ^ 500 := by rw [Int.natAbs_mul, sn, Nat.mul_one]; exact bm
  have hB : 0 < m'.natAbs := by omega
  have hB2 : 0 < frB e * (frT m' e').natAbs := Nat.mul_pos frB_pos (by rw [frT_abs]; exact Nat.mul_pos hB (p2 _))
  have hx : frT (m * m'.sign) (e - e') * ((frB e * (frT m' e').natAbs : Nat) : Int) = (frT m e * frB e' * m'.sign) * ((m'.natAbs * frB (e - e') : Nat) : Int) := by
    rw [frT_abs]
    unfold frT frB
    rw [Int.natCast_mul, Int.natCast_mul, Int.natCast_mul, pz, pz, pz, pz]
    have h1 : m * m'.sign * 2 ^ (e - e').toNat * (2 ^ (-e).toNat * ((m'.natAbs : Int) * 2 ^ e'.toNat)) = m * m'.sign * m'.natAbs * 2 ^ ((e - e').toNat + (-e).toNat + e'.toNat) := by
      rw [Int.pow_add, Int.pow_add]; simp only [Int.mul_assoc, Int.mul_comm, Int.mul_left_comm]
    have h2 : m * 2 ^ e.toNat * 2 ^ (-e').toNat * m'.sign * ((m'.natAbs : Int) * 2 ^ (-(e - e')).toNat) = m * m'.sign * m'.natAbs * 2 ^ (e.toNat + (-e').toNat + (-(e - e')).toNat) := by
      rw [Int.pow_add, Int.pow_add]; simp only [Int.mul_assoc, Int.mul_comm, Int.mul_left_comm]
    rw [h1, h2, exp_div]
  refine fn_G rfl rfl ?_
  (((conv => whnf); (repeat ((first | ((with_reducible apply br_true); (· exact rfl)) | ((with_reducible apply br_false); (· exact rfl))); (conv => whnf)))); repeat' (first | ((with_reducible first | apply br_dec | apply br_beq | apply br_bne) <;> (intro _; ((conv => whnf); (repeat ((first | ((with_reducible apply br_true); (· exact rfl)) | ((with_reducible apply br_false); (· exact rfl))); (conv => whnf)))))) | ((with_reducible first | apply sd_and | apply c_signR); ((conv => whnf); (repeat ((first | ((with_reducible apply br_true); (· exact rfl)) | ((with_reducible apply br_false); (· exact rfl))); (conv => whnf)))))))
  · rename_i h; exact absurd h h0
  · rw [iabs]
    by_cases hX : m * m'.sign = 0
    · rw [hX]
      refine c_rounded0 ?_
      (((conv => whnf); (repeat ((first | ((with_reducible apply br_true); (· exact rfl)) | ((with_reducible apply br_false); (· exact rfl))); (conv => whnf)))); repeat' (first | ((with_reducible first | apply br_dec | apply br_beq | apply br_bne) <;> (intro _; ((conv => whnf); (repeat ((first | ((with_reducible apply br_true); (· exact rfl)) | ((with_reducible apply br_false); (· exact rfl))); (conv => whnf)))))) | ((with_reducible first | apply sd_and | apply c_signR); ((conv => whnf); (repeat ((first | ((with_reducible apply br_true); (· exact rfl)) | ((with_reducible apply br_false); (· exact rfl))); (conv => whnf)))))))
      refine c_lean0 ?_
      (((conv => whnf); (repeat ((first | ((with_reducible apply br_true); (· exact rfl)) | ((with_reducible apply br_false); (· exact rfl))); (conv => whnf)))); repeat' (first | ((with_reducible first | apply br_dec | apply br_beq | apply br_bne) <;> (intro _; ((conv => whnf); (repeat ((first | ((with_reducible apply br_true); (· exact rfl)) | ((with_reducible apply br_false); (· exact rfl))); (conv => whnf)))))) | ((with_reducible first | apply sd_and | apply c_signR); ((conv => whnf); (repeat ((first | ((with_reducible apply br_true); (· exact rfl)) | ((with_reducible apply br_false); (· exact rfl))); (conv => whnf)))))))
      rw [List.take_length]
      exact q _ (Rd.congr (Nat.mul_pos hB frB_pos) hB2 hx (Rd.of0 hX))
    · refine c_rounded hp hp' hX hB bx bm' fun w k h => ?_
      obtain ⟨b1, b2⟩ := near_bound hB bx bm' h
      obtain ⟨w1, w2⟩ := sgn_sz (w := w) hX
      have wo := near_odd h
      have zw : sz ((m * m'.sign).sign * (w : Int)) ≤ p + 1 := sz_le (by rw [w1]; exact Nat.lt_of_le_of_lt b1 (Nat.pow_lt_pow_right (by decide) (by omega)))
      (((conv => whnf); (repeat ((first | ((with_reducible apply br_true); (· exact rfl)) | ((with_reducible apply br_false); (· exact rfl))); (conv => whnf)))); repeat' (first | ((with_reducible first | apply br_dec | apply br_beq | apply br_bne) <;> (intro _; ((conv => whnf); (repeat ((first | ((with_reducible apply br_true); (· exact rfl)) | ((with_reducible apply br_false); (· exact rfl))); (conv => whnf)))))) | ((with_reducible first | apply sd_and | apply c_signR); ((conv => whnf); (repeat ((first | ((with_reducible apply br_true); (· exact rfl)) | ((with_reducible apply br_false); (· exact rfl))); (conv => whnf)))))))
      refine c_lean (m := w) (z := 0) wo (by rw [w1, Nat.pow_zero, Nat.mul_one]) (div_pl zw hp' b2 be be') ?_
      (((conv => whnf); (repeat ((first | ((with_reducible apply br_true); (· exact rfl)) | ((with_reducible apply br_false); (· exact rfl))); (conv => whnf)))); repeat' (first | ((with_reducible first | apply br_dec | apply br_beq | apply br_bne) <;> (intro _; ((conv => whnf); (repeat ((first | ((with_reducible apply br_true); (· exact rfl)) | ((with_reducible apply br_false); (· exact rfl))); (conv => whnf)))))) | ((with_reducible first | apply sd_and | apply c_signR); ((conv => whnf); (repeat ((first | ((with_reducible apply br_true); (· exact rfl)) | ((with_reducible apply br_false); (· exact rfl))); (conv => whnf)))))))
      rw [List.take_length, w2 (by omega)]
      have := q _ (Rd.congr (Nat.mul_pos hB frB_pos) hB2 hx (Rd.ofNB hB hX h))
      rw [show e - e' + k = k + e - e' + ((0 : Nat) : Int) by omega] at this
      exact this
  · exact mul_of (pw_lt bm (by decide)) (by unfold Sm; rw [sn]; exact Nat.one_lt_two_pow (by decide))
end






/-- v is the number a / b; a real one if k -/
inductive Nb (p : Nat) : V → Int → Nat → Bool → Prop
  | ex {t : Int} {b : Nat} : t.natAbs < 2 ^ 10 → 0 < b → b < 2 ^ 10 → Int.gcd t b = 1 → Nb p (nV t b) t b false
  | re {m e : Int} : (m.natAbs % 2 = 1 ∨ (m = 0 ∧ e = 0)) → m.natAbs < 2 ^ p → e.natAbs ≤ 100 → Nb p (rV m e) (frT m e) (frB e) true
noncomputable def Rn (p : Nat) (a : Int) (b : Nat) (m e : Int) : Prop := Rd p a b (rV m e) ∧ (m = 0 → e = 0) ∧ m.natAbs < 2 ^ 21 ∧ e.natAbs ≤ 100
section
variable {n : Nat} {t u c m e m' e' : Int} {b p : Nat} {v : V} {a : Int} {k : Bool} {st : Sto} {E : KV} {Q : KD}
theorem c_sign (h : Nb p v a b k) (q : Q (.v (.int a.sign)) st) : CallK (R C2 T2 (n + 4) (.v (.val (.ref 420))) [.v v] st) Q E := by
  cases h with
  | ex h1 h2 h3 h4 =>
    refine fn_G rfl rfl ?_
    (((conv => whnf); (repeat ((first | ((with_reducible apply br_true); (· exact rfl)) | ((with_reducible apply br_false); (· exact rfl))); (conv => whnf)))); repeat' (first | ((with_reducible first | apply br_dec | apply br_beq | apply br_bne) <;> (intro _; ((conv => whnf); (repeat ((first | ((with_reducible apply br_true); (· exact rfl)) | ((with_reducible apply br_false); (· exact rfl))); (conv => whnf)))))) | ((with_reducible first | apply sd_and | apply c_inex | apply c_inexR | apply c_signE | apply c_signR); ((conv => whnf); (repeat ((first | ((with_reducible apply br_true); (· exact rfl)) | ((with_reducible apply br_false); (· exact rfl))); (conv => whnf)))))))
    rw [List.take_length]; exact q
  | re h1 h2 h3 =>
    rw [frT_sign] at q
    refine fn_G rfl rfl ?_
    (((conv => whnf); (repeat ((first | ((with_reducible apply br_true); (· exact rfl)) | ((with_reducible apply br_false); (· exact rfl))); (conv => whnf)))); repeat' (first | ((with_reducible first | apply br_dec | apply br_beq | apply br_bne) <;> (intro _; ((conv => whnf); (repeat ((first | ((with_reducible apply br_true); (· exact rfl)) | ((with_reducible apply br_false); (· exact rfl))); (conv => whnf)))))) | ((with_reducible first | apply sd_and | apply c_inex | apply c_inexR | apply c_signE | apply c_signR); ((conv => whnf); (repeat ((first | ((with_reducible apply br_true); (· exact rfl)) | ((with_reducible apply br_false); (· exact rfl))); (conv => whnf)))))))
    rw [List.take_length]; exact q
theorem c_toinex (hp : 0 < p) (hp' : p ≤ 20) (h : Nb p v a b k) (q : ∀ m e, Rn p a b m e → Q (.v (rV m e)) st) : CallK (R C2 T2 (n + 6) (.v (.val (.ref 441))) [.v (.int p), .v v] st) Q E := by
  cases h with
  | ex h1 h2 h3 h4 =>
    refine fn_G rfl rfl ?_
    (((conv => whnf); (repeat ((first | ((with_reducible apply br_true); (· exact rfl)) | ((with_reducible apply br_false); (· exact rfl))); (conv => whnf)))); repeat' (first | ((with_reducible first | apply br_dec | apply br_beq | apply br_bne) <;> (intro _; ((conv => whnf); (repeat ((first | ((with_reducible apply br_true); (· exact rfl)) | ((with_reducible apply br_false); (· exact rfl))); (conv => whnf)))))) | ((with_reducible first | apply sd_and | apply c_top | apply c_bot | apply c_inex | apply c_inexR); ((conv => whnf); (repeat ((first | ((with_reducible apply br_true); (· exact rfl)) | ((with_reducible apply br_false); (· exact rfl))); (conv => whnf)))))))
    refine c_roundedT hp (by omega) h2 (pw_lt h1 (by decide)) (pw_lt h3 (by decide)) fun v h => ?_
    (((conv => whnf); (repeat ((first | ((with_reducible apply br_true); (· exact rfl)) | ((with_reducible apply br_false); (· exact rfl))); (conv => whnf)))); repeat' (first | ((with_reducible first | apply br_dec | apply br_beq | apply br_bne) <;> (intro _; ((conv => whnf); (repeat ((first | ((with_reducible apply br_true); (· exact rfl)) | ((with_reducible apply br_false); (· exact rfl))); (conv => whnf)))))) | ((with_reducible first | apply sd_and | apply c_top | apply c_bot | apply c_inex | apply c_inexR); ((conv => whnf); (repeat ((first | ((with_reducible apply br_true); (· exact rfl)) | ((with_reducible apply br_false); (· exact rfl))); (conv => whnf)))))))
    rw [List.take_length]
    have h' := h
    rcases h with ⟨z, rfl⟩ | ⟨z, w, k, hn, rfl⟩
    · exact q _ _ ⟨h', fun _ => rfl, by simp, by simp⟩
    · obtain ⟨b1, b2⟩ := near_bound h2 h1 h3 hn
      have ho := near_odd hn
      obtain ⟨w1, w2⟩ := sgn_sz (w := w) z
      refine q _ _ ⟨h', fun z => ?_, ?_, by omega⟩
      · rw [z] at w1
        simp only [Int.natAbs_zero] at w1
        omega
      · rw [w1]
        exact Nat.lt_of_le_of_lt b1 (Nat.pow_lt_pow_right (by decide) (by omega))
  | re h1 h2 h3 =>
    refine fn_G rfl rfl ?_
    (((conv => whnf); (repeat ((first | ((with_reducible apply br_true); (· exact rfl)) | ((with_reducible apply br_false); (· exact rfl))); (conv => whnf)))); repeat' (first | ((with_reducible first | apply br_dec | apply br_beq | apply br_bne) <;> (intro _; ((conv => whnf); (repeat ((first | ((with_reducible apply br_true); (· exact rfl)) | ((with_reducible apply br_false); (· exact rfl))); (conv => whnf)))))) | ((with_reducible first | apply sd_and | apply c_top | apply c_bot | apply c_inex | apply c_inexR); ((conv => whnf); (repeat ((first | ((with_reducible apply br_true); (· exact rfl)) | ((with_reducible apply br_false); (· exact rfl))); (conv => whnf)))))))
    rw [List.take_length]
    refine q _ _ ⟨?_, ?_, pw_lt h2 (by omega), by omega⟩
    · rcases h1 with h1 | ⟨rfl, rfl⟩
      · exact Rd.self h1 h2
      · exact Rd.of0 rfl
    · intro z
      rcases h1 with h1 | ⟨rfl, rfl⟩
      · rw [z] at h1; (first | subst h1 | contradiction | (injection h1 with h1; subst h1) | cases h1)
      · rfl
end
noncomputable def tw (p : Nat) : V := .inst 752 ["precision"] [.int p]
section
variable {n : Nat} {t u c m e m' e' : Int} {b b' p : Nat} {v v' : V} {a a' : Int} {k k' : Bool} {st : Sto} {E : KV} {Q : KD}
theorem c_twin (hp : 0 < p) (hp' : p ≤ 20) (h : Nb p v a b k) (q : ∀ m e, Rn p a b m e → Q (.v (rV m e)) st) : CallK (R C2 T2 (n + 7) (.v (.val (.ref 574))) [.v (tw p), .v v] st) Q E := by
  refine fn_G rfl rfl ?_
  (((conv => whnf); (repeat ((first | ((with_reducible apply br_true); (· exact rfl)) | ((with_reducible apply br_false); (· exact rfl))); (conv => whnf)))); repeat' (first | ((with_reducible first | apply br_dec | apply br_beq | apply br_bne) <;> (intro _; ((conv => whnf); (repeat ((first | ((with_reducible apply br_true); (· exact rfl)) | ((with_reducible apply br_false); (· exact rfl))); (conv => whnf)))))) | ((with_reducible first | apply sd_and); ((conv => whnf); (repeat ((first | ((with_reducible apply br_true); (· exact rfl)) | ((with_reducible apply br_false); (· exact rfl))); (conv => whnf)))))))
  refine c_toinex hp hp' h fun m e r => ?_
  (((conv => whnf); (repeat ((first | ((with_reducible apply br_true); (· exact rfl)) | ((with_reducible apply br_false); (· exact rfl))); (conv => whnf)))); repeat' (first | ((with_reducible first | apply br_dec | apply br_beq | apply br_bne) <;> (intro _; ((conv => whnf); (repeat ((first | ((with_reducible apply br_true); (· exact rfl)) | ((with_reducible apply br_false); (· exact rfl))); (conv => whnf)))))) | ((with_reducible first | apply sd_and); ((conv => whnf); (repeat ((first | ((with_reducible apply br_true); (· exact rfl)) | ((with_reducible apply br_false); (· exact rfl))); (conv => whnf)))))))
  rw [List.take_length]; exact q m e r
inductive Op4 | add | sub | mul | div
/-- the outcome as a fraction, not in lowest terms -/
noncomputable def Ar : Op4 → Int → Nat → Int → Nat → Int × Int
  | .add, a, b, a', b' => (a * b' + a' * b, b * b')
  | .sub, a, b, a', b' => (a * b' - a' * b, b * b')
  | .mul, a, b, a', b' => (a * a', b * b')
  | .div, a, b, a', b' => (a * b', b * a')
noncomputable def Lw' (x : Int × Int) (T D : Int) : Prop := Lw (x.1 * x.2.sign) x.2.natAbs T D
noncomputable def Rd' (p : Nat) (x : Int × Int) (v : V) : Prop := Rd p (x.1 * x.2.sign) x.2.natAbs v
/-- what the outcome is to be -/
noncomputable def Dw (p : Nat) (o : Op4) (a : Int) (b : Nat) (k : Bool) (a' : Int) (b' : Nat) (k' : Bool) (w : V) : Prop :=
  if k || k' then ∃ m e m' e', Rn p a b m e ∧ Rn p a' b' m' e' ∧ Rd' p (Ar o (frT m e) (frB e) (frT m' e') (frB e')) w
  else ∃ T D, Lw' (Ar o a b a' b') T D ∧ w = nV T D
theorem Nb.exact (h : Nb p v a b false) : v = nV a b ∧ a.natAbs < 2 ^ 10 ∧ 0 < b ∧ b < 2 ^ 10 ∧ Int.gcd a b = 1 := by
  cases h with
  | ex h1 h2 h3 h4 => exact ⟨rfl, h1, h2, h3, h4⟩
theorem Nb.b0 (h : Nb p v a b k) : 0 < b := by
  cases h with
  | ex h1 h2 h3 h4 => exact h2
  | re _ _ _ => exact frB_pos
theorem c_isex (h : Nb p v a b k) (q : Q (.v (.bool !k)) st) : CallK (R C2 T2 (n + 3) (.v (.val (.ref 308))) [.v v] st) Q E := by
  cases h with
  | ex h1 h2 h3 h4 => exact c_exact q
  | re h1 h2 h3 => exact c_exactR q
theorem sm10 {x : Int} (h : x.natAbs < 2 ^ 10) : Sm x := pw_lt h (by decide)
theorem sm10n {x : Nat} (h : x < 2 ^ 10) : Sm (x : Int) := by unfold Sm; rw [Int.natAbs_natCast]; exact pw_lt h (by decide)
theorem mulN_sign {a : Int} {x y : Nat} (hx : 0 < x) (hy : 0 < y) : a * ((x : Int) * y).sign = a ∧ ((x : Int) * y).natAbs = x * y := by
  rw [← Int.natCast_mul, Int.sign_natCast_of_ne_zero (by have := Nat.mul_pos hx hy; omega), Int.mul_one, Int.natAbs_natCast]; exact ⟨rfl, rfl⟩
theorem lw'_of {A T D : Int} {x y : Nat} (hx : 0 < x) (hy : 0 < y) (h : Lw A ((x : Int) * y) T D) : Lw' (A, (x : Int) * y) T D := by
  unfold Lw'
  obtain ⟨h1, h2⟩ := mulN_sign (a := A) hx hy
  dsimp only
  rw [h1, h2, Int.natCast_mul]; exact h
theorem rd'_of {A : Int} {x y : Nat} {w : V} (hx : 0 < x) (hy : 0 < y) (h : Rd p A (x * y) w) : Rd' p (A, (x : Int) * y) w := by
  unfold Rd'
  obtain ⟨h1, h2⟩ := mulN_sign (a := A) hx hy
  dsimp only
  rw [h1, h2]; exact h
theorem c_twadd (hp : 0 < p) (hp' : p ≤ 20) (h : Nb p v a b k) (h' : Nb p v' a' b' k') (q : ∀ w, Dw p .add a b k a' b' k' w → Q (.v w) st) :
    CallK (R C2 T2 (n + 8) (.v (.val (.ref 581))) [.v (tw p), .v v, .v v'] st) Q E := by
  refine fn_G rfl rfl ?_
  (((conv => whnf); (repeat ((first | ((with_reducible apply br_true); (· exact rfl)) | ((with_reducible apply br_false); (· exact rfl))); (conv => whnf)))); repeat' (first | ((with_reducible first | apply br_dec | apply br_beq | apply br_bne) <;> (intro _; ((conv => whnf); (repeat ((first | ((with_reducible apply br_true); (· exact rfl)) | ((with_reducible apply br_false); (· exact rfl))); (conv => whnf)))))) | ((with_reducible first | apply sd_and); ((conv => whnf); (repeat ((first | ((with_reducible apply br_true); (· exact rfl)) | ((with_reducible apply br_false); (· exact rfl))); (conv => whnf)))))))
  refine c_isex h ?_
  by_cases hk : k = false ∧ k' = false
  · obtain ⟨rfl, rfl⟩ := hk
    (((conv => whnf); (repeat ((first | ((with_reducible apply br_true); (· exact rfl)) | ((with_reducible apply br_false); (· exact rfl))); (conv => whnf)))); repeat' (first | ((with_reducible first | apply br_dec | apply br_beq | apply br_bne) <;> (intro _; ((conv => whnf); (repeat ((first | ((with_reducible apply br_true); (· exact rfl)) | ((with_reducible apply br_false); (· exact rfl))); (conv => whnf)))))) | ((with_reducible first | apply sd_and); ((conv => whnf); (repeat ((first | ((with_reducible apply br_true); (· exact rfl)) | ((with_reducible apply br_false); (· exact rfl))); (conv => whnf)))))))
    refine c_isex h' ?_
    (((conv => whnf); (repeat ((first | ((with_reducible apply br_true); (· exact rfl)) | ((with_reducible apply br_false); (· exact rfl))); (conv => whnf)))); repeat' (first | ((with_reducible first | apply br_dec | apply br_beq | apply br_bne) <;> (intro _; ((conv => whnf); (repeat ((first | ((with_reducible apply br_true); (· exact rfl)) | ((with_reducible apply br_false); (· exact rfl))); (conv => whnf)))))) | ((with_reducible first | apply sd_and); ((conv => whnf); (repeat ((first | ((with_reducible apply br_true); (· exact rfl)) | ((with_reducible apply br_false); (· exact rfl))); (conv => whnf)))))))
    obtain ⟨rfl, x1, x2, x3, x4⟩ := h.exact
    obtain ⟨rfl, y1, y2, y3, y4⟩ := h'.exact
    refine c_add (sm10 x1) (sm10n x3) (sm10 y1) (sm10n y3) (by omega) (by omega) ?_
    (((conv => whnf); (repeat ((first | ((with_reducible apply br_true); (· exact rfl)) | ((with_reducible apply br_false); (· exact rfl))); (conv => whnf)))); repeat' (first | ((with_reducible first | apply br_dec | apply br_beq | apply br_bne) <;> (intro _; ((conv => whnf); (repeat ((first | ((with_reducible apply br_true); (· exact rfl)) | ((with_reducible apply br_false); (· exact rfl))); (conv => whnf)))))) | ((with_reducible first | apply sd_and); ((conv => whnf); (repeat ((first | ((with_reducible apply br_true); (· exact rfl)) | ((with_reducible apply br_false); (· exact rfl))); (conv => whnf)))))))
    rw [List.take_length]
    exact q _ ⟨_, _, lw'_of x2 y2 (lw_add (by omega) (by omega) x4 y4), rfl⟩
  · have hk' : (k || k') = true := by cases k <;> cases k' <;> simp_all
    have fin : ∀ (K : KD), (∀ w, Q (.v w) st → K (.v w) st) → ∀ m e m' e', Rn p a b m e → Rn p a' b' m' e' → CallK (R C2 T2 (n + 6 + 1) (.v (.val (.ref 238))) [.v (.int p), .v (rV m e), .v (rV m' e')] st) K E := by
      intro K hK m e m' e' r r'
      refine c_addR' hp (by omega) r.2.1 r'.2.1 (pw_lt r.2.2.1 (by decide)) (pw_lt r'.2.2.1 (by decide)) (by have := r.2.2.2; omega) (by have := r'.2.2.2; omega) fun w hw => hK w (q w ?_)
      unfold Dw
      rw [if_pos hk']
      exact ⟨m, e, m', e', r, r', rd'_of frB_pos frB_pos hw⟩
    (first | subst k | contradiction | (injection k with k; subst k) | cases k)
    · (first | subst k' | contradiction | (injection k' with k'; subst k') | cases k')
      · exact absurd ⟨rfl, rfl⟩ hk
      · (((conv => whnf); (repeat ((first | ((with_reducible apply br_true); (· exact rfl)) | ((with_reducible apply br_false); (· exact rfl))); (conv => whnf)))); repeat' (first | ((with_reducible first | apply br_dec | apply br_beq | apply br_bne) <;> (intro _; ((conv => whnf); (repeat ((first | ((with_reducible apply br_true); (· exact rfl)) | ((with_reducible apply br_false); (· exact rfl))); (conv => whnf)))))) | ((with_reducible first | apply sd_and); ((conv => whnf); (repeat ((first | ((with_reducible apply br_true); (· exact rfl)) | ((with_reducible apply br_false); (· exact rfl))); (conv => whnf)))))))
        refine c_isex h' ?_
        (((conv => whnf); (repeat ((first | ((with_reducible apply br_true); (· exact rfl)) | ((with_reducible apply br_false); (· exact rfl))); (conv => whnf)))); repeat' (first | ((with_reducible first | apply br_dec | apply br_beq | apply br_bne) <;> (intro _; ((conv => whnf); (repeat ((first | ((with_reducible apply br_true); (· exact rfl)) | ((with_reducible apply br_false); (· exact rfl))); (conv => whnf)))))) | ((with_reducible first | apply sd_and); ((conv => whnf); (repeat ((first | ((with_reducible apply br_true); (· exact rfl)) | ((with_reducible apply br_false); (· exact rfl))); (conv => whnf)))))))
        refine c_twin hp hp' h fun m e r => ?_
        (((conv => whnf); (repeat ((first | ((with_reducible apply br_true); (· exact rfl)) | ((with_reducible apply br_false); (· exact rfl))); (conv => whnf)))); repeat' (first | ((with_reducible first | apply br_dec | apply br_beq | apply br_bne) <;> (intro _; ((conv => whnf); (repeat ((first | ((with_reducible apply br_true); (· exact rfl)) | ((with_reducible apply br_false); (· exact rfl))); (conv => whnf)))))) | ((with_reducible first | apply sd_and); ((conv => whnf); (repeat ((first | ((with_reducible apply br_true); (· exact rfl)) | ((with_reducible apply br_false); (· exact rfl))); (conv => whnf)))))))
        refine c_twin hp hp' h' fun m' e' r' => ?_
        (((conv => whnf); (repeat ((first | ((with_reducible apply br_true); (· exact rfl)) | ((with_reducible apply br_false); (· exact rfl))); (conv => whnf)))); repeat' (first | ((with_reducible first | apply br_dec | apply br_beq | apply br_bne) <;> (intro _; ((conv => whnf); (repeat ((first | ((with_reducible apply br_true); (· exact rfl)) | ((with_reducible apply br_false); (· exact rfl))); (conv => whnf)))))) | ((with_reducible first | apply sd_and); ((conv => whnf); (repeat ((first | ((with_reducible apply br_true); (· exact rfl)) | ((with_reducible apply br_false); (· exact rfl))); (conv => whnf)))))))
        refine fin _ (fun w hw => ?_) m e m' e' r r'
        (((conv => whnf); (repeat ((first | ((with_reducible apply br_true); (· exact rfl)) | ((with_reducible apply br_false); (· exact rfl))); (conv => whnf)))); repeat' (first | ((with_reducible first | apply br_dec | apply br_beq | apply br_bne) <;> (intro _; ((conv => whnf); (repeat ((first | ((with_reducible apply br_true); (· exact rfl)) | ((with_reducible apply br_false); (· exact rfl))); (conv => whnf)))))) | ((with_reducible first | apply sd_and); ((conv => whnf); (repeat ((first | ((with_reducible apply br_true); (· exact rfl)) | ((with_reducible apply br_false); (· exact rfl))); (conv => whnf)))))))
        rw [List.take_length]; exact hw
    · (((conv => whnf); (repeat ((first | ((with_reducible apply br_true); (· exact rfl)) | ((with_reducible apply br_false); (· exact rfl))); (conv => whnf)))); repeat' (first | ((with_reducible first | apply br_dec | apply br_beq | apply br_bne) <;> (intro _; ((conv => whnf); (repeat ((first | ((with_reducible apply br_true); (· exact rfl)) | ((with_reducible apply br_false); (· exact rfl))); (conv => whnf)))))) | ((with_reducible first | apply sd_and); ((conv => whnf); (repeat ((first | ((with_reducible apply br_true); (· exact rfl)) | ((with_reducible apply br_false); (· exact rfl))); (conv => whnf)))))))
      refine c_twin hp hp' h fun m e r => ?_
      (((conv => whnf); (repeat ((first | ((with_reducible apply br_true); (· exact rfl)) | ((with_reducible apply br_false); (· exact rfl))); (conv => whnf)))); repeat' (first | ((with_reducible first | apply br_dec | apply br_beq | apply br_bne) <;> (intro _; ((conv => whnf); (repeat ((first | ((with_reducible apply br_true); (· exact rfl)) | ((with_reducible apply br_false); (· exact rfl))); (conv => whnf)))))) | ((with_reducible first | apply sd_and); ((conv => whnf); (repeat ((first | ((with_reducible apply br_true); (· exact rfl)) | ((with_reducible apply br_false); (· exact rfl))); (conv => whnf)))))))
      refine c_twin hp hp' h' fun m' e' r' => ?_
      (((conv => whnf); (repeat ((first | ((with_reducible apply br_true); (· exact rfl)) | ((with_reducible apply br_false); (· exact rfl))); (conv => whnf)))); repeat' (first | ((with_reducible first | apply br_dec | apply br_beq | apply br_bne) <;> (intro _; ((conv => whnf); (repeat ((first | ((with_reducible apply br_true); (· exact rfl)) | ((with_reducible apply br_false); (· exact rfl))); (conv => whnf)))))) | ((with_reducible first | apply sd_and); ((conv => whnf); (repeat ((first | ((with_reducible apply br_true); (· exact rfl)) | ((with_reducible apply br_false); (· exact rfl))); (conv => whnf)))))))
      refine fin _ (fun w hw => ?_) m e m' e' r r'
      (((conv => whnf); (repeat ((first | ((with_reducible apply br_true); (· exact rfl)) | ((with_reducible apply br_false); (· exact rfl))); (conv => whnf)))); repeat' (first | ((with_reducible first | apply br_dec | apply br_beq | apply br_bne) <;> (intro _; ((conv => whnf); (repeat ((first | ((with_reducible apply br_true); (· exact rfl)) | ((with_reducible apply br_false); (· exact rfl))); (conv => whnf)))))) | ((with_reducible first | apply sd_and); ((conv => whnf); (repeat ((first | ((with_reducible apply br_true); (· exact rfl)) | ((with_reducible apply br_false); (· exact rfl))); (conv => whnf)))))))
      rw [List.take_length]; exact hw
end





section
variable {n : Nat} {t u c m e m' e' : Int} {b b' p : Nat} {v v' : V} {a a' : Int} {k k' : Bool} {st : Sto} {E : KV} {Q : KD}
theorem c_twsub (hp : 0 < p) (hp' : p ≤ 20) (h : Nb p v a b k) (h' : Nb p v' a' b' k') (q : ∀ w, Dw p .sub a b k a' b' k' w → Q (.v w) st) :
    CallK (R C2 T2 (n + 8) (.v (.val (.ref 588))) [.v (tw p), .v v, .v v'] st) Q E := by
  refine fn_G rfl rfl ?_
  (((conv => whnf); (repeat ((first | ((with_reducible apply br_true); (· exact rfl)) | ((with_reducible apply br_false); (· exact rfl))); (conv => whnf)))); repeat' (first | ((with_reducible first | apply br_dec | apply br_beq | apply br_bne) <;> (intro _; ((conv => whnf); (repeat ((first | ((with_reducible apply br_true); (· exact rfl)) | ((with_reducible apply br_false); (· exact rfl))); (conv => whnf)))))) | ((with_reducible first | apply sd_and); ((conv => whnf); (repeat ((first | ((with_reducible apply br_true); (· exact rfl)) | ((with_reducible apply br_false); (· exact rfl))); (conv => whnf)))))))
  refine c_isex h ?_
  by_cases hk : k = false ∧ k' = false
  · obtain ⟨rfl, rfl⟩ := hk
    (((conv => whnf); (repeat ((first | ((with_reducible apply br_true); (· exact rfl)) | ((with_reducible apply br_false); (· exact rfl))); (conv => whnf)))); repeat' (first | ((with_reducible first | apply br_dec | apply br_beq | apply br_bne) <;> (intro _; ((conv => whnf); (repeat ((first | ((with_reducible apply br_true); (· exact rfl)) | ((with_reducible apply br_false); (· exact rfl))); (conv => whnf)))))) | ((with_reducible first | apply sd_and); ((conv => whnf); (repeat ((first | ((with_reducible apply br_true); (· exact rfl)) | ((with_reducible apply br_false); (· exact rfl))); (conv => whnf)))))))
    refine c_isex h' ?_
    (((conv => whnf); (repeat ((first | ((with_reducible apply br_true); (· exact rfl)) | ((with_reducible apply br_false); (· exact rfl))); (conv => whnf)))); repeat' (first | ((with_reducible first | apply br_dec | apply br_beq | apply br_bne) <;> (intro _; ((conv => whnf); (repeat ((first | ((with_reducible apply br_true); (· exact rfl)) | ((with_reducible apply br_false); (· exact rfl))); (conv => whnf)))))) | ((with_reducible first | apply sd_and); ((conv => whnf); (repeat ((first | ((with_reducible apply br_true); (· exact rfl)) | ((with_reducible apply br_false); (· exact rfl))); (conv => whnf)))))))
    obtain ⟨rfl, x1, x2, x3, x4⟩ := h.exact
    obtain ⟨rfl, y1, y2, y3, y4⟩ := h'.exact
    refine c_sub (sm10 x1) (sm10n x3) (sm10 y1) (sm10n y3) (by omega) (by omega) ?_
    (((conv => whnf); (repeat ((first | ((with_reducible apply br_true); (· exact rfl)) | ((with_reducible apply br_false); (· exact rfl))); (conv => whnf)))); repeat' (first | ((with_reducible first | apply br_dec | apply br_beq | apply br_bne) <;> (intro _; ((conv => whnf); (repeat ((first | ((with_reducible apply br_true); (· exact rfl)) | ((with_reducible apply br_false); (· exact rfl))); (conv => whnf)))))) | ((with_reducible first | apply sd_and); ((conv => whnf); (repeat ((first | ((with_reducible apply br_true); (· exact rfl)) | ((with_reducible apply br_false); (· exact rfl))); (conv => whnf)))))))
    rw [List.take_length]
    have L := lw_add (t := a) (u := -a') (b := b) (c := b') (by omega) (by omega) x4 (by rw [Int.neg_gcd]; exact y4)
    rw [Int.neg_mul, ← Int.sub_eq_add_neg] at L
    exact q _ ⟨_, _, lw'_of x2 y2 L, rfl⟩
  · have hk' : (k || k') = true := by cases k <;> cases k' <;> simp_all
    have fin : ∀ (K : KD), (∀ w, Q (.v w) st → K (.v w) st) → ∀ m e m' e', Rn p a b m e → Rn p a' b' m' e' → CallK (R C2 T2 (n + 6 + 1) (.v (.val (.ref 245))) [.v (.int p), .v (rV m e), .v (rV m' e')] st) K E := by
      intro K hK m e m' e' r r'
      refine c_subR hp (by omega) r.2.1 r'.2.1 (pw_lt r.2.2.1 (by decide)) (pw_lt r'.2.2.1 (by decide)) (by have := r.2.2.2; omega) (by have := r'.2.2.2; omega) fun w hw => hK w (q w ?_)
      unfold Dw
      rw [if_pos hk']
      exact ⟨m, e, m', e', r, r', rd'_of frB_pos frB_pos hw⟩
    (first | subst k | contradiction | (injection k with k; subst k) | cases k)
    · (first | subst k' | contradiction | (injection k' with k'; subst k') | cases k')
      · exact absurd ⟨rfl, rfl⟩ hk
      · (((conv => whnf); (repeat ((first | ((with_reducible apply br_true); (· exact rfl)) | ((with_reducible apply br_false); (· exact rfl))); (conv => whnf)))); repeat' (first | ((with_reducible first | apply br_dec | apply br_beq | apply br_bne) <;> (intro _; ((conv => whnf); (repeat ((first | ((with_reducible apply br_true); (· exact rfl)) | ((with_reducible apply br_false); (· exact rfl))); (conv => whnf)))))) | ((with_reducible first | apply sd_and); ((conv => whnf); (repeat ((first | ((with_reducible apply br_true); (· exact rfl)) | ((with_reducible apply br_false); (· exact rfl))); (conv => whnf)))))))
        refine c_isex h' ?_
        (((conv => whnf); (repeat ((first | ((with_reducible apply br_true); (· exact rfl)) | ((with_reducible apply br_false); (· exact rfl))); (conv => whnf)))); repeat' (first | ((with_reducible first | apply br_dec | apply br_beq | apply br_bne) <;> (intro _; ((conv => whnf); (repeat ((first | ((with_reducible apply br_true); (· exact rfl)) | ((with_reducible apply br_false); (· exact rfl))); (conv => whnf)))))) | ((with_reducible first | apply sd_and); ((conv => whnf); (repeat ((first | ((with_reducible apply br_true); (· exact rfl)) | ((with_reducible apply br_false); (· exact rfl))); (conv => whnf)))))))
        refine c_twin hp hp' h fun m e r => ?_
        (((conv => whnf); (repeat ((first | ((with_reducible apply br_true); (· exact rfl)) | ((with_reducible apply br_false); (· exact rfl))); (conv => whnf)))); repeat' (first | ((with_reducible first | apply br_dec | apply br_beq | apply br_bne) <;> (intro _; ((conv => whnf); (repeat ((first | ((with_reducible apply br_true); (· exact rfl)) | ((with_reducible apply br_false); (· exact rfl))); (conv => whnf)))))) | ((with_reducible first | apply sd_and); ((conv => whnf); (repeat ((first | ((with_reducible apply br_true); (· exact rfl)) | ((with_reducible apply br_false); (· exact rfl))); (conv => whnf)))))))
        refine c_twin hp hp' h' fun m' e' r' => ?_
        (((conv => whnf); (repeat ((first | ((with_reducible apply br_true); (· exact rfl)) | ((with_reducible apply br_false); (· exact rfl))); (conv => whnf)))); repeat' (first | ((with_reducible first | apply br_dec | apply br_beq | apply br_bne) <;> (intro _; ((conv => whnf); (repeat ((first | ((with_reducible apply br_true); (· exact rfl)) | ((with_reducible apply br_false); (· exact rfl))); (conv => whnf)))))) | ((with_reducible first | apply sd_and); ((conv => whnf); (repeat ((first | ((with_reducible apply br_true); (· exact rfl)) | ((with_reducible apply br_false); (· exact rfl))); (conv => whnf)))))))
        refine fin _ (fun w hw => ?_) m e m' e' r r'
        (((conv => whnf); (repeat ((first | ((with_reducible apply br_true); (· exact rfl)) | ((with_reducible apply br_false); (· exact rfl))); (conv => whnf)))); repeat' (first | ((with_reducible first | apply br_dec | apply br_beq | apply br_bne) <;> (intro _; ((conv => whnf); (repeat ((first | ((with_reducible apply br_true); (· exact rfl)) | ((with_reducible apply br_false); (· exact rfl))); (conv => whnf)))))) | ((with_reducible first | apply sd_and); ((conv => whnf); (repeat ((first | ((with_reducible apply br_true); (· exact rfl)) | ((with_reducible apply br_false); (· exact rfl))); (conv => whnf)))))))
        rw [List.take_length]; exact hw
    · (((conv => whnf); (repeat ((first | ((with_reducible apply br_true); (· exact rfl)) | ((with_reducible apply br_false); (· exact rfl))); (conv => whnf)))); repeat' (first | ((with_reducible first | apply br_dec | apply br_beq | apply br_bne) <;> (intro _; ((conv => whnf); (repeat ((first | ((with_reducible apply br_true); (· exact rfl)) | ((with_reducible apply br_false); (· exact rfl))); (conv => whnf)))))) | ((with_reducible first | apply sd_and); ((conv => whnf); (repeat ((first | ((with_reducible apply br_true); (· exact rfl)) | ((with_reducible apply br_false); (· exact rfl))); (conv => whnf)))))))
      refine c_twin hp hp' h fun m e r => ?_
      (((conv => whnf); (repeat ((first | ((with_reducible apply br_true); (· exact rfl)) | ((with_reducible apply br_false); (· exact rfl))); (conv => whnf)))); repeat' (first | ((with_reducible first | apply br_dec | apply br_beq | apply br_bne) <;> (intro _; ((conv => whnf); (repeat ((first | ((with_reducible apply br_true); (· exact rfl)) | ((with_reducible apply br_false); (· exact rfl))); (conv => whnf)))))) | ((with_reducible first | apply sd_and); ((conv => whnf); (repeat ((first | ((with_reducible apply br_true); (· exact rfl)) | ((with_reducible apply br_false); (· exact rfl))); (conv => whnf)))))))
      refine c_twin hp hp' h' fun m' e' r' => ?_
      (((conv => whnf); (repeat ((first | ((with_reducible apply br_true); (· exact rfl)) | ((with_reducible apply br_false); (· exact rfl))); (conv => whnf)))); repeat' (first | ((with_reducible first | apply br_dec | apply br_beq | apply br_bne) <;> (intro _; ((conv => whnf); (repeat ((first | ((with_reducible apply br_true); (· exact rfl)) | ((with_reducible apply br_false); (· exact rfl))); (conv => whnf)))))) | ((with_reducible first | apply sd_and); ((conv => whnf); (repeat ((first | ((with_reducible apply br_true); (· exact rfl)) | ((with_reducible apply br_false); (· exact rfl))); (conv => whnf)))))))
      refine fin _ (fun w hw => ?_) m e m' e' r r'
      (((conv => whnf); (repeat ((first | ((with_reducible apply br_true); (· exact rfl)) | ((with_reducible apply br_false); (· exact rfl))); (conv => whnf)))); repeat' (first | ((with_reducible first | apply br_dec | apply br_beq | apply br_bne) <;> (intro _; ((conv => whnf); (repeat ((first | ((with_reducible apply br_true); (· exact rfl)) | ((with_reducible apply br_false); (· exact rfl))); (conv => whnf)))))) | ((with_reducible first | apply sd_and); ((conv => whnf); (repeat ((first | ((with_reducible apply br_true); (· exact rfl)) | ((with_reducible apply br_false); (· exact rfl))); (conv => whnf)))))))
      rw [List.take_length]; exact hw
theorem c_twmul (hp : 0 < p) (hp' : p ≤ 20) (h : Nb p v a b k) (h' : Nb p v' a' b' k') (q : ∀ w, Dw p .mul a b k a' b' k' w → Q (.v w) st) :
    CallK (R C2 T2 (n + 8) (.v (.val (.ref 595))) [.v (tw p), .v v, .v v'] st) Q E := by
  refine fn_G rfl rfl ?_
  (((conv => whnf); (repeat ((first | ((with_reducible apply br_true); (· exact rfl)) | ((with_reducible apply br_false); (· exact rfl))); (conv => whnf)))); repeat' (first | ((with_reducible first | apply br_dec | apply br_beq | apply br_bne) <;> (intro _; ((conv => whnf); (repeat ((first | ((with_reducible apply br_true); (· exact rfl)) | ((with_reducible apply br_false); (· exact rfl))); (conv => whnf)))))) | ((with_reducible first | apply sd_and); ((conv => whnf); (repeat ((first | ((with_reducible apply br_true); (· exact rfl)) | ((with_reducible apply br_false); (· exact rfl))); (conv => whnf)))))))
  refine c_isex h ?_
  by_cases hk : k = false ∧ k' = false
  · obtain ⟨rfl, rfl⟩ := hk
    (((conv => whnf); (repeat ((first | ((with_reducible apply br_true); (· exact rfl)) | ((with_reducible apply br_false); (· exact rfl))); (conv => whnf)))); repeat' (first | ((with_reducible first | apply br_dec | apply br_beq | apply br_bne) <;> (intro _; ((conv => whnf); (repeat ((first | ((with_reducible apply br_true); (· exact rfl)) | ((with_reducible apply br_false); (· exact rfl))); (conv => whnf)))))) | ((with_reducible first | apply sd_and); ((conv => whnf); (repeat ((first | ((with_reducible apply br_true); (· exact rfl)) | ((with_reducible apply br_false); (· exact rfl))); (conv => whnf)))))))
    refine c_isex h' ?_
    (((conv => whnf); (repeat ((first | ((with_reducible apply br_true); (· exact rfl)) | ((with_reducible apply br_false); (· exact rfl))); (conv => whnf)))); repeat' (first | ((with_reducible first | apply br_dec | apply br_beq | apply br_bne) <;> (intro _; ((conv => whnf); (repeat ((first | ((with_reducible apply br_true); (· exact rfl)) | ((with_reducible apply br_false); (· exact rfl))); (conv => whnf)))))) | ((with_reducible first | apply sd_and); ((conv => whnf); (repeat ((first | ((with_reducible apply br_true); (· exact rfl)) | ((with_reducible apply br_false); (· exact rfl))); (conv => whnf)))))))
    obtain ⟨rfl, x1, x2, x3, x4⟩ := h.exact
    obtain ⟨rfl, y1, y2, y3, y4⟩ := h'.exact
    refine c_mul (sm10 x1) (sm10n x3) (sm10 y1) (sm10n y3) (by omega) (by omega) ?_
    (((conv => whnf); (repeat ((first | ((with_reducible apply br_true); (· exact rfl)) | ((with_reducible apply br_false); (· exact rfl))); (conv => whnf)))); repeat' (first | ((with_reducible first | apply br_dec | apply br_beq | apply br_bne) <;> (intro _; ((conv => whnf); (repeat ((first | ((with_reducible apply br_true); (· exact rfl)) | ((with_reducible apply br_false); (· exact rfl))); (conv => whnf)))))) | ((with_reducible first | apply sd_and); ((conv => whnf); (repeat ((first | ((with_reducible apply br_true); (· exact rfl)) | ((with_reducible apply br_false); (· exact rfl))); (conv => whnf)))))))
    rw [List.take_length]
    exact q _ ⟨_, _, lw'_of x2 y2 (lw_mul (by omega) (by omega) x4 y4), rfl⟩
  · have hk' : (k || k') = true := by cases k <;> cases k' <;> simp_all
    have fin : ∀ (K : KD), (∀ w, Q (.v w) st → K (.v w) st) → ∀ m e m' e', Rn p a b m e → Rn p a' b' m' e' → CallK (R C2 T2 (n + 6 + 1) (.v (.val (.ref 252))) [.v (.int p), .v (rV m e), .v (rV m' e')] st) K E := by
      intro K hK m e m' e' r r'
      refine c_mulR hp (by omega) (pw_lt r.2.2.1 (by decide)) (pw_lt r'.2.2.1 (by decide)) (by have := r.2.2.2; omega) (by have := r'.2.2.2; omega) fun w hw => hK w (q w ?_)
      unfold Dw
      rw [if_pos hk']
      exact ⟨m, e, m', e', r, r', rd'_of frB_pos frB_pos hw⟩
    (first | subst k | contradiction | (injection k with k; subst k) | cases k)
    · (first | subst k' | contradiction | (injection k' with k'; subst k') | cases k')
      · exact absurd ⟨rfl, rfl⟩ hk
      · (((conv => whnf); (repeat ((first | ((with_reducible apply br_true); (· exact rfl)) | ((with_reducible apply br_false); (· exact rfl))); (conv => whnf)))); repeat' (first | ((with_reducible first | apply br_dec | apply br_beq | apply br_bne) <;> (intro _; ((conv => whnf); (repeat ((first | ((with_reducible apply br_true); (· exact rfl)) | ((with_reducible apply br_false); (· exact rfl))); (conv => whnf)))))) | ((with_reducible first | apply sd_and); ((conv => whnf); (repeat ((first | ((with_reducible apply br_true); (· exact rfl)) | ((with_reducible apply br_false); (· exact rfl))); (conv => whnf)))))))
        refine c_isex h' ?_
        (((conv => whnf); (repeat ((first | ((with_reducible apply br_true); (· exact rfl)) | ((with_reducible apply br_false); (· exact rfl))); (conv => whnf)))); repeat' (first | ((with_reducible first | apply br_dec | apply br_beq | apply br_bne) <;> (intro _; ((conv => whnf); (repeat ((first | ((with_reducible apply br_true); (· exact rfl)) | ((with_reducible apply br_false); (· exact rfl))); (conv => whnf)))))) | ((with_reducible first | apply sd_and); ((conv => whnf); (repeat ((first | ((with_reducible apply br_true); (· exact rfl)) | ((with_reducible apply br_false); (· exact rfl))); (conv => whnf)))))))
        refine c_twin hp hp' h fun m e r => ?_
        (((conv => whnf); (repeat ((first | ((with_reducible apply br_true); (· exact rfl)) | ((with_reducible apply br_false); (· exact rfl))); (conv => whnf)))); repeat' (first | ((with_reducible first | apply br_dec | apply br_beq | apply br_bne) <;> (intro _; ((conv => whnf); (repeat ((first | ((with_reducible apply br_true); (· exact rfl)) | ((with_reducible apply br_false); (· exact rfl))); (conv => whnf)))))) | ((with_reducible first | apply sd_and); ((conv => whnf); (repeat ((first | ((with_reducible apply br_true); (· exact rfl)) | ((with_reducible apply br_false); (· exact rfl))); (conv => whnf)))))))
        refine c_twin hp hp' h' fun m' e' r' => ?_
        (((conv => whnf); (repeat ((first | ((with_reducible apply br_true); (· exact rfl)) | ((with_reducible apply br_false); (· exact rfl))); (conv => whnf)))); repeat' (first | ((with_reducible first | apply br_dec | apply br_beq | apply br_bne) <;> (intro _; ((conv => whnf); (repeat ((first | ((with_reducible apply br_true); (· exact rfl)) | ((with_reducible apply br_false); (· exact rfl))); (conv => whnf)))))) | ((with_reducible first | apply sd_and); ((conv => whnf); (repeat ((first | ((with_reducible apply br_true); (· exact rfl)) | ((with_reducible apply br_false); (· exact rfl))); (conv => whnf)))))))
        refine fin _ (fun w hw => ?_) m e m' e' r r'
        (((conv => whnf); (repeat ((first | ((with_reducible apply br_true); (· exact rfl)) | ((with_reducible apply br_false); (· exact rfl))); (conv => whnf)))); repeat' (first | ((with_reducible first | apply br_dec | apply br_beq | apply br_bne) <;> (intro _; ((conv => whnf); (repeat ((first | ((with_reducible apply br_true); (· exact rfl)) | ((with_reducible apply br_false); (· exact rfl))); (conv => whnf)))))) | ((with_reducible first | apply sd_and); ((conv => whnf); (repeat ((first | ((with_reducible apply br_true); (· exact rfl)) | ((with_reducible apply br_false); (· exact rfl))); (conv => whnf)))))))
        rw [List.take_length]; exact hw
    · (((conv => whnf); (repeat ((first | ((with_reducible apply br_true); (· exact rfl)) | ((with_reducible apply br_false); (· exact rfl))); (conv => whnf)))); repeat' (first | ((with_reducible first | apply br_dec | apply br_beq | apply br_bne) <;> (intro _; ((conv => whnf); (repeat ((first | ((with_reducible apply br_true); (· exact rfl)) | ((with_reducible apply br_false); (· exact rfl))); (conv => whnf)))))) | ((with_reducible first | apply sd_and); ((conv => whnf); (repeat ((first | ((with_reducible apply br_true); (· exact rfl)) | ((with_reducible apply br_false); (· exact rfl))); (conv => whnf)))))))
      refine c_twin hp hp' h fun m e r => ?_
      (((conv => whnf); (repeat ((first | ((with_reducible apply br_true); (· exact rfl)) | ((with_reducible apply br_false); (· exact rfl))); (conv => whnf)))); repeat' (first | ((with_reducible first | apply br_dec | apply br_beq | apply br_bne) <;> (intro _; ((conv => whnf); (repeat ((first | ((with_reducible apply br_true); (· exact rfl)) | ((with_reducible apply br_false); (· exact rfl))); (conv => whnf)))))) | ((with_reducible first | apply sd_and); ((conv => whnf); (repeat ((first | ((with_reducible apply br_true); (· exact rfl)) | ((with_reducible apply br_false); (· exact rfl))); (conv => whnf)))))))
      refine c_twin hp hp' h' fun m' e' r' => ?_
      (((conv => whnf); (repeat ((first | ((with_reducible apply br_true); (· exact rfl)) | ((with_reducible apply br_false); (· exact rfl))); (conv => whnf)))); repeat' (first | ((with_reducible first | apply br_dec | apply br_beq | apply br_bne) <;> (intro _; ((conv => whnf); (repeat ((first | ((with_reducible apply br_true); (· exact rfl)) | ((with_reducible apply br_false); (· exact rfl))); (conv => whnf)))))) | ((with_reducible first | apply sd_and); ((conv => whnf); (repeat ((first | ((with_reducible apply br_true); (· exact rfl)) | ((with_reducible apply br_false); (· exact rfl))); (conv => whnf)))))))
      refine fin _ (fun w hw => ?_) m e m' e' r r'
      (((conv => whnf); (repeat ((first | ((with_reducible apply br_true); (· exact rfl)) | ((with_reducible apply br_false); (· exact rfl))); (conv => whnf)))); repeat' (first | ((with_reducible first | apply br_dec | apply br_beq | apply br_bne) <;> (intro _; ((conv => whnf); (repeat ((first | ((with_reducible apply br_true); (· exact rfl)) | ((with_reducible apply br_false); (· exact rfl))); (conv => whnf)))))) | ((with_reducible first | apply sd_and); ((conv => whnf); (repeat ((first | ((with_reducible apply br_true); (· exact rfl)) | ((with_reducible apply br_false); (· exact rfl))); (conv => whnf)))))))
      rw [List.take_length]; exact hw

noncomputable def dzI : XcI := { ps := [Str.ofString "name"], q1 := Str.ofString "word", q2 := Str.ofString "irritants", word := Str.ofString "DivisionByZero" }
noncomputable def dzV : V := .inst 96 dzI.ns (dzI.vs [.str (Str.ofString "law")])
theorem c_twdiv0 (h' : Nb p v' a' b' k') (h0 : a' = 0) (q : E dzV st) :
    CallK (R C2 T2 (n + 8) (.v (.val (.ref 602))) [.v (tw p), .v v, .v v', .v (.str (Str.ofString "law"))] st) Q E := by
  refine fn_G rfl rfl ?_
  (((conv => whnf); (repeat ((first | ((with_reducible apply br_true); (· exact rfl)) | ((with_reducible apply br_false); (· exact rfl))); (conv => whnf)))); repeat' (first | ((with_reducible first | apply br_dec | apply br_beq | apply br_bne) <;> (intro _; ((conv => whnf); (repeat ((first | ((with_reducible apply br_true); (· exact rfl)) | ((with_reducible apply br_false); (· exact rfl))); (conv => whnf)))))) | ((with_reducible first | apply sd_and); ((conv => whnf); (repeat ((first | ((with_reducible apply br_true); (· exact rfl)) | ((with_reducible apply br_false); (· exact rfl))); (conv => whnf)))))))
  refine c_sign h' ?_
  rw [h0]
  (((conv => whnf); (repeat ((first | ((with_reducible apply br_true); (· exact rfl)) | ((with_reducible apply br_false); (· exact rfl))); (conv => whnf)))); repeat' (first | ((with_reducible first | apply br_dec | apply br_beq | apply br_bne) <;> (intro _; ((conv => whnf); (repeat ((first | ((with_reducible apply br_true); (· exact rfl)) | ((with_reducible apply br_false); (· exact rfl))); (conv => whnf)))))) | ((with_reducible first | apply sd_and); ((conv => whnf); (repeat ((first | ((with_reducible apply br_true); (· exact rfl)) | ((with_reducible apply br_false); (· exact rfl))); (conv => whnf)))))))
  exact q
theorem rv_inj {m e m' e' : Int} (h : rV m e = rV m' e') : m = m' ∧ e = e' := by
  unfold rV at h
  injection h with _ _ h
  injection h with h1 h
  injection h with h2 _
  injection h1 with h1
  injection h2 with h2
  exact ⟨h1, h2⟩
theorem Rn.ne (r : Rn p a b m e) (h : a ≠ 0) : m ≠ 0 := by
  rcases r.1 with ⟨z, _⟩ | ⟨_, w, k, hn, hv⟩
  · exact absurd z h
  · obtain ⟨rfl, _⟩ := rv_inj hv
    have := near_odd hn
    intro hz
    have := (sgn_sz (w := w) h).1
    rw [hz] at this
    simp only [Int.natAbs_zero] at this
    omega
theorem Rn.unique {m' e' : Int} (hp : 0 < p) (hb : 0 < b) (r : Rn p a b m e) (r' : Rn p a b m' e') : m = m' ∧ e = e' := rv_inj (Rd.unique hp hb r.1 r'.1)
theorem div_parts {a' : Int} {b : Nat} (hb : 0 < b) : ((b : Int) * a').sign = a'.sign ∧ ((b : Int) * a').natAbs = b * a'.natAbs := by
  rw [Int.sign_mul, Int.sign_natCast_of_ne_zero (by omega), Int.one_mul, Int.natAbs_mul, Int.natAbs_natCast]; exact ⟨rfl, rfl⟩
theorem c_twdiv (hp : 0 < p) (hp' : p ≤ 20) (h : Nb p v a b k) (h' : Nb p v' a' b' k') (h0 : a' ≠ 0) (q : ∀ w, Dw p .div a b k a' b' k' w → Q (.v w) st) :
    CallK (R C2 T2 (n + 8) (.v (.val (.ref 602))) [.v (tw p), .v v, .v v', .v (.str (Str.ofString "law"))] st) Q E := by
  refine fn_G rfl rfl ?_
  (((conv => whnf); (repeat ((first | ((with_reducible apply br_true); (· exact rfl)) | ((with_reducible apply br_false); (· exact rfl))); (conv => whnf)))); repeat' (first | ((with_reducible first | apply br_dec | apply br_beq | apply br_bne) <;> (intro _; ((conv => whnf); (repeat ((first | ((with_reducible apply br_true); (· exact rfl)) | ((with_reducible apply br_false); (· exact rfl))); (conv => whnf)))))) | ((with_reducible first | apply sd_and); ((conv => whnf); (repeat ((first | ((with_reducible apply br_true); (· exact rfl)) | ((with_reducible apply br_false); (· exact rfl))); (conv => whnf)))))))
  refine c_sign h' ?_
  (((conv => whnf); (repeat ((first | ((with_reducible apply br_true); (· exact rfl)) | ((with_reducible apply br_false); (· exact rfl))); (conv => whnf)))); repeat' (first | ((with_reducible first | apply br_dec | apply br_beq | apply br_bne) <;> (intro _; ((conv => whnf); (repeat ((first | ((with_reducible apply br_true); (· exact rfl)) | ((with_reducible apply br_false); (· exact rfl))); (conv => whnf)))))) | ((with_reducible first | apply sd_and); ((conv => whnf); (repeat ((first | ((with_reducible apply br_true); (· exact rfl)) | ((with_reducible apply br_false); (· exact rfl))); (conv => whnf)))))))
  · rename_i hs; exact absurd (Int.sign_eq_zero_iff_zero.mp hs) h0
  refine c_isex h ?_
  by_cases hk : k = false ∧ k' = false
  · obtain ⟨rfl, rfl⟩ := hk
    (((conv => whnf); (repeat ((first | ((with_reducible apply br_true); (· exact rfl)) | ((with_reducible apply br_false); (· exact rfl))); (conv => whnf)))); repeat' (first | ((with_reducible first | apply br_dec | apply br_beq | apply br_bne) <;> (intro _; ((conv => whnf); (repeat ((first | ((with_reducible apply br_true); (· exact rfl)) | ((with_reducible apply br_false); (· exact rfl))); (conv => whnf)))))) | ((with_reducible first | apply sd_and); ((conv => whnf); (repeat ((first | ((with_reducible apply br_true); (· exact rfl)) | ((with_reducible apply br_false); (· exact rfl))); (conv => whnf)))))))
    refine c_isex h' ?_
    (((conv => whnf); (repeat ((first | ((with_reducible apply br_true); (· exact rfl)) | ((with_reducible apply br_false); (· exact rfl))); (conv => whnf)))); repeat' (first | ((with_reducible first | apply br_dec | apply br_beq | apply br_bne) <;> (intro _; ((conv => whnf); (repeat ((first | ((with_reducible apply br_true); (· exact rfl)) | ((with_reducible apply br_false); (· exact rfl))); (conv => whnf)))))) | ((with_reducible first | apply sd_and); ((conv => whnf); (repeat ((first | ((with_reducible apply br_true); (· exact rfl)) | ((with_reducible apply br_false); (· exact rfl))); (conv => whnf)))))))
    obtain ⟨rfl, x1, x2, x3, x4⟩ := h.exact
    obtain ⟨rfl, y1, y2, y3, y4⟩ := h'.exact
    refine c_div (sm10 x1) (sm10n x3) (sm10 y1) (sm10n y3) (by omega) (by omega) h0 fun u' c' hu hc => ?_
    (((conv => whnf); (repeat ((first | ((with_reducible apply br_true); (· exact rfl)) | ((with_reducible apply br_false); (· exact rfl))); (conv => whnf)))); repeat' (first | ((with_reducible first | apply br_dec | apply br_beq | apply br_bne) <;> (intro _; ((conv => whnf); (repeat ((first | ((with_reducible apply br_true); (· exact rfl)) | ((with_reducible apply br_false); (· exact rfl))); (conv => whnf)))))) | ((with_reducible first | apply sd_and); ((conv => whnf); (repeat ((first | ((with_reducible apply br_true); (· exact rfl)) | ((with_reducible apply br_false); (· exact rfl))); (conv => whnf)))))))
    rw [List.take_length]
    have hc0 : c' = (a'.natAbs : Int) := by rw [hc, iabs]
    have hu0 : u' = b' * a'.sign := by
      rw [hu]
      rcases Int.lt_trichotomy a' 0 with c | c | c
      · rw [if_pos c, Int.sign_eq_neg_one_of_neg c]; omega
      · exact absurd c h0
      · rw [if_neg (by omega), Int.sign_eq_one_of_pos c]; omega
    have hg : Int.gcd u' c' = 1 := by
      rw [hu, hc]
      split
      · rw [Int.neg_gcd, Int.gcd_neg, Int.gcd_comm]; exact y4
      · rw [Int.gcd_comm]; exact y4
    have L := lw_mul (t := a) (u := u') (b := b) (c := c') (by omega) (by omega) x4 hg
    refine q _ ⟨_, _, ?_, rfl⟩
    unfold Lw'
    obtain ⟨d1, d2⟩ := div_parts (a' := a') x2
    show Lw (a * b' * ((b : Int) * a').sign) ((b : Int) * a').natAbs _ _
    rw [d1, d2, Int.natCast_mul, Int.mul_assoc, ← hu0, ← hc0]
    exact L
  · have hk' : (k || k') = true := by cases k <;> cases k' <;> simp_all
    have fin : ∀ (K : KD), (∀ w, Q (.v w) st → K (.v w) st) → ∀ m e m' e', Rn p a b m e → Rn p a' b' m' e' → CallK (R C2 T2 (n + 6 + 1) (.v (.val (.ref 259))) [.v (.int p), .v (rV m e), .v (rV m' e')] st) K E := by
      intro K hK m e m' e' r r'
      refine c_divR hp (by omega) (r'.ne h0) (pw_lt r.2.2.1 (by decide)) (pw_lt r'.2.2.1 (by decide)) (by have := r.2.2.2; omega) (by have := r'.2.2.2; omega) fun w hw => hK w (q w ?_)
      unfold Dw
      rw [if_pos hk']
      refine ⟨m, e, m', e', r, r', ?_⟩
      unfold Rd'
      obtain ⟨d1, d2⟩ := div_parts (a' := frT m' e') (frB_pos (e := e))
      show Rd p (frT m e * frB e' * ((frB e : Int) * frT m' e').sign) ((frB e : Int) * frT m' e').natAbs w
      rw [d1, d2, frT_sign]
      exact hw
    (first | subst k | contradiction | (injection k with k; subst k) | cases k)
    · (first | subst k' | contradiction | (injection k' with k'; subst k') | cases k')
      · exact absurd ⟨rfl, rfl⟩ hk
      · (((conv => whnf); (repeat ((first | ((with_reducible apply br_true); (· exact rfl)) | ((with_reducible apply br_false); (· exact rfl))); (conv => whnf)))); repeat' (first | ((with_reducible first | apply br_dec | apply br_beq | apply br_bne) <;> (intro _; ((conv => whnf); (repeat ((first | ((with_reducible apply br_true); (· exact rfl)) | ((with_reducible apply br_false); (· exact rfl))); (conv => whnf)))))) | ((with_reducible first | apply sd_and); ((conv => whnf); (repeat ((first | ((with_reducible apply br_true); (· exact rfl)) | ((with_reducible apply br_false); (· exact rfl))); (conv => whnf)))))))
        refine c_isex h' ?_
        (((conv => whnf); (repeat ((first | ((with_reducible apply br_true); (· exact rfl)) | ((with_reducible apply br_false); (· exact rfl))); (conv => whnf)))); repeat' (first | ((with_reducible first | apply br_dec | apply br_beq | apply br_bne) <;> (intro _; ((conv => whnf); (repeat ((first | ((with_reducible apply br_true); (· exact rfl)) | ((with_reducible apply br_false); (· exact rfl))); (conv => whnf)))))) | ((with_reducible first | apply sd_and); ((conv => whnf); (repeat ((first | ((with_reducible apply br_true); (· exact rfl)) | ((with_reducible apply br_false); (· exact rfl))); (conv => whnf)))))))
        refine c_twin hp hp' h fun m e r => ?_
        (((conv => whnf); (repeat ((first | ((with_reducible apply br_true); (· exact rfl)) | ((with_reducible apply br_false); (· exact rfl))); (conv => whnf)))); repeat' (first | ((with_reducible first | apply br_dec | apply br_beq | apply br_bne) <;> (intro _; ((conv => whnf); (repeat ((first | ((with_reducible apply br_true); (· exact rfl)) | ((with_reducible apply br_false); (· exact rfl))); (conv => whnf)))))) | ((with_reducible first | apply sd_and); ((conv => whnf); (repeat ((first | ((with_reducible apply br_true); (· exact rfl)) | ((with_reducible apply br_false); (· exact rfl))); (conv => whnf)))))))
        refine c_twin hp hp' h' fun m' e' r' => ?_
        (((conv => whnf); (repeat ((first | ((with_reducible apply br_true); (· exact rfl)) | ((with_reducible apply br_false); (· exact rfl))); (conv => whnf)))); repeat' (first | ((with_reducible first | apply br_dec | apply br_beq | apply br_bne) <;> (intro _; ((conv => whnf); (repeat ((first | ((with_reducible apply br_true); (· exact rfl)) | ((with_reducible apply br_false); (· exact rfl))); (conv => whnf)))))) | ((with_reducible first | apply sd_and); ((conv => whnf); (repeat ((first | ((with_reducible apply br_true); (· exact rfl)) | ((with_reducible apply br_false); (· exact rfl))); (conv => whnf)))))))
        refine fin _ (fun w hw => ?_) m e m' e' r r'
        (((conv => whnf); (repeat ((first | ((with_reducible apply br_true); (· exact rfl)) | ((with_reducible apply br_false); (· exact rfl))); (conv => whnf)))); repeat' (first | ((with_reducible first | apply br_dec | apply br_beq | apply br_bne) <;> (intro _; ((conv => whnf); (repeat ((first | ((with_reducible apply br_true); (· exact rfl)) | ((with_reducible apply br_false); (· exact rfl))); (conv => whnf)))))) | ((with_reducible first | apply sd_and); ((conv => whnf); (repeat ((first | ((with_reducible apply br_true); (· exact rfl)) | ((with_reducible apply br_false); (· exact rfl))); (conv => whnf)))))))
        rw [List.take_length]; exact hw
    · (((conv => whnf); (repeat ((first | ((with_reducible apply br_true); (· exact rfl)) | ((with_reducible apply br_false); (· exact rfl))); (conv => whnf)))); repeat' (first | ((with_reducible first | apply br_dec | apply br_beq | apply br_bne) <;> (intro _; ((conv => whnf); (repeat ((first | ((with_reducible apply br_true); (· exact rfl)) | ((with_reducible apply br_false); (· exact rfl))); (conv => whnf)))))) | ((with_reducible first | apply sd_and); ((conv => whnf); (repeat ((first | ((with_reducible apply br_true); (· exact rfl)) | ((with_reducible apply br_false); (· exact rfl))); (conv => whnf)))))))
      refine c_twin hp hp' h fun m e r => ?_
      (((conv => whnf); (repeat ((first | ((with_reducible apply br_true); (· exact rfl)) | ((with_reducible apply br_false); (· exact rfl))); (conv => whnf)))); repeat' (first | ((with_reducible first | apply br_dec | apply br_beq | apply br_bne) <;> (intro _; ((conv => whnf); (repeat ((first | ((with_reducible apply br_true); (· exact rfl)) | ((with_reducible apply br_false); (· exact rfl))); (conv => whnf)))))) | ((with_reducible first | apply sd_and); ((conv => whnf); (repeat ((first | ((with_reducible apply br_true); (· exact rfl)) | ((with_reducible apply br_false); (· exact rfl))); (conv => whnf)))))))
      refine c_twin hp hp' h' fun m' e' r' => ?_
      (((conv => whnf); (repeat ((first | ((with_reducible apply br_true); (· exact rfl)) | ((with_reducible apply br_false); (· exact rfl))); (conv => whnf)))); repeat' (first | ((with_reducible first | apply br_dec | apply br_beq | apply br_bne) <;> (intro _; ((conv => whnf); (repeat ((first | ((with_reducible apply br_true); (· exact rfl)) | ((with_reducible apply br_false); (· exact rfl))); (conv => whnf)))))) | ((with_reducible first | apply sd_and); ((conv => whnf); (repeat ((first | ((with_reducible apply br_true); (· exact rfl)) | ((with_reducible apply br_false); (· exact rfl))); (conv => whnf)))))))
      refine fin _ (fun w hw => ?_) m e m' e' r r'
      (((conv => whnf); (repeat ((first | ((with_reducible apply br_true); (· exact rfl)) | ((with_reducible apply br_false); (· exact rfl))); (conv => whnf)))); repeat' (first | ((with_reducible first | apply br_dec | apply br_beq | apply br_bne) <;> (intro _; ((conv => whnf); (repeat ((first | ((with_reducible apply br_true); (· exact rfl)) | ((with_reducible apply br_false); (· exact rfl))); (conv => whnf)))))) | ((with_reducible first | apply sd_and); ((conv => whnf); (repeat ((first | ((with_reducible apply br_true); (· exact rfl)) | ((with_reducible apply br_false); (· exact rfl))); (conv => whnf)))))))
      rw [List.take_length]; exact hw
end





section
variable {n : Nat} {t u c m e m' e' : Int} {b b' p : Nat} {v v' : V} {a a' : Int} {k k' : Bool} {st : Sto} {E : KV} {Q : KD}
theorem lw_red {A B : Int} (hB : 0 < B) {g : Int} (hg : g = Int.gcd A B) : Lw A B (A / g) (B / g) := by
  subst hg
  have h1 : 0 < Int.gcd A B := gcd_pos' (by omega)
  have k1 := Int.gcd_ediv_gcd_ediv_gcd h1
  have e1 := Int.ediv_mul_cancel (Int.gcd_dvd_left A B)
  have e2 := Int.ediv_mul_cancel (Int.gcd_dvd_right A B)
  generalize hx : (Int.gcd A B : Int) = x at *
  generalize A / x = T at *
  generalize B / x = D at *
  refine ⟨Int.pos_of_mul_pos_left (a := D) (b := x) (by omega) (by omega), k1, ?_⟩
  rw [← e1, ← e2]; simp only [Int.mul_assoc, Int.mul_comm, Int.mul_left_comm]
theorem c_low {A B : Int} (hB : B ≠ 0) (sA : Sm A) (sB : Sm B) (q : ∀ T D, Lw (A * B.sign) B.natAbs T D → Q (.v (.tup [.int T, .int D])) st) :
    CallK (R C2 T2 (n + 2) (.v (.val (.ref 763))) [.v (.int A), .v (.int B)] st) Q E := by
  have key : ∀ A' B' : Int, 0 < B' → Sm A' → Sm B' → A' = A * B.sign → B' = (B.natAbs : Int) → ∀ (x : Nat), x = Int.gcd A' B' → Q (.v (.tup [.int (A'.fdiv (x : Int)), .int (B'.fdiv (x : Int))])) st ∧ dvOk (x : Int) = true := by
    intro A' B' hB' _ sB' e1 e2 x hx
    have hx0 : 0 < x := by rw [hx]; exact gcd_pos' (by omega)
    refine ⟨?_, dv_of (by omega) (sB'.of_le (by rw [hx]; have := gcd_le (a := A') (b := B') (by omega); omega))⟩
    refine q _ _ ?_
    rw [← e1, ← e2, fdiv_nat, fdiv_nat]
    exact lw_red hB' (by rw [hx])
  refine fn_G rfl rfl ?_
  (((conv => whnf); (repeat ((first | ((with_reducible apply br_true); (· exact rfl)) | ((with_reducible apply br_false); (· exact rfl))); (conv => whnf)))); repeat' (first | ((with_reducible first | apply br_dec | apply br_beq | apply br_bne) <;> (intro _; ((conv => whnf); (repeat ((first | ((with_reducible apply br_true); (· exact rfl)) | ((with_reducible apply br_false); (· exact rfl))); (conv => whnf)))))) | ((with_reducible first | apply sd_and); ((conv => whnf); (repeat ((first | ((with_reducible apply br_true); (· exact rfl)) | ((with_reducible apply br_false); (· exact rfl))); (conv => whnf)))))))
  · rename_i hn
    have sg := Int.sign_eq_neg_one_of_neg hn
    refine while_G (fun k ρ st' => st' = st ∧ ∃ x y : Nat, k = mu x y ∧ Nat.gcd x y = Int.gcd (0 - A) (0 - B) ∧ ρ = [(Str.ofString "top", .v (.int (0 - A))), (Str.ofString "bottom", .v (.int (0 - B))), (Str.ofString "one", .v (.int x)), (Str.ofString "other", .v (.int y))]) (k₀ := mu (0 - A).natAbs (0 - B).natAbs) ?_ ⟨rfl, (0 - A).natAbs, (0 - B).natAbs, rfl, rfl, ?_⟩ (fun k ρ st' hI => ?_)
    · have := small_mu (x := (0 - A).natAbs) (y := (0 - B).natAbs) (by rw [show (0 - A).natAbs = A.natAbs by omega]; exact sA.big) (by rw [show (0 - B).natAbs = B.natAbs by omega]; exact sB.big)
      show _ < 1000000000
      omega
    · rw [← iabs, show ((0 - B).natAbs : Int) = 0 - B by omega]; rfl
    · obtain ⟨rfl, x, y, rfl, hg, rfl⟩ := hI
      (((conv => whnf); (repeat ((first | ((with_reducible apply br_true); (· exact rfl)) | ((with_reducible apply br_false); (· exact rfl))); (conv => whnf)))); repeat' (first | ((with_reducible first | apply br_dec | apply br_beq | apply br_bne) <;> (intro _; ((conv => whnf); (repeat ((first | ((with_reducible apply br_true); (· exact rfl)) | ((with_reducible apply br_false); (· exact rfl))); (conv => whnf)))))) | ((with_reducible first | apply sd_and); ((conv => whnf); (repeat ((first | ((with_reducible apply br_true); (· exact rfl)) | ((with_reducible apply br_false); (· exact rfl))); (conv => whnf)))))))
      · rename_i hy
        have hy' : y ≠ 0 := fun z => hy (by rw [z]; rfl)
        refine ⟨_, mu_step hy', rfl, y, x % y, rfl, ?_, ?_⟩
        · rw [← hg, Nat.gcd_comm x y, Nat.gcd_rec y x, Nat.gcd_comm]
        · rw [Int.fmod_eq_emod_of_nonneg _ (Int.natCast_nonneg y)]; rfl
      · assumption
      · rename_i hy
        have hy' : y = 0 := Int.ofNat_eq_zero.mp hy
        subst hy'
        rw [Nat.gcd_zero_right] at hg
        have K := key (0 - A) (0 - B) (by omega) (by unfold Sm at sA ⊢; rw [show (0 - A).natAbs = A.natAbs by omega]; exact sA) (by unfold Sm at sB ⊢; rw [show (0 - B).natAbs = B.natAbs by omega]; exact sB) (by rw [sg]; omega) (by omega) x hg
        rw [List.take_length]; exact K.1
      · rename_i hy
        have hy' : y = 0 := Int.ofNat_eq_zero.mp hy
        subst hy'
        rw [Nat.gcd_zero_right] at hg
        have K := key (0 - A) (0 - B) (by omega) (by unfold Sm at sA ⊢; rw [show (0 - A).natAbs = A.natAbs by omega]; exact sA) (by unfold Sm at sB ⊢; rw [show (0 - B).natAbs = B.natAbs by omega]; exact sB) (by rw [sg]; omega) (by omega) x hg
        exact K.2
      · rename_i hy
        have hy' : y = 0 := Int.ofNat_eq_zero.mp hy
        subst hy'
        rw [Nat.gcd_zero_right] at hg
        have K := key (0 - A) (0 - B) (by omega) (by unfold Sm at sA ⊢; rw [show (0 - A).natAbs = A.natAbs by omega]; exact sA) (by unfold Sm at sB ⊢; rw [show (0 - B).natAbs = B.natAbs by omega]; exact sB) (by rw [sg]; omega) (by omega) x hg
        exact K.2
  · rename_i hn
    have sg := Int.sign_eq_one_of_pos (show 0 < B by omega)
    refine while_G (fun k ρ st' => st' = st ∧ ∃ x y : Nat, k = mu x y ∧ Nat.gcd x y = Int.gcd A B ∧ ρ = [(Str.ofString "top", .v (.int A)), (Str.ofString "bottom", .v (.int B)), (Str.ofString "one", .v (.int x)), (Str.ofString "other", .v (.int y))]) (k₀ := mu A.natAbs B.natAbs) ?_ ⟨rfl, A.natAbs, B.natAbs, rfl, rfl, ?_⟩ (fun k ρ st' hI => ?_)
    · have := small_mu sA.big sB.big
      show _ < 1000000000
      omega
    · rw [← iabs, show ((B).natAbs : Int) = B by omega]; rfl
    · obtain ⟨rfl, x, y, rfl, hg, rfl⟩ := hI
      (((conv => whnf); (repeat ((first | ((with_reducible apply br_true); (· exact rfl)) | ((with_reducible apply br_false); (· exact rfl))); (conv => whnf)))); repeat' (first | ((with_reducible first | apply br_dec | apply br_beq | apply br_bne) <;> (intro _; ((conv => whnf); (repeat ((first | ((with_reducible apply br_true); (· exact rfl)) | ((with_reducible apply br_false); (· exact rfl))); (conv => whnf)))))) | ((with_reducible first | apply sd_and); ((conv => whnf); (repeat ((first | ((with_reducible apply br_true); (· exact rfl)) | ((with_reducible apply br_false); (· exact rfl))); (conv => whnf)))))))
      · rename_i hy
        have hy' : y ≠ 0 := fun z => hy (by rw [z]; rfl)
        refine ⟨_, mu_step hy', rfl, y, x % y, rfl, ?_, ?_⟩
        · rw [← hg, Nat.gcd_comm x y, Nat.gcd_rec y x, Nat.gcd_comm]
        · rw [Int.fmod_eq_emod_of_nonneg _ (Int.natCast_nonneg y)]; rfl
      · assumption
      · rename_i hy
        have hy' : y = 0 := Int.ofNat_eq_zero.mp hy
        subst hy'
        rw [Nat.gcd_zero_right] at hg
        have K := key A B (by omega) sA sB (by rw [sg]; omega) (by omega) x hg
        rw [List.take_length]; exact K.1
      · rename_i hy
        have hy' : y = 0 := Int.ofNat_eq_zero.mp hy
        subst hy'
        rw [Nat.gcd_zero_right] at hg
        have K := key A B (by omega) sA sB (by rw [sg]; omega) (by omega) x hg
        exact K.2
      · rename_i hy
        have hy' : y = 0 := Int.ofNat_eq_zero.mp hy
        subst hy'
        rw [Nat.gcd_zero_right] at hg
        have K := key A B (by omega) sA sB (by rw [sg]; omega) (by omega) x hg
        exact K.2
end






theorem leap_1 {a b i j p L A : Nat} (ba : a < 2 ^ A) (hb : 0 < b) (hL : 1 ≤ L) (h : b * 2 ^ i * 2 ^ p * 2 ^ (L - 1) ≤ a * 2 ^ j) : i < A + j := by
  refine (Nat.pow_lt_pow_iff_right (by decide : 1 < 2)).mp ?_
  rw [Nat.pow_add]
  calc 2 ^ i ≤ b * 2 ^ i := Nat.le_mul_of_pos_left _ hb
    _ ≤ b * 2 ^ i * 2 ^ p := Nat.le_mul_of_pos_right _ (p2 _)
    _ ≤ b * 2 ^ i * 2 ^ p * 2 ^ (L - 1) := Nat.le_mul_of_pos_right _ (p2 _)
    _ ≤ _ := h
    _ < _ := Nat.mul_lt_mul_of_pos_right ba (p2 j)
theorem leap_2 {a b i j p L A : Nat} (ha : 0 < a) (bb : b < 2 ^ A) (h : a * 2 ^ j * 2 ^ (L - 1) < b * 2 ^ i * 2 ^ (p - 1)) : j < A + (i + (p - 1)) := by
  refine (Nat.pow_lt_pow_iff_right (by decide : 1 < 2)).mp ?_
  rw [Nat.pow_add, Nat.pow_add]
  calc 2 ^ j ≤ a * 2 ^ j := Nat.le_mul_of_pos_left _ ha
    _ ≤ a * 2 ^ j * 2 ^ (L - 1) := Nat.le_mul_of_pos_right _ (p2 _)
    _ < _ := h
    _ = b * (2 ^ i * 2 ^ (p - 1)) := Nat.mul_assoc ..
    _ ≤ _ := Nat.mul_le_mul_right _ (by omega)
theorem leap_3 {a b i j p L : Nat} (hL : 1 ≤ L) (hp : 1 ≤ p) (h : a * 2 ^ j * 2 ^ (L - 1) < b * 2 ^ i * 2 ^ (p - 1)) : a * 2 ^ (j + L) < b * 2 ^ i * 2 ^ p * 2 ^ (L - 1) := by
  have e1 : a * 2 ^ (j + L) = 2 * (a * 2 ^ j * 2 ^ (L - 1)) := by
    obtain ⟨l, rfl⟩ : ∃ l, L = l + 1 := ⟨L - 1, by omega⟩
    rw [Nat.add_sub_cancel, Nat.pow_add, Nat.pow_succ]; simp only [Nat.mul_assoc, Nat.mul_comm, Nat.mul_left_comm]
  have e2 : b * 2 ^ i * 2 ^ p = 2 * (b * 2 ^ i * 2 ^ (p - 1)) := by
    obtain ⟨l, rfl⟩ : ∃ l, p = l + 1 := ⟨p - 1, by omega⟩
    rw [Nat.add_sub_cancel, Nat.pow_succ]; simp only [Nat.mul_assoc, Nat.mul_comm, Nat.mul_left_comm]
  calc a * 2 ^ (j + L) < b * 2 ^ i * 2 ^ p := by rw [e1, e2]; omega
    _ ≤ _ := Nat.le_mul_of_pos_right _ (p2 _)

theorem fmN2 {w : Nat} : (w : Int).fmod 2 = ((w % 2 : Nat) : Int) := by rw [Int.fmod_eq_emod_of_nonneg _ (by decide)]; rfl
theorem fdN2 {w : Nat} : (w : Int).fdiv 2 = ((w / 2 : Nat) : Int) := by rw [Int.fdiv_eq_ediv_of_nonneg _ (by decide)]; rfl
theorem half_w {w : Nat} (h0 : 0 < w) (h : ((w % 2 : Nat) : Int) = 0) : 0 < w / 2 ∧ w / 2 < w ∧ w / 2 * 2 = w := by omega
theorem odd_w {w : Nat} (h : ((w % 2 : Nat) : Int) ≠ 0) : w % 2 = 1 := by omega
noncomputable def nE (p : Nat) (s : Bool) (t b sh : Int) : En :=
  [(Str.ofString "bits", .v (.int p)), (Str.ofString "top", .v (.int t)), (Str.ofString "bottom", .v (.int b)), (Str.ofString "minus", .v (.bool s)), (Str.ofString "shift", .v (.int sh)), (Str.ofString "full", .v (.int (2 ^ (p : Int).toNat))), (Str.ofString "half", .v (.int (2 ^ ((p : Int) - 1).toNat)))]
noncomputable def nE' (p : Nat) (s : Bool) (t b sh L : Int) : En :=
  [(Str.ofString "bits", .v (.int p)), (Str.ofString "top", .v (.int t)), (Str.ofString "bottom", .v (.int b)), (Str.ofString "minus", .v (.bool s)), (Str.ofString "shift", .v (.int sh)), (Str.ofString "full", .v (.int (2 ^ (p : Int).toNat))), (Str.ofString "half", .v (.int (2 ^ ((p : Int) - 1).toNat))), (Str.ofString "leap", .v (.int L))]
/-- where the search stands -/
structure Pos4 (a b i j : Nat) (t u sh : Int) : Prop where
  ht : t = ((a * 2 ^ j : Nat) : Int)
  hu : u = ((b * 2 ^ i : Nat) : Int)
  hs : sh = (i : Int) - j
noncomputable def Post (p a b i j L : Nat) : Prop := a * 2 ^ j < b * 2 ^ i * 2 ^ p * 2 ^ (L - 1) ∧ b * 2 ^ i * 2 ^ (p - 1) ≤ a * 2 ^ j * 2 ^ (L - 1)
noncomputable def nJ (p a b i j : Nat) (s : Bool) (t u sh : Int) (l : List V) (ρ : En) : Prop :=
  (l = [.int 64, .int 8, .int 1] ∧ i = 0 ∧ j = 0 ∧ ρ = nE p s t u sh) ∨
  (l = [.int 8, .int 1] ∧ i ≤ 1100 ∧ j ≤ 1100 ∧ ρ = nE' p s t u sh 64) ∨
  (l = [.int 1] ∧ i ≤ 2200 ∧ j ≤ 2200 ∧ ρ = nE' p s t u sh 8) ∨
  (l = [] ∧ i ≤ 3300 ∧ j ≤ 3300 ∧ Post p a b i j 1 ∧ ρ = nE' p s t u sh 1)
noncomputable def nI (p a b : Nat) (s : Bool) (st : Sto) (l : List V) (ρ : En) (st' : Sto) : Prop :=
  st' = st ∧ ∃ (i j : Nat) (t u sh : Int), Pos4 a b i j t u sh ∧ nJ p a b i j s t u sh l ρ
theorem nI_end {p a b i j : Nat} {s : Bool} {t u sh : Int} {ρ : En} (h : nJ p a b i j s t u sh [] ρ) : i ≤ 3300 ∧ j ≤ 3300 ∧ Post p a b i j 1 ∧ ρ = nE' p s t u sh 1 := by
  rcases h with ⟨h, _⟩ | ⟨h, _⟩ | ⟨h, _⟩ | ⟨_, h⟩
  · (first | subst h | contradiction | (injection h with h; subst h) | cases h)
  · (first | subst h | contradiction | (injection h with h; subst h) | cases h)
  · (first | subst h | contradiction | (injection h with h; subst h) | cases h)
  · exact h
theorem nI_step {p a b i j : Nat} {s : Bool} {t u sh : Int} {st : Sto} {x : V} {r : List V} {ρ : En} (h : nJ p a b i j s t u sh (x :: r) ρ) :
    ∃ L X : Nat, x = .int L ∧ 1 ≤ L ∧ L ≤ 64 ∧ i ≤ X ∧ j ≤ X ∧ X ≤ 2200 ∧ putT (fi 66).sc (PySem.Expr.Name (Str.ofString "leap") { line := 372, col := 8, endLine := 372, endCol := 12 }) x ρ = some (nE' p s t u sh L) ∧
      (∀ (i j : Nat) (t u sh : Int), Pos4 a b i j t u sh → i ≤ X + 1100 → j ≤ X + 1100 → Post p a b i j L → nI p a b s st r (nE' p s t u sh L) st) := by
  rcases h with ⟨h, rfl, rfl, rfl⟩ | ⟨h, hi, hj, rfl⟩ | ⟨h, hi, hj, rfl⟩ | ⟨h, _⟩
  · cases h
    exact ⟨64, 0, rfl, by decide, by decide, Nat.le_refl _, Nat.le_refl _, by decide, rfl, fun i j t u sh hp hi hj _ => ⟨rfl, i, j, t, u, sh, hp, .inr (.inl ⟨rfl, Nat.zero_add 1100 ▸ hi, Nat.zero_add 1100 ▸ hj, rfl⟩)⟩⟩
  · cases h
    exact ⟨8, 1100, rfl, by decide, by decide, hi, hj, by decide, rfl, fun i j t u sh hp hi hj _ => ⟨rfl, i, j, t, u, sh, hp, .inr (.inr (.inl ⟨rfl, hi, hj, rfl⟩))⟩⟩
  · cases h
    exact ⟨1, 2200, rfl, by decide, by decide, hi, hj, by decide, rfl, fun i j t u sh hp hi hj hq => ⟨rfl, i, j, t, u, sh, hp, .inr (.inr (.inr ⟨rfl, hi, hj, hq, rfl⟩))⟩⟩
  · cases h
/-- a loop's body -/
noncomputable def fbd : Stmt → List Stmt
  | .For _ _ b _ _ => b
  | .While _ b _ _ => b
  | _ => []
theorem castp {x k : Nat} {e : Int} (h : e.toNat = k) : (x : Int) * 2 ^ e.toNat = ((x * 2 ^ k : Nat) : Int) := by rw [h, Int.natCast_mul, pz]
theorem pow_ok {y : Int} (h0 : 0 ≤ y) (h : y ≤ 1000) : 0 ≤ y ∧ (Builtin.Int.intBits 2 : Int) * y ≤ 2 ^ 27 := by
  rw [show (Builtin.Int.intBits 2 : Int) = 2 by decide]
  exact ⟨h0, by omega⟩
theorem mulp_ok {x : Nat} {k : Nat} {e : Int} (hx : x < 2 ^ k) (hk : k ≤ 4000) (he : e.toNat ≤ 100) : mulOk (x : Int) (2 ^ e.toNat) = true := by
  refine mul_of (sm_nat hx hk) ?_
  rw [← pz]
  exact sm_nat (k := 101) (Nat.pow_lt_pow_right (by decide) (by omega)) (by decide)
theorem sm2 : Sm 2 := pw_lt (k := 2) (by decide) (by decide)
theorem sg_if {A : Int} (h : A ≠ 0) (w : Nat) : A.sign * (w : Int) = if decide (A < 0) = true then 0 - (w : Int) else w := by
  rcases sign_cases h with e | e
  · rw [e, if_neg (by rw [decide_eq_true_iff]; intro z; rw [Int.sign_eq_neg_one_of_neg z] at e; (first | subst e | contradiction | (injection e with e; subst e) | cases e)), Int.one_mul]
  · rw [e, if_pos (by rw [decide_eq_true_iff]; exact Int.neg_of_sign_eq_neg_one e), Int.neg_one_mul, Int.zero_sub]
noncomputable def nEw (p : Nat) (s : Bool) (t u sh w r : Int) : En := nE' p s t u sh 1 ++ [(Str.ofString "whole", .v (.int w)), (Str.ofString "rest", .v (.int r))]
theorem lt_th {p : Nat} (h : p ≤ 20) : (p : Int) ≤ 1000 := by omega
theorem lt_th' {p : Nat} (h : p ≤ 64) : (p : Int) ≤ 1000 := by omega
theorem lt_t1 {p : Nat} (h : p ≤ 20) : (p : Int) - 1 ≤ 1000 := by omega
theorem lt_t1' {p : Nat} (h : p ≤ 64) : (p : Int) - 1 ≤ 1000 := by omega
theorem sub_nn {p : Nat} (h : 0 < p) : 0 ≤ (p : Int) - 1 := by omega
theorem lt_big {X i : Nat} (h : X ≤ 2200) : X + 600 - i < 1000000000 := by omega
theorem lt_big2 {X i : Nat} (h : X ≤ 2200) : X + 1100 - i < 1000000000 := by omega
theorem lp_1 {i j L X : Nat} (h : i < 400 + j) (hL : 1 ≤ L) (hL' : L ≤ 64) (hj : j ≤ X) : X + 600 - (i + L) < X + 600 - i ∧ i + L ≤ X + 463 := ⟨Nat.sub_lt_sub_left (by omega) (Nat.lt_add_of_pos_right hL), by omega⟩
theorem lp_2 {i j L X p : Nat} (h : j < 400 + (i + (p - 1))) (hL : 1 ≤ L) (hL' : L ≤ 64) (hi : i ≤ X + 463) (hp : p ≤ 20) : X + 1100 - (j + L) < X + 1100 - j ∧ j + L ≤ X + 986 := by
  have := Nat.sub_le p 1
  generalize p - 1 = d at *
  exact ⟨Nat.sub_lt_sub_left (by omega) (Nat.lt_add_of_pos_right hL), by omega⟩
theorem lp_s {i j L : Nat} : (i : Int) - j + L = ((i + L : Nat) : Int) - j := by omega
theorem lp_s' {i j L : Nat} : (i : Int) - j - L = (i : Int) - ((j + L : Nat) : Int) := by omega
section
variable {n N p : Nat} {s : Bool} {st : Sto} {E : KV} {Q : KD}
theorem nr_end {W : Nat} {t u sh wI r : Int} (W0 : 0 < W) (Wb : W < 1000000000) (hw : wI = W) (q : ∀ w c : Nat, w % 2 = 1 → W = w * 2 ^ c → Q (.v (.tup [.int (if s = true then 0 - (w : Int) else w), .int (sh + c)])) st) :
    go C2 T2 n (fi 66).sc (endK st.length Q) (N + 400) [.sts 64 ((fi 66).body.drop 6)] [] (nEw p s t u sh wI r) st E := by
  (((conv => whnf); (repeat ((first | ((with_reducible apply br_true); (· exact rfl)) | ((with_reducible apply br_false); (· exact rfl))); (conv => whnf)))); repeat' (first | ((with_reducible first | apply br_dec | apply br_beq | apply br_bne) <;> (intro _; ((conv => whnf); (repeat ((first | ((with_reducible apply br_true); (· exact rfl)) | ((with_reducible apply br_false); (· exact rfl))); (conv => whnf)))))) | ((with_reducible first | apply sd_and); ((conv => whnf); (repeat ((first | ((with_reducible apply br_true); (· exact rfl)) | ((with_reducible apply br_false); (· exact rfl))); (conv => whnf)))))))
  refine while_G (fun k ρ s' => s' = st ∧ ∃ (c : Nat) (wI sh' : Int), 0 < k ∧ W = k * 2 ^ c ∧ wI = k ∧ sh' = sh + c ∧ ρ = nEw p s t u sh' wI r) (k₀ := W) Wb ⟨rfl, 0, _, _, W0, (Nat.mul_one W).symm, hw, (Int.add_zero _).symm, rfl⟩ (fun k ρ s' hI => ?_)
  obtain ⟨rfl, c, wI, sh', k0, hk, rfl, rfl, rfl⟩ := hI
  (((conv => whnf); (repeat ((first | ((with_reducible apply br_true); (· exact rfl)) | ((with_reducible apply br_false); (· exact rfl))); (conv => whnf)))); repeat' (first | ((with_reducible first | apply br_dec | apply br_beq | apply br_bne) <;> (intro _; ((conv => whnf); (repeat ((first | ((with_reducible apply br_true); (· exact rfl)) | ((with_reducible apply br_false); (· exact rfl))); (conv => whnf)))))) | ((with_reducible first | apply sd_and); ((conv => whnf); (repeat ((first | ((with_reducible apply br_true); (· exact rfl)) | ((with_reducible apply br_false); (· exact rfl))); (conv => whnf)))))))
  · rename_i hc
    rw [fmN2] at hc
    obtain ⟨z1, z2, z3⟩ := half_w k0 hc
    refine ⟨k / 2, z2, rfl, c + 1, _, _, z1, ?_, fdN2, ?_, rfl⟩
    · rw [hk, Nat.pow_succ, Nat.mul_comm (2 ^ c), ← Nat.mul_assoc, z3]
    · rw [Int.natCast_succ, Int.add_assoc]
  · exact dv_of (by decide) sm2
  · rename_i hc
    rw [fmN2] at hc
    have q := q k c (odd_w hc) hk
    refine ⟨fun e => ?_, fun e => ?_⟩
    all_goals
      rw [e] at q
      (((conv => whnf); (repeat ((first | ((with_reducible apply br_true); (· exact rfl)) | ((with_reducible apply br_false); (· exact rfl))); (conv => whnf)))); repeat' (first | ((with_reducible first | apply br_dec | apply br_beq | apply br_bne) <;> (intro _; ((conv => whnf); (repeat ((first | ((with_reducible apply br_true); (· exact rfl)) | ((with_reducible apply br_false); (· exact rfl))); (conv => whnf)))))) | ((with_reducible first | apply sd_and); ((conv => whnf); (repeat ((first | ((with_reducible apply br_true); (· exact rfl)) | ((with_reducible apply br_false); (· exact rfl))); (conv => whnf)))))))
      exact take_v q
  · decide
theorem nr_c1 {r b : Nat} (h : (b : Int) < 2 * (r : Int)) : b < 2 * r := by omega
theorem nr_c2 {r b : Nat} (h : 2 * (r : Int) = (b : Int)) : 2 * r = b := by omega
theorem nr_c3 {r b : Nat} {P : Prop} (h : ¬ (b : Int) < 2 * (r : Int)) (h2 : ¬ (2 * r = b ∧ P)) : ¬ (b < 2 * r ∨ (2 * r = b ∧ P)) := fun z => z.elim (fun z => h (by omega)) h2
/-- the whole part and the rest of the road -/
theorem nr_mid {a b : Nat} {t u sh : Int} (ht : t = (a : Int)) (hu : u = (b : Int)) (hb : 0 < b) (Sb : b < 2 ^ 3700) (hi1 : a < 2 ^ p * b) (hi2 : b ≤ a) (hp' : p ≤ 20)
    (q : ∀ w c : Nat, w % 2 = 1 → rhe a b = w * 2 ^ c → Q (.v (.tup [.int (if s = true then 0 - (w : Int) else w), .int (sh + c)])) st) :
    go C2 T2 n (fi 66).sc (endK st.length Q) (N + 900) [.sts 64 ((fi 66).body.drop 3)] [] (nE' p s t u sh 1) st E := by
  subst ht hu
  have hbi : (b : Int) ≠ 0 := Int.ofNat_ne_zero.mpr (Nat.ne_of_gt hb)
  have ef : (a : Int).fdiv (b : Int) = ((a / b : Nat) : Int) := by rw [Int.fdiv_eq_ediv_of_nonneg _ (Int.natCast_nonneg b)]; rfl
  have er : (a : Int) - (a : Int).fdiv (b : Int) * (b : Int) = ((a % b : Nat) : Int) := by
    have dm := Nat.div_add_mod a b
    rw [ef, ← Int.natCast_mul, Nat.mul_comm]
    clear hi1 hi2 q ef
    omega
  have q0 : 0 < a / b := Nat.div_pos hi2 hb
  have qb : a / b < 2 ^ p := Nat.div_lt_of_lt_mul (by rw [Nat.mul_comm]; exact hi1)
  have W0 : 0 < rhe a b := by
    unfold rhe; split
    · exact Nat.succ_pos _
    · exact q0
  have Wb : rhe a b < 1000000000 := Nat.lt_of_le_of_lt (rhe_le hi1) (Nat.lt_of_le_of_lt (Nat.pow_le_pow_right (by decide) hp') (by decide))
  have up : b < 2 * (a % b) ∨ (2 * (a % b) = b ∧ a / b % 2 = 1) → rhe a b = a / b + 1 := fun h => if_pos h
  have dn : ¬(b < 2 * (a % b) ∨ (2 * (a % b) = b ∧ a / b % 2 = 1)) → rhe a b = a / b := fun h => if_neg h
  (((conv => whnf); (repeat ((first | ((with_reducible apply br_true); (· exact rfl)) | ((with_reducible apply br_false); (· exact rfl))); (conv => whnf)))); repeat' (first | ((with_reducible first | apply br_dec | apply br_beq | apply br_bne) <;> (intro _; ((conv => whnf); (repeat ((first | ((with_reducible apply br_true); (· exact rfl)) | ((with_reducible apply br_false); (· exact rfl))); (conv => whnf)))))) | ((with_reducible first | apply sd_and); ((conv => whnf); (repeat ((first | ((with_reducible apply br_true); (· exact rfl)) | ((with_reducible apply br_false); (· exact rfl))); (conv => whnf)))))))
  · rename_i c1
    rw [er] at c1
    exact nr_end W0 Wb (by rw [up (.inl (nr_c1 c1)), ef]; rfl) q
  · rename_i c1 c2 c3
    rw [er] at c2
    rw [ef, fmN2] at c3
    exact nr_end W0 Wb (by rw [up (.inr ⟨nr_c2 c2, Int.ofNat_inj.mp c3⟩), ef]; rfl) q
  · rename_i c1 c2 c3
    rw [er] at c1 c2
    rw [ef, fmN2] at c3
    exact nr_end W0 Wb (by rw [dn (nr_c3 c1 fun z => c3 (by rw [z.2]; rfl)), ef]) q
  · decide
  · rename_i c1 c2
    rw [er] at c1 c2
    exact nr_end W0 Wb (by rw [dn (nr_c3 c1 fun z => c2 (Int.ofNat_inj.mpr z.1)), ef]) q
  iterate 2
    · rw [er]
      exact mul_of sm2 (sm_nat (Nat.lt_trans (Nat.mod_lt a hb) Sb) (by decide))
  · rw [ef]
    exact mul_of (sm_nat qb (Nat.le_trans hp' (by decide))) (sm_nat Sb (by decide))
  · exact dv_of hbi (sm_nat Sb (by decide))
/-- one leap -/
theorem nr_loop {a b i j L X : Nat} {t u sh : Int} {Kf : KF} (hpos : Pos4 a b i j t u sh) (hp : 0 < p) (hp' : p ≤ 20) (ha : 0 < a) (hb : 0 < b) (ba : a < 2 ^ 400) (bb : b < 2 ^ 400) (hL : 1 ≤ L) (hL' : L ≤ 64) (hi : i ≤ X) (hj : j ≤ X) (hX : X ≤ 2200)
    (q : ∀ (i j : Nat) (t u sh : Int), Pos4 a b i j t u sh → i ≤ X + 1100 → j ≤ X + 1100 → Post p a b i j L → Kf (.next, nE' p s t u sh L) st) :
    go C2 T2 n (fi 66).sc Kf FUEL [.sts 63 (fbd (nthS (fi 66).body 2))] [] (nE' p s t u sh L) st NoE := by
  have tp : (p : Int).toNat = p := Int.toNat_natCast p
  have tp1 : ((p : Int) - 1).toNat = p - 1 := Int.toNat_sub' ..
  have tl : (L : Int).toNat = L := Int.toNat_natCast L
  have tl1 : ((L : Int) - 1).toNat = L - 1 := Int.toNat_sub' ..
  have p100 : (p : Int).toNat ≤ 100 := by rw [tp]; exact Nat.le_trans hp' (by decide)
  have p101 : ((p : Int) - 1).toNat ≤ 100 := by rw [tp1]; exact Nat.le_trans (Nat.sub_le ..) (Nat.le_trans hp' (by decide))
  have l100 : (L : Int).toNat ≤ 100 := by rw [tl]; exact Nat.le_trans hL' (by decide)
  have l101 : ((L : Int) - 1).toNat ≤ 100 := by rw [tl1]; exact Nat.le_trans (Nat.sub_le ..) (Nat.le_trans hL' (by decide))
  have P1 := pow_ok (y := (p : Int)) (Int.natCast_nonneg p) (lt_th hp')
  have P2 := pow_ok (y := (L : Int)) (Int.natCast_nonneg L) (lt_th' hL')
  have P3 := pow_ok (y := (p : Int) - 1) (sub_nn hp) (lt_t1 hp')
  have P4 := pow_ok (y := (L : Int) - 1) (sub_nn hL) (lt_t1' hL')
  have bu : ∀ {i : Nat}, i ≤ 3300 → b * 2 ^ i < 2 ^ 3700 := fun h => pw_lt (mulp_lt _ bb) (Nat.add_le_add_left h 400)
  have bt : ∀ {i : Nat}, i ≤ 3300 → a * 2 ^ i < 2 ^ 3700 := fun h => pw_lt (mulp_lt _ ba) (Nat.add_le_add_left h 400)
  (((conv => whnf); (repeat ((first | ((with_reducible apply br_true); (· exact rfl)) | ((with_reducible apply br_false); (· exact rfl))); (conv => whnf)))); repeat' (first | ((with_reducible first | apply br_dec | apply br_beq | apply br_bne) <;> (intro _; ((conv => whnf); (repeat ((first | ((with_reducible apply br_true); (· exact rfl)) | ((with_reducible apply br_false); (· exact rfl))); (conv => whnf)))))) | ((with_reducible first | apply sd_and); ((conv => whnf); (repeat ((first | ((with_reducible apply br_true); (· exact rfl)) | ((with_reducible apply br_false); (· exact rfl))); (conv => whnf)))))))
  refine while_G (fun k ρ s' => s' = st ∧ ∃ (i₁ : Nat) (t u sh : Int), Pos4 a b i₁ j t u sh ∧ i₁ ≤ X + 463 ∧ k = X + 600 - i₁ ∧ ρ = nE' p s t u sh L) (k₀ := X + 600 - i) (lt_big hX) ⟨rfl, i, t, u, sh, hpos, Nat.le_trans hi (Nat.le_add_right ..), rfl, rfl⟩ (fun k ρ s' hI => ?_)
  obtain ⟨rfl, i₁, t, u, sh, ⟨rfl, rfl, rfl⟩, hi₁, rfl, rfl⟩ := hI
  have hi3 : i₁ ≤ 3300 := Nat.le_trans hi₁ (Nat.le_trans (Nat.add_le_add_right hX 463) (by decide))
  have e1 : ((b * 2 ^ i₁ : Nat) : Int) * 2 ^ (p : Int).toNat * 2 ^ ((L : Int) - 1).toNat = ((b * 2 ^ i₁ * 2 ^ p * 2 ^ (L - 1) : Nat) : Int) := by rw [castp tp, castp tl1]
  have M1 : mulOk ((b * 2 ^ i₁ : Nat) : Int) (2 ^ (p : Int).toNat) = true := mulp_ok (bu hi3) (by decide) p100
  have M2 : mulOk (((b * 2 ^ i₁ : Nat) : Int) * 2 ^ (p : Int).toNat) (2 ^ ((L : Int) - 1).toNat) = true := by
    rw [castp tp]
    exact mulp_ok (k := 3700 + 20) (pw_lt (mulp_lt p (bu hi3)) (Nat.add_le_add_left hp' 3700)) (by decide) l101
  have M3 : mulOk ((b * 2 ^ i₁ : Nat) : Int) (2 ^ (L : Int).toNat) = true := mulp_ok (bu hi3) (by decide) l100
  have M4 : mulOk ((b * 2 ^ i₁ : Nat) : Int) (2 ^ ((p : Int) - 1).toNat) = true := mulp_ok (bu hi3) (by decide) p101
  (((conv => whnf); (repeat ((first | ((with_reducible apply br_true); (· exact rfl)) | ((with_reducible apply br_false); (· exact rfl))); (conv => whnf)))); repeat' (first | ((with_reducible first | apply br_dec | apply br_beq | apply br_bne) <;> (intro _; ((conv => whnf); (repeat ((first | ((with_reducible apply br_true); (· exact rfl)) | ((with_reducible apply br_false); (· exact rfl))); (conv => whnf)))))) | ((with_reducible first | apply sd_and); ((conv => whnf); (repeat ((first | ((with_reducible apply br_true); (· exact rfl)) | ((with_reducible apply br_false); (· exact rfl))); (conv => whnf)))))))
  · rename_i hc
    rw [e1] at hc
    refine ⟨_, ?_, rfl, i₁ + L, _, _, _, ⟨rfl, ?_, ?_⟩, ?_, rfl, rfl⟩
    · exact (lp_1 (leap_1 ba hb hL (Int.ofNat_le.mp hc)) hL hL' hj).1
    · rw [castp tl, Nat.pow_add, ← Nat.mul_assoc]
    · exact lp_s
    · exact (lp_1 (leap_1 ba hb hL (Int.ofNat_le.mp hc)) hL hL' hj).2
  · exact M3
  · exact P2
  · rename_i hc
    rw [e1] at hc
    have hc' : a * 2 ^ j < b * 2 ^ i₁ * 2 ^ p * 2 ^ (L - 1) := Nat.lt_of_not_le fun z => hc (Int.ofNat_le.mpr z)
    clear hc e1 M1 M2 M3
    refine while_G (fun k ρ s'' => s'' = s' ∧ ∃ (j₁ : Nat) (t u sh : Int), Pos4 a b i₁ j₁ t u sh ∧ j₁ ≤ X + 986 ∧ k = X + 1100 - j₁ ∧ a * 2 ^ j₁ < b * 2 ^ i₁ * 2 ^ p * 2 ^ (L - 1) ∧ ρ = nE' p s t u sh L) (k₀ := X + 1100 - j) (lt_big2 hX) ⟨rfl, j, _, _, _, ⟨rfl, rfl, rfl⟩, Nat.le_trans hj (Nat.le_add_right ..), rfl, hc', rfl⟩ (fun k ρ s'' hI => ?_)
    obtain ⟨rfl, j₁, t, u, sh, ⟨rfl, rfl, rfl⟩, hj₁, rfl, hc', rfl⟩ := hI
    have hj3 : j₁ ≤ 3300 := Nat.le_trans hj₁ (Nat.le_trans (Nat.add_le_add_right hX 986) (by decide))
    (((conv => whnf); (repeat ((first | ((with_reducible apply br_true); (· exact rfl)) | ((with_reducible apply br_false); (· exact rfl))); (conv => whnf)))); repeat' (first | ((with_reducible first | apply br_dec | apply br_beq | apply br_bne) <;> (intro _; ((conv => whnf); (repeat ((first | ((with_reducible apply br_true); (· exact rfl)) | ((with_reducible apply br_false); (· exact rfl))); (conv => whnf)))))) | ((with_reducible first | apply sd_and); ((conv => whnf); (repeat ((first | ((with_reducible apply br_true); (· exact rfl)) | ((with_reducible apply br_false); (· exact rfl))); (conv => whnf)))))))
    · rename_i hd
      rw [castp tl1, castp tp1] at hd
      have hd' := Int.ofNat_lt.mp hd
      refine ⟨_, ?_, rfl, j₁ + L, _, _, _, ⟨?_, rfl, ?_⟩, ?_, rfl, leap_3 hL hp hd', rfl⟩
      · exact (lp_2 (leap_2 ha bb hd') hL hL' hi₁ hp').1
      · rw [castp tl, Nat.pow_add, ← Nat.mul_assoc]
      · exact lp_s'
      · exact (lp_2 (leap_2 ha bb hd') hL hL' hi₁ hp').2
    · exact mulp_ok (bt hj3) (by decide) l100
    · exact P2
    · rename_i hd
      rw [castp tl1, castp tp1] at hd
      exact q i₁ j₁ _ _ _ ⟨rfl, rfl, rfl⟩ (Nat.le_trans hi₁ (Nat.add_le_add_left (by decide) X)) (Nat.le_trans hj₁ (Nat.add_le_add_left (by decide) X)) ⟨hc', Nat.le_of_not_lt fun z => hd (Int.ofNat_lt.mpr z)⟩
    · exact M4
    · exact mulp_ok (bt hj3) (by decide) l101
    · exact P4
  · exact M2
  · exact P4
  · exact M1
theorem c_near {A : Int} {B : Nat} (hp : 0 < p) (hp' : p ≤ 20) (hA : A ≠ 0) (hB : 0 < B) (bA : A.natAbs < 2 ^ 400) (bB : B < 2 ^ 400) (q : ∀ (m : Nat) (e : Int), Near p A.natAbs B m e → Q (.v (.tup [.int (A.sign * m), .int e])) st) :
    CallK (R C2 T2 (n + 2) (.v (.val (.ref 770))) [.v (.int p), .v (.int A), .v (.int B)] st) Q E := by
  have ha : 0 < A.natAbs := Int.natAbs_pos.mpr hA
  refine fn_G rfl rfl ?_
  (((conv => whnf); (repeat ((first | ((with_reducible apply br_true); (· exact rfl)) | ((with_reducible apply br_false); (· exact rfl))); (conv => whnf)))); repeat' (first | ((with_reducible first | apply br_dec | apply br_beq | apply br_bne) <;> (intro _; ((conv => whnf); (repeat ((first | ((with_reducible apply br_true); (· exact rfl)) | ((with_reducible apply br_false); (· exact rfl))); (conv => whnf)))))) | ((with_reducible first | apply sd_and); ((conv => whnf); (repeat ((first | ((with_reducible apply br_true); (· exact rfl)) | ((with_reducible apply br_false); (· exact rfl))); (conv => whnf)))))))
  · rename_i h; exact absurd h hA
  · refine for_G (nI p A.natAbs B (decide (A < 0)) st) ⟨rfl, 0, 0, (if A < 0 then -A else A), (B : Int), 0, ⟨by rw [iabs]; simp, by simp, by simp⟩, .inl ⟨rfl, rfl, rfl, rfl⟩⟩ (fun ρ st' hI => ?_) fun x r ρ st' hI => ?_
    · obtain ⟨rfl, i, j, t, u, sh, ⟨rfl, rfl, rfl⟩, hI⟩ := hI
      obtain ⟨hi, hj, ⟨hi1, hi2⟩, rfl⟩ := nI_end hI
      rw [Nat.sub_self, Nat.pow_zero, Nat.mul_one] at hi1 hi2
      have hi1' : A.natAbs * 2 ^ j < 2 ^ p * (B * 2 ^ i) := by rw [Nat.mul_comm (2 ^ p)]; exact hi1
      have hi2' : 2 ^ (p - 1) * (B * 2 ^ i) ≤ A.natAbs * 2 ^ j := by rw [Nat.mul_comm]; exact hi2
      refine nr_mid (a := A.natAbs * 2 ^ j) (b := B * 2 ^ i) rfl rfl (Nat.mul_pos hB (p2 i)) (pw_lt (mulp_lt _ bB) (Nat.add_le_add_left hi 400)) hi1' (Nat.le_trans (Nat.le_mul_of_pos_right _ (p2 _)) hi2) hp' fun w c o hw => ?_
      have := q w ((i : Int) - j + c) ⟨i, j, c, hi2', hi1', hw, o, rfl⟩
      rw [sg_if hA] at this
      exact this
    · obtain ⟨rfl, i, j, t, u, sh, hpos, hI⟩ := hI
      obtain ⟨L, X, hx, hL, hL', hi, hj, hX, hput, hnext⟩ := nI_step hI
      exact ⟨_, hput, nr_loop hpos hp hp' ha hB bA bB hL hL' hi hj hX fun i j t u sh h1 h2 h3 h4 => hnext i j t u sh h1 h2 h3 h4⟩
  · exact pow_ok (sub_nn hp) (lt_t1 hp')
  · exact pow_ok (Int.natCast_nonneg p) (lt_th hp')
end






section
variable {n : Nat} {t u c m e m' e' : Int} {b b' p : Nat} {v v' : V} {a a' : Int} {k k' : Bool} {st : Sto} {E : KV} {Q : KD}
theorem c_near0 {B : Nat} (q : Q (.v (.tup [.int 0, .int 0])) st) : CallK (R C2 T2 (n + 2) (.v (.val (.ref 770))) [.v (.int p), .v (.int 0), .v (.int B)] st) Q E := by
  refine fn_G rfl rfl ?_
  (((conv => whnf); (repeat ((first | ((with_reducible apply br_true); (· exact rfl)) | ((with_reducible apply br_false); (· exact rfl))); (conv => whnf)))); repeat' (first | ((with_reducible first | apply br_dec | apply br_beq | apply br_bne) <;> (intro _; ((conv => whnf); (repeat ((first | ((with_reducible apply br_true); (· exact rfl)) | ((with_reducible apply br_false); (· exact rfl))); (conv => whnf)))))) | ((with_reducible first | apply sd_and); ((conv => whnf); (repeat ((first | ((with_reducible apply br_true); (· exact rfl)) | ((with_reducible apply br_false); (· exact rfl))); (conv => whnf)))))))
  rw [List.take_length]; exact q
theorem c_nearT {A : Int} {B : Nat} (hp : 0 < p) (hp' : p ≤ 20) (hB : 0 < B) (bA : A.natAbs < 2 ^ 400) (bB : B < 2 ^ 400) (q : ∀ m e, Rd p A B (rV m e) → Q (.v (.tup [.int m, .int e])) st) :
    CallK (R C2 T2 (n + 2) (.v (.val (.ref 770))) [.v (.int p), .v (.int A), .v (.int B)] st) Q E := by
  by_cases hA : A = 0
  · subst hA
    exact c_near0 (q _ _ (.inl ⟨rfl, rfl⟩))
  · exact c_near hp hp' hA hB bA bB fun m e h => q _ _ (.inr ⟨hA, m, e, h, rfl⟩)
theorem frT_lt {m e : Int} (h : m.natAbs < 2 ^ 21) (h' : e.natAbs ≤ 100) : (frT m e).natAbs < 2 ^ 121 := by
  rw [frT_abs]; exact pw_lt (mulp_lt _ h) (by omega)
theorem frB_lt {e : Int} (h' : e.natAbs ≤ 100) : frB e < 2 ^ 121 := by
  unfold frB; exact Nat.pow_lt_pow_right (by decide) (by omega)
theorem Nb.lt (hp' : p ≤ 20) (h : Nb p v a b k) : a.natAbs < 2 ^ 121 ∧ b < 2 ^ 121 := by
  cases h with
  | ex h1 h2 h3 h4 => exact ⟨pw_lt h1 (by decide), pw_lt h3 (by decide)⟩
  | re h1 h2 h3 => exact ⟨frT_lt (pw_lt h2 (by omega)) h3, frB_lt h3⟩
/-- what this law rounds to is what the program rounds to -/
theorem Nb.rn (hp : 0 < p) (hp' : p ≤ 20) (h : Nb p v a b k) (r : Rd p a b (rV m e)) : Rn p a b m e := by
  cases h with
  | ex h1 h2 h3 h4 =>
    have h := r
    rcases h with ⟨z, h⟩ | ⟨z, w, k, hn, h⟩
    · obtain ⟨rfl, rfl⟩ := rv_inj h
      exact ⟨r, fun _ => rfl, by simp, by simp⟩
    · obtain ⟨rfl, rfl⟩ := rv_inj h
      obtain ⟨b1, b2⟩ := near_bound h2 h1 h3 hn
      have ho := near_odd hn
      obtain ⟨w1, w2⟩ := sgn_sz (w := w) z
      refine ⟨r, fun z => ?_, ?_, by omega⟩
      · rw [z] at w1
        simp only [Int.natAbs_zero] at w1
        omega
      · rw [w1]
        exact Nat.lt_of_le_of_lt b1 (Nat.pow_lt_pow_right (by decide) (by omega))
  | @re m0 e0 h1 h2 h3 =>
    have self : Rd p (frT m0 e0) (frB e0) (rV m0 e0) := by
      rcases h1 with h1 | ⟨rfl, rfl⟩
      · exact Rd.self h1 h2
      · exact Rd.of0 rfl
    obtain ⟨rfl, rfl⟩ := rv_inj (Rd.unique hp frB_pos r self)
    refine ⟨r, ?_, pw_lt h2 (by omega), h3⟩
    intro z
    rcases h1 with h1 | ⟨rfl, rfl⟩
    · rw [z] at h1; (first | subst h1 | contradiction | (injection h1 with h1; subst h1) | cases h1)
    · rfl
noncomputable def shV : V → V
  | .inst 115 _ [x, y] => .lst [.str (Str.ofString "real"), x, y]
  | .inst 290 _ [x, y] => .lst [.str (Str.ofString "exact"), x, y]
  | x => .lst [.str (Str.ofString "exact"), x, .int 1]
theorem c_frac (hp' : p ≤ 20) (h : Nb p v a b k) (q : Q (.v (.tup [.int a, .int b])) st) : CallK (R C2 T2 (n + 2) (.v (.val (.ref 791))) [.v v] st) Q E := by
  cases h with
  | ex h1 h2 h3 h4 =>
    unfold nV
    split
    · rename_i hb
      refine fn_G rfl rfl ?_
      (((conv => whnf); (repeat ((first | ((with_reducible apply br_true); (· exact rfl)) | ((with_reducible apply br_false); (· exact rfl))); (conv => whnf)))); repeat' (first | ((with_reducible first | apply br_dec | apply br_beq | apply br_bne) <;> (intro _; ((conv => whnf); (repeat ((first | ((with_reducible apply br_true); (· exact rfl)) | ((with_reducible apply br_false); (· exact rfl))); (conv => whnf)))))) | ((with_reducible first | apply sd_and); ((conv => whnf); (repeat ((first | ((with_reducible apply br_true); (· exact rfl)) | ((with_reducible apply br_false); (· exact rfl))); (conv => whnf)))))))
      rw [List.take_length]; rw [hb] at q; exact q
    · refine fn_G rfl rfl ?_
      (((conv => whnf); (repeat ((first | ((with_reducible apply br_true); (· exact rfl)) | ((with_reducible apply br_false); (· exact rfl))); (conv => whnf)))); repeat' (first | ((with_reducible first | apply br_dec | apply br_beq | apply br_bne) <;> (intro _; ((conv => whnf); (repeat ((first | ((with_reducible apply br_true); (· exact rfl)) | ((with_reducible apply br_false); (· exact rfl))); (conv => whnf)))))) | ((with_reducible first | apply sd_and); ((conv => whnf); (repeat ((first | ((with_reducible apply br_true); (· exact rfl)) | ((with_reducible apply br_false); (· exact rfl))); (conv => whnf)))))))
      rw [List.take_length]; exact q
  | @re m e h1 h2 h3 =>
    have i2 : (Builtin.Int.intBits 2 : Int) = 2 := by decide
    refine fn_G rfl rfl ?_
    (((conv => whnf); (repeat ((first | ((with_reducible apply br_true); (· exact rfl)) | ((with_reducible apply br_false); (· exact rfl))); (conv => whnf)))); repeat' (first | ((with_reducible first | apply br_dec | apply br_beq | apply br_bne) <;> (intro _; ((conv => whnf); (repeat ((first | ((with_reducible apply br_true); (· exact rfl)) | ((with_reducible apply br_false); (· exact rfl))); (conv => whnf)))))) | ((with_reducible first | apply sd_and); ((conv => whnf); (repeat ((first | ((with_reducible apply br_true); (· exact rfl)) | ((with_reducible apply br_false); (· exact rfl))); (conv => whnf)))))))
    · rename_i he
      have : frB e = 1 := by unfold frB; rw [show (-e).toNat = 0 by omega, Nat.pow_zero]
      rw [this] at q
      rw [List.take_length]; exact q
    · refine mul_of (pw_lt h2 (by omega)) ?_
      rw [← pz]; exact sm_nat (k := 200) (Nat.pow_lt_pow_right (by decide) (by omega)) (by decide)
    · rw [i2]; omega
    · rename_i he
      have e1 : frT m e = m := by unfold frT; rw [show e.toNat = 0 by omega, Int.pow_zero, Int.mul_one]
      have e2 : ((frB e : Nat) : Int) = 2 ^ (0 - e).toNat := by unfold frB; rw [pz]; congr 1; omega
      rw [e1, e2] at q
      rw [List.take_length]; exact q
    · rw [i2]; omega
theorem c_shownE {b : Int} (q : Q (.v (.lst [.str (Str.ofString "exact"), .int t, .int b])) st) : CallK (R C2 T2 (n + 2) (.v (.val (.ref 798))) [.v (nV t b)] st) Q E := by
  unfold nV
  split
  · rename_i hb
    refine fn_G rfl rfl ?_
    (((conv => whnf); (repeat ((first | ((with_reducible apply br_true); (· exact rfl)) | ((with_reducible apply br_false); (· exact rfl))); (conv => whnf)))); repeat' (first | ((with_reducible first | apply br_dec | apply br_beq | apply br_bne) <;> (intro _; ((conv => whnf); (repeat ((first | ((with_reducible apply br_true); (· exact rfl)) | ((with_reducible apply br_false); (· exact rfl))); (conv => whnf)))))) | ((with_reducible first | apply sd_and); ((conv => whnf); (repeat ((first | ((with_reducible apply br_true); (· exact rfl)) | ((with_reducible apply br_false); (· exact rfl))); (conv => whnf)))))))
    rw [List.take_length]; rw [hb] at q; exact q
  · refine fn_G rfl rfl ?_
    (((conv => whnf); (repeat ((first | ((with_reducible apply br_true); (· exact rfl)) | ((with_reducible apply br_false); (· exact rfl))); (conv => whnf)))); repeat' (first | ((with_reducible first | apply br_dec | apply br_beq | apply br_bne) <;> (intro _; ((conv => whnf); (repeat ((first | ((with_reducible apply br_true); (· exact rfl)) | ((with_reducible apply br_false); (· exact rfl))); (conv => whnf)))))) | ((with_reducible first | apply sd_and); ((conv => whnf); (repeat ((first | ((with_reducible apply br_true); (· exact rfl)) | ((with_reducible apply br_false); (· exact rfl))); (conv => whnf)))))))
    rw [List.take_length]; exact q
theorem c_shownR (q : Q (.v (.lst [.str (Str.ofString "real"), .int m, .int e])) st) : CallK (R C2 T2 (n + 2) (.v (.val (.ref 798))) [.v (rV m e)] st) Q E := by
  refine fn_G rfl rfl ?_
  (((conv => whnf); (repeat ((first | ((with_reducible apply br_true); (· exact rfl)) | ((with_reducible apply br_false); (· exact rfl))); (conv => whnf)))); repeat' (first | ((with_reducible first | apply br_dec | apply br_beq | apply br_bne) <;> (intro _; ((conv => whnf); (repeat ((first | ((with_reducible apply br_true); (· exact rfl)) | ((with_reducible apply br_false); (· exact rfl))); (conv => whnf)))))) | ((with_reducible first | apply sd_and); ((conv => whnf); (repeat ((first | ((with_reducible apply br_true); (· exact rfl)) | ((with_reducible apply br_false); (· exact rfl))); (conv => whnf)))))))
  rw [List.take_length]; exact q
theorem c_roundL (hp : 0 < p) (hp' : p ≤ 20) (h : Nb p v a b k) (q : ∀ m e, Rn p a b m e → Q (.v (.tup [.int (frT m e), .int (frB e)])) st) :
    CallK (R C2 T2 (n + 3) (.v (.val (.ref 805))) [.v (.int p), .v (.tup [.int a, .int b])] st) Q E := by
  obtain ⟨l1, l2⟩ := h.lt hp'
  have i2 : (Builtin.Int.intBits 2 : Int) = 2 := by decide
  refine fn_G rfl rfl ?_
  (((conv => whnf); (repeat ((first | ((with_reducible apply br_true); (· exact rfl)) | ((with_reducible apply br_false); (· exact rfl))); (conv => whnf)))); repeat' (first | ((with_reducible first | apply br_dec | apply br_beq | apply br_bne) <;> (intro _; ((conv => whnf); (repeat ((first | ((with_reducible apply br_true); (· exact rfl)) | ((with_reducible apply br_false); (· exact rfl))); (conv => whnf)))))) | ((with_reducible first | apply sd_and); ((conv => whnf); (repeat ((first | ((with_reducible apply br_true); (· exact rfl)) | ((with_reducible apply br_false); (· exact rfl))); (conv => whnf)))))))
  refine c_nearT hp hp' h.b0 (pw_lt l1 (by decide)) (pw_lt l2 (by decide)) fun m e r => ?_
  have r := h.rn hp hp' r
  have b1 := r.2.2.1
  have b2 := r.2.2.2
  have q := q m e r
  (((conv => whnf); (repeat ((first | ((with_reducible apply br_true); (· exact rfl)) | ((with_reducible apply br_false); (· exact rfl))); (conv => whnf)))); repeat' (first | ((with_reducible first | apply br_dec | apply br_beq | apply br_bne) <;> (intro _; ((conv => whnf); (repeat ((first | ((with_reducible apply br_true); (· exact rfl)) | ((with_reducible apply br_false); (· exact rfl))); (conv => whnf)))))) | ((with_reducible first | apply sd_and); ((conv => whnf); (repeat ((first | ((with_reducible apply br_true); (· exact rfl)) | ((with_reducible apply br_false); (· exact rfl))); (conv => whnf)))))))
  · rename_i he
    have : frB e = 1 := by unfold frB; rw [show (-e).toNat = 0 by omega, Nat.pow_zero]
    rw [this] at q
    rw [List.take_length]; exact q
  · refine mul_of (pw_lt b1 (by decide)) ?_
    rw [← pz]; exact sm_nat (k := 200) (Nat.pow_lt_pow_right (by decide) (by omega)) (by decide)
  · rw [i2]; omega
  · rename_i he
    have e1 : frT m e = m := by unfold frT; rw [show e.toNat = 0 by omega, Int.pow_zero, Int.mul_one]
    have e2 : ((frB e : Nat) : Int) = 2 ^ (0 - e).toNat := by unfold frB; rw [pz]; congr 1; omega
    rw [e1, e2] at q
    rw [List.take_length]; exact q
  · rw [i2]; omega
end






noncomputable def wd : Op4 → Str
  | .add => Str.ofString "+"
  | .sub => Str.ofString "-"
  | .mul => Str.ofString "*"
  | .div => Str.ofString "/"
theorem strs_of {x y : Str} (hx : PyData.strOk x = true) (hy : PyData.strOk y = true) : strsOk x y = true := by simp [strsOk, SeqAt.shaped, PyData.canLay0, PyData.depth, hx, hy]
theorem sok1 : PyData.strOk (Str.ofString "+") = true := by kernel_rfl
theorem sok2 : PyData.strOk (Str.ofString "-") = true := by kernel_rfl
theorem sok3 : PyData.strOk (Str.ofString "*") = true := by kernel_rfl
theorem sok4 : PyData.strOk (Str.ofString "/") = true := by kernel_rfl
theorem sok_wd (o : Op4) : PyData.strOk (wd o) = true := by
  cases o
  · exact sok1
  · exact sok2
  · exact sok3
  · exact sok4
theorem strsW (o o' : Op4) : strsOk (wd o) (wd o') = true := strs_of (sok_wd o) (sok_wd o')
theorem Lw.le {A B T D : Int} (hB : 0 < B) (h : Lw A B T D) : T.natAbs ≤ A.natAbs ∧ D ≤ B := by
  have d0 := h.d0
  have k : Nat.Coprime T.natAbs D.natAbs := h.g
  have e : T.natAbs * B.natAbs = A.natAbs * D.natAbs := by rw [← Int.natAbs_mul, h.v, Int.natAbs_mul]
  refine ⟨?_, ?_⟩
  · by_cases hA : A = 0
    · rw [hA, Int.natAbs_zero, Nat.zero_mul] at e
      rcases Nat.mul_eq_zero.mp e with z | z <;> omega
    · exact Nat.le_of_dvd (by omega) (k.dvd_of_dvd_mul_right ⟨_, e.symm⟩)
  · have : D.natAbs ≤ B.natAbs := Nat.le_of_dvd (by omega) (k.symm.dvd_of_dvd_mul_left ⟨A.natAbs, by rw [e, Nat.mul_comm]⟩)
    omega
theorem sgn_le {A B : Int} : (A * B.sign).natAbs ≤ A.natAbs := by
  rw [Int.natAbs_mul]
  have : B.sign.natAbs ≤ 1 := by rcases Int.lt_trichotomy B 0 with h | h | h <;> simp [Int.sign_eq_neg_one_of_neg, Int.sign_eq_one_of_pos, h]
  calc A.natAbs * B.sign.natAbs ≤ A.natAbs * 1 := Nat.mul_le_mul_left _ this
    _ = _ := Nat.mul_one _
theorem sz_ml {x y : Int} (hx : x.natAbs < 2 ^ 121) (hy : y.natAbs < 2 ^ 121) : (x * y).natAbs < 2 ^ 242 := by
  rw [Int.natAbs_mul]; exact pw_lt (mul_lt_pow hx hy) (by decide)
theorem sz_ad {x y : Int} (hx : x.natAbs < 2 ^ 242) (hy : y.natAbs < 2 ^ 242) : (x + y).natAbs < 2 ^ 300 ∧ (x - y).natAbs < 2 ^ 300 := by
  have : (2 : Nat) ^ 242 + 2 ^ 242 = 2 ^ 243 := by rw [← Nat.two_mul, ← Nat.pow_succ']
  exact ⟨pw_lt (k := 243) (by omega) (by decide), pw_lt (k := 243) (by omega) (by decide)⟩
theorem ar_lt {o : Op4} {a a' : Int} {b b' : Nat} (h1 : a.natAbs < 2 ^ 121) (h2 : b < 2 ^ 121) (h3 : a'.natAbs < 2 ^ 121) (h4 : b' < 2 ^ 121) : (Ar o a b a' b').1.natAbs < 2 ^ 300 ∧ (Ar o a b a' b').2.natAbs < 2 ^ 300 := by
  have h2 : (b : Int).natAbs < 2 ^ 121 := by rw [Int.natAbs_natCast]; exact h2
  have h4 : (b' : Int).natAbs < 2 ^ 121 := by rw [Int.natAbs_natCast]; exact h4
  have up : ∀ {x : Nat}, x < 2 ^ 242 → x < 2 ^ 300 := fun h => pw_lt h (by decide)
  cases o
  · exact ⟨(sz_ad (sz_ml h1 h4) (sz_ml h3 h2)).1, up (sz_ml h2 h4)⟩
  · exact ⟨(sz_ad (sz_ml h1 h4) (sz_ml h3 h2)).2, up (sz_ml h2 h4)⟩
  · exact ⟨up (sz_ml h1 h3), up (sz_ml h2 h4)⟩
  · exact ⟨up (sz_ml h1 h4), up (sz_ml h2 h3)⟩
theorem ar_ne {o : Op4} {a a' : Int} {b b' : Nat} (hb : 0 < b) (hb' : 0 < b') (h : o = .div → a' ≠ 0) : (Ar o a b a' b').2 ≠ 0 := by
  have h1 : (b : Int) * b' ≠ 0 := Int.mul_ne_zero (by omega) (by omega)
  cases o
  · exact h1
  · exact h1
  · exact h1
  · exact Int.mul_ne_zero (by omega) (h rfl)
theorem s300 {x : Int} (h : x.natAbs < 2 ^ 300) : Sm x := pw_lt h (by decide)
theorem s121 {x : Int} (h : x.natAbs < 2 ^ 121) : Sm x := pw_lt h (by decide)
theorem s121n {x : Nat} (h : x < 2 ^ 121) : Sm (x : Int) := by unfold Sm; rw [Int.natAbs_natCast]; exact pw_lt h (by decide)

section
variable {n : Nat} {t u c m e m' e' : Int} {b b' p : Nat} {v v' : V} {a a' : Int} {k k' : Bool} {st : Sto} {E : KV} {Q : KD}
theorem Nb.isi (h : Nb p v a b k) : isiV T2 v (.ref 115) = some k := by
  cases h with
  | ex h1 h2 h3 h4 => unfold nV; split <;> rfl
  | re h1 h2 h3 => rfl
/-- the end of what is due -/
theorem low_near {x : Int × Int} (h1 : x.1.natAbs < 2 ^ 300) (h2 : x.2.natAbs < 2 ^ 300) (h0 : x.2 ≠ 0)
    (q : ∀ T D, Lw' x T D → Q (.v (.tup [.int T, .int D])) st) : CallK (R C2 T2 (n + 2) (.v (.val (.ref 763))) [.v (.int x.1), .v (.int x.2)] st) Q E :=
  c_low h0 (s300 h1) (s300 h2) q
theorem near_end (hp : 0 < p) (hp' : p ≤ 20) {x : Int × Int} {T D : Int} (h1 : x.1.natAbs < 2 ^ 300) (h2 : x.2.natAbs < 2 ^ 300) (h0 : x.2 ≠ 0) (L : Lw' x T D)
    (q : ∀ m e, Rd' p x (rV m e) → Q (.v (.tup [.int m, .int e])) st) : CallK (R C2 T2 (n + 2) (.v (.val (.ref 770))) [.v (.int p), .v (.int T), .v (.int D)] st) Q E := by
  have hB : 0 < (x.2.natAbs : Int) := by omega
  obtain ⟨l1, l2⟩ := Lw.le hB L
  have d0 := L.d0
  have hD : D = (D.toNat : Int) := by omega
  have t1 : T.natAbs < 2 ^ 300 := Nat.lt_of_le_of_lt l1 (Nat.lt_of_le_of_lt sgn_le h1)
  have t2 : D.toNat < 2 ^ 300 := by omega
  have v := L.v
  rw [hD] at v ⊢
  refine c_nearT hp hp' (by omega) (pw_lt t1 (by decide)) (pw_lt t2 (by decide)) fun m e r => q m e ?_
  exact Rd.congr (by omega) (by omega) v r
theorem Dw.real (hk : (k || k') = true) {o : Op4} {w : V} (r : Rn p a b m e) (r' : Rn p a' b' m' e') (R : Rd' p (Ar o (frT m e) (frB e) (frT m' e') (frB e')) w) : Dw p o a b k a' b' k' w := by
  unfold Dw
  rw [if_pos hk]
  exact ⟨m, e, m', e', r, r', R⟩
theorem shV_nV {t b : Int} : shV (nV t b) = .lst [.str (Str.ofString "exact"), .int t, .int b] := by
  unfold nV
  split
  · rename_i h; subst h; rfl
  · rfl
/-- the environment of what is due, both shown as fractions -/
noncomputable def dE (p : Nat) (o : Op4) (v v' : V) (a b a' b' : Int) (k : Bool) : En :=
  [(Str.ofString "bits", .v (.int p)), (Str.ofString "word", .v (.str (wd o))), (Str.ofString "one", .v v), (Str.ofString "other", .v v'), (Str.ofString "left", .v (.tup [.int a, .int b])), (Str.ofString "right", .v (.tup [.int a', .int b'])), (Str.ofString "has_real", .v (.bool k))]
noncomputable def dE2 (p : Nat) (o : Op4) (v v' : V) (a b a' b' : Int) (k : Bool) (T D : Int) : En := dE p o v v' a b a' b' k ++ [(Str.ofString "top", .v (.int T)), (Str.ofString "bottom", .v (.int D))]
/-- lowest terms, and rounded if one is inexact -/
theorem due_end {N : Nat} {o : Op4} {w w' : V} {c d c' d' : Int} {x : Int × Int} {kk : Bool} (hp : 0 < p) (hp' : p ≤ 20) (h1 : x.1.natAbs < 2 ^ 300) (h2 : x.2.natAbs < 2 ^ 300) (h0 : x.2 ≠ 0)
    (q : ∀ T D, Lw' x T D → kk = false → Q (.v (shV (nV T D))) st) (q' : ∀ m e, kk = true → Rd' p x (rV m e) → Q (.v (shV (rV m e))) st) :
    go C2 T2 (n + 2) (fi 72).sc (endK st.length Q) (N + 500) [.sts 64 ((fi 72).body.drop 5)] [] (dE2 p o w w' c d c' d' kk x.1 x.2) st E := by
  (((conv => whnf); (repeat ((first | ((with_reducible apply br_true); (· exact rfl)) | ((with_reducible apply br_false); (· exact rfl))); (conv => whnf)))); repeat' (first | ((with_reducible first | apply br_dec | apply br_beq | apply br_bne) <;> (intro _; ((conv => whnf); (repeat ((first | ((with_reducible apply br_true); (· exact rfl)) | ((with_reducible apply br_false); (· exact rfl))); (conv => whnf)))))) | ((with_reducible first | apply sd_and); ((conv => whnf); (repeat ((first | ((with_reducible apply br_true); (· exact rfl)) | ((with_reducible apply br_false); (· exact rfl))); (conv => whnf)))))))
  refine low_near h1 h2 h0 fun T D L => ?_
  cases kk with
  | true =>
    (((conv => whnf); (repeat ((first | ((with_reducible apply br_true); (· exact rfl)) | ((with_reducible apply br_false); (· exact rfl))); (conv => whnf)))); repeat' (first | ((with_reducible first | apply br_dec | apply br_beq | apply br_bne) <;> (intro _; ((conv => whnf); (repeat ((first | ((with_reducible apply br_true); (· exact rfl)) | ((with_reducible apply br_false); (· exact rfl))); (conv => whnf)))))) | ((with_reducible first | apply sd_and); ((conv => whnf); (repeat ((first | ((with_reducible apply br_true); (· exact rfl)) | ((with_reducible apply br_false); (· exact rfl))); (conv => whnf)))))))
    refine near_end hp hp' h1 h2 h0 L fun M K R => ?_
    (((conv => whnf); (repeat ((first | ((with_reducible apply br_true); (· exact rfl)) | ((with_reducible apply br_false); (· exact rfl))); (conv => whnf)))); repeat' (first | ((with_reducible first | apply br_dec | apply br_beq | apply br_bne) <;> (intro _; ((conv => whnf); (repeat ((first | ((with_reducible apply br_true); (· exact rfl)) | ((with_reducible apply br_false); (· exact rfl))); (conv => whnf)))))) | ((with_reducible first | apply sd_and); ((conv => whnf); (repeat ((first | ((with_reducible apply br_true); (· exact rfl)) | ((with_reducible apply br_false); (· exact rfl))); (conv => whnf)))))))
    exact take_v (q' M K rfl R)
  | false =>
    (((conv => whnf); (repeat ((first | ((with_reducible apply br_true); (· exact rfl)) | ((with_reducible apply br_false); (· exact rfl))); (conv => whnf)))); repeat' (first | ((with_reducible first | apply br_dec | apply br_beq | apply br_bne) <;> (intro _; ((conv => whnf); (repeat ((first | ((with_reducible apply br_true); (· exact rfl)) | ((with_reducible apply br_false); (· exact rfl))); (conv => whnf)))))) | ((with_reducible first | apply sd_and); ((conv => whnf); (repeat ((first | ((with_reducible apply br_true); (· exact rfl)) | ((with_reducible apply br_false); (· exact rfl))); (conv => whnf)))))))
    have := q T D L rfl
    rw [shV_nV] at this
    exact take_v this
/-- the word's own step -/
theorem due_op {N : Nat} {o : Op4} {w w' : V} {c c' : Int} {d d' : Nat} {kk : Bool} (hp : 0 < p) (hp' : p ≤ 20) (h1 : c.natAbs < 2 ^ 121) (h2 : d < 2 ^ 121) (h3 : c'.natAbs < 2 ^ 121) (h4 : d' < 2 ^ 121) (d0 : 0 < d) (d0' : 0 < d') (hz : o = .div → c' ≠ 0)
    (q : ∀ T D, Lw' (Ar o c d c' d') T D → kk = false → Q (.v (shV (nV T D))) st) (q' : ∀ m e, kk = true → Rd' p (Ar o c d c' d') (rV m e) → Q (.v (shV (rV m e))) st) :
    go C2 T2 (n + 2) (fi 72).sc (endK st.length Q) (N + 1200) [.sts 64 ((fi 72).body.drop 4)] [] (dE p o w w' c d c' d' kk) st E := by
  have A := ar_lt (o := o) h1 h2 h3 h4
  have Z := ar_ne (a := c) d0 d0' hz
  have S1 := s121 h1
  have S2 := s121n h2
  have S3 := s121 h3
  have S4 := s121n h4
  cases o
  all_goals
    (((conv => whnf); (repeat ((first | ((with_reducible apply br_true); (· exact rfl)) | ((with_reducible apply br_false); (· exact rfl))); (conv => whnf)))); repeat' (first | ((with_reducible first | apply br_dec | apply br_beq | apply br_bne) <;> (intro _; ((conv => whnf); (repeat ((first | ((with_reducible apply br_true); (· exact rfl)) | ((with_reducible apply br_false); (· exact rfl))); (conv => whnf)))))) | ((with_reducible first | apply sd_and); ((conv => whnf); (repeat ((first | ((with_reducible apply br_true); (· exact rfl)) | ((with_reducible apply br_false); (· exact rfl))); (conv => whnf)))))))
    · exact due_end hp hp' A.1 A.2 Z q q'
    all_goals first | exact mul_of S1 S4 | exact mul_of S2 S4 | exact mul_of S1 S3 | exact mul_of S3 S2 | exact mul_of S2 S3 | exact strsW _ .add | exact strsW _ .sub | exact strsW _ .mul | exact strsW _ .div
/-- both rounded, if one is inexact -/
theorem due_mid {N : Nat} {kk : Bool} {o : Op4} (hkk : kk = (k || k')) (hp : 0 < p) (hp' : p ≤ 20) (h : Nb p v a b k) (h' : Nb p v' a' b' k') (hz : o = .div → a' ≠ 0)
    (q : ∀ w, Dw p o a b k a' b' k' w → Q (.v (shV w)) st) :
    go C2 T2 (n + 2) (fi 72).sc (endK st.length Q) (N + 1500) [.sts 64 ((fi 72).body.drop 3)] [] (dE p o v v' a b a' b' kk) st E := by
  obtain ⟨lh1, lh2⟩ := h.lt hp'
  obtain ⟨lh3, lh4⟩ := h'.lt hp'
  cases kk with
  | true =>
    (((conv => whnf); (repeat ((first | ((with_reducible apply br_true); (· exact rfl)) | ((with_reducible apply br_false); (· exact rfl))); (conv => whnf)))); repeat' (first | ((with_reducible first | apply br_dec | apply br_beq | apply br_bne) <;> (intro _; ((conv => whnf); (repeat ((first | ((with_reducible apply br_true); (· exact rfl)) | ((with_reducible apply br_false); (· exact rfl))); (conv => whnf)))))) | ((with_reducible first | apply sd_and); ((conv => whnf); (repeat ((first | ((with_reducible apply br_true); (· exact rfl)) | ((with_reducible apply br_false); (· exact rfl))); (conv => whnf)))))))
    refine c_roundL hp hp' h fun m e r => ?_
    (((conv => whnf); (repeat ((first | ((with_reducible apply br_true); (· exact rfl)) | ((with_reducible apply br_false); (· exact rfl))); (conv => whnf)))); repeat' (first | ((with_reducible first | apply br_dec | apply br_beq | apply br_bne) <;> (intro _; ((conv => whnf); (repeat ((first | ((with_reducible apply br_true); (· exact rfl)) | ((with_reducible apply br_false); (· exact rfl))); (conv => whnf)))))) | ((with_reducible first | apply sd_and); ((conv => whnf); (repeat ((first | ((with_reducible apply br_true); (· exact rfl)) | ((with_reducible apply br_false); (· exact rfl))); (conv => whnf)))))))
    refine c_roundL hp hp' h' fun m' e' r' => ?_
    (((conv => whnf); (repeat ((first | ((with_reducible apply br_true); (· exact rfl)) | ((with_reducible apply br_false); (· exact rfl))); (conv => whnf)))))
    exact due_op (kk := true) hp hp' (frT_lt r.2.2.1 r.2.2.2) (frB_lt r.2.2.2) (frT_lt r'.2.2.1 r'.2.2.2) (frB_lt r'.2.2.2) frB_pos frB_pos (fun ho z => r'.ne (hz ho) (frT_zero z)) (fun _ _ _ z => nomatch z) fun M K _ R => q (rV M K) (Dw.real hkk.symm r r' R)
  | false =>
    (((conv => whnf); (repeat ((first | ((with_reducible apply br_true); (· exact rfl)) | ((with_reducible apply br_false); (· exact rfl))); (conv => whnf)))))
    exact due_op (kk := false) hp hp' lh1 lh2 lh3 lh4 h.b0 h'.b0 hz (fun T D L _ => q (nV T D) (by unfold Dw; rw [← hkk]; exact ⟨T, D, L, rfl⟩)) fun _ _ z => nomatch z
theorem due_hd {N : Nat} {kk : Bool} {o : Op4} (hkk : kk = (k || k')) (hp : 0 < p) (hp' : p ≤ 20) (h : Nb p v a b k) (h' : Nb p v' a' b' k')
    (q0 : o = .div → a' = 0 → Q (.v (.lst [.str (Str.ofString "refused"), .str (Str.ofString "law")])) st)
    (q : (o = .div → a' ≠ 0) → ∀ w, Dw p o a b k a' b' k' w → Q (.v (shV w)) st) :
    go C2 T2 (n + 2) (fi 72).sc (endK st.length Q) (N + 1700) [.sts 64 ((fi 72).body.drop 2)] [] (dE p o v v' a b a' b' kk) st E := by
  cases o with
  | div =>
    (((conv => whnf); (repeat ((first | ((with_reducible apply br_true); (· exact rfl)) | ((with_reducible apply br_false); (· exact rfl))); (conv => whnf)))))
    refine sd_and ?_ (strsW .div .div)
    (((conv => whnf); (repeat ((first | ((with_reducible apply br_true); (· exact rfl)) | ((with_reducible apply br_false); (· exact rfl))); (conv => whnf)))))
    refine br_beq (fun hz => ?_) (fun hz => ?_)
    · (((conv => whnf); (repeat ((first | ((with_reducible apply br_true); (· exact rfl)) | ((with_reducible apply br_false); (· exact rfl))); (conv => whnf)))); repeat' (first | ((with_reducible first | apply br_dec | apply br_beq | apply br_bne) <;> (intro _; ((conv => whnf); (repeat ((first | ((with_reducible apply br_true); (· exact rfl)) | ((with_reducible apply br_false); (· exact rfl))); (conv => whnf)))))) | ((with_reducible first | apply sd_and); ((conv => whnf); (repeat ((first | ((with_reducible apply br_true); (· exact rfl)) | ((with_reducible apply br_false); (· exact rfl))); (conv => whnf)))))))
      exact take_v (q0 rfl hz)
    · (((conv => whnf); (repeat ((first | ((with_reducible apply br_true); (· exact rfl)) | ((with_reducible apply br_false); (· exact rfl))); (conv => whnf)))))
      exact due_mid hkk hp hp' h h' (fun _ => hz) (q fun _ => hz)
  | _ =>
    (((conv => whnf); (repeat ((first | ((with_reducible apply br_true); (· exact rfl)) | ((with_reducible apply br_false); (· exact rfl))); (conv => whnf)))))
    refine sd_and ?_ (strsW _ .div)
    (((conv => whnf); (repeat ((first | ((with_reducible apply br_true); (· exact rfl)) | ((with_reducible apply br_false); (· exact rfl))); (conv => whnf)))))
    exact due_mid hkk hp hp' h h' (fun z => by cases z) (q fun z => by cases z)
theorem c_due (hp : 0 < p) (hp' : p ≤ 20) (h : Nb p v a b k) (h' : Nb p v' a' b' k') (o : Op4)
    (q0 : o = .div → a' = 0 → Q (.v (.lst [.str (Str.ofString "refused"), .str (Str.ofString "law")])) st)
    (q : (o = .div → a' ≠ 0) → ∀ w, Dw p o a b k a' b' k' w → Q (.v (shV w)) st) :
   CallK (R C2 T2 (n + 4) (.v (.val (.ref 812))) [.v (.int p), .v (.str (wd o)), .v v, .v v'] st) Q E := by
  have i1 := h.isi
  have i2 := h'.isi
  refine fn_G rfl rfl ?_
  (((conv => whnf); (repeat ((first | ((with_reducible apply br_true); (· exact rfl)) | ((with_reducible apply br_false); (· exact rfl))); (conv => whnf)))); repeat' (first | ((with_reducible first | apply br_dec | apply br_beq | apply br_bne) <;> (intro _; ((conv => whnf); (repeat ((first | ((with_reducible apply br_true); (· exact rfl)) | ((with_reducible apply br_false); (· exact rfl))); (conv => whnf)))))) | ((with_reducible first | apply sd_and); ((conv => whnf); (repeat ((first | ((with_reducible apply br_true); (· exact rfl)) | ((with_reducible apply br_false); (· exact rfl))); (conv => whnf)))))))
  refine c_frac hp' h ?_
  (((conv => whnf); (repeat ((first | ((with_reducible apply br_true); (· exact rfl)) | ((with_reducible apply br_false); (· exact rfl))); (conv => whnf)))); repeat' (first | ((with_reducible first | apply br_dec | apply br_beq | apply br_bne) <;> (intro _; ((conv => whnf); (repeat ((first | ((with_reducible apply br_true); (· exact rfl)) | ((with_reducible apply br_false); (· exact rfl))); (conv => whnf)))))) | ((with_reducible first | apply sd_and); ((conv => whnf); (repeat ((first | ((with_reducible apply br_true); (· exact rfl)) | ((with_reducible apply br_false); (· exact rfl))); (conv => whnf)))))))
  refine c_frac hp' h' ?_
  (((conv => whnf); (repeat ((first | ((with_reducible apply br_true); (· exact rfl)) | ((with_reducible apply br_false); (· exact rfl))); (conv => whnf)))); repeat' (first | ((with_reducible first | apply br_dec | apply br_beq | apply br_bne) <;> (intro _; ((conv => whnf); (repeat ((first | ((with_reducible apply br_true); (· exact rfl)) | ((with_reducible apply br_false); (· exact rfl))); (conv => whnf)))))) | ((with_reducible first | apply sd_and); ((conv => whnf); (repeat ((first | ((with_reducible apply br_true); (· exact rfl)) | ((with_reducible apply br_false); (· exact rfl))); (conv => whnf)))))))
  rw [i1]
  cases k with
  | true =>
    (((conv => whnf); (repeat ((first | ((with_reducible apply br_true); (· exact rfl)) | ((with_reducible apply br_false); (· exact rfl))); (conv => whnf)))))
    exact due_hd (kk := true) rfl hp hp' h h' q0 q
  | false =>
    (((conv => whnf); (repeat ((first | ((with_reducible apply br_true); (· exact rfl)) | ((with_reducible apply br_false); (· exact rfl))); (conv => whnf)))); repeat' (first | ((with_reducible first | apply br_dec | apply br_beq | apply br_bne) <;> (intro _; ((conv => whnf); (repeat ((first | ((with_reducible apply br_true); (· exact rfl)) | ((with_reducible apply br_false); (· exact rfl))); (conv => whnf)))))) | ((with_reducible first | apply sd_and); ((conv => whnf); (repeat ((first | ((with_reducible apply br_true); (· exact rfl)) | ((with_reducible apply br_false); (· exact rfl))); (conv => whnf)))))))
    rw [i2]
    (((conv => whnf); (repeat ((first | ((with_reducible apply br_true); (· exact rfl)) | ((with_reducible apply br_false); (· exact rfl))); (conv => whnf)))))
    exact due_hd (kk := k') rfl hp hp' h h' q0 q
end






section
variable {n : Nat} {t u c m e m' e' : Int} {b b' p : Nat} {v v' : V} {a a' : Int} {k k' : Bool} {st : Sto} {E : KV} {Q : KD}
theorem Dw.form {o : Op4} {w : V} (d : Dw p o a b k a' b' k' w) : (∃ T D, w = nV T D) ∨ ∃ m e, w = rV m e := by
  unfold Dw at d
  split at d
  · obtain ⟨m, e, m', e', r, r', R⟩ := d
    unfold Rd' Rd at R
    rcases R with ⟨_, h⟩ | ⟨_, w', k', _, h⟩
    · exact .inr ⟨_, _, h⟩
    · exact .inr ⟨_, _, h⟩
  · obtain ⟨T, D, _, h⟩ := d
    exact .inl ⟨T, D, h⟩
theorem Dw.unique (hp : 0 < p) (hb : 0 < b) (hb' : 0 < b') {o : Op4} (h0 : o = .div → a' ≠ 0) {w w' : V} (d : Dw p o a b k a' b' k' w) (d' : Dw p o a b k a' b' k' w') : w = w' := by
  unfold Dw at d d'
  split at d
  · rename_i hk
    rw [if_pos hk] at d'
    obtain ⟨m, e, m', e', r, r', R⟩ := d
    obtain ⟨m1, e1, m1', e1', r1, r1', R1⟩ := d'
    obtain ⟨rfl, rfl⟩ := Rn.unique hp hb r r1
    obtain ⟨rfl, rfl⟩ := Rn.unique hp hb' r' r1'
    have hne : (Ar o (frT m e) (frB e) (frT m' e') (frB e')).2 ≠ 0 := ar_ne frB_pos frB_pos (fun h z => r'.ne (h0 h) (frT_zero z))
    exact Rd.unique hp (by omega) R R1
  · rename_i hk
    rw [if_neg hk] at d'
    obtain ⟨T, D, L, rfl⟩ := d
    obtain ⟨T', D', L', rfl⟩ := d'
    have hne : (Ar o a b a' b').2 ≠ 0 := ar_ne hb hb' h0
    obtain ⟨rfl, rfl⟩ := Lw.unique (by omega) L L'
    rfl
theorem c_shown {o : Op4} {w : V} (d : Dw p o a b k a' b' k' w) (q : Q (.v (shV w)) st) : CallK (R C2 T2 (n + 2) (.v (.val (.ref 798))) [.v w] st) Q E := by
  rcases d.form with ⟨T, D, rfl⟩ | ⟨m, e, rfl⟩
  · rw [shV_nV] at q
    exact c_shownE q
  · exact c_shownR q
theorem c_told (hp : 0 < p) (hp' : p ≤ 20) (h : Nb p v a b k) (h' : Nb p v' a' b' k') (o : Op4)
    (q0 : o = .div → a' = 0 → Q (.v (.lst [.str (Str.ofString "refused"), .str (Str.ofString "law")])) st)
    (q : (o = .div → a' ≠ 0) → ∀ w, Dw p o a b k a' b' k' w → Q (.v (shV w)) st) :
   CallK (R C2 T2 (n + 9) (.v (.val (.ref 819))) [.v (tw p), .v (.str (wd o)), .v v, .v v'] st) Q E := by
  induction o using Mine.Op4.casesOn with
  | add =>
    refine fn_G rfl rfl ?_
    (((conv => whnf); (repeat ((first | ((with_reducible apply br_true); (· exact rfl)) | ((with_reducible apply br_false); (· exact rfl))); (conv => whnf)))); repeat' (first | ((with_reducible first | apply br_dec | apply br_beq | apply br_bne) <;> (intro _; ((conv => whnf); (repeat ((first | ((with_reducible apply br_true); (· exact rfl)) | ((with_reducible apply br_false); (· exact rfl))); (conv => whnf)))))) | ((with_reducible first | apply sd_and); ((conv => whnf); (repeat ((first | ((with_reducible apply br_true); (· exact rfl)) | ((with_reducible apply br_false); (· exact rfl))); (conv => whnf)))))))
    · refine c_twadd hp hp' h h' fun w d => ?_
      (((conv => whnf); (repeat ((first | ((with_reducible apply br_true); (· exact rfl)) | ((with_reducible apply br_false); (· exact rfl))); (conv => whnf)))); repeat' (first | ((with_reducible first | apply br_dec | apply br_beq | apply br_bne) <;> (intro _; ((conv => whnf); (repeat ((first | ((with_reducible apply br_true); (· exact rfl)) | ((with_reducible apply br_false); (· exact rfl))); (conv => whnf)))))) | ((with_reducible first | apply sd_and); ((conv => whnf); (repeat ((first | ((with_reducible apply br_true); (· exact rfl)) | ((with_reducible apply br_false); (· exact rfl))); (conv => whnf)))))))
      refine c_shown d ?_
      (((conv => whnf); (repeat ((first | ((with_reducible apply br_true); (· exact rfl)) | ((with_reducible apply br_false); (· exact rfl))); (conv => whnf)))); repeat' (first | ((with_reducible first | apply br_dec | apply br_beq | apply br_bne) <;> (intro _; ((conv => whnf); (repeat ((first | ((with_reducible apply br_true); (· exact rfl)) | ((with_reducible apply br_false); (· exact rfl))); (conv => whnf)))))) | ((with_reducible first | apply sd_and); ((conv => whnf); (repeat ((first | ((with_reducible apply br_true); (· exact rfl)) | ((with_reducible apply br_false); (· exact rfl))); (conv => whnf)))))))
      rw [List.take_length]; exact q (fun h => by (first | subst h | contradiction | (injection h with h; subst h) | cases h)) w d
    all_goals first | exact strsW _ .add | exact strsW _ .sub | exact strsW _ .mul | exact strsW _ .div
  | sub =>
    refine fn_G rfl rfl ?_
    (((conv => whnf); (repeat ((first | ((with_reducible apply br_true); (· exact rfl)) | ((with_reducible apply br_false); (· exact rfl))); (conv => whnf)))); repeat' (first | ((with_reducible first | apply br_dec | apply br_beq | apply br_bne) <;> (intro _; ((conv => whnf); (repeat ((first | ((with_reducible apply br_true); (· exact rfl)) | ((with_reducible apply br_false); (· exact rfl))); (conv => whnf)))))) | ((with_reducible first | apply sd_and); ((conv => whnf); (repeat ((first | ((with_reducible apply br_true); (· exact rfl)) | ((with_reducible apply br_false); (· exact rfl))); (conv => whnf)))))))
    · refine c_twsub hp hp' h h' fun w d => ?_
      (((conv => whnf); (repeat ((first | ((with_reducible apply br_true); (· exact rfl)) | ((with_reducible apply br_false); (· exact rfl))); (conv => whnf)))); repeat' (first | ((with_reducible first | apply br_dec | apply br_beq | apply br_bne) <;> (intro _; ((conv => whnf); (repeat ((first | ((with_reducible apply br_true); (· exact rfl)) | ((with_reducible apply br_false); (· exact rfl))); (conv => whnf)))))) | ((with_reducible first | apply sd_and); ((conv => whnf); (repeat ((first | ((with_reducible apply br_true); (· exact rfl)) | ((with_reducible apply br_false); (· exact rfl))); (conv => whnf)))))))
      refine c_shown d ?_
      (((conv => whnf); (repeat ((first | ((with_reducible apply br_true); (· exact rfl)) | ((with_reducible apply br_false); (· exact rfl))); (conv => whnf)))); repeat' (first | ((with_reducible first | apply br_dec | apply br_beq | apply br_bne) <;> (intro _; ((conv => whnf); (repeat ((first | ((with_reducible apply br_true); (· exact rfl)) | ((with_reducible apply br_false); (· exact rfl))); (conv => whnf)))))) | ((with_reducible first | apply sd_and); ((conv => whnf); (repeat ((first | ((with_reducible apply br_true); (· exact rfl)) | ((with_reducible apply br_false); (· exact rfl))); (conv => whnf)))))))
      rw [List.take_length]; exact q (fun h => by (first | subst h | contradiction | (injection h with h; subst h) | cases h)) w d
    all_goals first | exact strsW _ .add | exact strsW _ .sub | exact strsW _ .mul | exact strsW _ .div
  | mul =>
    refine fn_G rfl rfl ?_
    (((conv => whnf); (repeat ((first | ((with_reducible apply br_true); (· exact rfl)) | ((with_reducible apply br_false); (· exact rfl))); (conv => whnf)))); repeat' (first | ((with_reducible first | apply br_dec | apply br_beq | apply br_bne) <;> (intro _; ((conv => whnf); (repeat ((first | ((with_reducible apply br_true); (· exact rfl)) | ((with_reducible apply br_false); (· exact rfl))); (conv => whnf)))))) | ((with_reducible first | apply sd_and); ((conv => whnf); (repeat ((first | ((with_reducible apply br_true); (· exact rfl)) | ((with_reducible apply br_false); (· exact rfl))); (conv => whnf)))))))
    · refine c_twmul hp hp' h h' fun w d => ?_
      (((conv => whnf); (repeat ((first | ((with_reducible apply br_true); (· exact rfl)) | ((with_reducible apply br_false); (· exact rfl))); (conv => whnf)))); repeat' (first | ((with_reducible first | apply br_dec | apply br_beq | apply br_bne) <;> (intro _; ((conv => whnf); (repeat ((first | ((with_reducible apply br_true); (· exact rfl)) | ((with_reducible apply br_false); (· exact rfl))); (conv => whnf)))))) | ((with_reducible first | apply sd_and); ((conv => whnf); (repeat ((first | ((with_reducible apply br_true); (· exact rfl)) | ((with_reducible apply br_false); (· exact rfl))); (conv => whnf)))))))
      refine c_shown d ?_
      (((conv => whnf); (repeat ((first | ((with_reducible apply br_true); (· exact rfl)) | ((with_reducible apply br_false); (· exact rfl))); (conv => whnf)))); repeat' (first | ((with_reducible first | apply br_dec | apply br_beq | apply br_bne) <;> (intro _; ((conv => whnf); (repeat ((first | ((with_reducible apply br_true); (· exact rfl)) | ((with_reducible apply br_false); (· exact rfl))); (conv => whnf)))))) | ((with_reducible first | apply sd_and); ((conv => whnf); (repeat ((first | ((with_reducible apply br_true); (· exact rfl)) | ((with_reducible apply br_false); (· exact rfl))); (conv => whnf)))))))
      rw [List.take_length]; exact q (fun h => by (first | subst h | contradiction | (injection h with h; subst h) | cases h)) w d
    all_goals first | exact strsW _ .add | exact strsW _ .sub | exact strsW _ .mul | exact strsW _ .div
  | div =>
    refine fn_G rfl rfl ?_
    (((conv => whnf); (repeat ((first | ((with_reducible apply br_true); (· exact rfl)) | ((with_reducible apply br_false); (· exact rfl))); (conv => whnf)))); repeat' (first | ((with_reducible first | apply br_dec | apply br_beq | apply br_bne) <;> (intro _; ((conv => whnf); (repeat ((first | ((with_reducible apply br_true); (· exact rfl)) | ((with_reducible apply br_false); (· exact rfl))); (conv => whnf)))))) | ((with_reducible first | apply sd_and); ((conv => whnf); (repeat ((first | ((with_reducible apply br_true); (· exact rfl)) | ((with_reducible apply br_false); (· exact rfl))); (conv => whnf)))))))
    · by_cases hz : a' = 0
      · refine c_twdiv0 h' hz ?_
        (((conv => whnf); (repeat ((first | ((with_reducible apply br_true); (· exact rfl)) | ((with_reducible apply br_false); (· exact rfl))); (conv => whnf)))); repeat' (first | ((with_reducible first | apply br_dec | apply br_beq | apply br_bne) <;> (intro _; ((conv => whnf); (repeat ((first | ((with_reducible apply br_true); (· exact rfl)) | ((with_reducible apply br_false); (· exact rfl))); (conv => whnf)))))) | ((with_reducible first | apply sd_and); ((conv => whnf); (repeat ((first | ((with_reducible apply br_true); (· exact rfl)) | ((with_reducible apply br_false); (· exact rfl))); (conv => whnf)))))))
        refine LoopK.of ?_
        show Ok (Out.ok (D.v (V.lst [V.str (Str.ofString "refused"), V.str (Str.ofString "law")])) st) _ _
        (((conv => whnf); (repeat ((first | ((with_reducible apply br_true); (· exact rfl)) | ((with_reducible apply br_false); (· exact rfl))); (conv => whnf)))); repeat' (first | ((with_reducible first | apply br_dec | apply br_beq | apply br_bne) <;> (intro _; ((conv => whnf); (repeat ((first | ((with_reducible apply br_true); (· exact rfl)) | ((with_reducible apply br_false); (· exact rfl))); (conv => whnf)))))) | ((with_reducible first | apply sd_and); ((conv => whnf); (repeat ((first | ((with_reducible apply br_true); (· exact rfl)) | ((with_reducible apply br_false); (· exact rfl))); (conv => whnf)))))))
        rw [List.take_length]; exact q0 rfl hz
      · refine c_twdiv hp hp' h h' hz fun w d => ?_
        (((conv => whnf); (repeat ((first | ((with_reducible apply br_true); (· exact rfl)) | ((with_reducible apply br_false); (· exact rfl))); (conv => whnf)))); repeat' (first | ((with_reducible first | apply br_dec | apply br_beq | apply br_bne) <;> (intro _; ((conv => whnf); (repeat ((first | ((with_reducible apply br_true); (· exact rfl)) | ((with_reducible apply br_false); (· exact rfl))); (conv => whnf)))))) | ((with_reducible first | apply sd_and); ((conv => whnf); (repeat ((first | ((with_reducible apply br_true); (· exact rfl)) | ((with_reducible apply br_false); (· exact rfl))); (conv => whnf)))))))
        refine c_shown d ?_
        (((conv => whnf); (repeat ((first | ((with_reducible apply br_true); (· exact rfl)) | ((with_reducible apply br_false); (· exact rfl))); (conv => whnf)))); repeat' (first | ((with_reducible first | apply br_dec | apply br_beq | apply br_bne) <;> (intro _; ((conv => whnf); (repeat ((first | ((with_reducible apply br_true); (· exact rfl)) | ((with_reducible apply br_false); (· exact rfl))); (conv => whnf)))))) | ((with_reducible first | apply sd_and); ((conv => whnf); (repeat ((first | ((with_reducible apply br_true); (· exact rfl)) | ((with_reducible apply br_false); (· exact rfl))); (conv => whnf)))))))
        rw [List.take_length]; exact q (fun _ => hz) w d
    all_goals first | exact strsW _ .add | exact strsW _ .sub | exact strsW _ .mul | exact strsW _ .div
theorem c_real (hp : 0 < p) (hp' : p ≤ 20) (bm : m.natAbs ≤ 2 ^ p) (be : e.natAbs ≤ 50) (q : ∀ v a b k, Nb p v a b k → Q (.v v) st) :
   CallK (R C2 T2 (n + 2) (.v (.val (.ref 777))) [.v (.int m), .v (.int e)] st) Q E := by
  have pb : 2 ^ p ≤ 2 ^ 20 := Nat.pow_le_pow_right (by decide) hp'
  have pe : 2 ^ p % 2 = 0 := by
    obtain ⟨l, rfl⟩ : ∃ l, p = l + 1 := ⟨p - 1, by omega⟩
    rw [Nat.pow_succ, Nat.mul_mod_left]
  refine fn_G rfl rfl ?_
  (((conv => whnf); (repeat ((first | ((with_reducible apply br_true); (· exact rfl)) | ((with_reducible apply br_false); (· exact rfl))); (conv => whnf)))); repeat' (first | ((with_reducible first | apply br_dec | apply br_beq | apply br_bne) <;> (intro _; ((conv => whnf); (repeat ((first | ((with_reducible apply br_true); (· exact rfl)) | ((with_reducible apply br_false); (· exact rfl))); (conv => whnf)))))) | ((with_reducible first | apply sd_and); ((conv => whnf); (repeat ((first | ((with_reducible apply br_true); (· exact rfl)) | ((with_reducible apply br_false); (· exact rfl))); (conv => whnf)))))))
  · rw [List.take_length]
    exact q _ _ _ _ (.re (.inr ⟨rfl, rfl⟩) (p2 p) (by decide))
  · rename_i h0
    refine while_G (fun k ρ s => s = st ∧ ∃ (x : Int) (c : Nat) (f : Int), x.natAbs = k ∧ x ≠ 0 ∧ x.natAbs * 2 ^ c ≤ 2 ^ p ∧ f = e + c ∧ ρ = [(Str.ofString "mantissa", .v (.int x)), (Str.ofString "exponent", .v (.int f))]) (k₀ := m.natAbs) ?_ ⟨rfl, m, 0, e, rfl, h0, by rw [Nat.pow_zero, Nat.mul_one]; exact bm, by simp, rfl⟩ (fun k ρ s hI => ?_)
    · exact Nat.lt_of_le_of_lt bm (Nat.lt_of_le_of_lt pb (by decide))
    obtain ⟨rfl, x, c, f, rfl, x0, xb, rfl, rfl⟩ := hI
    have e1 : x.fmod 2 = x % 2 := Int.fmod_eq_emod_of_nonneg _ (by decide)
    have e2 : x.fdiv 2 = x / 2 := Int.fdiv_eq_ediv_of_nonneg _ (by decide)
    (((conv => whnf); (repeat ((first | ((with_reducible apply br_true); (· exact rfl)) | ((with_reducible apply br_false); (· exact rfl))); (conv => whnf)))); repeat' (first | ((with_reducible first | apply br_dec | apply br_beq | apply br_bne) <;> (intro _; ((conv => whnf); (repeat ((first | ((with_reducible apply br_true); (· exact rfl)) | ((with_reducible apply br_false); (· exact rfl))); (conv => whnf)))))) | ((with_reducible first | apply sd_and); ((conv => whnf); (repeat ((first | ((with_reducible apply br_true); (· exact rfl)) | ((with_reducible apply br_false); (· exact rfl))); (conv => whnf)))))))
    · rename_i hc
      rw [e1] at hc
      rw [e2]
      have hx : x.natAbs = (x / 2).natAbs * 2 := by omega
      refine ⟨_, ?_, rfl, _, c + 1, _, rfl, by omega, ?_, ?_, rfl⟩
      · omega
      · rw [Nat.pow_succ, Nat.mul_comm (2 ^ c), ← Nat.mul_assoc, ← hx]; exact xb
      · omega
    · exact dv_of (by decide) (pw_lt (k := 2) (by decide) (by decide))
    · rename_i hc
      rw [e1] at hc
      have o : x.natAbs % 2 = 1 := by omega
      have cb : c ≤ p := (Nat.pow_le_pow_iff_right (by decide : 1 < 2)).mp (Nat.le_trans (Nat.le_mul_of_pos_left _ (by omega)) xb)
      have xp : x.natAbs ≤ 2 ^ p := Nat.le_trans (Nat.le_mul_of_pos_right _ (p2 c)) xb
      rw [List.take_length]
      exact q _ _ _ _ (.re (.inl o) (by omega) (by omega))
    · decide
theorem fdN {y k : Nat} : ((y : Int).fdiv (k : Int)) = ((y / k : Nat) : Int) := by rw [Int.fdiv_eq_ediv_of_nonneg _ (by omega)]; rfl
theorem fmN {y k : Nat} : ((y : Int).fmod (k : Int)) = ((y % k : Nat) : Int) := by rw [Int.fmod_eq_emod_of_nonneg _ (by omega)]; rfl
theorem c_number (hp : 0 < p) (hp' : p ≤ 20) (c : Nat) (q : ∀ v a b k, Nb p v a b k → Q (.v v) st) :
   CallK (R C2 T2 (n + 3) (.v (.val (.ref 784))) [.v (.int p), .v (.int c)] st) Q E := by
  have i2 : (Builtin.Int.intBits 2 : Int) = 2 := by decide
  have h6 : (c : Int).fdiv 6 = ((c / 6 : Nat) : Int) := fdN (k := 6)
  generalize hx : c / 6 = x at *
  have tp : (p : Int).toNat = p := Int.toNat_natCast p
  have hS : (2 * 2 ^ (p : Int).toNat + 1 : Int) = ((2 * 2 ^ p + 1 : Nat) : Int) := by rw [tp, Int.natCast_add, Int.natCast_mul, pz]; rfl
  have m1 := Nat.mod_lt x (show 0 < 2 * 2 ^ p + 1 by omega)
  have sp : Sm (2 ^ p : Int) := by
    rw [← pz]; exact sm_nat (k := 100) (Nat.pow_lt_pow_right (by decide) (by omega)) (by decide)
  have sS : Sm ((2 * 2 ^ p + 1 : Nat) : Int) := by
    refine sm_nat (k := 100) ?_ (by decide)
    have : 2 ^ p ≤ 2 ^ 20 := Nat.pow_le_pow_right (by decide) hp'
    omega
  have sml : ∀ {y : Int}, y.natAbs < 2 ^ 10 → Sm y := fun h => pw_lt h (by decide)
  have f1 : (((x : Int).fdiv ((2 * 2 ^ p + 1 : Nat) : Int)).fmod 19 - 9).natAbs ≤ 10 := by rw [Int.fmod_eq_emod_of_nonneg _ (by decide)]; omega
  have f2 : ((x : Int).fmod ((2 * 2 ^ p + 1 : Nat) : Int) - 2 ^ p).natAbs ≤ 2 ^ p := by rw [fmN, ← pz]; omega
  refine fn_G rfl rfl ?_
  (((conv => whnf); (repeat ((first | ((with_reducible apply br_true); (· exact rfl)) | ((with_reducible apply br_false); (· exact rfl))); (conv => whnf)))); repeat' (first | ((with_reducible first | apply br_dec | apply br_beq | apply br_bne) <;> (intro _; ((conv => whnf); (repeat ((first | ((with_reducible apply br_true); (· exact rfl)) | ((with_reducible apply br_false); (· exact rfl))); (conv => whnf)))))) | ((with_reducible first | apply sd_and); ((conv => whnf); (repeat ((first | ((with_reducible apply br_true); (· exact rfl)) | ((with_reducible apply br_false); (· exact rfl))); (conv => whnf)))))))
  · rw [h6, List.take_length]
    have f : ((x : Int).fmod 41 - 20).natAbs ≤ 20 := by rw [Int.fmod_eq_emod_of_nonneg _ (by decide)]; omega
    have := Nb.ex (p := p) (t := (x : Int).fmod 41 - 20) (b := 1) (by omega) (by decide) (by decide) (by simp)
    exact q _ _ _ _ this
  · decide
  · rw [h6]
    have f3 : ((x : Int).fmod 81 - 40).natAbs ≤ 40 := by rw [Int.fmod_eq_emod_of_nonneg _ (by decide)]; omega
    have f4 : 0 ≤ ((x : Int).fdiv 81).fmod 30 ∧ ((x : Int).fdiv 81).fmod 30 < 30 := by rw [Int.fmod_eq_emod_of_nonneg _ (by decide)]; omega
    generalize (x : Int).fmod 81 - 40 = A at *
    generalize ((x : Int).fdiv 81).fmod 30 = B at *
    refine c_low (by omega) (sml (by omega)) (sml (by omega)) fun T D L => ?_
    obtain ⟨l1, l2⟩ := L.le (by omega)
    have l3 := sgn_le (A := A) (B := 1 + B)
    have d0 := L.d0
    have nb := Nb.ex (p := p) (t := T) (b := D.toNat) (by omega) (by omega) (by omega) (by rw [show (D.toNat : Int) = D by omega]; exact L.g)
    rw [show (D.toNat : Int) = D by omega] at nb
    (((conv => whnf); (repeat ((first | ((with_reducible apply br_true); (· exact rfl)) | ((with_reducible apply br_false); (· exact rfl))); (conv => whnf)))); repeat' (first | ((with_reducible first | apply br_dec | apply br_beq | apply br_bne) <;> (intro _; ((conv => whnf); (repeat ((first | ((with_reducible apply br_true); (· exact rfl)) | ((with_reducible apply br_false); (· exact rfl))); (conv => whnf)))))) | ((with_reducible first | apply sd_and); ((conv => whnf); (repeat ((first | ((with_reducible apply br_true); (· exact rfl)) | ((with_reducible apply br_false); (· exact rfl))); (conv => whnf)))))))
    · rename_i hd
      rw [List.take_length]
      rw [hd, nV1] at nb
      exact q _ _ _ _ nb
    · rename_i hd
      rw [List.take_length]
      have e : nV T D = .inst 290 ["top", "bottom"] [.int T, .int D] := if_neg hd
      rw [e] at nb
      exact q _ _ _ _ nb
  · decide
  · exact dv_of (by decide) (sml (by decide))
  · decide
  · rw [h6, hS, tp]
    refine c_real hp hp' f2 (by omega) fun v a b k h => ?_
    (((conv => whnf); (repeat ((first | ((with_reducible apply br_true); (· exact rfl)) | ((with_reducible apply br_false); (· exact rfl))); (conv => whnf)))); repeat' (first | ((with_reducible first | apply br_dec | apply br_beq | apply br_bne) <;> (intro _; ((conv => whnf); (repeat ((first | ((with_reducible apply br_true); (· exact rfl)) | ((with_reducible apply br_false); (· exact rfl))); (conv => whnf)))))) | ((with_reducible first | apply sd_and); ((conv => whnf); (repeat ((first | ((with_reducible apply br_true); (· exact rfl)) | ((with_reducible apply br_false); (· exact rfl))); (conv => whnf)))))))
    rw [List.take_length]; exact q _ _ _ _ h
  · rw [h6, hS]
    exact mul_of (sml (by omega)) (sml (by decide))
  · rw [h6, hS, tp]
    refine c_real hp hp' f2 (by omega) fun v a b k h => ?_
    (((conv => whnf); (repeat ((first | ((with_reducible apply br_true); (· exact rfl)) | ((with_reducible apply br_false); (· exact rfl))); (conv => whnf)))); repeat' (first | ((with_reducible first | apply br_dec | apply br_beq | apply br_bne) <;> (intro _; ((conv => whnf); (repeat ((first | ((with_reducible apply br_true); (· exact rfl)) | ((with_reducible apply br_false); (· exact rfl))); (conv => whnf)))))) | ((with_reducible first | apply sd_and); ((conv => whnf); (repeat ((first | ((with_reducible apply br_true); (· exact rfl)) | ((with_reducible apply br_false); (· exact rfl))); (conv => whnf)))))))
    rw [List.take_length]; exact q _ _ _ _ h
  · rw [hS]; omega
  · rw [tp]; exact mul_of (sml (by decide)) sp
  · decide
  · rw [hS]; exact dv_of (by omega) sS
  · rw [tp]; exact mul_of (sml (by decide)) sp
  all_goals first | decide | exact dv_of (by decide) (sml (by decide)) | (rw [i2]; omega)
end






noncomputable def cI (c : Nat) : V := .int c
noncomputable def IC (l : List V) (ρ : En) (acc : List V) (st : Sto) : Prop :=
  st = [] ∧ (ρ = [] ∨ ∃ y, ρ = [(Str.ofString "cell", .v y)]) ∧ ∃ (r : List Int) (cs : List Nat), l = r.map V.int ∧ acc = cs.map cI ∧ r.length + cs.length ≤ 5
theorem binS_lst {A B : List V} (h : (A ++ B).length ≤ 2 ^ 20) : binS .Add (.v (.lst A)) (.v (.lst B)) = some (.lst (A ++ B)) := by
  show (match addL (.v (.lst A)) (.v (.lst B)) with | some v => some v | Option.none => addT _ _) = _
  have : addL (.v (.lst A)) (.v (.lst B)) = some (.lst (A ++ B)) := by
    show (if szOk (A.length + B.length) then _ else _) = _
    have : szOk (A.length + B.length) = true := decide_eq_true (by rw [← List.length_append]; exact h)
    rw [if_pos this]
  rw [this]
theorem intsOf_c : ∀ cs : List Nat, intsOf (cs.map cI) = some (cs.map fun (c : Nat) => (c : Int))
  | [] => rfl
  | c :: cs => by
    show (intsOf (cs.map cI)).map (_ :: ·) = _
    rw [intsOf_c cs]; rfl
theorem sum_c : ∀ cs : List Nat, (cs.map fun (c : Nat) => (c : Int)).sum = ((cs.sum : Nat) : Int)
  | [] => rfl
  | c :: cs => by rw [List.map_cons, List.sum_cons, List.sum_cons, sum_c cs]; omega
theorem sumK (cs : List Nat) (st : Sto) : bin1 T2 (.builtin "sum") [.v (.lst (cs.map cI))] st = .ok (.v (.int (cs.sum : Nat))) st := by
  show ofO st ((intsOf (cs.map cI)).map fun ns => D.v (.int ns.sum)) = _
  rw [intsOf_c, Option.map_some, sum_c]; rfl
noncomputable def bE (ns : List Int) (cd : List Nat) (bi : Int) : En :=
  [(Str.ofString "script", .v (.lst (ns.map V.int))), (Str.ofString "codes", .v (.lst (cd.map cI))), (Str.ofString "bits", .v (.int bi)), (Str.ofString "tower", .v (.inst 752 ["precision"] [.int bi]))]
noncomputable def bE4 (ns : List Int) (cd : List Nat) (bi : Int) (i : Int) (x y w : V) : En :=
  [(Str.ofString "script", .v (.lst (ns.map V.int))), (Str.ofString "codes", .v (.lst (cd.map cI))), (Str.ofString "bits", .v (.int bi)), (Str.ofString "tower", .v (.inst 752 ["precision"] [.int bi])), (Str.ofString "at", .v (.int i)), (Str.ofString "one", .v x), (Str.ofString "other", .v y), (Str.ofString "word", .v w)]
noncomputable def bE3 (ns : List Int) (cd : List Nat) (bi : Int) (i : Int) (x y : V) : En :=
  [(Str.ofString "script", .v (.lst (ns.map V.int))), (Str.ofString "codes", .v (.lst (cd.map cI))), (Str.ofString "bits", .v (.int bi)), (Str.ofString "tower", .v (.inst 752 ["precision"] [.int bi])), (Str.ofString "at", .v (.int i)), (Str.ofString "one", .v x), (Str.ofString "other", .v y)]
noncomputable def IA (ns : List Int) (cd : List Nat) (l : List V) (ρ : En) (st : Sto) : Prop :=
  st = [] ∧ (∀ x ∈ l, ∃ i : Int, x = .int i ∧ 0 ≤ i ∧ i + 1 < cd.length) ∧ ∃ (p : Nat), 2 ≤ p ∧ p ≤ 8 ∧ (ρ = bE ns cd p ∨ ∃ i x y w, ρ = bE4 ns cd p i x y w)
theorem rng_in {k : Int} : ∀ x ∈ rngL 0 k, ∃ i : Int, x = .int i ∧ 0 ≤ i ∧ i < k := by
  intro x hx
  unfold rngL at hx
  obtain ⟨i, h1, rfl⟩ := List.mem_map.mp hx
  have := List.mem_range.mp h1
  exact ⟨i, by rw [Int.zero_add], by omega, by omega⟩
theorem itemAt_c {cd : List Nat} {k : Int} (h0 : 0 ≤ k) (h : k < cd.length) (h' : cd.length ≤ 7) : ∃ c : Nat, itemAt (cd.map cI) k = some (.int c) := by
  obtain ⟨i, rfl⟩ := Int.eq_ofNat_of_zero_le h0
  have hi : i < cd.length := by omega
  refine ⟨cd[i], ?_⟩
  unfold itemAt
  rw [if_pos (by omega)]
  have : seqIndex? (i : Int) (cd.map cI).length = some i := by
    unfold seqIndex?
    rw [List.length_map]
    simp
    omega
  rw [this]
  dsimp only
  rw [List.getElem?_map, List.getElem?_eq_getElem hi]; rfl
noncomputable def IB (ns : List Int) (cd : List Nat) (p : Nat) (i : Int) (v v' : V) (l : List V) (ρ : En) (st : Sto) : Prop :=
  st = [] ∧ (∀ x ∈ l, ∃ o, x = .str (wd o)) ∧ ((ρ = bE3 ns cd p i v v' ∧ l ≠ []) ∨ ∃ w, ρ = bE4 ns cd p i v v' w)
theorem wdL : ∀ x ∈ [V.str (Str.ofString "+"), V.str (Str.ofString "-"), V.str (Str.ofString "*"), V.str (Str.ofString "/")], ∃ o, x = .str (wd o) := by
  intro x hx
  rcases List.mem_cons.mp hx with rfl | hx
  · exact ⟨.add, rfl⟩
  rcases List.mem_cons.mp hx with rfl | hx
  · exact ⟨.sub, rfl⟩
  rcases List.mem_cons.mp hx with rfl | hx
  · exact ⟨.mul, rfl⟩
  rcases List.mem_cons.mp hx with rfl | hx
  · exact ⟨.div, rfl⟩
  exact absurd hx List.not_mem_nil
theorem ne_self {d : D} {x : PyData} {st : Sto} (h : d.dat st = some x) (hs : SeqAt.shaped x = true) : cmpE .NotEq d d st = some false := by
  show (eqD d d st).map not = _
  unfold eqD
  rw [h]
  dsimp only
  rw [hs, PySem.SeqAt.eqv_refl _ (SeqAt.canLay_of_shaped hs)]; rfl
theorem sokR : PyData.strOk (Str.ofString "real") = true := by kernel_rfl
theorem sokE : PyData.strOk (Str.ofString "exact") = true := by kernel_rfl
theorem sokF : PyData.strOk (Str.ofString "refused") = true := by kernel_rfl
theorem sokL : PyData.strOk (Str.ofString "law") = true := by kernel_rfl
theorem sh3 {s : Str} (h : PyData.strOk s = true) (a b : Int) : SeqAt.shaped (.list [.str s, .int a, .int b]) = true := by
  simp [SeqAt.shaped, PyData.canLay0, PyData.canLayAll0, PyData.depth, PyData.depthAll, h]
theorem sh2 {s r : Str} (h : PyData.strOk s = true) (h' : PyData.strOk r = true) : SeqAt.shaped (.list [.str s, .str r]) = true := by
  simp [SeqAt.shaped, PyData.canLay0, PyData.canLayAll0, PyData.depth, PyData.depthAll, h, h']
theorem ne_sh {p : Nat} {o : Op4} {a a' : Int} {b b' : Nat} {k k' : Bool} {w : V} {st : Sto} (d : Dw p o a b k a' b' k' w) : ∃ l, shV w = .lst l ∧ cmpE .NotEq (.v (.lst l)) (.v (.lst l)) st = some false := by
  rcases d.form with ⟨T, D, rfl⟩ | ⟨m, e, rfl⟩
  · rw [shV_nV]
    exact ⟨_, rfl, ne_self (x := .list [.str (Str.ofString "exact"), .int T, .int D]) rfl (sh3 sokE _ _)⟩
  · exact ⟨_, rfl, ne_self (x := .list [.str (Str.ofString "real"), .int m, .int e]) rfl (sh3 sokR _ _)⟩
theorem ne_rf {st : Sto} : cmpE .NotEq (.v (.lst [.str (Str.ofString "refused"), .str (Str.ofString "law")])) (.v (.lst [.str (Str.ofString "refused"), .str (Str.ofString "law")])) st = some false :=
  ne_self (x := .list [.str (Str.ofString "refused"), .str (Str.ofString "law")]) rfl (sh2 sokF sokL)
/-- the inner loop's target and body -/
noncomputable def ftg : Stmt → PySem.Expr
  | .For t _ _ _ _ => t
  | _ => default
/-- one pair, one word after the other -/
theorem law2_in {ns : List Int} {cd : List Nat} {p : Nat} {i A A' : Int} {B B' : Nat} {k k' : Bool} {v v' : V} {ρ : En} {Kf : KF} (p1 : 0 < p) (p2 : p ≤ 20) (h : Nb p v A B k) (h' : Nb p v' A' B' k') (hρ : (ρ = bE3 ns cd p i v v') ∨ ∃ w, ρ = bE4 ns cd p i v v' w)
    (q : ∀ w, Kf (.next, bE4 ns cd p i v v' w) []) :
    LoopK (forL (putT (fi 74).sc (ftg (nthS (fbd (nthS (fi 74).body 3)) 1))) (fun ρ st => exs ((XI C2 T2 99 62).st (fi 74).sc) (fbd (nthS (fbd (nthS (fi 74).body 3)) 1)) ρ st) [.str (Str.ofString "+"), .str (Str.ofString "-"), .str (Str.ofString "*"), .str (Str.ofString "/")] ρ []) Kf NoE := by
  refine for_G (IB ns cd p i v v') ⟨rfl, wdL, hρ.elim (fun e => .inl ⟨e, List.cons_ne_nil _ _⟩) .inr⟩ (fun ρ st hI => ?_) fun x r' ρ st hI => ?_
  · obtain ⟨rfl, _, hρ⟩ := hI
    rcases hρ with ⟨_, z⟩ | ⟨w, rfl⟩
    · exact absurd rfl z
    · exact q w
  · obtain ⟨rfl, hw, hρ⟩ := hI
    obtain ⟨o, rfl⟩ := hw x (.head _)
    have hr' : ∀ x ∈ r', ∃ o, x = .str (wd o) := fun x h => hw x (.tail _ h)
    have g3 : ∃ ρ₁, putT (fi 74).sc (PySem.Expr.Name (Str.ofString "word") { line := 455, col := 12, endLine := 455, endCol := 16 }) (.str (wd o)) ρ = some ρ₁ ∧ ρ₁ = bE4 ns cd p i v v' (.str (wd o)) := by
      rcases hρ with ⟨rfl, _⟩ | ⟨w, rfl⟩
      · exact ⟨_, rfl, rfl⟩
      · exact ⟨_, rfl, rfl⟩
    obtain ⟨ρ₁, g4, rfl⟩ := g3
    refine ⟨_, g4, ?_⟩
    clear hρ g4 q
    (((conv => whnf); (repeat ((first | ((with_reducible apply br_true); (· exact rfl)) | ((with_reducible apply br_false); (· exact rfl))); (conv => whnf)))); repeat' (first | ((with_reducible first | apply br_dec | apply br_beq | apply br_bne) <;> (intro _; ((conv => whnf); (repeat ((first | ((with_reducible apply br_true); (· exact rfl)) | ((with_reducible apply br_false); (· exact rfl))); (conv => whnf)))))) | ((with_reducible first | apply sd_and); ((conv => whnf); (repeat ((first | ((with_reducible apply br_true); (· exact rfl)) | ((with_reducible apply br_false); (· exact rfl))); (conv => whnf)))))))
    refine c_told p1 p2 h h' o (fun ho ha => ?_) (fun hne w d => ?_)
    · (((conv => whnf); (repeat ((first | ((with_reducible apply br_true); (· exact rfl)) | ((with_reducible apply br_false); (· exact rfl))); (conv => whnf)))); repeat' (first | ((with_reducible first | apply br_dec | apply br_beq | apply br_bne) <;> (intro _; ((conv => whnf); (repeat ((first | ((with_reducible apply br_true); (· exact rfl)) | ((with_reducible apply br_false); (· exact rfl))); (conv => whnf)))))) | ((with_reducible first | apply sd_and); ((conv => whnf); (repeat ((first | ((with_reducible apply br_true); (· exact rfl)) | ((with_reducible apply br_false); (· exact rfl))); (conv => whnf)))))))
      refine c_due p1 p2 h h' o (fun _ _ => ?_) (fun hne => absurd ha (hne ho))
      (((conv => whnf); (repeat ((first | ((with_reducible apply br_true); (· exact rfl)) | ((with_reducible apply br_false); (· exact rfl))); (conv => whnf)))); repeat' (first | ((with_reducible first | apply br_dec | apply br_beq | apply br_bne) <;> (intro _; ((conv => whnf); (repeat ((first | ((with_reducible apply br_true); (· exact rfl)) | ((with_reducible apply br_false); (· exact rfl))); (conv => whnf)))))) | ((with_reducible first | apply sd_and); ((conv => whnf); (repeat ((first | ((with_reducible apply br_true); (· exact rfl)) | ((with_reducible apply br_false); (· exact rfl))); (conv => whnf)))))))
      refine ⟨false, ne_rf, ?_⟩
      (((conv => whnf); (repeat ((first | ((with_reducible apply br_true); (· exact rfl)) | ((with_reducible apply br_false); (· exact rfl))); (conv => whnf)))); repeat' (first | ((with_reducible first | apply br_dec | apply br_beq | apply br_bne) <;> (intro _; ((conv => whnf); (repeat ((first | ((with_reducible apply br_true); (· exact rfl)) | ((with_reducible apply br_false); (· exact rfl))); (conv => whnf)))))) | ((with_reducible first | apply sd_and); ((conv => whnf); (repeat ((first | ((with_reducible apply br_true); (· exact rfl)) | ((with_reducible apply br_false); (· exact rfl))); (conv => whnf)))))))
      exact ⟨rfl, hr', .inr ⟨_, rfl⟩⟩
    · (((conv => whnf); (repeat ((first | ((with_reducible apply br_true); (· exact rfl)) | ((with_reducible apply br_false); (· exact rfl))); (conv => whnf)))); repeat' (first | ((with_reducible first | apply br_dec | apply br_beq | apply br_bne) <;> (intro _; ((conv => whnf); (repeat ((first | ((with_reducible apply br_true); (· exact rfl)) | ((with_reducible apply br_false); (· exact rfl))); (conv => whnf)))))) | ((with_reducible first | apply sd_and); ((conv => whnf); (repeat ((first | ((with_reducible apply br_true); (· exact rfl)) | ((with_reducible apply br_false); (· exact rfl))); (conv => whnf)))))))
      refine c_due p1 p2 h h' o (fun ho ha => absurd ha (hne ho)) (fun _ w' d' => ?_)
      have hww := Dw.unique p1 h.b0 h'.b0 hne d d'
      subst hww
      obtain ⟨l, hl, hc⟩ := ne_sh (st := []) d
      rw [hl]
      (((conv => whnf); (repeat ((first | ((with_reducible apply br_true); (· exact rfl)) | ((with_reducible apply br_false); (· exact rfl))); (conv => whnf)))); repeat' (first | ((with_reducible first | apply br_dec | apply br_beq | apply br_bne) <;> (intro _; ((conv => whnf); (repeat ((first | ((with_reducible apply br_true); (· exact rfl)) | ((with_reducible apply br_false); (· exact rfl))); (conv => whnf)))))) | ((with_reducible first | apply sd_and); ((conv => whnf); (repeat ((first | ((with_reducible apply br_true); (· exact rfl)) | ((with_reducible apply br_false); (· exact rfl))); (conv => whnf)))))))
      refine ⟨false, hc, ?_⟩
      (((conv => whnf); (repeat ((first | ((with_reducible apply br_true); (· exact rfl)) | ((with_reducible apply br_false); (· exact rfl))); (conv => whnf)))); repeat' (first | ((with_reducible first | apply br_dec | apply br_beq | apply br_bne) <;> (intro _; ((conv => whnf); (repeat ((first | ((with_reducible apply br_true); (· exact rfl)) | ((with_reducible apply br_false); (· exact rfl))); (conv => whnf)))))) | ((with_reducible first | apply sd_and); ((conv => whnf); (repeat ((first | ((with_reducible apply br_true); (· exact rfl)) | ((with_reducible apply br_false); (· exact rfl))); (conv => whnf)))))))
      exact ⟨rfl, hr', .inr ⟨_, rfl⟩⟩
/-- the codes -/
theorem law2_c {y : Int} : (2 * (if y < 0 then -y else y) + b2i (decide (y < 0)) : Int) = ((2 * y.natAbs + if y < 0 then 1 else 0 : Nat) : Int) := by
  rw [iabs]
  by_cases hy : y < 0
  · rw [decide_eq_true hy, if_pos hy]; rfl
  · rw [decide_eq_false hy, if_neg hy]; exact Int.add_zero _
theorem law2_i {i : Int} {n : Nat} (h : i < (n : Int) - 1) : i + 1 < n := by omega
theorem law2_b {cd : List Nat} : 2 + ((cd.sum : Nat) : Int).fmod 7 = ((2 + cd.sum % 7 : Nat) : Int) := by rw [Int.fmod_eq_emod_of_nonneg _ (by decide)]; rfl
theorem law2_l {a b : Nat} (h : a + 1 + b ≤ 5) : b ≤ 2 ^ 20 := by omega
theorem law2_m {a b : Nat} {α : Type} {x : α} (h : a + 1 + b ≤ 5) : a + (b + [x].length) ≤ 5 := by
  rw [Nat.add_right_comm] at h; exact h
theorem law2_r {n : Nat} (h : 2 ≤ n ∧ n ≤ 7) : ((n : Int) - 1).natAbs < 2 ^ 20 := by omega
theorem law2 (ns : List Int) (hn : ns.length ≤ 63) : go C2 T2 99 (fi 74).sc (fun p _ => p.1 = Fl.ret (.v (.bool true))) FUEL [.sts 64 (fi 74).body] [] [(Str.ofString "script", .v (.lst (ns.map V.int)))] [] NoE := by
  (((conv => whnf); (repeat ((first | ((with_reducible apply br_true); (· exact rfl)) | ((with_reducible apply br_false); (· exact rfl))); (conv => whnf)))); repeat' (first | ((with_reducible first | apply br_dec | apply br_beq | apply br_bne) <;> (intro _; ((conv => whnf); (repeat ((first | ((with_reducible apply br_true); (· exact rfl)) | ((with_reducible apply br_false); (· exact rfl))); (conv => whnf)))))) | ((with_reducible first | apply sd_and); ((conv => whnf); (repeat ((first | ((with_reducible apply br_true); (· exact rfl)) | ((with_reducible apply br_false); (· exact rfl))); (conv => whnf)))))))
  · refine comp_G IC ⟨rfl, .inl rfl, ns.take 5, [], by rw [List.map_take]; rfl, rfl, by rw [List.length_take, List.length_nil]; exact Nat.min_le_left 5 _⟩ (fun ρ acc st hI => ?_) (fun x r ρ acc st hI => ?_)
    · obtain ⟨rfl, _, r, cs, h1, rfl, h3⟩ := hI
      have h3 : cs.length ≤ 5 := Nat.le_trans (Nat.le_add_left ..) h3
      have hadd : binS .Add (.v (.lst (cs.map cI))) (.v (.lst [.int 5, .int 77])) = some (.lst ((cs ++ [5, 77]).map cI)) := by
        rw [binS_lst]
        · rw [List.map_append]; rfl
        · rw [List.length_append, List.length_map]
          exact Nat.le_trans (Nat.add_le_add_right h3 2) (by decide)
      have hC : 2 ≤ (cs ++ [5, 77]).length ∧ (cs ++ [5, 77]).length ≤ 7 := by
        rw [List.length_append]
        exact ⟨Nat.le_add_left 2 _, Nat.add_le_add_right h3 2⟩
      (((conv => whnf); (repeat ((first | ((with_reducible apply br_true); (· exact rfl)) | ((with_reducible apply br_false); (· exact rfl))); (conv => whnf)))); repeat' (first | ((with_reducible first | apply br_dec | apply br_beq | apply br_bne) <;> (intro _; ((conv => whnf); (repeat ((first | ((with_reducible apply br_true); (· exact rfl)) | ((with_reducible apply br_false); (· exact rfl))); (conv => whnf)))))) | ((with_reducible first | apply sd_and); ((conv => whnf); (repeat ((first | ((with_reducible apply br_true); (· exact rfl)) | ((with_reducible apply br_false); (· exact rfl))); (conv => whnf)))))))
      rw [hadd]
      generalize cs ++ [5, 77] = cd at *
      clear hadd h3 h1
      (((conv => whnf); (repeat ((first | ((with_reducible apply br_true); (· exact rfl)) | ((with_reducible apply br_false); (· exact rfl))); (conv => whnf)))); repeat' (first | ((with_reducible first | apply br_dec | apply br_beq | apply br_bne) <;> (intro _; ((conv => whnf); (repeat ((first | ((with_reducible apply br_true); (· exact rfl)) | ((with_reducible apply br_false); (· exact rfl))); (conv => whnf)))))) | ((with_reducible first | apply sd_and); ((conv => whnf); (repeat ((first | ((with_reducible apply br_true); (· exact rfl)) | ((with_reducible apply br_false); (· exact rfl))); (conv => whnf)))))))
      rw [sumK]
      (((conv => whnf); (repeat ((first | ((with_reducible apply br_true); (· exact rfl)) | ((with_reducible apply br_false); (· exact rfl))); (conv => whnf)))); repeat' (first | ((with_reducible first | apply br_dec | apply br_beq | apply br_bne) <;> (intro _; ((conv => whnf); (repeat ((first | ((with_reducible apply br_true); (· exact rfl)) | ((with_reducible apply br_false); (· exact rfl))); (conv => whnf)))))) | ((with_reducible first | apply sd_and); ((conv => whnf); (repeat ((first | ((with_reducible apply br_true); (· exact rfl)) | ((with_reducible apply br_false); (· exact rfl))); (conv => whnf)))))))
      · rw [List.length_map]
        have hi : itemsOf (.v (.rng 0 ((cd.length : Int) - 1))) = some (rngL 0 ((cd.length : Int) - 1)) := if_pos ⟨by decide, Nat.le_of_lt (law2_r hC)⟩
        rw [hi]
        (((conv => whnf); (repeat ((first | ((with_reducible apply br_true); (· exact rfl)) | ((with_reducible apply br_false); (· exact rfl))); (conv => whnf)))); repeat' (first | ((with_reducible first | apply br_dec | apply br_beq | apply br_bne) <;> (intro _; ((conv => whnf); (repeat ((first | ((with_reducible apply br_true); (· exact rfl)) | ((with_reducible apply br_false); (· exact rfl))); (conv => whnf)))))) | ((with_reducible first | apply sd_and); ((conv => whnf); (repeat ((first | ((with_reducible apply br_true); (· exact rfl)) | ((with_reducible apply br_false); (· exact rfl))); (conv => whnf)))))))
        refine for_G (IA ns cd) ⟨rfl, ?_, 2 + cd.sum % 7, Nat.le_add_right .., Nat.add_le_add_left (Nat.le_of_lt_succ (Nat.mod_lt _ (by decide))) 2, .inl ?_⟩ (fun ρ st hI => ?_) fun x r ρ st hI => ?_
        · intro x hx
          obtain ⟨i, h1, h2, h3⟩ := rng_in x hx
          exact ⟨i, h1, h2, law2_i h3⟩
        · rw [← law2_b]; rfl
        · obtain ⟨rfl, _, p, _, _, hρ⟩ := hI
          rcases hρ with rfl | ⟨i, x, y, w, rfl⟩
          all_goals
            (((conv => whnf); (repeat ((first | ((with_reducible apply br_true); (· exact rfl)) | ((with_reducible apply br_false); (· exact rfl))); (conv => whnf)))); repeat' (first | ((with_reducible first | apply br_dec | apply br_beq | apply br_bne) <;> (intro _; ((conv => whnf); (repeat ((first | ((with_reducible apply br_true); (· exact rfl)) | ((with_reducible apply br_false); (· exact rfl))); (conv => whnf)))))) | ((with_reducible first | apply sd_and); ((conv => whnf); (repeat ((first | ((with_reducible apply br_true); (· exact rfl)) | ((with_reducible apply br_false); (· exact rfl))); (conv => whnf)))))))
        · obtain ⟨rfl, hx, p, p1, p2, hρ⟩ := hI
          have p1' : 0 < p := Nat.lt_of_lt_of_le (by decide) p1
          have p2' : p ≤ 20 := Nat.le_trans p2 (by decide)
          obtain ⟨i, rfl, hi0, hi⟩ := hx x (.head _)
          have hr : ∀ x ∈ r, ∃ i : Int, x = .int i ∧ 0 ≤ i ∧ i + 1 < cd.length := fun x h => hx x (.tail _ h)
          obtain ⟨c1, q1⟩ := itemAt_c (cd := cd) (k := i) hi0 (Int.lt_of_le_of_lt (Int.le_add_of_nonneg_right (by decide)) hi) hC.2
          obtain ⟨c2, q2⟩ := itemAt_c (cd := cd) (k := i + 1) (Int.le_add_one hi0) hi hC.2
          clear hx hi hC
          rcases hρ with rfl | ⟨i', x', y', w', rfl⟩
          · refine ⟨bE ns cd p ++ [(Str.ofString "at", .v (.int i))], rfl, ?_⟩
            (((conv => whnf); (repeat ((first | ((with_reducible apply br_true); (· exact rfl)) | ((with_reducible apply br_false); (· exact rfl))); (conv => whnf)))); repeat' (first | ((with_reducible first | apply br_dec | apply br_beq | apply br_bne) <;> (intro _; ((conv => whnf); (repeat ((first | ((with_reducible apply br_true); (· exact rfl)) | ((with_reducible apply br_false); (· exact rfl))); (conv => whnf)))))) | ((with_reducible first | apply sd_and); ((conv => whnf); (repeat ((first | ((with_reducible apply br_true); (· exact rfl)) | ((with_reducible apply br_false); (· exact rfl))); (conv => whnf)))))))
            rw [show sub1 (.v (.lst (cd.map cI))) (.v (.int i)) [] = itemAt (cd.map cI) i from rfl, q1]
            (((conv => whnf); (repeat ((first | ((with_reducible apply br_true); (· exact rfl)) | ((with_reducible apply br_false); (· exact rfl))); (conv => whnf)))); repeat' (first | ((with_reducible first | apply br_dec | apply br_beq | apply br_bne) <;> (intro _; ((conv => whnf); (repeat ((first | ((with_reducible apply br_true); (· exact rfl)) | ((with_reducible apply br_false); (· exact rfl))); (conv => whnf)))))) | ((with_reducible first | apply sd_and); ((conv => whnf); (repeat ((first | ((with_reducible apply br_true); (· exact rfl)) | ((with_reducible apply br_false); (· exact rfl))); (conv => whnf)))))))
            refine c_number p1' p2' c1 fun v a b k h => ?_
            (((conv => whnf); (repeat ((first | ((with_reducible apply br_true); (· exact rfl)) | ((with_reducible apply br_false); (· exact rfl))); (conv => whnf)))); repeat' (first | ((with_reducible first | apply br_dec | apply br_beq | apply br_bne) <;> (intro _; ((conv => whnf); (repeat ((first | ((with_reducible apply br_true); (· exact rfl)) | ((with_reducible apply br_false); (· exact rfl))); (conv => whnf)))))) | ((with_reducible first | apply sd_and); ((conv => whnf); (repeat ((first | ((with_reducible apply br_true); (· exact rfl)) | ((with_reducible apply br_false); (· exact rfl))); (conv => whnf)))))))
            rw [show sub1 (.v (.lst (cd.map cI))) (.v (.int (i + 1))) [] = itemAt (cd.map cI) (i + 1) from rfl, q2]
            (((conv => whnf); (repeat ((first | ((with_reducible apply br_true); (· exact rfl)) | ((with_reducible apply br_false); (· exact rfl))); (conv => whnf)))); repeat' (first | ((with_reducible first | apply br_dec | apply br_beq | apply br_bne) <;> (intro _; ((conv => whnf); (repeat ((first | ((with_reducible apply br_true); (· exact rfl)) | ((with_reducible apply br_false); (· exact rfl))); (conv => whnf)))))) | ((with_reducible first | apply sd_and); ((conv => whnf); (repeat ((first | ((with_reducible apply br_true); (· exact rfl)) | ((with_reducible apply br_false); (· exact rfl))); (conv => whnf)))))))
            refine c_number p1' p2' c2 fun v' a' b' k' h' => ?_
            (((conv => whnf); (repeat ((first | ((with_reducible apply br_true); (· exact rfl)) | ((with_reducible apply br_false); (· exact rfl))); (conv => whnf)))); repeat' (first | ((with_reducible first | apply br_dec | apply br_beq | apply br_bne) <;> (intro _; ((conv => whnf); (repeat ((first | ((with_reducible apply br_true); (· exact rfl)) | ((with_reducible apply br_false); (· exact rfl))); (conv => whnf)))))) | ((with_reducible first | apply sd_and); ((conv => whnf); (repeat ((first | ((with_reducible apply br_true); (· exact rfl)) | ((with_reducible apply br_false); (· exact rfl))); (conv => whnf)))))))
            exact law2_in p1' p2' h h' (.inl rfl) fun w => ⟨rfl, hr, p, p1, p2, .inr ⟨i, v, v', w, rfl⟩⟩
          · refine ⟨bE4 ns cd p i x' y' w', rfl, ?_⟩
            (((conv => whnf); (repeat ((first | ((with_reducible apply br_true); (· exact rfl)) | ((with_reducible apply br_false); (· exact rfl))); (conv => whnf)))); repeat' (first | ((with_reducible first | apply br_dec | apply br_beq | apply br_bne) <;> (intro _; ((conv => whnf); (repeat ((first | ((with_reducible apply br_true); (· exact rfl)) | ((with_reducible apply br_false); (· exact rfl))); (conv => whnf)))))) | ((with_reducible first | apply sd_and); ((conv => whnf); (repeat ((first | ((with_reducible apply br_true); (· exact rfl)) | ((with_reducible apply br_false); (· exact rfl))); (conv => whnf)))))))
            rw [show sub1 (.v (.lst (cd.map cI))) (.v (.int i)) [] = itemAt (cd.map cI) i from rfl, q1]
            (((conv => whnf); (repeat ((first | ((with_reducible apply br_true); (· exact rfl)) | ((with_reducible apply br_false); (· exact rfl))); (conv => whnf)))); repeat' (first | ((with_reducible first | apply br_dec | apply br_beq | apply br_bne) <;> (intro _; ((conv => whnf); (repeat ((first | ((with_reducible apply br_true); (· exact rfl)) | ((with_reducible apply br_false); (· exact rfl))); (conv => whnf)))))) | ((with_reducible first | apply sd_and); ((conv => whnf); (repeat ((first | ((with_reducible apply br_true); (· exact rfl)) | ((with_reducible apply br_false); (· exact rfl))); (conv => whnf)))))))
            refine c_number p1' p2' c1 fun v a b k h => ?_
            (((conv => whnf); (repeat ((first | ((with_reducible apply br_true); (· exact rfl)) | ((with_reducible apply br_false); (· exact rfl))); (conv => whnf)))); repeat' (first | ((with_reducible first | apply br_dec | apply br_beq | apply br_bne) <;> (intro _; ((conv => whnf); (repeat ((first | ((with_reducible apply br_true); (· exact rfl)) | ((with_reducible apply br_false); (· exact rfl))); (conv => whnf)))))) | ((with_reducible first | apply sd_and); ((conv => whnf); (repeat ((first | ((with_reducible apply br_true); (· exact rfl)) | ((with_reducible apply br_false); (· exact rfl))); (conv => whnf)))))))
            rw [show sub1 (.v (.lst (cd.map cI))) (.v (.int (i + 1))) [] = itemAt (cd.map cI) (i + 1) from rfl, q2]
            (((conv => whnf); (repeat ((first | ((with_reducible apply br_true); (· exact rfl)) | ((with_reducible apply br_false); (· exact rfl))); (conv => whnf)))); repeat' (first | ((with_reducible first | apply br_dec | apply br_beq | apply br_bne) <;> (intro _; ((conv => whnf); (repeat ((first | ((with_reducible apply br_true); (· exact rfl)) | ((with_reducible apply br_false); (· exact rfl))); (conv => whnf)))))) | ((with_reducible first | apply sd_and); ((conv => whnf); (repeat ((first | ((with_reducible apply br_true); (· exact rfl)) | ((with_reducible apply br_false); (· exact rfl))); (conv => whnf)))))))
            refine c_number p1' p2' c2 fun v' a' b' k' h' => ?_
            (((conv => whnf); (repeat ((first | ((with_reducible apply br_true); (· exact rfl)) | ((with_reducible apply br_false); (· exact rfl))); (conv => whnf)))); repeat' (first | ((with_reducible first | apply br_dec | apply br_beq | apply br_bne) <;> (intro _; ((conv => whnf); (repeat ((first | ((with_reducible apply br_true); (· exact rfl)) | ((with_reducible apply br_false); (· exact rfl))); (conv => whnf)))))) | ((with_reducible first | apply sd_and); ((conv => whnf); (repeat ((first | ((with_reducible apply br_true); (· exact rfl)) | ((with_reducible apply br_false); (· exact rfl))); (conv => whnf)))))))
            exact law2_in p1' p2' h h' (.inr ⟨_, rfl⟩) fun w => ⟨rfl, hr, p, p1, p2, .inr ⟨i, v, v', w, rfl⟩⟩
      · rw [List.length_map]; exact law2_r hC
      · exact decide_eq_true (by rw [List.length_map]; exact Nat.le_trans hC.2 (by decide))
      · decide
    · obtain ⟨rfl, hρ, r', cs, h1, rfl, h3⟩ := hI
      induction r' using List.casesOn with
      | nil => (first | subst h1 | contradiction | (injection h1 with h1; subst h1) | cases h1)
      | cons y r' =>
        injection h1 with h1 h2
        subst h1 h2
        refine ⟨[(Str.ofString "cell", .v (.int y))], by rcases hρ with rfl | ⟨z, rfl⟩ <;> rfl, ?_⟩
        rw [List.length_cons] at h3
        (((conv => whnf); (repeat ((first | ((with_reducible apply br_true); (· exact rfl)) | ((with_reducible apply br_false); (· exact rfl))); (conv => whnf)))); repeat' (first | ((with_reducible first | apply br_dec | apply br_beq | apply br_bne) <;> (intro _; ((conv => whnf); (repeat ((first | ((with_reducible apply br_true); (· exact rfl)) | ((with_reducible apply br_false); (· exact rfl))); (conv => whnf)))))) | ((with_reducible first | apply sd_and); ((conv => whnf); (repeat ((first | ((with_reducible apply br_true); (· exact rfl)) | ((with_reducible apply br_false); (· exact rfl))); (conv => whnf)))))))
        · refine ⟨decide_eq_true (by rw [List.length_map]; exact law2_l h3), rfl, .inr ⟨_, rfl⟩, r', cs ++ [2 * y.natAbs + if y < 0 then 1 else 0], rfl, ?_, ?_⟩
          · rw [List.map_append]
            exact congrArg (cs.map cI ++ [V.int ·]) law2_c
          · rw [List.length_append]
            exact law2_m h3
        · unfold mulOk
          have : decide ((2 : Int).natAbs.log2 < 60) = true := by decide
          rw [this, Bool.or_true]
  · exact decide_eq_true (by rw [List.length_map]; exact Nat.le_trans hn (by decide))

end Mine
end

set_option maxRecDepth 100000 in
set_option maxHeartbeats 8000000 in
theorem PySem.Challenge.cw_nt0210_02_holds : PySem.Challenge.rw_nt0210_02.Holds := by
  exact Mine.H2 fun ns hn => Mine.law2 ns hn
