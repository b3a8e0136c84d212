import PyProof.Rows.All
import Wide.All
import OpenK.AllK
import Wide.FinOn
import PySem.Challenge.RW_nt0210_04
set_option Elab.async false
set_option maxRecDepth 100000
set_option maxHeartbeats 8000000
set_option exponentiation.threshold 20000
set_option linter.unusedSimpArgs false
set_option linter.unusedVariables false
set_option bootstrap.genMatcherCode false
set_option genSizeOf false
set_option genSizeOfSpec false
set_option genInjectivity false
section
open PySem PySem.W PyProof.Rows
namespace Mine
noncomputable def c7(tb:String→Option Builtin)(p:Program)(w:World)(n₀:Nat)(ann:Option Value):Nat→SharedT→Thread→Option SharedT
 |0,_,_=>none
 |n+1,s,t=>match through t with
  |true=>some s
  |false=>match stepOk n₀ ann t with
   |false=>none
   |true=>match stepT (denote tb) p w s t with
    |some (s',t')=>c7 tb p w n₀ ann n s' t'
    |none=>none
theorem pw{tb:String→Option Builtin}{p:Program}{w:World}{n₀:Nat}{ann:Option Value}:∀{n:Nat} {s s':SharedT} {t:Thread},c7 tb p w n₀ ann n s t=some s'→topRun tb p w n₀ ann n s.abs t=some s'.abs
 |0,_,_,_,h=>by cases h
 |n+1,s,s',t,h=>by
  unfold c7 at h
  unfold topRun
  cases ht:through t with
  |true=>
   rw[ht]at h
   cases h
   rfl
  |false=>
   rw[ht]at h
   cases hk:stepOk n₀ ann t with
   |false=>rw[hk]at h;cases h
   |true=>
    rw[hk]at h
    cases hs:stepT (denote tb) p w s t with
    |none=>rw[hs]at h;cases h
    |some r=>obtain⟨s₂,t₂⟩:=r;rw[hs]at h;rw[stepT_spec hs];exact pw h
noncomputable def T0(P:Params):BT:=((boot_heap P).objs.toList.foldl (fun(x:BT×Nat) o=>(x.1.ins x.2 o,x.2+1)) (.nil,0)).1
noncomputable def S0(w:World)(os:OsState):SharedT:=⟨T0 w.params,(boot_heap w.params).objs.size,(boot_heap w.params).life,#[],boot_drawn,boot_toks,os⟩
theorem Qm:∀P,absHeap (T0 P) (boot_heap P).objs.size (boot_heap P).life=boot_heap P:=fun P=>by kernel_rfl
theorem Qn:∀P:Params,(((boot_heap P).isNs mainGlobals&&(#[]:Array GenState).size==0,(boot_heap P).nsMap mainGlobals "__annotations__"):Bool×Option Value)=(true,some (.ref 6)):=fun P=>by kernel_rfl
noncomputable def Io(p q:Program)(loose:List Str)(as:List Addr)(N:Nat)(h0:Heap)(w:World)(s:SharedT):=
 (c7 treeTable p w h0.objs.size (some (.ref 6)) N s (topStub p)).map fun s=>
   (staticsOk (importedModules p.main.body) h0 s.abs.heap&&namesBound p s.abs.heap&&gensDone s.abs&&laidKept h0 s.abs.heap,openSeen q loose (importedModules p.main.body) (fun _=>true) true s.abs,as.map s.abs.heap.get?)
noncomputable def Ip(q:Program)(loose:List Str)(k:Frag):=some (true,openGood q loose,k.map fun p=>some p.2)
noncomputable def runA(p:Program)(N:Nat)(h0:Heap)(w:World)(s:SharedT):=
 (c7 treeTable p w h0.objs.size (some (.ref 6)) N s (topStub p)).map fun s=>staticsOk (importedModules p.main.body) h0 s.abs.heap&&namesBound p s.abs.heap&&gensDone s.abs&&laidKept h0 s.abs.heap
noncomputable def runB1(p q:Program)(loose:List Str)(N:Nat)(h0:Heap)(w:World)(s:SharedT):=
 (c7 treeTable p w h0.objs.size (some (.ref 6)) N s (topStub p)).map fun s=>((openSeen q loose (importedModules p.main.body) (fun _=>true) true s.abs).1,(openSeen q loose (importedModules p.main.body) (fun _=>true) true s.abs).2.1)
noncomputable def dueB1(q:Program):=some ((expectedOf q,bltViewBooted))
theorem runB1_self:runB1=runB1:=rfl
theorem dueB1_self:dueB1=dueB1:=rfl
noncomputable def runB3(p q:Program)(loose:List Str)(N:Nat)(h0:Heap)(w:World)(s:SharedT):=
 (c7 treeTable p w h0.objs.size (some (.ref 6)) N s (topStub p)).map fun s=>((openSeen q loose (importedModules p.main.body) (fun _=>true) true s.abs).2.2.1,(openSeen q loose (importedModules p.main.body) (fun _=>true) true s.abs).2.2.2.1,(openSeen q loose (importedModules p.main.body) (fun _=>true) true s.abs).2.2.2.2.1)
noncomputable def dueB3(q:Program):=some ((true,true,pinGoodD (drecsOf q)))
theorem runB3_self:runB3=runB3:=rfl
theorem dueB3_self:dueB3=dueB3:=rfl
noncomputable def runB4(p q:Program)(loose:List Str)(N:Nat)(h0:Heap)(w:World)(s:SharedT):=
 (c7 treeTable p w h0.objs.size (some (.ref 6)) N s (topStub p)).map fun s=>(openSeen q loose (importedModules p.main.body) (fun _=>true) true s.abs).2.2.2.2.2.1
noncomputable def dueB4(q:Program)(loose:List Str):=some (plainGoodE q (looseW q loose))
theorem runB4_self:runB4=runB4:=rfl
theorem dueB4_self:dueB4=dueB4:=rfl
noncomputable def runB5(p q:Program)(loose:List Str)(N:Nat)(h0:Heap)(w:World)(s:SharedT):=
 (c7 treeTable p w h0.objs.size (some (.ref 6)) N s (topStub p)).map fun s=>((openSeen q loose (importedModules p.main.body) (fun _=>true) true s.abs).2.2.2.2.2.2.1,(openSeen q loose (importedModules p.main.body) (fun _=>true) true s.abs).2.2.2.2.2.2.2.1,(openSeen q loose (importedModules p.main.body) (fun _=>true) true s.abs).2.2.2.2.2.2.2.2)
noncomputable def dueB5(q:Program)(loose:List Str):=some ((plainGoodD q loose,wideGood q,clsGoodW q loose))
theorem runB5_self:runB5=runB5:=rfl
theorem dueB5_self:dueB5=dueB5:=rfl
noncomputable def Aw(s:SharedT)(a:Addr):Option Obj:=
 match Nat.blt a s.n with
 |true=>(s.tree.get a).bind alive
 |false=>none
noncomputable def runC(p:Program)(as:List Addr)(N:Nat)(h0:Heap)(w:World)(s:SharedT):=
 (c7 treeTable p w h0.objs.size (some (.ref 6)) N s (topStub p)).map fun s=>as.map (Aw s)
noncomputable def dueC(k:Frag):=some (k.map fun p=>some p.2)
theorem runA_self:runA=runA:=rfl
theorem runC_self:runC=runC:=rfl
theorem dueC_self:dueC=dueC:=rfl
theorem said_self:OpenLaw.wellSaid=OpenLaw.wellSaid:=rfl
theorem Iq{s:SharedT}{a:Addr}{o:Obj}(h:Aw s a=some o):s.abs.heap.get? a=some o:=by
 unfold Aw at h
 split at h
 ·rename_i hn
  obtain⟨o',e,h⟩:=Option.bind_eq_some_iff.mp h
  exact(abs_get (Nat.le_of_ble_eq_true hn) e).trans h
 ·contradiction
theorem wa{s:SharedT}:∀{as:List Addr} {k:Frag},as.map (Aw s)=k.map (fun p=>some p.2)→as.map s.abs.heap.get? =k.map fun p=>some p.2
 |[],[],_=>rfl
 |_::_,[],h=>by contradiction
 |[],_::_,h=>by contradiction
 |a::as,p::k,h=>by
  injection h with h1 h2
  rw[List.map_cons,List.map_cons,Iq h1,wa h2]
theorem Ir{p q:Program}{loose:List Str}{as:List Addr}{k:Frag}{N:Nat}{h0:Heap}{w:World}{s:SharedT}
 (a:runA p N h0 w s=some true) (b1:runB1 p q loose N h0 w s=dueB1 q) (b3:runB3 p q loose N h0 w s=dueB3 q) (b4:runB4 p q loose N h0 w s=dueB4 q loose) (b5:runB5 p q loose N h0 w s=dueB5 q loose) (c:runC p as N h0 w s=dueC k):Io p q loose as N h0 w s=Ip q loose k:=by
 unfold runA at a
 unfold runB1 dueB1 at b1
 unfold runB3 dueB3 at b3
 unfold runB4 dueB4 at b4
 unfold runB5 dueB5 at b5
 unfold runC dueC at c
 unfold Io Ip
 generalize c7 treeTable p w h0.objs.size (some (.ref 6)) N s (topStub p)=r at a b1 b3 b4 b5 c
 cases r with
 |none=>contradiction
 |some s=>
  injection a with a
  injection b1 with b1
  injection b1 with b1 b2
  injection b3 with b3
  injection b3 with b3 b6
  injection b6 with b6 b7
  injection b4 with b4
  injection b5 with b5
  injection b5 with b5 b8
  injection b8 with b8 b9
  injection c with c
  exact congrArg some (Prod.ext a (Prod.ext (Prod.ext b1 (Prod.ext b2 (Prod.ext b3 (Prod.ext b6 (Prod.ext b7 (Prod.ext b4 (Prod.ext b5 (Prod.ext b8 b9)))))))) (wa c)))
noncomputable def XtG:Shared→Bool:=fun _=>true
noncomputable def YfG(as:List Addr):Shared→List (Option Obj):=fun s=>as.map s.heap.get?
noncomputable def YaG(K:Params→Frag):World→List (Option Obj):=fun w=>(K w.params).map fun p=>some p.2
theorem wb{p q:Program}{loose:List Str}{as:List Addr}{K:Params→Frag}{N:Nat}
 (open_:∀w:World,(fencedOpening treeTable p w N).map (fun s=>(s.heap,s.gens,s.drawn,s.toks))=some (boot_heap w.params,Array.mk [],boot_drawn,boot_toks))
 (run:∀(w:World) (os:OsState),Io p q loose as N (boot_heap w.params) w (S0 w os)=Ip q loose (K w.params)):
 LeftO p q loose XtG (YfG as) (YaG K) N:=fun w=>by
 obtain⟨⟨h,gs,d,k,os⟩,e,e'⟩:=Option.map_eq_some_iff.mp (open_ w)
 obtain⟨rfl,rfl,rfl,rfl⟩:h=boot_heap w.params∧gs=Array.mk []∧d=boot_drawn∧k=boot_toks:=by simpa using e'
 obtain⟨z1,z3⟩:_∧_:=by simpa only[Prod.mk.injEq]using Qn w.params
 obtain⟨s,hr,hl⟩:=Option.map_eq_some_iff.mp (run w os)
 obtain⟨l1,l2,l3⟩:_∧_∧_:=by simpa only[Prod.mk.injEq]using hl
 have r:=pw hr
 have hS:(S0 w os).abs=⟨boot_heap w.params,Array.mk [],boot_drawn,boot_toks,os⟩:=by
  show(⟨absHeap (T0 w.params) (boot_heap w.params).objs.size (boot_heap w.params).life,_,_,_,_⟩:Shared)=_
  rw[Qm]
  rfl
 rw[hS]at r
 have t:topFrom treeTable p w N ⟨boot_heap w.params,Array.mk [],boot_drawn,boot_toks,os⟩=some s.abs:=by
  unfold topFrom
  dsimp only
  rw[z1,z3,r]
  show(match staticsOk (importedModules p.main.body) (boot_heap w.params) s.abs.heap&&namesBound p s.abs.heap&&gensDone s.abs&&laidKept (boot_heap w.params) s.abs.heap with|true=>_|false=>_)=_
  rw[l1]
 unfold openEnds
 rw[e]
 show(topFrom treeTable p w N _).map _=_
 rw[t]
 exact congrArg some (Prod.ext l2 l3)
end Mine
lay_quick Mine.runA
name_quick mRunA for Mine.runA by Mine.runA_self
lay_quick Mine.runB1
name_quick mRunB1 for Mine.runB1 by Mine.runB1_self
lay_quick Mine.runB3
name_quick mRunB3 for Mine.runB3 by Mine.runB3_self
lay_quick Mine.runB4
name_quick mRunB4 for Mine.runB4 by Mine.runB4_self
lay_quick Mine.runB5
name_quick mRunB5 for Mine.runB5 by Mine.runB5_self
lay_quick Mine.runC
name_quick mRunC for Mine.runC by Mine.runC_self
lay_quick Mine.dueB1
name_quick mDueB1 for Mine.dueB1 by Mine.dueB1_self
lay_quick Mine.dueB3
name_quick mDueB3 for Mine.dueB3 by Mine.dueB3_self
lay_quick Mine.dueB4
name_quick mDueB4 for Mine.dueB4 by Mine.dueB4_self
lay_quick Mine.dueB5
name_quick mDueB5 for Mine.dueB5 by Mine.dueB5_self
lay_quick Mine.dueC
name_quick mDueC for Mine.dueC by Mine.dueC_self
name_quick mSaid for PySem.W.OpenLaw.wellSaid by Mine.said_self
end
section
set_option backward.match.sparseCases false
open PySem PySem.W PyProof.Rows
namespace Mine
noncomputable def yt:List Stmt→Nat→Stmt
 |s::_,0=>s
 |_::r,n+1=>yt r n
 |[],_=>.Pass default
noncomputable def Qo(s:Stmt)(j:Nat):Stmt:=match s with
 |.ClassDef _ _ _ b _ _ _ _ _ _ _=>yt b j
 |_=>.Pass default
noncomputable def fnO(s:Stmt)(qual mod:String)(mt:Nat)(code:Addr):Obj:=match s with
 |.FunctionDef n a b _ _ _ sc _ _ _=>{ cls:=.type "function",data:=.func { name:=n,qualname:=Str.ofString qual,params:=a,body:=.stmts b,scope:=sc,globals:=3,closure:=[],defaults:=.none,kwdefaults:=.none,pyModule:=.str (Str.ofString mod) mt,code:=.ref code } }
 |_=>default
noncomputable def eN(P:Params)(n:String)(t:Nat)(v:Value):DictEntry:=⟨PyData.keyHash P (Str.ofString n),.str (Str.ofString n) t,v⟩
end Mine
end
section
open PySem PySem.W PyProof.Rows
namespace Mine
noncomputable def q4:Program:=view PySem.Challenge.pw_nt0210_04 [0,2,3,4,5,7,8,9,10,11,12,13,14,15,16,17,18,19,20,21,22,23,24,25,26,27,28,29,30,32,33,34,35,36,37,38,39,40,41,42,43,44,45,46,47,48,49,50,51,52,53,54,55,57,58,59,60,61,62,63,64,65,66,67,68,69,70,71,72,74,76,77,78,79,80,81,82,83,84,85,86,87,88,89,90,91,92]
noncomputable def sf(i:Nat):Stmt:=yt PySem.Challenge.pw_nt0210_04.main.body i
noncomputable def sm(i j:Nat):Stmt:=Qo (yt PySem.Challenge.pw_nt0210_04.main.body i) j
noncomputable def vS(s:String)(i:Nat):Value:=.str (Str.ofString s) i
noncomputable def cO(n q:String)(T l a f B X:Nat):Obj:=Obj.mk (.type "code") none (.fields #[vS n T,vS q (T+1),vS "/claim/cut.py" (T+2),.int l 0,.int a 0,.int 0 0,.int 0 0,.int f 0,.ref B,.bool true,.int 181 0,.ref (B+1),.none,.ref (B+2),.ref (B+3),.ref (B+4),.int X 0,.int l 0,vS "/claim/cut.py" (X+1)]) #[]
noncomputable def rr(P:Params)(s:String)(i a:Nat):=eN P s i (.ref a)
noncomputable def K4:Params→Frag:=fun P=>[
 (2,Obj.mk .none none (.dict #[eN P "type.__subclasses__.Exception.0" 223 (.int 38 0),eN P "type.__subclasses__.Exception.n" 224 (.int 1 0)] 2) #[]),
 (3,Obj.mk (.type "dict") none (.dict #[eN P "__name__" 165 (vS "law_nt0210_04" 1234),eN P "__doc__" 166 .none,eN P "__package__" 167 .none,eN P "__loader__" 168 (.builtin "__main__.__loader__#opaque"),eN P "__spec__" 169 .none,rr P "__annotations__" 170 6,rr P "__builtins__" 171 4,eN P "__file__" 173 (vS "/claim/cut.py" 172),eN P "__cached__" 174 .none,rr P "_wall" 193 21,rr P "SchemeError" 226 38,rr P "WrongKind" 255 58,rr P "OutOfRange" 284 77,rr P "DivisionByZero" 309 96,eN P "REACH" 315 (.int 65536 314),rr P "Real" 346 115,rr P "size_of" 353 126,rr P "sign_of_whole" 360 133,rr P "zeros_below" 367 140,rr P "lean" 377 147,rr P "nearest_shift" 388 154,rr P "shifted_round" 398 161,rr P "with_sticky" 406 168,rr P "rounded" 418 175,rr P "exact_parts" 425 182,rr P "place_of" 432 189,rr P "sign_of" 439 196,rr P "negative" 446 203,rr P "magnitude" 453 210,rr P "compare_magnitudes" 462 217,rr P "compare_reals" 470 224,rr P "far_sum" 480 231,rr P "add_reals" 494 238,rr P "subtract_reals" 503 245,rr P "multiply_reals" 512 252,rr P "divide_reals" 522 259,rr P "is_whole_real" 529 266,rr P "whole_of" 536 273,rr P "Ratio" 569 290,rr P "is_whole" 576 301,rr P "is_exact" 583 308,rr P "is_exact_exact" 584 308,rr P "top_of" 591 315,rr P "bottom_of" 598 322,rr P "gcd_of" 606 329,rr P "lcm_of" 614 336,rr P "made" 622 343,rr P "ratio_of" 631 350,rr P "sign_of_exact" 639 357,rr P "negate_exact" 646 364,rr P "magnitude_exact" 653 371,rr P "add_exact" 666 378,rr P "subtract_exact" 674 385,rr P "multiply_exact" 685 392,rr P "reciprocal_exact" 694 399,rr P "divide_exact" 702 406,rr P "compare_exact" 712 413,rr P "is_equal_exact" 720 420,rr P "floor_exact" 727 427,rr P "quotient_of" 736 434,rr P "simplest_above" 747 441,rr P "simplest_between" 755 448,rr P "is_inexact" 764 455,rr P "is_inexact_numkinds" 765 455,rr P "is_number" 772 462,rr P "is_number_numkinds" 773 462,rr P "is_integer" 780 469,rr P "is_integer_numkinds" 781 469,rr P "sign" 788 476,rr P "whole_value" 797 483,rr P "to_exact" 806 490,rr P "to_exact_numkinds" 807 490,rr P "to_inexact" 815 497,rr P "to_inexact_numkinds" 816 497,rr P "has_inexact" 824 504,rr P "as_of" 833 511,rr P "compare" 841 518,rr P "compare_numkinds" 842 518,rr P "Tower" 1233 808,rr P "_law_deck" 1241 817,rr P "_law_draw" 1250 824,rr P "_law_rounded" 1262 831,rr P "_law_number" 1271 838,rr P "_law_lowest" 1281 845,rr P "_law_shown" 1290 852,rr P "_law_inexact" 1300 859,rr P "_law_step" 1314 866,rr P "_law_folded" 1325 873,rr P "_law_told" 1333 880,rr P "_law_are_folds_right" 1347 887,rr P "_law_compared" 1357 894,rr P "_law_are_ends_right" 1363 899,rr P "_law_is_one_right" 1375 906,rr P "_law_are_common_right" 1381 911,rr P "_law_is_simplest" 1399 918,rr P "law" 1405 923] 96) #[]),
 (34,cO "__init__" "SchemeError.__init__" 208 7 3 3 29 214),
 (35,fnO (sm 2 0) "SchemeError.__init__" "scheme.errors" 194 34),
 (37,Obj.mk (.type "dict") none (.dict #[eN P "__module__" 203 (vS "scheme.errors" 194),eN P "__firstlineno__" 207 (.int 5 206),rr P "__init__" 216 35,rr P "__static_attributes__" 219 36,rr P "__weakref__" 221 39,eN P "__doc__" 222 .none] 3) #[]),
 (38,Obj.mk (.type "type") none (.cls (ClassData.mk (Str.ofString "SchemeError") [.type "Exception"] [.ref 38,.type "Exception",.type "BaseException",.type "object"] 37 (Str.ofString "SchemeError") true [] [.ref 58,.ref 77,.ref 96] false none false)) #[some (.ref 22),none,some (vS "SchemeError" 196),some (vS "SchemeError" 204),some (.builtin "Exception.__new__"),some (.bool true)]),
 (54,cO "__init__" "WrongKind.__init__" 239 12 4 3 49 246),
 (55,fnO (sm 3 0) "WrongKind.__init__" "scheme.errors" 194 54),
 (57,Obj.mk (.type "dict") none (.dict #[eN P "__module__" 234 (vS "scheme.errors" 194),eN P "__firstlineno__" 238 (.int 10 237),rr P "__init__" 248 55,rr P "__static_attributes__" 252 56,eN P "__doc__" 253 .none] 2) #[]),
 (58,Obj.mk (.type "type") none (.cls (ClassData.mk (Str.ofString "WrongKind") [.ref 38] [.ref 58,.ref 38,.type "Exception",.type "BaseException",.type "object"] 57 (Str.ofString "WrongKind") true [] [] false none false)) #[some (.ref 42),none,some (vS "WrongKind" 227),some (vS "WrongKind" 235),some (.builtin "Exception.__new__"),some (.bool true)]),
 (92,cO "__init__" "DivisionByZero.__init__" 297 26 2 3 87 302),
 (93,fnO (sm 5 0) "DivisionByZero.__init__" "scheme.errors" 194 92),
 (95,Obj.mk (.type "dict") none (.dict #[eN P "__module__" 292 (vS "scheme.errors" 194),eN P "__firstlineno__" 296 (.int 24 295),rr P "__init__" 304 93,rr P "__static_attributes__" 306 94,eN P "__doc__" 307 .none] 2) #[]),
 (96,Obj.mk (.type "type") none (.cls (ClassData.mk (Str.ofString "DivisionByZero") [.ref 38] [.ref 96,.ref 38,.type "Exception",.type "BaseException",.type "object"] 95 (Str.ofString "DivisionByZero") true [] [] false none false)) #[some (.ref 80),none,some (vS "DivisionByZero" 285),some (vS "DivisionByZero" 293),some (.builtin "Exception.__new__"),some (.bool true)]),
 (111,cO "__init__" "Real.__init__" 328 33 3 3 106 334),
 (112,fnO (sm 8 0) "Real.__init__" "scheme.binary" 310 111),
 (114,Obj.mk (.type "dict") none (.dict #[eN P "__module__" 323 (vS "scheme.binary" 310),eN P "__firstlineno__" 327 (.int 31 326),rr P "__init__" 336 112,rr P "__static_attributes__" 339 113,rr P "__dict__" 341 116,rr P "__weakref__" 343 117,eN P "__doc__" 344 .none] 4) #[]),
 (115,Obj.mk (.type "type") none (.cls (ClassData.mk (Str.ofString "Real") [.type "object"] [.ref 115,.type "object"] 114 (Str.ofString "Real") true [] [] false none false)) #[none,none,some (vS "Real" 316),some (vS "Real" 324),some (.builtin "object.__new__"),some (.bool true)]),
 (125,cO "size_of" "size_of" 347 36 1 3 120 351),
 (126,fnO (sf 9) "size_of" "scheme.binary" 310 125),
 (132,cO "sign_of_whole" "sign_of_whole" 354 38 1 3 127 358),
 (133,fnO (sf 10) "sign_of_whole" "scheme.binary" 310 132),
 (139,cO "zeros_below" "zeros_below" 361 40 1 3 134 365),
 (140,fnO (sf 11) "zeros_below" "scheme.binary" 310 139),
 (146,cO "lean" "lean" 368 42 2 3 141 375),
 (147,fnO (sf 12) "lean" "scheme.binary" 310 146),
 (153,cO "nearest_shift" "nearest_shift" 378 49 2 3 148 386),
 (154,fnO (sf 13) "nearest_shift" "scheme.binary" 310 153),
 (160,cO "shifted_round" "shifted_round" 389 54 3 3 155 396),
 (161,fnO (sf 14) "shifted_round" "scheme.binary" 310 160),
 (167,cO "with_sticky" "with_sticky" 399 59 2 3 162 404),
 (168,fnO (sf 15) "with_sticky" "scheme.binary" 310 167),
 (174,cO "rounded" "rounded" 407 61 3 3 169 416),
 (175,fnO (sf 16) "rounded" "scheme.binary" 310 174),
 (181,cO "exact_parts" "exact_parts" 419 70 1 3 176 423),
 (182,fnO (sf 17) "exact_parts" "scheme.binary" 310 181),
 (188,cO "place_of" "place_of" 426 74 1 3 183 430),
 (189,fnO (sf 18) "place_of" "scheme.binary" 310 188),
 (195,cO "sign_of" "sign_of" 433 76 1 3 190 437),
 (196,fnO (sf 19) "sign_of" "scheme.binary" 310 195),
 (202,cO "negative" "negative" 440 78 1 3 197 444),
 (203,fnO (sf 20) "negative" "scheme.binary" 310 202),
 (209,cO "magnitude" "magnitude" 447 80 1 3 204 451),
 (210,fnO (sf 21) "magnitude" "scheme.binary" 310 209),
 (216,cO "compare_magnitudes" "compare_magnitudes" 454 82 2 3 211 460),
 (217,fnO (sf 22) "compare_magnitudes" "scheme.binary" 310 216),
 (223,cO "compare_reals" "compare_reals" 463 87 2 3 218 468),
 (224,fnO (sf 23) "compare_reals" "scheme.binary" 310 223),
 (230,cO "far_sum" "far_sum" 471 93 3 3 225 478),
 (231,fnO (sf 24) "far_sum" "scheme.binary" 310 230),
 (237,cO "add_reals" "add_reals" 481 96 3 3 232 492),
 (238,fnO (sf 25) "add_reals" "scheme.binary" 310 237),
 (244,cO "subtract_reals" "subtract_reals" 495 106 3 3 239 501),
 (245,fnO (sf 26) "subtract_reals" "scheme.binary" 310 244),
 (251,cO "multiply_reals" "multiply_reals" 504 108 3 3 246 510),
 (252,fnO (sf 27) "multiply_reals" "scheme.binary" 310 251),
 (258,cO "divide_reals" "divide_reals" 513 110 3 3 253 520),
 (259,fnO (sf 28) "divide_reals" "scheme.binary" 310 258),
 (265,cO "is_whole_real" "is_whole_real" 523 115 1 3 260 527),
 (266,fnO (sf 29) "is_whole_real" "scheme.binary" 310 265),
 (272,cO "whole_of" "whole_of" 530 117 1 3 267 534),
 (273,fnO (sf 30) "whole_of" "scheme.binary" 310 272),
 (286,cO "__init__" "Ratio.__init__" 551 122 3 3 281 557),
 (287,fnO (sm 32 0) "Ratio.__init__" "scheme.exact" 537 286),
 (289,Obj.mk (.type "dict") none (.dict #[eN P "__module__" 546 (vS "scheme.exact" 537),eN P "__firstlineno__" 550 (.int 120 549),rr P "__init__" 559 287,rr P "__static_attributes__" 562 288,rr P "__dict__" 564 291,rr P "__weakref__" 566 292,eN P "__doc__" 567 .none] 4) #[]),
 (290,Obj.mk (.type "type") none (.cls (ClassData.mk (Str.ofString "Ratio") [.type "object"] [.ref 290,.type "object"] 289 (Str.ofString "Ratio") true [] [] false none false)) #[none,none,some (vS "Ratio" 539),some (vS "Ratio" 547),some (.builtin "object.__new__"),some (.bool true)]),
 (300,cO "is_whole" "is_whole" 570 125 1 3 295 574),
 (301,fnO (sf 33) "is_whole" "scheme.exact" 537 300),
 (307,cO "is_exact" "is_exact" 577 127 1 3 302 581),
 (308,fnO (sf 34) "is_exact" "scheme.exact" 537 307),
 (314,cO "top_of" "top_of" 585 130 1 3 309 589),
 (315,fnO (sf 36) "top_of" "scheme.exact" 537 314),
 (321,cO "bottom_of" "bottom_of" 592 132 1 3 316 596),
 (322,fnO (sf 37) "bottom_of" "scheme.exact" 537 321),
 (328,cO "gcd_of" "gcd_of" 599 134 2 3 323 604),
 (329,fnO (sf 38) "gcd_of" "scheme.exact" 537 328),
 (335,cO "lcm_of" "lcm_of" 607 139 2 3 330 612),
 (336,fnO (sf 39) "lcm_of" "scheme.exact" 537 335),
 (342,cO "made" "made" 615 143 2 3 337 620),
 (343,fnO (sf 40) "made" "scheme.exact" 537 342),
 (349,cO "ratio_of" "ratio_of" 623 145 2 3 344 629),
 (350,fnO (sf 41) "ratio_of" "scheme.exact" 537 349),
 (356,cO "sign_of_exact" "sign_of_exact" 632 150 1 3 351 637),
 (357,fnO (sf 42) "sign_of_exact" "scheme.exact" 537 356),
 (363,cO "negate_exact" "negate_exact" 640 153 1 3 358 644),
 (364,fnO (sf 43) "negate_exact" "scheme.exact" 537 363),
 (370,cO "magnitude_exact" "magnitude_exact" 647 155 1 3 365 651),
 (371,fnO (sf 44) "magnitude_exact" "scheme.exact" 537 370),
 (377,cO "add_exact" "add_exact" 654 157 2 3 372 664),
 (378,fnO (sf 45) "add_exact" "scheme.exact" 537 377),
 (384,cO "subtract_exact" "subtract_exact" 667 165 2 3 379 672),
 (385,fnO (sf 46) "subtract_exact" "scheme.exact" 537 384),
 (391,cO "multiply_exact" "multiply_exact" 675 167 2 3 386 683),
 (392,fnO (sf 47) "multiply_exact" "scheme.exact" 537 391),
 (398,cO "reciprocal_exact" "reciprocal_exact" 686 174 1 3 393 692),
 (399,fnO (sf 48) "reciprocal_exact" "scheme.exact" 537 398),
 (405,cO "divide_exact" "divide_exact" 695 177 2 3 400 700),
 (406,fnO (sf 49) "divide_exact" "scheme.exact" 537 405),
 (412,cO "compare_exact" "compare_exact" 703 179 2 3 407 710),
 (413,fnO (sf 50) "compare_exact" "scheme.exact" 537 412),
 (419,cO "is_equal_exact" "is_equal_exact" 713 182 2 3 414 718),
 (420,fnO (sf 51) "is_equal_exact" "scheme.exact" 537 419),
 (426,cO "floor_exact" "floor_exact" 721 184 1 3 421 725),
 (427,fnO (sf 52) "floor_exact" "scheme.exact" 537 426),
 (440,cO "simplest_above" "simplest_above" 737 189 2 3 435 745),
 (441,fnO (sf 54) "simplest_above" "scheme.exact" 537 440),
 (447,cO "simplest_between" "simplest_between" 748 200 2 3 442 753),
 (448,fnO (sf 55) "simplest_between" "scheme.exact" 537 447),
 (454,cO "is_inexact" "is_inexact" 758 209 1 3 449 762),
 (455,fnO (sf 57) "is_inexact" "scheme.numkinds" 756 454),
 (461,cO "is_number" "is_number" 766 212 1 3 456 770),
 (462,fnO (sf 59) "is_number" "scheme.numkinds" 756 461),
 (468,cO "is_integer" "is_integer" 774 215 1 3 463 778),
 (469,fnO (sf 61) "is_integer" "scheme.numkinds" 756 468),
 (475,cO "sign" "sign" 782 218 1 3 470 786),
 (476,fnO (sf 63) "sign" "scheme.numkinds" 756 475),
 (482,cO "whole_value" "whole_value" 789 220 3 3 477 795),
 (483,fnO (sf 64) "whole_value" "scheme.numkinds" 756 482),
 (489,cO "to_exact" "to_exact" 798 226 1 3 484 804),
 (490,fnO (sf 65) "to_exact" "scheme.numkinds" 756 489),
 (496,cO "to_inexact" "to_inexact" 808 232 2 3 491 813),
 (497,fnO (sf 67) "to_inexact" "scheme.numkinds" 756 496),
 (503,cO "has_inexact" "has_inexact" 817 237 1 3 498 822),
 (504,fnO (sf 69) "has_inexact" "scheme.numkinds" 756 503),
 (510,cO "as_of" "as_of" 825 242 3 3 505 831),
 (511,fnO (sf 70) "as_of" "scheme.numkinds" 756 510),
 (517,cO "compare" "compare" 834 244 2 3 512 839),
 (518,fnO (sf 71) "compare" "scheme.numkinds" 756 517),
 (531,cO "__init__" "Tower.__init__" 857 254 2 3 526 862),
 (532,fnO (sm 74 0) "Tower.__init__" "scheme.tower" 843 531),
 (538,cO "is_number" "Tower.is_number" 865 257 2 3 533 870),
 (539,fnO (sm 74 1) "Tower.is_number" "scheme.tower" 843 538),
 (545,cO "is_exact" "Tower.is_exact" 873 260 2 3 540 878),
 (546,fnO (sm 74 2) "Tower.is_exact" "scheme.tower" 843 545),
 (552,cO "is_inexact" "Tower.is_inexact" 881 263 2 3 547 886),
 (553,fnO (sm 74 3) "Tower.is_inexact" "scheme.tower" 843 552),
 (559,cO "is_integer" "Tower.is_integer" 889 266 2 3 554 894),
 (560,fnO (sm 74 4) "Tower.is_integer" "scheme.tower" 843 559),
 (566,cO "is_zero" "Tower.is_zero" 897 269 2 3 561 902),
 (567,fnO (sm 74 5) "Tower.is_zero" "scheme.tower" 843 566),
 (573,cO "is_positive" "Tower.is_positive" 905 272 2 3 568 910),
 (574,fnO (sm 74 6) "Tower.is_positive" "scheme.tower" 843 573),
 (580,cO "is_negative" "Tower.is_negative" 913 275 2 3 575 918),
 (581,fnO (sm 74 7) "Tower.is_negative" "scheme.tower" 843 580),
 (587,cO "is_odd" "Tower.is_odd" 921 278 3 3 582 927),
 (588,fnO (sm 74 8) "Tower.is_odd" "scheme.tower" 843 587),
 (594,cO "is_even" "Tower.is_even" 930 281 3 3 589 936),
 (595,fnO (sm 74 9) "Tower.is_even" "scheme.tower" 843 594),
 (615,cO "chain" "Tower.chain" 957 290 3 3 610 964),
 (616,fnO (sm 74 12) "Tower.chain" "scheme.tower" 843 615),
 (629,cO "to_inexact" "Tower.to_inexact" 975 299 2 3 624 980),
 (630,fnO (sm 74 14) "Tower.to_inexact" "scheme.tower" 843 629),
 (636,cO "add" "Tower.add" 983 302 3 3 631 989),
 (637,fnO (sm 74 15) "Tower.add" "scheme.tower" 843 636),
 (643,cO "subtract" "Tower.subtract" 992 307 3 3 638 998),
 (644,fnO (sm 74 16) "Tower.subtract" "scheme.tower" 843 643),
 (650,cO "multiply" "Tower.multiply" 1001 312 3 3 645 1007),
 (651,fnO (sm 74 17) "Tower.multiply" "scheme.tower" 843 650),
 (657,cO "divide" "Tower.divide" 1010 317 4 3 652 1017),
 (658,fnO (sm 74 18) "Tower.divide" "scheme.tower" 843 657),
 (664,cO "negate" "Tower.negate" 1020 324 2 3 659 1025),
 (665,fnO (sm 74 19) "Tower.negate" "scheme.tower" 843 664),
 (671,cO "absolute" "Tower.absolute" 1028 327 2 3 666 1033),
 (672,fnO (sm 74 20) "Tower.absolute" "scheme.tower" 843 671),
 (678,cO "sum_of" "Tower.sum_of" 1036 330 2 3 673 1043),
 (679,fnO (sm 74 21) "Tower.sum_of" "scheme.tower" 843 678),
 (685,cO "product_of" "Tower.product_of" 1046 336 2 3 680 1053),
 (686,fnO (sm 74 22) "Tower.product_of" "scheme.tower" 843 685),
 (692,cO "difference_of" "Tower.difference_of" 1056 342 2 3 687 1063),
 (693,fnO (sm 74 23) "Tower.difference_of" "scheme.tower" 843 692),
 (699,cO "divided" "Tower.divided" 1066 350 3 3 694 1074),
 (700,fnO (sm 74 24) "Tower.divided" "scheme.tower" 843 699),
 (706,cO "greatest" "Tower.greatest" 1077 358 2 3 701 1084),
 (707,fnO (sm 74 25) "Tower.greatest" "scheme.tower" 843 706),
 (713,cO "least" "Tower.least" 1087 365 2 3 708 1094),
 (714,fnO (sm 74 26) "Tower.least" "scheme.tower" 843 713),
 (748,cO "gcd" "Tower.gcd" 1141 388 3 3 743 1150),
 (749,fnO (sm 74 31) "Tower.gcd" "scheme.tower" 843 748),
 (755,cO "lcm" "Tower.lcm" 1153 394 3 3 750 1162),
 (756,fnO (sm 74 32) "Tower.lcm" "scheme.tower" 843 755),
 (804,cO "rationalize" "Tower.rationalize" 1213 418 3 3 799 1222),
 (805,fnO (sm 74 39) "Tower.rationalize" "scheme.tower" 843 804),
 (807,Obj.mk (.type "dict") none (.dict #[eN P "__module__" 852 (vS "scheme.tower" 843),eN P "__firstlineno__" 856 (.int 252 855),rr P "__init__" 864 532,rr P "is_number" 872 539,rr P "is_exact" 880 546,rr P "is_inexact" 888 553,rr P "is_integer" 896 560,rr P "is_zero" 904 567,rr P "is_positive" 912 574,rr P "is_negative" 920 581,rr P "is_odd" 929 588,rr P "is_even" 938 595,rr P "compare" 947 602,rr P "same_number" 956 609,rr P "chain" 966 616,rr P "to_exact" 974 623,rr P "to_inexact" 982 630,rr P "add" 991 637,rr P "subtract" 1000 644,rr P "multiply" 1009 651,rr P "divide" 1019 658,rr P "negate" 1027 665,rr P "absolute" 1035 672,rr P "sum_of" 1045 679,rr P "product_of" 1055 686,rr P "difference_of" 1065 693,rr P "divided" 1076 700,rr P "greatest" 1086 707,rr P "least" 1096 714,rr P "whole_pair" 1108 721,rr P "quotient" 1120 728,rr P "remainder" 1130 735,rr P "modulo" 1140 742,rr P "gcd" 1152 749,rr P "lcm" 1164 756,rr P "numerator" 1172 763,rr P "denominator" 1180 770,rr P "floor" 1188 777,rr P "ceiling" 1196 784,rr P "truncate" 1204 791,rr P "round_number" 1212 798,rr P "rationalize" 1224 805,rr P "__static_attributes__" 1226 806,rr P "__dict__" 1228 809,rr P "__weakref__" 1230 810,eN P "__doc__" 1231 .none] 4) #[]),
 (808,Obj.mk (.type "type") none (.cls (ClassData.mk (Str.ofString "Tower") [.type "object"] [.ref 808,.type "object"] 807 (Str.ofString "Tower") true [] [] false none false)) #[none,none,some (vS "Tower" 845),some (vS "Tower" 853),some (.builtin "object.__new__"),some (.bool true)]),
 (816,Obj.mk (.type "code") none (.fields #[vS "_law_deck" 1236,vS "_law_deck" 1237,vS "/claim/cut.py" 1238,.int 423 0,.int 1 0,.int 0 0,.int 0 0,.int 3 0,.ref 813,.bool true,.int 181 0,.ref 814,.none,.none,.none,.ref 815,.int 1239 0,.int 423 0,vS "/claim/cut.py" 1240]) #[]),
 (817,fnO (sf 76) "_law_deck" "law_nt0210_04" 1234 816),
 (823,cO "_law_draw" "_law_draw" 1242 425 2 3 818 1248),
 (824,fnO (sf 77) "_law_draw" "law_nt0210_04" 1234 823),
 (830,cO "_law_rounded" "_law_rounded" 1251 433 3 3 825 1260),
 (831,fnO (sf 78) "_law_rounded" "law_nt0210_04" 1234 830),
 (837,cO "_law_number" "_law_number" 1263 444 2 3 832 1269),
 (838,fnO (sf 79) "_law_number" "law_nt0210_04" 1234 837),
 (844,cO "_law_lowest" "_law_lowest" 1272 449 2 3 839 1279),
 (845,fnO (sf 80) "_law_lowest" "law_nt0210_04" 1234 844),
 (851,cO "_law_shown" "_law_shown" 1282 454 1 3 846 1288),
 (852,fnO (sf 81) "_law_shown" "law_nt0210_04" 1234 851),
 (858,cO "_law_inexact" "_law_inexact" 1291 460 2 3 853 1298),
 (859,fnO (sf 82) "_law_inexact" "law_nt0210_04" 1234 858),
 (865,cO "_law_step" "_law_step" 1301 466 4 3 860 1312),
 (866,fnO (sf 83) "_law_step" "law_nt0210_04" 1234 865),
 (872,cO "_law_folded" "_law_folded" 1315 478 4 3 867 1323),
 (873,fnO (sf 84) "_law_folded" "law_nt0210_04" 1234 872),
 (879,cO "_law_told" "_law_told" 1326 484 1 3 874 1331),
 (880,fnO (sf 85) "_law_told" "law_nt0210_04" 1234 879),
 (886,cO "_law_are_folds_right" "_law_are_folds_right" 1334 491 3 3 881 1345),
 (887,fnO (sf 86) "_law_are_folds_right" "law_nt0210_04" 1234 886),
 (893,cO "_law_compared" "_law_compared" 1348 504 2 3 888 1355),
 (894,fnO (sf 87) "_law_compared" "law_nt0210_04" 1234 893),
 (898,Obj.mk (.type "code") none (.fields #[vS "_law_are_ends_right" 1358,vS "_law_are_ends_right" 1359,vS "/claim/cut.py" 1360,.int 507 0,.int 3 0,.int 0 0,.int 0 0,.int 3 0,.ref 895,.bool true,.int 181 0,.ref 896,.none,.none,.none,.ref 897,.int 1361 0,.int 507 0,vS "/claim/cut.py" 1362]) #[]),
 (899,fnO (sf 88) "_law_are_ends_right" "law_nt0210_04" 1234 898),
 (905,cO "_law_is_one_right" "_law_is_one_right" 1364 520 3 3 900 1373),
 (906,fnO (sf 89) "_law_is_one_right" "law_nt0210_04" 1234 905),
 (910,Obj.mk (.type "code") none (.fields #[vS "_law_are_common_right" 1376,vS "_law_are_common_right" 1377,vS "/claim/cut.py" 1378,.int 534 0,.int 3 0,.int 0 0,.int 0 0,.int 3 0,.ref 907,.bool true,.int 181 0,.ref 908,.none,.none,.none,.ref 909,.int 1379 0,.int 534 0,vS "/claim/cut.py" 1380]) #[]),
 (911,fnO (sf 90) "_law_are_common_right" "law_nt0210_04" 1234 910),
 (917,cO "_law_is_simplest" "_law_is_simplest" 1382 555 5 3 912 1397),
 (918,fnO (sf 91) "_law_is_simplest" "law_nt0210_04" 1234 917),
 (922,Obj.mk (.type "code") none (.fields #[vS "law" 1400,vS "law" 1401,vS "/claim/cut.py" 1402,.int 565 0,.int 1 0,.int 0 0,.int 0 0,.int 3 0,.ref 919,.bool true,.int 181 0,.ref 920,.none,.none,.none,.ref 921,.int 1403 0,.int 565 0,vS "/claim/cut.py" 1404]) #[]),
 (923,fnO (sf 92) "law" "law_nt0210_04" 1234 922)]
noncomputable def as4:List Addr:=[2,3,34,35,37,38,54,55,57,58,92,93,95,96,111,112,114,115,125,126,132,133,139,140,146,147,153,154,160,161,167,168,174,175,181,182,188,189,195,196,202,203,209,210,216,217,223,224,230,231,237,238,244,245,251,252,258,259,265,266,272,273,286,287,289,290,300,301,307,308,314,315,321,322,328,329,335,336,342,343,349,350,356,357,363,364,370,371,377,378,384,385,391,392,398,399,405,406,412,413,419,420,426,427,440,441,447,448,454,455,461,462,468,469,475,476,482,483,489,490,496,497,503,504,510,511,517,518,531,532,538,539,545,546,552,553,559,560,566,567,573,574,580,581,587,588,594,595,615,616,629,630,636,637,643,644,650,651,657,658,664,665,671,672,678,679,685,686,692,693,699,700,706,707,713,714,748,749,755,756,804,805,807,808,816,817,823,824,830,831,837,838,844,845,851,852,858,859,865,866,872,873,879,880,886,887,893,894,898,899,905,906,910,911,917,918,922,923]
theorem um:∀P,as4=(K4 P).map (·.1):=fun _=>rfl
noncomputable def fg:List Str:=[Str.ofString "REACH",Str.ofString "is_exact_exact",Str.ofString "is_inexact_numkinds",Str.ofString "is_number_numkinds",Str.ofString "is_integer_numkinds",Str.ofString "to_exact_numkinds",Str.ofString "to_inexact_numkinds",Str.ofString "compare_numkinds"]
theorem Qp:∀w os,runA PySem.Challenge.pw_nt0210_04 10696 (boot_heap w.params) w (S0 w os)=some true:=by
 rw[PySem.W.Fast.mRunA_eq]
 intro w os
 kernel_rfl
theorem Is:∀w os,runB1 PySem.Challenge.pw_nt0210_04 q4 fg 10696 (boot_heap w.params) w (S0 w os)=dueB1 q4:=by
 rw[PySem.W.Fast.mRunB1_eq,PySem.W.Fast.mDueB1_eq]
 intro w os
 kernel_rfl
theorem It:∀w os,runB3 PySem.Challenge.pw_nt0210_04 q4 fg 10696 (boot_heap w.params) w (S0 w os)=dueB3 q4:=by
 rw[PySem.W.Fast.mRunB3_eq,PySem.W.Fast.mDueB3_eq]
 intro w os
 kernel_rfl
theorem Iu:∀w os,runB4 PySem.Challenge.pw_nt0210_04 q4 fg 10696 (boot_heap w.params) w (S0 w os)=dueB4 q4 fg:=by
 rw[PySem.W.Fast.mRunB4_eq,PySem.W.Fast.mDueB4_eq]
 intro w os
 kernel_rfl
theorem Iw:∀w os,runB5 PySem.Challenge.pw_nt0210_04 q4 fg 10696 (boot_heap w.params) w (S0 w os)=dueB5 q4 fg:=by
 rw[PySem.W.Fast.mRunB5_eq,PySem.W.Fast.mDueB5_eq]
 intro w os
 kernel_rfl
theorem Qq:∀w os,runC PySem.Challenge.pw_nt0210_04 as4 10696 (boot_heap w.params) w (S0 w os)=dueC (K4 w.params):=by
 rw[PySem.W.Fast.mRunC_eq,PySem.W.Fast.mDueC_eq]
 intro w os
 kernel_rfl
theorem Ix:∀w os,Io PySem.Challenge.pw_nt0210_04 q4 fg as4 10696 (boot_heap w.params) w (S0 w os)=Ip q4 fg (K4 w.params):=fun w os=>Ir (Qp w os) (Is w os) (It w os) (Iu w os) (Iw w os) (Qq w os)
end Mine
end
set_option backward.match.sparseCases false
set_option tactic.hygienic false
section
open PySem PySem.W PyProof.Rows
namespace Mine
theorem zan{a b:Bool}(h:(a&&b)=true):a=true∧b=true:=Bool.and_eq_true_iff.mp h
theorem zmp{α β:Type}{o:Option α}{f:α→β}{b:β}(h:o.map f=some b):∃a,o=some a∧f a=b:=Option.map_eq_some_iff.mp h
theorem zbd{α β:Type}{o:Option α}{f:α→Option β}{b:β}(h:o.bind f=some b):∃a,o=some a∧f a=some b:=Option.bind_eq_some_iff.mp h
theorem ztl{α:Type}{l:List α}:l.take l.length=l:=List.take_length
theorem nA{x y:Int}{a b c:Nat}(hx:x.natAbs<a)(hy:y.natAbs<b)(h:a+b≤c):(x+y).natAbs<c:=Nat.lt_of_lt_of_le (Nat.lt_of_le_of_lt (Int.natAbs_add_le x y) (Nat.add_lt_add hx hy)) h
theorem nS{x y:Int}{a b c:Nat}(hx:x.natAbs<a)(hy:y.natAbs<b)(h:a+b≤c):(x-y).natAbs<c:=Nat.lt_of_lt_of_le (Nat.lt_of_le_of_lt (Int.natAbs_sub_le x y) (Nat.add_lt_add hx hy)) h
theorem nSl{x y:Int}{a b c:Nat}(hx:x.natAbs≤a)(hy:y.natAbs≤b)(h:a+b≤c):(x-y).natAbs≤c:=Nat.le_trans (Nat.le_trans (Int.natAbs_sub_le x y) (Nat.add_le_add hx hy)) h
theorem wc{x:Int}{k:Nat}(h:x.natAbs≤k):x≤k:=Int.le_trans Int.le_natAbs (Int.ofNat_le.mpr h)
theorem Lz{x:Int}{k:Nat}(h:x.natAbs≤k): -(k:Int)≤x:=Int.neg_le_of_neg_le (wc (x:= -x) (by rw[Int.natAbs_neg];exact h))
theorem nab{x:Int}{k:Nat}(h:x.natAbs≤k): -(k:Int)≤x∧x≤k:=⟨Lz h,wc h⟩
theorem px{x:Int}{k:Nat}(h1: -(k:Int)≤x)(h2:x≤k):x.natAbs≤k:=by
 rcases Int.natAbs_eq x with e|e
 ·exact Int.ofNat_le.mp (e▸h2)
 ·exact Int.ofNat_le.mp (Int.neg_le_neg_iff.mp (e▸h1))
theorem tn{x:Int}:(x.toNat:Int)=x+((-x).toNat:Int):=Int.sub_eq_iff_eq_add.mp (Int.toNat_sub_toNat_neg x)
theorem Iy:∀{l:Int} {n:Nat},l.toNat=n+1→l=(n:Int)+1
 |.ofNat _,_,h=>congrArg Int.ofNat h
 |.negSucc _,_,h=>nomatch h
theorem df{a:Int}:(if a<0 then -a else a)=(a.natAbs:Int):=by
 by_cases h:a<0
 ·rw[if_pos h,Int.ofNat_natAbs_of_nonpos (Int.le_of_lt h)]
 ·rw[if_neg h,Int.natAbs_of_nonneg (Int.not_lt.mp h)]
theorem Qr{p x y s:Nat}(h:(p:Int)+2+y-x=s):x+s=p+2+y:=(Nat.add_comm x s).trans (Int.ofNat.inj (Int.sub_eq_iff_eq_add.mp h)).symm
theorem M8{p x y s:Nat}(h:0-((p:Int)+2+y-x)=s):x=p+2+y+s:=by
 rw[Int.zero_sub,Int.neg_sub]at h
 exact(Int.ofNat.inj (Int.sub_eq_iff_eq_add.mp h)).trans (Nat.add_comm s _)
theorem Tl{p x y s:Nat}(h:x+s=p+2+y)(hx:0<x):p+y≤x-1+s:=by
 obtain⟨x,rfl⟩:=Nat.exists_eq_succ_of_ne_zero (Nat.ne_of_gt hx)
 rw[Nat.succ_add,Nat.add_right_comm p 2 y]at h
 exact Nat.succ.inj h▸Nat.le_succ _
theorem Tm{a p x y s:Nat}(ha:a≤500)(h:x+s=p+2+y)(hp:p≤500)(hy:y≤500):(a:Int)+(s:Int)≤2^27:=
 Int.le_trans (Int.ofNat_le.mpr (Nat.add_le_add ha (Nat.le_trans (Nat.le_add_left s x) (h▸Nat.add_le_add (Nat.add_le_add_right hp 2) hy)))) (by decide)
theorem Tn{p x y s:Nat}(h:x=p+2+y+s):p+y+s≤x-1:=by
 rw[h,Nat.add_right_comm p 2 y,Nat.add_right_comm (p+y) 2 s];exact Nat.le_succ _
theorem Qs{g:Nat}:(2*(((g+1:Nat):Int))+ -1).natAbs=2*g+1:=by
 rw[Int.natCast_succ,Int.mul_add,Int.add_assoc];rfl
theorem D8{p s:Nat}:(if 0<(p:Int)+3-s then (p:Int)+3-s else 0)=((p+3-s:Nat):Int):=by
 by_cases h:0<(p:Int)+3-s
 ·rw[if_pos h,Int.natCast_sub (Int.ofNat_le.mp (Int.le_of_lt (Int.lt_of_sub_pos h)))];rfl
 ·rw[if_neg h,Nat.sub_eq_zero_of_le (Int.ofNat_le.mp (Int.le_of_sub_nonpos (Int.not_lt.mp h)))];rfl
theorem D9{x l:Int}(h:x.natAbs≤300)(h':l.natAbs≤300):(x-l).toNat≤600:=Int.toNat_le.mpr (wc (nSl h h' (Nat.le_refl 600)))
theorem M9{d a b:Int}(h1:a<b)(h0:a<d):(d-b).toNat<(d-a).toNat:=(Int.toNat_lt_toNat (Int.sub_pos_of_lt h0)).mpr (Int.sub_lt_sub_left h1 d)
theorem bd{a m n c K k j:Nat}(h:a+m*n+K<c)(hk:k+j≤K):a+k+m*n+j<c:=Nat.lt_of_le_of_lt (by rw[Nat.add_right_comm a k,Nat.add_assoc];exact Nat.add_le_add_left hk _) h
theorem bd0{a m n c K k:Nat}(h:a+m*n+K<c)(hk:k≤K):a+k<c:=Nat.lt_of_le_of_lt (Nat.add_le_add (Nat.le_add_right a (m*n)) hk) h
theorem bd1{a c K k:Nat}(h:a+K<c)(hk:k≤K):a+k<c:=Nat.lt_of_le_of_lt (Nat.add_le_add_left hk a) h
theorem Na{n a b A B k:Int}(h:a<A)(h':b<B)(hl:n+B+A≤k):n+1+a+b≤k:=by
 rw[Int.add_right_comm (n+1) a b,Int.add_right_comm n 1 b,Int.add_assoc (n+b) 1 a,Int.add_comm 1 a]
 exact Int.le_trans (Int.add_le_add (Int.add_le_add_left (Int.le_of_lt h') n) h) hl
theorem L6{a b A B:Int}(h:a<A)(h':b<B)(h0:0<A)(h0':0<B):(a+b).toNat<(B+A).toNat:=(Int.toNat_lt_toNat (Int.add_pos h0' h0)).mpr (Int.add_comm B A▸Int.add_lt_add h h')
theorem m12{x:Int}{k m:Nat}(h0:0≤x)(h:x<(k:Nat))(hk:k≤m+m+1):(x-m).natAbs≤m:=px (Int.sub_eq_add_neg▸Int.le_add_of_nonneg_left h0) (Int.sub_right_le_of_le_add (Int.le_of_lt_add_one (Int.lt_of_lt_of_le h (Int.ofNat_le.mpr hk))))
theorem gcd_one{a b:Int}(h:Int.gcd a b=b.natAbs)(h1:Int.gcd a b=1)(h0:0<b):b=1:=by
 rw[←Int.natAbs_of_nonneg (Int.le_of_lt h0),←h,h1];rfl
theorem Int.toNat_of_nonpos_iff{x:Int}(h:x.toNat≤0):x≤0:=Int.toNat_eq_zero.mp (Nat.le_zero.mp h)
theorem yu{z x y w:Int}(h: -x≤z↔ -(y)≤0-w):0-z≤x↔w≤y:=by
 rw[Int.zero_sub,Int.neg_le_neg_iff]at h
 rw[Int.zero_sub,←h]
 exact⟨fun q=>Int.neg_le_of_neg_le q,fun q=>Int.neg_le_of_neg_le q⟩
theorem Qt{a n:Nat}(h:a=n):((a:Int)-1-0).toNat=n-1:=by subst h;rw[Int.sub_zero];exact Int.toNat_sub a 1
theorem Qu{a n k:Nat}(h:a=n)(hn:n≤k)(hk:k+1<2^20):((a:Int)-1).natAbs<2^20:=by subst h;exact Nat.lt_of_le_of_lt (nSl (x:=(a:Int)) (y:=1) hn (Nat.le_refl 1) (Nat.le_refl _)) hk
theorem ao{α β:Type}{o:Option α}{f:α→Option β}{y:β}{G:Prop}(h:o.bind f=some y)(k:∀x,o=some x→f x=some y→G):G:=by
 induction o using Option.casesOn with
 |none=>contradiction
 |some x=>exact k x rfl h
theorem Qv{α:Type}{o:Option α}{f:α→Bool}{G:Prop}(h:o.any f=true)(k:∀x,o=some x→f x=true→G):G:=by
 induction o using Option.casesOn with
 |none=>contradiction
 |some x=>exact k x rfl h
theorem Qw{α:Type}{p:Prop}[Decidable p]{o:Option α}{y:α}{G:Prop}(h:(if p then o else Option.none)=some y)(k:p→o=some y→G):G:=by
 by_cases hp:p
 ·exact k hp ((if_pos hp).symm.trans h)
 ·exact nomatch (if_neg hp).symm.trans h
theorem gf{α:Type}{c:Bool}{o:Option α}{y:α}{G:Prop}(h:(if c=true then o else Option.none)=some y)(k:c=true→o=some y→G):G:=by
 induction c using Bool.casesOn with
 |false=>contradiction
 |true=>exact k rfl h
inductive V where
 |none
 |bool (b:Bool)
 |int (i:Int)
 |str (s:Str)
 |tup (l:List V)
 |lst (l:List V)
 |inst (c:Addr) (ns:List Str) (vs:List V)
 |rng (a b:Int)
 |val (v:Value)
inductive D where
 |v (x:V)
 |m (i:Nat)
noncomputable abbrev Sto:=List (List V)
inductive Out (α:Type) where
 |ok (a:α) (st:Sto)
 |exc (x:V) (st:Sto)
 |stuck
noncomputable def Out.bind{α β:Type}:Out α→(α→Sto→Out β)→Out β
 |.ok a st,f=>f a st
 |.exc x st,_=>.exc x st
 |.stuck,_=>.stuck
theorem Out.bind_assoc{α β γ:Type}{r:Out α}{f:α→Sto→Out β}{g:β→Sto→Out γ}:(r.bind f).bind g=r.bind fun a st=>(f a st).bind g:=by
 cases r<;>rfl
noncomputable def Out.quiet{α:Type}:Out α→Out α
 |.exc _ _=>.stuck
 |o=>o
inductive Fl where
 |next|brk|cont
 |ret (d:D)
noncomputable abbrev En:=List (Str×D)
noncomputable def dg(x:Str)(d:D):En→En
 |[]=>[(x,d)]
 |p::r=>if x==p.1 then (p.1,d)::r else p::dg x d r
set_option genCtorIdx false in
structure XcI where
 ps:List Str
 q1:Str
 q2:Str
 word:Str
noncomputable def gV:Value→V
 |.int i _=>.int i
 |v=>.val v
set_option genCtorIdx false in
structure TdI where
 p:Str
 sc:Scope
 wrap:Option Str
 hd:ExceptHandler
 hs:List ExceptHandler
set_option genCtorIdx false in
structure Cx where
 G:Str→Option Value
 mt:Pos→Bool
 meth:Addr→Str→Option Addr
 attr:Addr→Str→Bool
 able:Value→Bool
 xc:Addr→Option XcI
 esub:Addr→Addr→Option Bool
 hand:Bool
 told:Addr→Option TdI
mutual
noncomputable def V.dat:V→Option PyData
 |.none=>some .none
 |.bool b=>some (.bool b)
 |.int i=>some (.int i)
 |.str s=>some (.str s)
 |.tup l=>(V.dats l).map PyData.tuple
 |.lst l=>(V.dats l).map PyData.list
 |.inst _ _ _=>Option.none
 |.rng _ _=>Option.none
 |.val _=>Option.none
noncomputable def V.dats:List V→Option (List PyData)
 |[]=>some []
 |x::xs=>x.dat.bind fun d=>(V.dats xs).bind fun ds=>some (d::ds)
end
noncomputable def D.dat(st:Sto):D→Option PyData
 |.v x=>x.dat
 |.m i=>st[i]?.bind fun l=>(V.dats l).map PyData.list
noncomputable def bw:D→Option Int
 |.v (.int i)=>some i
 |_=>Option.none
noncomputable def te:D→Option Bool
 |.v (.bool b)=>some b
 |_=>Option.none
noncomputable def fy:D→Option (List V)
 |.v (.lst l)=>some l
 |_=>Option.none
noncomputable def Ct:D→Option (List V)
 |.v (.tup l)=>some l
 |_=>Option.none
noncomputable def eqL(a b:D):Option Bool:=(fy a).bind fun l=>(fy b).bind fun q=>if !l.isEmpty&&q.isEmpty then some false else Option.none
noncomputable def eqD(a b:D)(st:Sto):Option Bool:=
 ((a.dat st).bind fun x=>(b.dat st).bind fun y=>if SeqAt.shaped x&&SeqAt.shaped y then some (PyData.eqv x y)else Option.none).or (eqL a b)
noncomputable def Nc(op:CmpOp)(a b:Int):Option Bool:=
 match op with
 |.Lt=>some (decide (a<b))
 |.LtE=>some (decide (a≤b))
 |.Gt=>some (decide (b<a))
 |.GtE=>some (decide (b≤a))
 |.Eq=>some (a==b)
 |.NotEq=>some (a !=b)
 |_=>Option.none
noncomputable def Qx:PyData→Option (List PyData)
 |.tuple xs=>some xs
 |_=>Option.none
noncomputable def inD(a b:D)(st:Sto):Option Bool:=
 (a.dat st).bind fun x=>((b.dat st).bind Qx).bind fun xs=>if SeqAt.shaped x&&(SeqAt.shaped (.tuple xs)&&decide (x.depth≤32))then some (xs.any fun y=>PyData.eqv y x)else Option.none
noncomputable def d7(op:CmpOp)(a b:D)(st:Sto):Option Bool:=
 match op with
 |.Eq=>eqD a b st
 |.NotEq=>(eqD a b st).map not
 |.In=>inD a b st
 |.NotIn=>(inD a b st).map not
 |_=>Option.none
noncomputable def cmp(op:CmpOp)(a b:D)(st:Sto):Option Bool:=
 match bw a with
 |some x=>(match bw b with
  |some y=>Nc op x y
  |Option.none=>d7 op a b st)
 |Option.none=>d7 op a b st
noncomputable def b2i(b:Bool):Int:=if b then 1 else 0
noncomputable def small(x:Int):Bool:=decide (x.natAbs.log2<9000)
noncomputable def p7(a b:Int):Bool:=(small a&&small b)||decide (a.natAbs.log2<60)
noncomputable def wd(b:Int):Bool:=decide (b≠0)&&small b
noncomputable def Nd:Operator→Int→Int→Option Int
 |.Add,a,b=>some (a+b)
 |.Sub,a,b=>some (a-b)
 |.Mult,a,b=>if p7 a b then some (a*b)else Option.none
 |.FloorDiv,a,b=>if wd b then some (a.fdiv b)else Option.none
 |.Mod,a,b=>if b=0 then Option.none else some (a.fmod b)
 |.Pow,a,n=>if 0≤n∧(Builtin.Int.intBits a:Int)*n≤2^27 then some (a^n.toNat)else Option.none
 |.LShift,a,n=>if 0≤n∧(Builtin.Int.intBits a:Int)+n≤2^27 then some (a*2^n.toNat)else Option.none
 |.RShift,a,n=>if 0≤n then some (a.fdiv (2^n.toNat))else Option.none
 |.BitAnd,a,b=>some (Builtin.bitAnd a b)
 |_,_,_=>Option.none
noncomputable def cf(n:Nat):Bool:=decide (n≤2^20)
noncomputable def Tp(a b:D):Option V:=
 (te a).bind fun x=>(te b).bind fun y=>some (.int (b2i x-b2i y))
noncomputable def Nf(a b:D):Option V:=
 (fy a).bind fun x=>(fy b).bind fun y=>if cf (x.length+y.length)then some (.lst (x++y))else Option.none
noncomputable def Qy(a b:D):Option V:=
 (Ct a).bind fun x=>(Ct b).bind fun y=>if cf (x.length+y.length)then some (.tup (x++y))else Option.none
noncomputable def Ea(op:Operator)(a b:D):Option V:=
 match op with
 |.Sub=>Tp a b
 |.Add=>(Nf a b).or (Qy a b)
 |_=>Option.none
noncomputable def lu(op:Operator)(a b:D):Option V:=
 match bw a with
 |some x=>(match bw b with
  |some y=>(Nd op x y).map V.int
  |Option.none=>Ea op a b)
 |Option.none=>Ea op a b
noncomputable def c8:D→Option Bool
 |.v (.bool b)=>some b
 |.v (.int i)=>some (i !=0)
 |_=>Option.none
noncomputable def ofO{α:Type}(st:Sto):Option α→Out α
 |some a=>.ok a st
 |Option.none=>.stuck
noncomputable def cj:List D→Option (List V)
 |[]=>some []
 |.v x::r=>(cj r).map (x::·)
 |.m _::_=>Option.none
noncomputable def f5(l:List V)(k:Int):Option V:=
 if -(2^63)≤k∧k<2^63 then (seqIndex? k l.length).bind fun j=>l[j]? else Option.none
noncomputable def we(d:D)(st:Sto):Option (List V):=
 match d with
 |.v (.lst l)=>some l
 |.v (.tup l)=>some l
 |.m i=>st[i]?
 |_=>Option.none
noncomputable def kt(o i:D)(st:Sto):Option V:=(bw i).bind fun k=>(we o st).bind fun l=>f5 l k
noncomputable def evs(f:Expr→Sto→Out D):List Expr→Sto→Out (List D)
 |[],st=>.ok [] st
 |e::es,st=>(f e st).bind fun d st=>(evs f es st).bind fun ds st=>.ok (d::ds) st
theorem p8{f:Expr→Sto→Out D}{e:Expr}{es:List Expr}{st:Sto}:evs f (e::es) st=(f e st).bind fun d st=>(evs f es st).bind fun ds st=>.ok (d::ds) st:=rfl
noncomputable def gh:Option Expr→Option (Option Nat)
 |Option.none=>some Option.none
 |some (.Constant (.int i) _ _)=>if 0≤i then some (some i.toNat)else Option.none
 |_=>Option.none
noncomputable def Eb(l:List V)(a b:Option Nat):Option (List V):=
 match a with
 |Option.none=>b.map fun n=>l.take n
 |some n=>if b.isNone then some (l.drop n)else Option.none
noncomputable def yv(lo hi:Option Expr)(d:D)(st:Sto):Out D:=ofO st ((fy d).bind fun l=>(gh lo).bind fun a=>(gh hi).bind fun b=>if cf l.length then (Eb l a b).map fun m=>D.v (.lst m)else Option.none)
noncomputable def Ec:List D→Option V
 |[.v x]=>some x
 |_=>Option.none
noncomputable def isZ:V→Bool
 |.int i=>i==0
 |_=>false
noncomputable def listM(name:Str)(i:Nat)(ds:List D)(st:Sto):Out D:=
 match st[i]? with
 |Option.none=>.stuck
 |some l=>
  if name==Str.ofString "append"then (match Ec ds with
   |some x=>if cf l.length then .ok (.v .none) (st.set i (l++[x]))else .stuck
   |Option.none=>.stuck)
  else if name==Str.ofString "pop"then (if ds.isEmpty then (match l.getLast? with
   |some x=>.ok (.v x) (st.set i l.dropLast)
   |Option.none=>.stuck)
   else if(Ec ds).any isZ then (match l with
    |x::r=>.ok (.v x) (st.set i r)
    |[]=>.stuck)
   else .stuck)
  else .stuck
noncomputable def dj(e:Expr):Bool:=e.ctorIdx==22
noncomputable def fh(e:Expr):Bool:=e.ctorIdx==20
noncomputable def bj(e:Expr):Bool:=e.ctorIdx==8||e.ctorIdx==9||e.ctorIdx==10
noncomputable def ct(e:Expr):Bool:=e.ctorIdx==7
noncomputable def gw:Expr→Bool
 |.Call _ args _ _=>args.isEmpty
 |_=>false
noncomputable def noStar(l:List Expr):Bool:=l.all fun e=> !dj e
noncomputable def dk(l:List Expr):Bool:=l.all fun e=> !ct e
noncomputable def jd:V→Bool
 |.val _=>true
 |_=>false
set_option genCtorIdx false in
structure Js where
 h:Scope→En→Expr→Sto→Out D
 t:Addr→Expr→Scope→En→Sto→Out D
noncomputable def bf(x:Str):Bool:=x==Str.ofString "__debug__"||x==Str.ofString "__classdict__"
noncomputable def gx:List V→Bool
 |[]=>true
 |.int _::r=>gx r
 |_::_=>false
noncomputable def f0(sc:Scope)(x:Str):Bool:=sc.names.lookup x==some .local||sc.names.lookup x==some .cell||sc.names.lookup x==some .free
set_option genCtorIdx false in
structure In where
 ex:Scope→En→Expr→Sto→Out D
 tt:Scope→En→Expr→Sto→Out Bool
 st:Scope→En→Stmt→Sto→Out (Fl×En)
noncomputable def chain(f:Expr→Sto→Out D)(a:D):List CmpOp→List Expr→Sto→Out Bool
 |[op],[r],st=>(f r st).bind fun b st=>ofO st (cmp op a b st)
 |op::ops,r::rs,st=>(f r st).bind fun b st=>match cmp op a b st with
  |some true=>chain f b ops rs st
  |some false=>.ok false st
  |Option.none=>.stuck
 |_,_,_=>.stuck
noncomputable def allT(f:Expr→Sto→Out Bool):BoolOp→List Expr→Sto→Out Bool
 |.And,[],st=>.ok true st
 |.Or,[],st=>.ok false st
 |.And,e::es,st=>(f e st).bind fun b st=>if b then allT f .And es st else .ok false st
 |.Or,e::es,st=>(f e st).bind fun b st=>if b then .ok true st else allT f .Or es st
noncomputable def boolV(f:Expr→Sto→Out D)(op:BoolOp):List Expr→Sto→Out D
 |[],_=>.stuck
 |[e],st=>f e st
 |e::es,st=>(f e st).bind fun d st=>match op,c8 d with
  |.And,some false=>.ok d st
  |.Or,some true=>.ok d st
  |_,some _=>boolV f op es st
  |_,Option.none=>.stuck
noncomputable def exs(f:En→Stmt→Sto→Out (Fl×En)):List Stmt→En→Sto→Out (Fl×En)
 |[],ρ,st=>.ok (.next,ρ) st
 |s::r,ρ,st=>(f ρ s st).bind fun p st=>match p.1 with
  |.next=>exs f r p.2 st
  |fl=>.ok (fl,p.2) st
theorem L7{f:En→Stmt→Sto→Out (Fl×En)}{s:Stmt}{r:List Stmt}{ρ:En}{st:Sto}:exs f (s::r) ρ st=(f ρ s st).bind fun p st=>match p.1 with
 |.next=>exs f r p.2 st
 |fl=>.ok (fl,p.2) st:=rfl
theorem Ed{f:Expr→Sto→Out Bool}{e:Expr}{es:List Expr}{st:Sto}:allT f .And (e::es) st=(f e st).bind fun b st=>if b then allT f .And es st else .ok false st:=rfl
theorem Ee{f:Expr→Sto→Out Bool}{e:Expr}{es:List Expr}{st:Sto}:allT f .Or (e::es) st=(f e st).bind fun b st=>if b then .ok true st else allT f .Or es st:=rfl
noncomputable def fj(tst:En→Sto→Out Bool)(body:En→Sto→Out (Fl×En)):Nat→En→Sto→Out (Fl×En)
 |0,_,_=>.stuck
 |k+1,ρ,st=>(tst ρ st).quiet.bind fun b st=>if b then
   (body ρ st).quiet.bind fun p st=>match p.1 with
     |.next=>fj tst body k p.2 st
     |.cont=>fj tst body k p.2 st
     |.brk=>.ok (.next,p.2) st
     |.ret d=>.ok (.ret d,p.2) st
  else .ok (.next,ρ) st
noncomputable def fz(put:V→En→Option En)(body:En→Sto→Out (Fl×En)):List V→En→Sto→Out (Fl×En)
 |[],ρ,st=>.ok (.next,ρ) st
 |x::r,ρ,st=>match put x ρ with
  |Option.none=>.stuck
  |some ρ₁=>(body ρ₁ st).bind fun p st=>match p.1 with
   |.next=>fz put body r p.2 st
   |.cont=>fz put body r p.2 st
   |.brk=>.ok (.next,p.2) st
   |.ret d=>.ok (.ret d,p.2) st
theorem wf{tst:En→Sto→Out Bool}{body:En→Sto→Out (Fl×En)}{k:Nat}{ρ:En}{st:Sto}:fj tst body (k+1) ρ st=(tst ρ st).quiet.bind fun b st=>if b then
 (body ρ st).quiet.bind fun p st=>match p.1 with
   |.next=>fj tst body k p.2 st
   |.cont=>fj tst body k p.2 st
   |.brk=>.ok (.next,p.2) st
   |.ret d=>.ok (.ret d,p.2) st
 else .ok (.next,ρ) st:=rfl
theorem Eg{put:V→En→Option En}{body:En→Sto→Out (Fl×En)}{x:V}{r:List V}{ρ:En}{st:Sto}:fz put body (x::r) ρ st=match put x ρ with
 |Option.none=>.stuck
 |some ρ₁=>(body ρ₁ st).bind fun p st=>match p.1 with
  |.next=>fz put body r p.2 st
  |.cont=>fz put body r p.2 st
  |.brk=>.ok (.next,p.2) st
  |.ret d=>.ok (.ret d,p.2) st:=rfl
noncomputable def c9:Expr→Option Str
 |.Name x _=>some x
 |_=>Option.none
noncomputable def one{α:Type}(l:List α):Option α:=l.head?.bind fun x=>if l.tail.isEmpty then some x else Option.none
noncomputable def gy(l:List Comprehension):Option (Expr×Expr×List Expr):=(one l).bind fun g=>if g.is_async==0 then some (g.target,g.iter,g.ifs)else Option.none
noncomputable def bg:List Expr→Option (List Str)
 |[]=>some []
 |e::r=>(c9 e).bind fun x=>(bg r).map (x::·)
noncomputable def ai:List Str→Bool
 |[]=>true
 |x::r=> !r.contains x&&ai r
noncomputable def je(sc:Scope)(x:Str):Bool:=sc.names.lookup x==some .local||sc.names.lookup x==some .cell
noncomputable def cm(sc:Scope):List Str→List V→En→Option En
 |[],[],ρ=>some ρ
 |x::xs,v::vs,ρ=>if je sc x then cm sc xs vs (dg x (.v v) ρ)else Option.none
 |_,_,_=>Option.none
noncomputable def p9(sc:Scope):Env:={ scope:=sc,locals:=0,globals:=0,cells:=[] }
noncomputable def L8{α:Type}:Sem α→Option α
 |.pure x=>some x
 |_=>Option.none
noncomputable def Cu(sc:Scope)(ts:List Expr)(k:Nat)(tp:Pos)(value:Expr)(xs:List Str):Bool:=
 (L8 (swappedStores [.Tuple ts k tp] value (p9 sc))).any fun o=>match o with
 |Option.none=>true
 |some ys=>ys==xs
noncomputable def LIM:Nat:=1000000000
noncomputable def gi(a b:Int):List V:=(List.range (b-a).toNat).map fun(i:Nat)=>V.int (a+(i:Int))
noncomputable def pa:D→Option (List V)
 |.v (.lst l)=>some l
 |.v (.tup l)=>some l
 |.v (.rng a b)=>if a.natAbs≤2^20∧b.natAbs≤2^20 then some (gi a b)else Option.none
 |_=>Option.none
noncomputable def Ng(sc:Scope)(t:Expr)(x:V)(ρ:En):Option En:=(c9 t).bind fun n=>if je sc n then some (dg n (.v x) ρ)else Option.none
noncomputable def Tq:V→Option (List V)
 |.tup l=>some l
 |_=>Option.none
noncomputable def yw(sc:Scope)(t:Expr)(x:V)(ρ:En):Option En:=
 match t with
 |.Tuple ts _ _=>(match bg ts with
  |some xs=>if ai xs then (Tq x).bind fun l=>cm sc xs l ρ else Option.none
  |Option.none=>Option.none)
 |_=>Option.none
noncomputable def m8:Nat→List V→List V
 |_,[]=>[]
 |i,x::r=>.tup [.int (i:Int),x]::m8 (i+1) r
noncomputable def sy:List V→List V→List V
 |x::r,y::q=>.tup [x,y]::sy r q
 |_,_=>[]
inductive Src where
 |one|enu|zip
noncomputable def two(l:List D):Option (D×D):=l.head?.bind fun d=>(one l.tail).map fun e=>(d,e)
noncomputable def dp(pr:Src)(ds:List D):Option (List V):=
 match pr with
 |.one=>(Mine.one ds).bind pa
 |.enu=>(Mine.one ds).bind fun d=>(fy d).map (m8 0)
 |.zip=>(two ds).bind fun p=>(fy p.1).bind fun l=>(fy p.2).map fun q=>sy l q
noncomputable def m9(pr:Src)(sc:Scope)(t:Expr)(x:V)(ρ:En):Option En:=
 match pr with
 |.one=>Ng sc t x ρ
 |_=>yw sc t x ρ
noncomputable def qa:Expr→List Str
 |.Name n _=>[n]
 |.Tuple ts _ _=>(bg ts).getD []
 |_=>[]
noncomputable def un(sc:Scope)(t:Expr):Bool:=(qa t).all fun x=>sc.names.lookup x==some .local
noncomputable def aq(scope sc:Scope):Scope:=relabel scope (p9 sc)
noncomputable def jf(scope sc:Scope):Bool:=scope.kind==.function&&scope.names.all fun x=>x.2 !=.cell&&(x.2 !=.local||scope.names.lookup x.1==some .local)&&
 (x.2 !=.free||(scope.names.lookup x.1==some .free&&(sc.names.lookup x.1==some .cell||sc.names.lookup x.1==some .free)))
noncomputable def ey(f:En→Expr→Sto→Out Bool)(ifs:List Expr)(ρ:En)(st:Sto):Out Bool:=
 match ifs with
 |[]=>.ok true st
 |[c]=>f ρ c st
 |_=>.stuck
noncomputable def az(sc:Scope)(ρ:En):En:=ρ.filter fun x=>sc.names.lookup x.1==some .cell||sc.names.lookup x.1==some .free
noncomputable def a8(put:V→En→Option En)(test:En→Sto→Out Bool)(elt:En→Sto→Out D):List V→En→List V→Sto→Out (List V)
 |[],_,acc,st=>.ok acc st
 |x::r,ρ,acc,st=>match put x ρ with
  |Option.none=>.stuck
  |some ρ₁=>(test ρ₁ st).quiet.bind fun b st=>if b then (elt ρ₁ st).quiet.bind fun d st=>match d with
    |.v y=>if cf acc.length then a8 put test elt r ρ₁ (acc++[y]) st else .stuck
    |.m _=>.stuck
   else a8 put test elt r ρ₁ acc st
theorem Ax{put:V→En→Option En}{test:En→Sto→Out Bool}{elt:En→Sto→Out D}{x:V}{r acc:List V}{ρ:En}{st:Sto}:a8 put test elt (x::r) ρ acc st=match put x ρ with
 |Option.none=>.stuck
 |some ρ₁=>(test ρ₁ st).quiet.bind fun b st=>if b then (elt ρ₁ st).quiet.bind fun d st=>match d with
   |.v y=>if cf acc.length then a8 put test elt r ρ₁ (acc++[y]) st else .stuck
   |.m _=>.stuck
  else a8 put test elt r ρ₁ acc st:=rfl
noncomputable def tg:Operator→Bool
 |.LShift=>true
 |_=>false
noncomputable def dh(C:Cx)(sc:Scope)(x:Str):Option Value:=
 if bf x||f0 sc x then Option.none else if sc.names.lookup x==some .globalImplicit then C.G x else Option.none
noncomputable def qc(t:String):Value→Bool
 |.type u=>u==t
 |_=>false
noncomputable def Qz(v:Value)(args:List Expr)(it:Expr):Src×List Expr:=if qc "enumerate" v then (.enu,args)else if qc "zip" v then (.zip,args)else (.one,[it])
noncomputable def cn(C:Cx)(sc:Scope)(it:Expr):Src×List Expr:=
 match it with
 |.Call f args [] _=>(match(c9 f).bind (dh C sc)with
  |some v=>if C.able v&&noStar args then Qz v args it else (.one,[it])
  |Option.none=>(.one,[it]))
 |_=>(.one,[it])
noncomputable def f6(f:Expr→Sto→Out D)(p:Src×List Expr)(st:Sto):Out (List V):=(evs f p.2 st).bind fun ds st=>ofO st (dp p.1 ds)
noncomputable def i8:Stmt→Option Expr
 |.Return e _=>e
 |_=>Option.none
noncomputable def kl:Stmt→Option (Expr×Expr)
 |.If c a b _=>if b.isEmpty then ((one a).bind i8).map fun e=>(c,e)else Option.none
 |_=>Option.none
noncomputable def o7(ex:Expr→Sto→Out D)(tt:Expr→Sto→Out Bool):List Stmt→Sto→Out D
 |[],_=>.stuck
 |s::r,st=>(match i8 s with
  |some e=>if r.isEmpty then ex e st else .stuck
  |Option.none=>(match kl s with
   |some p=>(tt p.1 st).bind fun b st=>if b then ex p.2 st else o7 ex tt r st
   |Option.none=>.stuck))
theorem Nh{ex:Expr→Sto→Out D}{tt:Expr→Sto→Out Bool}{s:Stmt}{r:List Stmt}{st:Sto}:o7 ex tt (s::r) st=(match i8 s with
 |some e=>if r.isEmpty then ex e st else .stuck
 |Option.none=>(match kl s with
  |some p=>(tt p.1 st).bind fun b st=>if b then ex p.2 st else o7 ex tt r st
  |Option.none=>.stuck)):=rfl
noncomputable def jg:ExceptHandler→Option (Str×Str×Expr)
 |.ExceptHandler t n body _=>(t.bind c9).bind fun x=>n.bind fun n=>((one body).bind i8).map fun e=>(x,n,e)
noncomputable def jh(x:Str)(ρ:En):En:=ρ.filter fun p=> !(p.1==x)
noncomputable def kv:Value→Option Addr
 |.ref a=>some a
 |_=>Option.none
noncomputable def kz(C:Cx)(sc:Scope)(x:Str):Option Addr:=(dh C sc x).bind kv
noncomputable def cr(C:Cx)(J:Scope→En→Expr→Sto→Out D)(sc:Scope)(ρ:En)(c:Addr)(ns:List Str)(l:List V):List ExceptHandler→Sto→Out (Fl×En)
 |[],_=>.stuck
 |h::r,st=>(match jg h with
  |Option.none=>.stuck
  |some p=>(match kz C sc p.1 with
   |some hc=>(match C.esub c hc with
    |some true=>if sc.names.lookup p.2.1==some .local then (J sc (dg p.2.1 (.v (.inst c ns l)) ρ) p.2.2 st).quiet.bind fun d st=>.ok (.ret d,jh p.2.1 ρ) st else .stuck
    |some false=>cr C J sc ρ c ns l r st
    |Option.none=>.stuck)
   |Option.none=>.stuck))
theorem nc{C:Cx}{J:Scope→En→Expr→Sto→Out D}{sc:Scope}{ρ:En}{c:Addr}{ns:List Str}{l:List V}{h:ExceptHandler}{r:List ExceptHandler}{st:Sto}:cr C J sc ρ c ns l (h::r) st=(match jg h with
 |Option.none=>.stuck
 |some p=>(match kz C sc p.1 with
  |some hc=>(match C.esub c hc with
   |some true=>if sc.names.lookup p.2.1==some .local then (J sc (dg p.2.1 (.v (.inst c ns l)) ρ) p.2.2 st).quiet.bind fun d st=>.ok (.ret d,jh p.2.1 ρ) st else .stuck
   |some false=>cr C J sc ρ c ns l r st
   |Option.none=>.stuck)
  |Option.none=>.stuck)):=rfl
noncomputable def XcI.ns(xi:XcI):List Str:=xi.q1::xi.q2::xi.ps
noncomputable def XcI.vs(xi:XcI)(l:List V):List V:=.str xi.word::.lst l::l
noncomputable def Cv(name:Str)(i:Int)(args:List Expr)(st:Sto):Out D:=
 if name==Str.ofString "bit_length"&&args.isEmpty then .ok (.v (.int (Builtin.Int.intBits i:Nat))) st else .stuck
noncomputable def mD:D→Option Nat
 |.m i=>some i
 |_=>Option.none
noncomputable def ti(ρ:En)(d a k:D)(st:Sto):Out (Fl×En):=
 match bw d with
 |some x=>(match mD a with
  |some j=>(match bw k with
   |some z=>(match st[j]? with
    |some l=>if gx l=true∧0≤z∧z<l.length∧z<2^63 then .ok (.next,ρ) (st.set j (l.set z.toNat (.int x)))else .stuck
    |Option.none=>.stuck)
   |Option.none=>.stuck)
  |Option.none=>.stuck)
 |Option.none=>.stuck
theorem T1:true=true:=rfl
theorem nf{α:Type}{o:Option α}{n k:Nat}{x:α}(v:(o.isNone||Nat.beq n k)=true)(h:o=some x):n=k:=by subst h;exact Nat.eq_of_beq_eq_true v
theorem onV{α:Type}{f:D→Option α}{k:Nat}(hm:∀i,f (.m i)=Option.none)(hv:∀x:V,((f (.v x)).isNone||Nat.beq x.ctorIdx k)=true){d:D}{x:α}(h:f d=some x):∃y:V,d=.v y∧y.ctorIdx=k:=by
 induction d using D.casesOn with
 |v y=>exact⟨y,rfl,nf (hv y) h⟩
 |m i=>cases (hm i).symm.trans h
theorem Eh{α:Type}{m:Sem α}{x:α}(h:L8 m=some x):m=.pure x:=by
 cases m with
 |pure y=>cases h;rfl
 |_=>cases h
theorem ng{α:Type}{l:List α}{x:α}(h:one l=some x):l=[x]:=by
 cases l with
 |nil=>cases h
 |cons y r=>
  cases r with
  |nil=>cases h;rfl
  |cons _ _=>cases h
theorem Ni{l:List D}{p:D×D}(h:two l=some p):l=[p.1,p.2]:=by
 cases l with
 |nil=>cases h
 |cons y r=>
  obtain⟨e,h1,rfl⟩:=zmp (show(one r).map (fun e=>(y,e))=some p from h)
  rw[ng h1]
theorem ej{d:D}{i:Int}(h:bw d=some i):d=.v (.int i):=by
 obtain⟨y,rfl,hy⟩:=onV (f:=bw) (k:=2) (fun o_=>rfl) (fun x=>by cases x<;>exact T1) h
 exact V.int.elim (motive_1:=fun y=>bw (.v y)=some i→D.v y=.v (.int i)) y hy (fun j h=>by cases h;rfl) h
theorem Ts{d:D}{i:Nat}(h:mD d=some i):d=.m i:=by
 induction d using D.casesOn with
 |v _=>contradiction
 |m j=>(first|subst h|contradiction|(injection h with h;subst h)|cases h);rfl
theorem wg{d:D}{st:Sto}{l:List V}(h:we d st=some l):d=.v (.lst l)∨d=.v (.tup l)∨∃j,d=.m j∧st[j]? =some l:=by
 induction d using D.casesOn with
 |m j=>exact .inr (.inr ⟨j,rfl,h⟩)
 |v x=>
  induction x using Mine.V.casesOn with
  |lst l=>(first|subst h|contradiction|(injection h with h;subst h)|cases h);exact .inl rfl
  |tup l=>(first|subst h|contradiction|(injection h with h;subst h)|cases h);exact .inr (.inl rfl)
  |_=>contradiction
theorem Ei{ρ:En}{d a k:D}{st:Sto}(h:ti ρ d a k st≠.stuck):∃x j z l,d=.v (.int x)∧a=.m j∧k=.v (.int z)∧st[j]? =some l∧(gx l=true∧0≤z∧z<l.length∧z<2^63)∧ti ρ d a k st=.ok (.next,ρ) (st.set j (l.set z.toNat (.int x))):=by
 unfold ti at h
 generalize h1:bw d=zz at h
 induction zz using Option.casesOn with
 |none=>exact absurd rfl h
 |some x=>
  generalize h2:mD a=zz at h
  induction zz using Option.casesOn with
  |none=>exact absurd rfl h
  |some j=>
   generalize h3:bw k=zz at h
   induction zz using Option.casesOn with
   |none=>exact absurd rfl h
   |some z=>
    dsimp only at h
    generalize h4:st[j]? =zz at h
    induction zz using Option.casesOn with
    |none=>exact absurd rfl h
    |some l=>
     by_cases hc:gx l=true∧0≤z∧z<l.length∧z<2^63
     ·refine⟨x,j,z,l,ej h1,Ts h2,ej h3,h4,hc,?_⟩
      unfold ti
      rw[h1,h2,h3]
      dsimp only
      rw[h4]
      exact if_pos hc
     ·exact absurd (if_neg hc) h
noncomputable def noA(a:Arguments):Bool:=a.posonlyargs.isEmpty&&(a.args.isEmpty&&(a.vararg.isNone&&(a.kwonlyargs.isEmpty&&(a.kw_defaults.isEmpty&&(a.kwarg.isNone&&a.defaults.isEmpty)))))
noncomputable def Nj(e:Expr):Option (Expr×Scope×Pos):=
 match e with
 |.Lambda a b sc p=>if noA a then some (b,sc,p)else Option.none
 |_=>Option.none
noncomputable def lx(args:List Expr):Option (Expr×Scope×Pos):=(one args).bind Nj
noncomputable def qd(lsc sc:Scope):Bool:=lsc.kind==.function&&(!lsc.isCoroutine&&(!lsc.isGenerator&&((lsc.names.all fun x=>x.2 !=.cell&&(x.2 !=.free||(lsc.names.lookup x.1==some .free&&(sc.names.lookup x.1==some .cell||sc.names.lookup x.1==some .free))))&&lsc.names.any fun x=>sc.names.lookup x.1==some .cell)))
noncomputable def kn(C:Cx)(J:Js)(sc:Scope)(ρ:En)(f:Expr)(l:Expr×Scope×Pos)(st:Sto):Out D:=
 match((c9 f).bind (dh C sc)).bind kv with
 |some a=>if qd l.2.1 sc&&(C.told a).isSome then J.t a l.1 l.2.1 (az l.2.1 ρ) st else .stuck
 |Option.none=>.stuck
noncomputable def Ay(C:Cx)(I:In)(sc:Scope)(ρ:En)(elt:Expr)(gens:List Comprehension)(scope:Scope)(pos:Pos)(st:Sto):Out D:=
 match gy gens with
 |some (target,iter,ifs)=>if((jf scope sc&& !ct iter)&&un (aq scope sc) target)&& !C.hand then (f6 (I.ex sc ρ) (cn C sc iter) st).bind fun l st=>(a8 (m9 (cn C sc iter).1 (aq scope sc) target) (ey (I.tt (aq scope sc)) ifs) (fun ρ st=>I.ex (aq scope sc) ρ elt st) l (az (aq scope sc) ρ) [] st).bind fun acc st=>
   if C.mt pos then .ok (.m st.length) (st++[acc])else .ok (.v (.lst acc)) st
  else .stuck
 |Option.none=>.stuck
noncomputable def wh(sc:Scope)(x:Str)(xp:Pos)(scope:Scope)(cp:Pos):Bool:=sc.names.lookup x==some .local&&(xp.line==cp.line&& !(scope.names.any fun q=>q.1==x&&(q.2==.local||q.2==.cell)))
noncomputable def Nk(C:Cx)(I:In)(sc:Scope)(ρ:En)(x:Str)(xp:Pos)(e:Expr)(st:Sto):Out (Fl×En):=
 match e with
 |.ListComp elt gens scope cp=>if wh sc x xp scope cp then (Ay C I sc ρ elt gens scope cp st).bind fun d st=>.ok (.next,dg x d ρ) st else .stuck
 |_=>.stuck
noncomputable def step(C:Cx)(Φ:D→List D→Sto→Out D)(J:Js)(I:In):In where
 ex:=fun sc ρ e st=>match e with
  |.Constant (.int i) _ _=>.ok (.v (.int i)) st
  |.Constant (.bool b) _ _=>.ok (.v (.bool b)) st
  |.Constant (.str s) _ _=>.ok (.v (.str s)) st
  |.Constant .none _ _=>.ok (.v .none) st
  |.Name x _=>if bf x then .stuck else if f0 sc x then ofO st (ρ.lookup x)else if sc.names.lookup x==some .globalImplicit then ofO st ((C.G x).map fun v=>D.v (gV v))else .stuck
  |.BinOp l op r _=>if C.hand&&tg op then .stuck else (I.ex sc ρ l st).bind fun a st=>(I.ex sc ρ r st).bind fun b st=>ofO st ((lu op a b).map D.v)
  |.UnaryOp .Not x _=>(I.ex sc ρ x st).bind fun a st=>ofO st ((c8 a).map fun b=>D.v (.bool (!b)))
  |.UnaryOp .USub x _=>(I.ex sc ρ x st).bind fun a st=>ofO st ((bw a).map fun i=>D.v (.int (-i)))
  |.IfExp c a b _=>(I.tt sc ρ c st).bind fun t st=>if t then I.ex sc ρ a st else I.ex sc ρ b st
  |.BoolOp op vs _=>boolV (I.ex sc ρ) op vs st
  |.Compare l ops cs _=>if dk cs&&ops.length==cs.length then (I.ex sc ρ l st).bind fun a st=>(chain (I.ex sc ρ) a ops cs st).bind fun b st=>.ok (.v (.bool b)) st else .stuck
  |.Tuple es _ _=>if noStar es&&cf es.length then (evs (I.ex sc ρ) es st).bind fun ds st=>ofO st ((cj ds).map fun l=>D.v (.tup l))else .stuck
  |.List es pos=>if noStar es&&cf es.length then (evs (I.ex sc ρ) es st).bind fun ds st=>match cj ds with
   |some l=>if C.mt pos then .ok (.m st.length) (st++[l])else .ok (.v (.lst l)) st
   |Option.none=>.stuck
   else .stuck
  |.Subscript o (.Slice lo hi Option.none _) _=>(I.ex sc ρ o st).bind fun d st=>yv lo hi d st
  |.Subscript o i _=>if dj i then .stuck else (I.ex sc ρ o st).bind fun d st=>(I.ex sc ρ i st).bind fun k st=>ofO st ((kt d k st).map D.v)
  |.Attribute o a _=>if gw o then .stuck else (I.ex sc ρ o st).bind fun d st=>match d with
   |.v (.inst c ns vs)=>if C.attr c a then (match(ns.zip vs).lookup a with
    |some x=>if jd x then .stuck else .ok (.v x) st
    |Option.none=>.stuck)else .stuck
   |_=>.stuck
  |.Call (.Attribute o name ap) args [] pos=>if !gw o&&noStar args&&decide (args.length<20)&&ap.endLine==pos.line then (I.ex sc ρ o st).bind fun d st=>match d with
    |.m i=>(evs (I.ex sc ρ) args st).quiet.bind fun ds st=>listM name i ds st
    |.v (.int i)=>Cv name i args st
    |.v (.inst c ns _)=>(match C.meth c name with
     |some f=>if ns.contains name then .stuck else (evs (I.ex sc ρ) args st).bind fun ds st=>Φ (.v (.val (.ref f))) (d::ds) st
     |Option.none=>.stuck)
    |_=>.stuck
   else .stuck
  |.Call f args [] _=>(match lx args with
   |some l=>kn C J sc ρ f l st
   |Option.none=>if fh f|| !noStar args then .stuck else (I.ex sc ρ f st).bind fun d st=>match d with
    |.v (.val v)=>if C.able v then (evs (I.ex sc ρ) args st).bind fun ds st=>Φ d ds st else .stuck
    |_=>.stuck)
  |.ListComp elt gens scope pos=>Ay C I sc ρ elt gens scope pos st
  |_=>.stuck
 tt:=fun sc ρ e st=>match e with
  |.UnaryOp .Not x _=>(I.tt sc ρ x st).bind fun b st=>.ok (!b) st
  |.BoolOp op vs _=>allT (I.tt sc ρ) op vs st
  |.IfExp c a b _=>(I.tt sc ρ c st).bind fun t st=>if t then I.tt sc ρ a st else I.tt sc ρ b st
  |.Compare l ops cs _=>if dk cs&&ops.length==cs.length then (I.ex sc ρ l st).bind fun a st=>chain (I.ex sc ρ) a ops cs st else .stuck
  |e=>(I.ex sc ρ e st).bind fun d st=>ofO st (c8 d)
 st:=fun sc ρ s st=>match s with
  |.Pass _=>.ok (.next,ρ) st
  |.Break _=>.ok (.brk,ρ) st
  |.Continue _=>.ok (.cont,ρ) st
  |.Return (some e) _=>(I.ex sc ρ e st).bind fun d st=>.ok (.ret d,ρ) st
  |.Expr e _=>if bj e then .stuck else (I.ex sc ρ e st).bind fun o_ st=>.ok (.next,ρ) st
  |.Assign [.Name x xp] e _=>if bj e then Nk C I sc ρ x xp e st else (I.ex sc ρ e st).bind fun d st=>if je sc x then .ok (.next,dg x d ρ) st else .stuck
  |.Assign [.Tuple ts k tp] e _=>if bj e then .stuck else match bg ts with
   |some xs=>if ai xs&&Cu sc ts k tp e xs then (I.ex sc ρ e st).bind fun d st=>match d with
     |.v (.tup l)=>(match cm sc xs l ρ with
      |some ρ'=>.ok (.next,ρ') st
      |Option.none=>.stuck)
     |_=>.stuck
    else .stuck
   |Option.none=>.stuck
  |.Assign [.Subscript o i _] e _=>if bj e||dj i then .stuck else (I.ex sc ρ e st).bind fun d st=>(I.ex sc ρ o st).bind fun a st=>(I.ex sc ρ i st).bind fun k st=>ti ρ d a k st
  |.If c a b _=>(I.tt sc ρ c st).bind fun t st=>if t then exs (I.st sc) a ρ st else exs (I.st sc) b ρ st
  |.While c b [] _=>fj (fun ρ st=>I.tt sc ρ c st) (fun ρ st=>exs (I.st sc) b ρ st) LIM ρ st
  |.For t it b [] _=>if ct it then .stuck else (f6 (I.ex sc ρ) (cn C sc it) st).bind fun l st=>fz (m9 (cn C sc it).1 sc t) (fun ρ st=>exs (I.st sc) b ρ st) l ρ st
  |.Raise (some (.Call (.Name x _) args [] _)) Option.none _=>(match kz C sc x with
   |some c=>(match C.xc c with
    |some xi=>if noStar args then (evs (I.ex sc ρ) args st).bind fun ds st=>(match cj ds with
      |some l=>if l.length==xi.ps.length then .exc (.inst c xi.ns (xi.vs l)) st else .stuck
      |Option.none=>.stuck)else .stuck
    |Option.none=>.stuck)
   |Option.none=>.stuck)
  |.Try body (h::hs) [] [] _=>(match o7 (I.ex sc ρ) (I.tt sc ρ) body st with
   |.ok d st=>.ok (.ret d,ρ) st
   |.exc (.inst c ns l) st=>cr C J.h sc ρ c ns l (h::hs) st
   |_=>.stuck)
  |_=>.stuck
noncomputable def Q0:In:=⟨fun o_ o_ o_ o_=>.stuck,fun o_ o_ o_ o_=>.stuck,fun o_ o_ o_ o_=>.stuck⟩
noncomputable def stuckΦ:D→List D→Sto→Out D:=fun o_ o_ o_=>.stuck
noncomputable def bu:Js:=⟨fun o_ o_ o_ o_=>.stuck,fun o_ o_ o_ o_ o_=>.stuck⟩
noncomputable def XJ(C:Cx)(Φ:D→List D→Sto→Out D)(J:Js):Nat→In
 |0=>Q0
 |n+1=>step C Φ J (XJ C Φ J n)
noncomputable def XH(C:Cx):Scope→En→Expr→Sto→Out D:=(XJ { C with hand:=true } stuckΦ bu 16).ex
noncomputable def qf(C:Cx)(Φ:D→List D→Sto→Out D)(td:TdI)(r:Out D):Out D:=
 match td.wrap with
 |Option.none=>r
 |some g=>(match dh C td.sc g with
  |some v=>if C.able v then r.bind fun d st=>Φ (.v (.val v)) [d] st else .stuck
  |Option.none=>.stuck)
noncomputable def Q1(p:Fl×En)(st:Sto):Out D:=
 match p.1 with
 |.ret d=>.ok d st
 |_=>.stuck
noncomputable def wi(C:Cx)(Φ:D→List D→Sto→Out D)(a:Addr)(body:Expr)(lsc:Scope)(ρ:En)(st:Sto):Out D:=
 match C.told a with
 |Option.none=>.stuck
 |some td=>(match qf C Φ td ((XJ C Φ bu 64).ex lsc ρ body st)with
  |.ok d st=>.ok d st
  |.exc (.inst c ns l) st=>(cr C (XH C) td.sc [] c ns l (td.hd::td.hs) st).bind Q1
  |_=>.stuck)
noncomputable def XT(C:Cx)(Φ:D→List D→Sto→Out D):Js:=⟨XH C,wi C Φ⟩
noncomputable def X(C:Cx)(Φ:D→List D→Sto→Out D)(n:Nat):In:=XJ C Φ (XT C Φ) n
set_option genCtorIdx false in
structure FnI where
 ps:List Str
 sc:Scope
 body:List Stmt
set_option genCtorIdx false in
structure Tab where
 fn:Addr→Option FnI
 cls:Addr→Option (List Str)
noncomputable def Iz:List D→Option D
 |[d]=>some d
 |_=>Option.none
noncomputable def wj:List D→Option D
 |[d,_]=>some d
 |_=>Option.none
noncomputable def wk:List D→Option D
 |[_,e]=>some e
 |_=>Option.none
noncomputable def vD:D→Option V
 |.v x=>some x
 |_=>Option.none
noncomputable def wl:D→Option Value
 |.v (.val c)=>some c
 |_=>Option.none
noncomputable def Cw(ds:List D):Option Int:=(Iz ds).bind bw
noncomputable def yx{α:Type}(ds:List D)(k:Int→Int→Option α):Option α:=(wj ds).bind fun d=>(wk ds).bind fun e=>(bw d).bind fun a=>(bw e).bind fun b=>k a b
noncomputable def Q2(T:Tab)(x:V)(t:String):Option Bool:=
 match x with
 |.int _=>if t=="int"then some true else if t=="bool"then some false else Option.none
 |.bool _=>if t=="int"||t=="bool"then some true else Option.none
 |.inst c _ _=>if(t=="int"||t=="bool")&&(T.cls c).isSome then some false else Option.none
 |_=>Option.none
noncomputable def Q3(T:Tab)(x:V)(c:Addr):Option Bool:=
 match x with
 |.int _=>if(T.cls c).isSome then some false else Option.none
 |.inst c' _ _=>if(T.cls c).isSome&&(T.cls c').isSome then some (c==c')else Option.none
 |_=>Option.none
noncomputable def Ej(T:Tab)(x:V)(c:Value):Option Bool:=
 match c with
 |.type t=>Q2 T x t
 |.ref c=>Q3 T x c
 |_=>Option.none
noncomputable def Q4(T:Tab)(ds:List D)(st:Sto):Out D:=ofO st ((wj ds).bind fun d=>(wk ds).bind fun e=>(vD d).bind fun x=>(wl e).bind fun c=>(Ej T x c).map fun b=>D.v (.bool b))
noncomputable def Q5(ds:List D)(st:Sto):Out D:=ofO st ((Cw ds).map fun i=>D.v (.int (if i<0 then -i else i)))
noncomputable def Q6(ds:List D)(st:Sto):Out D:=ofO st (yx ds fun a b=>some (D.v (.int (if b<a then b else a))))
noncomputable def Q7(ds:List D)(st:Sto):Out D:=ofO st (yx ds fun a b=>some (D.v (.int (if a<b then b else a))))
noncomputable def Az(ds:List D)(st:Sto):Out D:=ofO st (yx ds fun a b=>if wd b then some (D.v (.tup [.int (a.fdiv b),.int (a.fmod b)]))else Option.none)
noncomputable def Q8(ds:List D)(st:Sto):Out D:=ofO st ((Iz ds).bind fun d=>(we d st).bind fun l=>if cf l.length then some (D.v (.int l.length))else Option.none)
noncomputable def uo(ds:List D)(st:Sto):Out D:=ofO st (match Cw ds with
 |some b=>if b.natAbs<2^20 then some (D.v (.rng 0 b))else Option.none
 |Option.none=>yx ds fun a b=>if a.natAbs<2^20∧b.natAbs<2^20 then some (D.v (.rng a b))else Option.none)
theorem A0{ds:List D}{x:V}(h:Ec ds=some x):ds=[.v x]:=by
 induction ds using List.casesOn with
 |nil=>cases h
 |cons d r=>
  induction r using List.casesOn with
  |cons e r=>cases d<;>cases h
  |nil=>
   induction d using D.casesOn with
   |v y=>cases h;rfl
   |m i=>cases h
theorem Nm{x:V}(h:isZ x=true):x=.int 0:=by
 have v:∀x:V,(!isZ x||Nat.beq x.ctorIdx 2)=true:=fun x=>by
  cases x with
  |int i=>exact Bool.or_true _
  |_=>exact T1
 have w:=v x
 rw[h]at w
 exact V.int.elim (motive_1:=fun x=>isZ x=true→x=.int 0) x (Nat.eq_of_beq_eq_true w) (fun i h=>congrArg V.int (eq_of_beq h)) h
theorem j5{v:Value}{a:Addr}(h:kv v=some a):v=.ref a:=by
 have w:∀v:Value,((kv v).isNone||Nat.beq v.ctorIdx 10)=true:=fun v=>by cases v<;>exact T1
 exact Value.ref.elim (motive:=fun v=>kv v=some a→v=.ref a) v (nf (w v) h) (fun b h=>congrArg Value.ref (Option.some.inj h)) h
theorem k6{d:D}{i:List V}(h:fy d=some i):d=.v (.lst i):=by
 obtain⟨y,rfl,hy⟩:=onV (f:=fy) (k:=5) (fun o_=>rfl) (fun x=>by cases x<;>exact T1) h
 exact V.lst.elim (motive_1:=fun y=>fy (.v y)=some i→D.v y=.v (.lst i)) y hy (fun j h=>by cases h;rfl) h
theorem yy{d:D}{i:List V}(h:Ct d=some i):d=.v (.tup i):=by
 obtain⟨y,rfl,hy⟩:=onV (f:=Ct) (k:=4) (fun o_=>rfl) (fun x=>by cases x<;>exact T1) h
 exact V.tup.elim (motive_1:=fun y=>Ct (.v y)=some i→D.v y=.v (.tup i)) y hy (fun j h=>by cases h;rfl) h
theorem A1{d:D}{i:Bool}(h:te d=some i):d=.v (.bool i):=by
 obtain⟨y,rfl,hy⟩:=onV (f:=te) (k:=1) (fun o_=>rfl) (fun x=>by cases x<;>exact T1) h
 exact V.bool.elim (motive_1:=fun y=>te (.v y)=some i→D.v y=.v (.bool i)) y hy (fun j h=>by cases h;rfl) h
theorem Ek{d:D}{i:Value}(h:wl d=some i):d=.v (.val i):=by
 obtain⟨y,rfl,hy⟩:=onV (f:=wl) (k:=8) (fun o_=>rfl) (fun x=>by cases x<;>exact T1) h
 exact V.val.elim (motive_1:=fun y=>wl (.v y)=some i→D.v y=.v (.val i)) y hy (fun j h=>by cases h;rfl) h
theorem A2{C:Cx}{sc:Scope}{x:Str}{a:Addr}(h:kz C sc x=some a):dh C sc x=some (.ref a):=by
 obtain⟨v,h1,h2⟩:=zbd h
 rw[h1,j5 h2]
theorem El(e:Expr):((c9 e).isNone||Nat.beq e.ctorIdx 23)=true:=by cases e<;>exact T1
theorem cz{e:Expr}{x:Str}(h:c9 e=some x):∃p,e=.Name x p:=
 Expr.Name.elim (motive_1:=fun e=>c9 e=some x→∃p,e=.Name x p) e (nf (El e) h) (fun y p h=>by cases h;exact⟨_,rfl⟩) h
theorem I1(b:Stmt):((i8 b).isNone||Nat.beq b.ctorIdx 3)=true:=by
 cases b with
 |Return v p=>exact Bool.or_true _
 |_=>exact T1
theorem qg{b:Stmt}{e:Expr}(h:i8 b=some e):∃p,b=.Return (some e) p:=
 Stmt.Return.elim (motive_2:=fun b=>i8 b=some e→∃p,b=.Return (some e) p) b (nf (I1 b) h) (fun v p h=>⟨p,congrArg (Stmt.Return · p) h⟩) h
theorem Tt{d:D}{x:V}(h:vD d=some x):d=.v x:=by
 induction d using D.casesOn with
 |m _=>contradiction
 |v x=>(first|subst h|contradiction|(injection h with h;subst h)|cases h);rfl
theorem A3{ds:List D}{d:D}(h:Iz ds=some d):ds=[d]:=by
 induction ds using List.casesOn with
 |nil=>contradiction
 |cons a r=>cases r<;>(first|subst h|contradiction|(injection h with h;subst h)|cases h);rfl
theorem A4{ds:List D}{d e:D}(h:wj ds=some d)(h':wk ds=some e):ds=[d,e]:=by
 induction ds using List.casesOn with
 |nil=>contradiction
 |cons a r=>
  induction r using List.casesOn with
  |nil=>contradiction
  |cons b r=>cases r<;>cases h<;>(first|subst h'|contradiction|(injection h' with h';subst h')|cases h');rfl
theorem A5{ds:List D}{i:Int}(h:Cw ds=some i):ds=[.v (.int i)]:=by
 obtain⟨d,h1,h2⟩:=zbd h
 rw[A3 h1,ej h2]
theorem pd{α:Type}{ds:List D}{k:Int→Int→Option α}{r:α}(h:yx ds k=some r):∃a b,ds=[.v (.int a),.v (.int b)]∧k a b=some r:=by
 obtain⟨d,h1,h⟩:=zbd h
 obtain⟨e,h2,h⟩:=zbd h
 obtain⟨a,h3,h⟩:=zbd h
 obtain⟨b,h4,h⟩:=zbd h
 exact⟨a,b,by rw[A4 h1 h2,ej h3,ej h4],h⟩
noncomputable def Cy(T:Tab)(v:Value)(ds:List D)(st:Sto):Out D:=
 match v with
 |.builtin b=>
  if b=="isinstance"then Q4 T ds st else if b=="abs"then Q5 ds st else if b=="min"then Q6 ds st else if b=="max"then Q7 ds st
  else if b=="len"then Q8 ds st else if b=="divmod"then Az ds st else .stuck
 |.type t=>if t=="range"then uo ds st else .stuck
 |_=>.stuck
noncomputable def I2(n:Nat)(d:D)(st:Sto):Out D:=
 match d with
 |.v x=>.ok (.v x) (st.take n)
 |.m i=>if i<n then .ok (.m i) (st.take n)else .ok (.m i) st
noncomputable def f3(C:Cx)(Φ:D→List D→Sto→Out D)(f:FnI)(ds:List D)(st:Sto):Out D:=
 if f.ps.length=ds.length then
  (exs ((X C Φ 64).st f.sc) f.body (f.ps.zip ds) st).bind fun p st'=>match p.1 with
    |.next=>I2 st.length (.v .none) st'
    |.ret d=>I2 st.length d st'
    |_=>.stuck
 else .stuck
noncomputable def Em(C:Cx)(T:Tab)(Φ:D→List D→Sto→Out D)(d:D)(ds:List D)(st:Sto):Out D:=
 match wl d with
 |Option.none=>.stuck
 |some v=>(match kv v with
  |Option.none=>Cy T v ds st
  |some a=>(match T.fn a with
   |some f=>f3 C Φ f ds st
   |Option.none=>(match T.cls a with
    |some ns=>if ns.length=ds.length then ofO st ((cj ds).map fun l=>D.v (.inst a ns l))else .stuck
    |Option.none=>.stuck)))
noncomputable def R(C:Cx)(T:Tab):Nat→D→List D→Sto→Out D
 |0=>fun o_ o_ o_=>.stuck
 |n+1=>Em C T (R C T n)
/-! taking apart what is told of several things:the goal is told once -/
theorem uq{p0 p1 G:Prop}(h:p0∧p1)(k:p0→p1→G):G:=k h.1 h.2
theorem qh{p0 p1 p2 G:Prop}(h:p0∧p1∧p2)(k:p0→p1→p2→G):G:=uq h.2 (k h.1)
theorem fk{p0 p1 p2 p3 G:Prop}(h:p0∧p1∧p2∧p3)(k:p0→p1→p2→p3→G):G:=qh h.2 (k h.1)
theorem ur{p0 p1 p2 p3 p4 G:Prop}(h:p0∧p1∧p2∧p3∧p4)(k:p0→p1→p2→p3→p4→G):G:=fk h.2 (k h.1)
theorem ut{p0 p1 p2 p3 p4 p5 G:Prop}(h:p0∧p1∧p2∧p3∧p4∧p5)(k:p0→p1→p2→p3→p4→p5→G):G:=ur h.2 (k h.1)
theorem Eo{p0 p1 p2 p3 p4 p5 p6 G:Prop}(h:p0∧p1∧p2∧p3∧p4∧p5∧p6)(k:p0→p1→p2→p3→p4→p5→p6→G):G:=ut h.2 (k h.1)
theorem uu{t0:Sort _}{p:t0→Prop}{G:Prop}(h:∃a0,p a0)(k:∀a0,p a0→G):G:=h.elim k
theorem yz{t0:Sort _}{t1:Sort _}{p:t0→t1→Prop}{G:Prop}(h:∃a0 a1,p a0 a1)(k:∀a0 a1,p a0 a1→G):G:=h.elim fun a h=>uu h (k a)
theorem gz{t0:Sort _}{t1:Sort _}{t2:Sort _}{p:t0→t1→t2→Prop}{G:Prop}(h:∃a0 a1 a2,p a0 a1 a2)(k:∀a0 a1 a2,p a0 a1 a2→G):G:=h.elim fun a h=>yz h (k a)
theorem nh{t0:Sort _}{t1:Sort _}{t2:Sort _}{t3:Sort _}{p:t0→t1→t2→t3→Prop}{G:Prop}(h:∃a0 a1 a2 a3,p a0 a1 a2 a3)(k:∀a0 a1 a2 a3,p a0 a1 a2 a3→G):G:=h.elim fun a h=>gz h (k a)
theorem Nn{t0:Sort _}{t1:Sort _}{t2:Sort _}{t3:Sort _}{t4:Sort _}{p:t0→t1→t2→t3→t4→Prop}{G:Prop}(h:∃a0 a1 a2 a3 a4,p a0 a1 a2 a3 a4)(k:∀a0 a1 a2 a3 a4,p a0 a1 a2 a3 a4→G):G:=h.elim fun a h=>nh h (k a)
theorem y5{t0:Sort _}{t1:Sort _}{t2:Sort _}{t3:Sort _}{t4:Sort _}{t5:Sort _}{p:t0→t1→t2→t3→t4→t5→Prop}{G:Prop}(h:∃a0 a1 a2 a3 a4 a5,p a0 a1 a2 a3 a4 a5)(k:∀a0 a1 a2 a3 a4 a5,p a0 a1 a2 a3 a4 a5→G):G:=h.elim fun a h=>Nn h (k a)
theorem No{t0:Sort _}{t1:Sort _}{t2:Sort _}{t3:Sort _}{t4:Sort _}{t5:Sort _}{t6:Sort _}{p:t0→t1→t2→t3→t4→t5→t6→Prop}{G:Prop}(h:∃a0 a1 a2 a3 a4 a5 a6,p a0 a1 a2 a3 a4 a5 a6)(k:∀a0 a1 a2 a3 a4 a5 a6,p a0 a1 a2 a3 a4 a5 a6→G):G:=h.elim fun a h=>y5 h (k a)
theorem bq{t0:Sort _}{p0 p1 p2:t0→Prop}{G:Prop}(h:∃a0,p0 a0∧p1 a0∧p2 a0)(k:∀a0,p0 a0→p1 a0→p2 a0→G):G:=uu h fun a0 h=>qh h (k a0)
theorem Np{t0:Sort _}{p0 p1 p2 p3:t0→Prop}{G:Prop}(h:∃a0,p0 a0∧p1 a0∧p2 a0∧p3 a0)(k:∀a0,p0 a0→p1 a0→p2 a0→p3 a0→G):G:=uu h fun a0 h=>fk h (k a0)
theorem Ep{t0:Sort _}{p0 p1 p2 p3 p4:t0→Prop}{G:Prop}(h:∃a0,p0 a0∧p1 a0∧p2 a0∧p3 a0∧p4 a0)(k:∀a0,p0 a0→p1 a0→p2 a0→p3 a0→p4 a0→G):G:=uu h fun a0 h=>ur h (k a0)
theorem f7{t0:Sort _}{t1:Sort _}{p0 p1:t0→t1→Prop}{G:Prop}(h:∃a0 a1,p0 a0 a1∧p1 a0 a1)(k:∀a0 a1,p0 a0 a1→p1 a0 a1→G):G:=yz h fun a0 a1 h=>uq h (k a0 a1)
theorem em{t0:Sort _}{t1:Sort _}{p0 p1 p2:t0→t1→Prop}{G:Prop}(h:∃a0 a1,p0 a0 a1∧p1 a0 a1∧p2 a0 a1)(k:∀a0 a1,p0 a0 a1→p1 a0 a1→p2 a0 a1→G):G:=yz h fun a0 a1 h=>qh h (k a0 a1)
theorem qi{t0:Sort _}{t1:Sort _}{t2:Sort _}{p0 p1:t0→t1→t2→Prop}{G:Prop}(h:∃a0 a1 a2,p0 a0 a1 a2∧p1 a0 a1 a2)(k:∀a0 a1 a2,p0 a0 a1 a2→p1 a0 a1 a2→G):G:=gz h fun a0 a1 a2 h=>uq h (k a0 a1 a2)
theorem y6{t0:Sort _}{t1:Sort _}{t2:Sort _}{p0 p1 p2:t0→t1→t2→Prop}{G:Prop}(h:∃a0 a1 a2,p0 a0 a1 a2∧p1 a0 a1 a2∧p2 a0 a1 a2)(k:∀a0 a1 a2,p0 a0 a1 a2→p1 a0 a1 a2→p2 a0 a1 a2→G):G:=gz h fun a0 a1 a2 h=>qh h (k a0 a1 a2)
theorem eo{t0:Sort _}{t1:Sort _}{t2:Sort _}{p0 p1 p2 p3:t0→t1→t2→Prop}{G:Prop}(h:∃a0 a1 a2,p0 a0 a1 a2∧p1 a0 a1 a2∧p2 a0 a1 a2∧p3 a0 a1 a2)(k:∀a0 a1 a2,p0 a0 a1 a2→p1 a0 a1 a2→p2 a0 a1 a2→p3 a0 a1 a2→G):G:=gz h fun a0 a1 a2 h=>fk h (k a0 a1 a2)
theorem ni{t0:Sort _}{t1:Sort _}{t2:Sort _}{p0 p1 p2 p3 p4:t0→t1→t2→Prop}{G:Prop}(h:∃a0 a1 a2,p0 a0 a1 a2∧p1 a0 a1 a2∧p2 a0 a1 a2∧p3 a0 a1 a2∧p4 a0 a1 a2)(k:∀a0 a1 a2,p0 a0 a1 a2→p1 a0 a1 a2→p2 a0 a1 a2→p3 a0 a1 a2→p4 a0 a1 a2→G):G:=gz h fun a0 a1 a2 h=>ur h (k a0 a1 a2)
theorem Nq{t0:Sort _}{t1:Sort _}{t2:Sort _}{p0 p1 p2 p3 p4 p5 p6:t0→t1→t2→Prop}{G:Prop}(h:∃a0 a1 a2,p0 a0 a1 a2∧p1 a0 a1 a2∧p2 a0 a1 a2∧p3 a0 a1 a2∧p4 a0 a1 a2∧p5 a0 a1 a2∧p6 a0 a1 a2)(k:∀a0 a1 a2,p0 a0 a1 a2→p1 a0 a1 a2→p2 a0 a1 a2→p3 a0 a1 a2→p4 a0 a1 a2→p5 a0 a1 a2→p6 a0 a1 a2→G):G:=gz h fun a0 a1 a2 h=>Eo h (k a0 a1 a2)
theorem Nr{t0:Sort _}{t1:Sort _}{t2:Sort _}{t3:Sort _}{p0 p1:t0→t1→t2→t3→Prop}{G:Prop}(h:∃a0 a1 a2 a3,p0 a0 a1 a2 a3∧p1 a0 a1 a2 a3)(k:∀a0 a1 a2 a3,p0 a0 a1 a2 a3→p1 a0 a1 a2 a3→G):G:=nh h fun a0 a1 a2 a3 h=>uq h (k a0 a1 a2 a3)
theorem Er{t0:Sort _}{t1:Sort _}{t2:Sort _}{t3:Sort _}{p0 p1 p2:t0→t1→t2→t3→Prop}{G:Prop}(h:∃a0 a1 a2 a3,p0 a0 a1 a2 a3∧p1 a0 a1 a2 a3∧p2 a0 a1 a2 a3)(k:∀a0 a1 a2 a3,p0 a0 a1 a2 a3→p1 a0 a1 a2 a3→p2 a0 a1 a2 a3→G):G:=nh h fun a0 a1 a2 a3 h=>qh h (k a0 a1 a2 a3)
theorem ia{t0:Sort _}{t1:Sort _}{t2:Sort _}{t3:Sort _}{p0 p1 p2 p3 p4 p5:t0→t1→t2→t3→Prop}{G:Prop}(h:∃a0 a1 a2 a3,p0 a0 a1 a2 a3∧p1 a0 a1 a2 a3∧p2 a0 a1 a2 a3∧p3 a0 a1 a2 a3∧p4 a0 a1 a2 a3∧p5 a0 a1 a2 a3)(k:∀a0 a1 a2 a3,p0 a0 a1 a2 a3→p1 a0 a1 a2 a3→p2 a0 a1 a2 a3→p3 a0 a1 a2 a3→p4 a0 a1 a2 a3→p5 a0 a1 a2 a3→G):G:=nh h fun a0 a1 a2 a3 h=>ut h (k a0 a1 a2 a3)
theorem uv{t0:Sort _}{t1:Sort _}{t2:Sort _}{t3:Sort _}{p0 p1 p2 p3 p4 p5 p6:t0→t1→t2→t3→Prop}{G:Prop}(h:∃a0 a1 a2 a3,p0 a0 a1 a2 a3∧p1 a0 a1 a2 a3∧p2 a0 a1 a2 a3∧p3 a0 a1 a2 a3∧p4 a0 a1 a2 a3∧p5 a0 a1 a2 a3∧p6 a0 a1 a2 a3)(k:∀a0 a1 a2 a3,p0 a0 a1 a2 a3→p1 a0 a1 a2 a3→p2 a0 a1 a2 a3→p3 a0 a1 a2 a3→p4 a0 a1 a2 a3→p5 a0 a1 a2 a3→p6 a0 a1 a2 a3→G):G:=nh h fun a0 a1 a2 a3 h=>Eo h (k a0 a1 a2 a3)
theorem Nt{t0:Sort _}{t1:Sort _}{t2:Sort _}{t3:Sort _}{t4:Sort _}{t5:Sort _}{p0 p1 p2 p3:t0→t1→t2→t3→t4→t5→Prop}{G:Prop}(h:∃a0 a1 a2 a3 a4 a5,p0 a0 a1 a2 a3 a4 a5∧p1 a0 a1 a2 a3 a4 a5∧p2 a0 a1 a2 a3 a4 a5∧p3 a0 a1 a2 a3 a4 a5)(k:∀a0 a1 a2 a3 a4 a5,p0 a0 a1 a2 a3 a4 a5→p1 a0 a1 a2 a3 a4 a5→p2 a0 a1 a2 a3 a4 a5→p3 a0 a1 a2 a3 a4 a5→G):G:=y5 h fun a0 a1 a2 a3 a4 a5 h=>fk h (k a0 a1 a2 a3 a4 a5)
theorem Es{t0:Sort _}{t1:Sort _}{t2:Sort _}{t3:Sort _}{t4:Sort _}{t5:Sort _}{p0 p1 p2 p3 p4:t0→t1→t2→t3→t4→t5→Prop}{G:Prop}(h:∃a0 a1 a2 a3 a4 a5,p0 a0 a1 a2 a3 a4 a5∧p1 a0 a1 a2 a3 a4 a5∧p2 a0 a1 a2 a3 a4 a5∧p3 a0 a1 a2 a3 a4 a5∧p4 a0 a1 a2 a3 a4 a5)(k:∀a0 a1 a2 a3 a4 a5,p0 a0 a1 a2 a3 a4 a5→p1 a0 a1 a2 a3 a4 a5→p2 a0 a1 a2 a3 a4 a5→p3 a0 a1 a2 a3 a4 a5→p4 a0 a1 a2 a3 a4 a5→G):G:=y5 h fun a0 a1 a2 a3 a4 a5 h=>ur h (k a0 a1 a2 a3 a4 a5)
theorem Nu{t0:Sort _}{t1:Sort _}{t2:Sort _}{t3:Sort _}{t4:Sort _}{t5:Sort _}{t6:Sort _}{p0 p1 p2 p3:t0→t1→t2→t3→t4→t5→t6→Prop}{G:Prop}(h:∃a0 a1 a2 a3 a4 a5 a6,p0 a0 a1 a2 a3 a4 a5 a6∧p1 a0 a1 a2 a3 a4 a5 a6∧p2 a0 a1 a2 a3 a4 a5 a6∧p3 a0 a1 a2 a3 a4 a5 a6)(k:∀a0 a1 a2 a3 a4 a5 a6,p0 a0 a1 a2 a3 a4 a5 a6→p1 a0 a1 a2 a3 a4 a5 a6→p2 a0 a1 a2 a3 a4 a5 a6→p3 a0 a1 a2 a3 a4 a5 a6→G):G:=No h fun a0 a1 a2 a3 a4 a5 a6 h=>fk h (k a0 a1 a2 a3 a4 a5 a6)
section
variable {f:Expr→Sto→Out D} {g:Expr→Sto→Out Bool}
theorem A6{a:D}{op:CmpOp}{r:Expr}{st:Sto}:chain f a [op] [r] st=(f r st).bind fun b st=>ofO st (cmp op a b st):=rfl
theorem A7{a:D}{op op':CmpOp}{ops:List CmpOp}{r r':Expr}{rs:List Expr}{st:Sto}:chain f a (op::op'::ops) (r::r'::rs) st=(f r st).bind fun b st=>match cmp op a b st with
 |some true=>chain f b (op'::ops) (r'::rs) st
 |some false=>.ok false st
 |Option.none=>.stuck:=rfl
theorem uw{op:BoolOp}{e e':Expr}{es:List Expr}{st:Sto}:boolV f op (e::e'::es) st=(f e st).bind fun d st=>match op,c8 d with
 |.And,some false=>.ok d st
 |.Or,some true=>.ok d st
 |_,some _=>boolV f op (e'::es) st
 |_,Option.none=>.stuck:=rfl
end
end Mine
end
section
open PySem PySem.W PySem.Spec PySem.Calls PyProof.Rows
namespace Mine
noncomputable def gj:List DictEntry→List Str→Prop
 |[],[]=>True
 |e::es,n::ns=>(∃t,e.key=.str n t)∧gj es ns
 |_,_=>False
noncomputable def wn(o:Obj):Prop:=o.cls=.none∧∃ps,o.data=.fields ps
theorem ly{o:Obj}(h:∀ps,o.data≠.fields ps):¬wn o:=fun⟨_,ps,e⟩=>h ps e
theorem Nv{o:Obj}(h:o.cls≠.none):¬wn o:=fun⟨e,_⟩=>h e
noncomputable def At(h:Heap)(a:Addr)(o:Obj):Prop:=h.get? a=some o∨((∃es n,o.data=.dict es n)∧∃sl,h.get? a=some { o with slots:=sl })∨(wn o∧∃ps,h.get? a=some (tabObj ps))
noncomputable def ndD(d:Data)(c:Value):Bool:=match d with
 |.dict _ _=>false
 |.fields _=>c !=.none
 |_=>true
noncomputable def ndB(o:Obj):Bool:=ndD o.data o.cls
theorem dq{o:Obj}{d:Data}{c:Value}(hd:o.data=d)(hc:o.cls=c)(b:ndD d c=true):ndB o=true:=by
 unfold ndB
 rw[hd,hc];exact b
theorem At.ndb{h:Heap}{a:Addr}{o:Obj}(x:At h a o)(b:ndB o=true):h.get? a=some o:=x.elim id fun q=>q.elim (fun q=>q.1.elim fun o_ q=>q.elim fun o_ q=>by
 rw[ndB,q]at b;contradiction) fun q=>q.1.2.elim fun o_ d=>by
 rw[ndB,d,q.1.1]at b;contradiction
theorem At.nd{h:Heap}{a:Addr}{o:Obj}(x:At h a o)(n:∀es m,o.data≠.dict es m)(t:¬wn o):h.get? a=some o:=x.elim id fun q=>q.elim (fun q=>q.1.elim fun es q=>q.elim fun m q=>absurd q (n es m)) fun q=>absurd q.1 t
theorem At.ex{h:Heap}{a:Addr}{o:Obj}(x:At h a o)(t:¬wn o):∃sl,h.get? a=some { o with slots:=sl }:=x.elim (fun e=>⟨o.slots,e⟩) fun q=>q.elim (·.2) fun q=>absurd q.1 t
theorem At.any{h:Heap}{a:Addr}{o:Obj}(x:At h a o):∃o',h.get? a=some o':=x.elim (fun e=>⟨o,e⟩) fun q=>q.elim (fun q=>q.2.elim fun o_ e=>⟨_,e⟩) fun q=>q.2.elim fun o_ e=>⟨_,e⟩
theorem At.trans{h h':Heap}{a:Addr}{o:Obj}(x:At h a o)(k:∀o',h.get? a=some o'→At h' a o'):At h' a o:=by
 rcases x with e|⟨d,sl,e⟩|⟨t,ps,e⟩
 ·exact k o e
 ·obtain⟨sl',e'⟩:=(k _ e).ex (ly fun ps q=>by
   obtain⟨es,n,d⟩:=d
   have q:o.data=.fields ps:=q
   rw[d]at q;contradiction)
  exact .inr (.inl ⟨d,sl',e'⟩)
 ·rcases k _ e with e'|⟨⟨_,_,d⟩,_⟩|⟨_,ps',e'⟩
  ·exact .inr (.inr ⟨t,ps,e'⟩)
  ·exact nomatch d
  ·exact .inr (.inr ⟨t,ps',e'⟩)
noncomputable def IsI(h:Heap)(x c dx:Addr):Prop:=∃o,h.get? x=some o∧o.cls=.ref c∧o.dict=some dx∧notCls o=true∧∀es m,o.data≠.dict es m
mutual
noncomputable def Rep(B:Addr→Prop)(h:Heap):Value→V→Prop
 |v,.none=>v=.none
 |v,.bool b=>v=.bool b
 |v,.int i=>∃t,v=.int i t
 |v,.str s=>∃t,v=.str s t
 |v,.tup l=>∃a vs n,v=.ref a∧¬B a∧h.get? a=some ({ cls:=.type "tuple",data:=.seq (vs.toArray) n }:Obj)∧Reps B h vs l
 |v,.lst l=>∃a o vs n,v=.ref a∧¬B a∧h.get? a=some o∧o.cls=.type "list"∧o.data=.seq (vs.toArray) n∧Reps B h vs l
 |v,.inst c ns l=>∃x dx es n,v=.ref x∧¬B x∧¬B dx∧IsI h x c dx∧At h dx (dictOf es n)∧gj es ns∧Reps B h (es.map (·.val)) l
 |v,.rng a b=>∃r t u w,v=.ref r∧¬B r∧IsRange h r a b 1 t u w
 |v,.val x=>v=x
noncomputable def Reps(B:Addr→Prop)(h:Heap):List Value→List V→Prop
 |[],[]=>True
 |v::vs,x::xs=>Rep B h v x∧Reps B h vs xs
 |[],_::_=>False
 |_::_,[]=>False
end
theorem Rep.t{B:Addr→Prop}{h:Heap}{v:Value}{l:List V}(r:Rep B h v (.tup l)):∃a vs n,v=.ref a∧¬B a∧h.get? a=some ({ cls:=.type "tuple",data:=.seq (vs.toArray) n }:Obj)∧Reps B h vs l:=r
theorem Rep.l{B:Addr→Prop}{h:Heap}{v:Value}{l:List V}(r:Rep B h v (.lst l)):∃a o vs n,v=.ref a∧¬B a∧h.get? a=some o∧o.cls=.type "list"∧o.data=.seq (vs.toArray) n∧Reps B h vs l:=r
theorem Rep.i{B:Addr→Prop}{h:Heap}{v:Value}{c:Addr}{ns:List Str}{l:List V}(r:Rep B h v (.inst c ns l)):∃x dx es n,v=.ref x∧¬B x∧¬B dx∧IsI h x c dx∧At h dx (dictOf es n)∧gj es ns∧Reps B h (es.map (·.val)) l:=r
theorem Rep.r{B:Addr→Prop}{h:Heap}{v:Value}{a b:Int}(r:Rep B h v (.rng a b)):∃r t u w,v=.ref r∧¬B r∧IsRange h r a b 1 t u w:=r
noncomputable def RepD(σ:List Addr)(B:Addr→Prop)(h:Heap)(v:Value):D→Prop
 |.v x=>Rep B h v x
 |.m i=>∃a,σ[i]? =some a∧v=.ref a
noncomputable def RepDs(σ:List Addr)(B:Addr→Prop)(h:Heap):List Value→List D→Prop
 |[],[]=>True
 |v::vs,d::ds=>RepD σ B h v d∧RepDs σ B h vs ds
 |_,_=>False
mutual
theorem Rep.mono{B B':Addr→Prop}{h h':Heap}(k:∀a o,h.get? a=some o→¬B a→At h' a o∧¬B' a):∀{x:V} {v:Value},Rep B h v x→Rep B' h' v x
 |.none,_,r=>r
 |.bool _,_,r=>r
 |.int _,_,r=>r
 |.str _,_,r=>r
 |.tup l,v,r=>by
  refine eo (Rep.t r) fun a vs n e hb ho hr=>?_
  exact⟨a,vs,n,e,(k a _ ho hb).2,(k a _ ho hb).1.ndb rfl,Reps.mono k hr⟩
 |.lst l,v,r=>by
  refine ia (Rep.l r) fun a o vs n e hb ho hc hd hr=>?_
  exact⟨a,o,vs,n,e,(k a o ho hb).2,(k a o ho hb).1.ndb (dq hd hc rfl),hc,hd,Reps.mono k hr⟩
 |.inst c ns l,v,r=>by
  refine uv (Rep.i r) fun x dx es n e hb hb' ho hd hk hr=>?_
  refine Ep ho fun ox o1 o2 o3 o4 o5=>?_
  exact⟨x,dx,es,n,e,(k x _ o1 hb).2,(hd.any.elim fun o_ q=>(k dx _ q hb').2),⟨ox,(k x _ o1 hb).1.nd o5 (Nv (by rw[o2];exact fun q=>nomatch q)),o2,o3,o4,o5⟩,hd.trans fun o' q=>(k dx o' q hb').1,hk,Reps.mono k hr⟩
 |.rng a b,v,r=>by
  refine Er (Rep.r r) fun q t u w e hb hr=>?_
  exact⟨q,t,u,w,e,(k q _ hr hb).2,(k q _ hr hb).1.ndb rfl⟩
 |.val _,_,r=>r
theorem Reps.mono{B B':Addr→Prop}{h h':Heap}(k:∀a o,h.get? a=some o→¬B a→At h' a o∧¬B' a):∀{xs:List V} {vs:List Value},Reps B h vs xs→Reps B' h' vs xs
 |[],[],_=>trivial
 |_::_,_::_,r=>⟨Rep.mono k r.1,Reps.mono k r.2⟩
 |[],_::_,r=>r.elim
 |_::_,[],r=>r.elim
end
theorem Reps.length{B:Addr→Prop}{h:Heap}:∀{vs:List Value} {xs:List V},Reps B h vs xs→vs.length=xs.length
 |[],[],_=>rfl
 |_::_,_::_,r=>congrArg (· +1) (Reps.length r.2)
 |[],_::_,r=>r.elim
 |_::_,[],r=>r.elim
theorem Reps.get{B:Addr→Prop}{h:Heap}:∀{vs:List Value} {xs:List V} (_:Reps B h vs xs) {i:Nat} {x:V},xs[i]? =some x→∃v,vs[i]? =some v∧Rep B h v x
 |_::_,_::_,r,0,x,e=>⟨_,rfl,by(first|subst e|contradiction|(injection e with e;subst e)|cases e);exact r.1⟩
 |_::_,_::_,r,i+1,x,e=>by
  obtain⟨v,a,b⟩:=Reps.get r.2 (i:=i) (by simpa using e)
  exact⟨v,by simpa using a,b⟩
 |[],[],_,_,_,e=>by contradiction
 |[],_::_,r,_,_,_=>r.elim
 |_::_,[],r,_,_,_=>r.elim
theorem Reps.append{B:Addr→Prop}{h:Heap}:∀{vs ws:List Value} {xs ys:List V},Reps B h vs xs→Reps B h ws ys→Reps B h (vs++ws) (xs++ys)
 |[],_,[],_,_,s=>s
 |_::_,_,_::_,_,r,s=>⟨r.1,Reps.append r.2 s⟩
 |[],_,_::_,_,r,_=>r.elim
 |_::_,_,[],_,r,_=>r.elim
theorem Reps.take{B:Addr→Prop}{h:Heap}:∀{vs:List Value} {xs:List V} (n:Nat),Reps B h vs xs→Reps B h (vs.take n) (xs.take n)
 |_,_,0,_=>by simp only[List.take_zero];trivial
 |[],[],_+1,_=>trivial
 |_::_,_::_,n+1,r=>⟨r.1,Reps.take n r.2⟩
 |[],_::_,_,r=>r.elim
 |_::_,[],_,r=>r.elim
theorem Reps.drop{B:Addr→Prop}{h:Heap}:∀{vs:List Value} {xs:List V} (n:Nat),Reps B h vs xs→Reps B h (vs.drop n) (xs.drop n)
 |_,_,0,r=>by simpa only[List.drop_zero]using r
 |[],[],_+1,_=>trivial
 |_::_,_::_,n+1,r=>Reps.drop n r.2
 |[],_::_,_,r=>r.elim
 |_::_,[],_,r=>r.elim
theorem Reps.set{B:Addr→Prop}{h:Heap}:∀{vs:List Value} {xs:List V} (n:Nat) {v:Value} {x:V},Reps B h vs xs→Rep B h v x→Reps B h (vs.set n v) (xs.set n x)
 |[],[],_,_,_,_,_=>trivial
 |_::_,_::_,0,_,_,r,q=>⟨q,r.2⟩
 |_::_,_::_,n+1,_,_,r,q=>⟨r.1,Reps.set n r.2 q⟩
 |[],_::_,_,_,_,r,_=>r.elim
 |_::_,[],_,_,_,r,_=>r.elim
noncomputable def Kp(W:Addr→Prop)(h h':Heap):Prop:=∀b o,h.get? b=some o→(¬W b→At h' b o)∧∃o',h'.get? b=some o'
theorem Kp.refl{W:Addr→Prop}{h:Heap}:Kp W h h:=fun o_ o e=>⟨fun o_=>.inl e,o,e⟩
theorem Kp.at{W:Addr→Prop}{h h':Heap}(k:Kp W h h'){b:Addr}{o:Obj}(e:h.get? b=some o)(n:¬W b):At h' b o:=(k b o e).1 n
theorem Kp.weak{W W':Addr→Prop}{h h':Heap}(k:Kp W h h')(s:∀a,W a→W' a):Kp W' h h':=fun b o e=>⟨fun n=>(k b o e).1 fun w=>n (s b w),(k b o e).2⟩
theorem Kp.trans{W W':Addr→Prop}{h h' h'':Heap}(k:Kp W h h')(k':Kp W' h' h'')(s:∀a,(∃o,h.get? a=some o)→W' a→W a):Kp W h h'':=fun b o e=>
 ⟨fun n=>(k.at e n).trans fun o_ q=>k'.at q fun w=>n (s b ⟨o,e⟩ w),by
  obtain⟨o',e'⟩:=(k b o e).2
  exact(k' b o' e').2⟩
theorem Kp.push{W:Addr→Prop}{h:Heap}(o:Obj):Kp W h (h.push o):=fun o_ o' e=>⟨fun o_=>.inl (Heap.get?_push_of_some _ e),o',Heap.get?_push_of_some _ e⟩
theorem Kp.all{W:Addr→Prop}{h h':Heap}(k:∀b o,h.get? b=some o→h'.get? b=some o):Kp W h h':=fun b o e=>⟨fun o_=>.inl (k b o e),o,k b o e⟩
theorem Kp.same{W:Addr→Prop}{h h':Heap}{a:Addr}{o:Obj}(s:Heap.SameBut a h h')(w:W a)(ho:h'.get? a=some o):Kp W h h':=fun b o' e=>by
 by_cases q:b=a
 ·subst q;exact⟨fun n=>absurd w n,o,ho⟩
 ·exact⟨fun o_=>.inl ((s.2 b q).trans e),o',(s.2 b q).trans e⟩
theorem Kp.fin{W:Addr→Prop}{h h' h'':Heap}{a:Addr}(k:Kp W h h')(n:h.get? a=none)(x:Heap.ExtBut a h' h''):Kp W h h'':=fun b o e=>by
 have q:b≠a:=fun q=>by rw[q,n]at e;contradiction
 obtain⟨o',e'⟩:=(k b o e).2
 exact⟨fun w=>(k.at e w).trans fun o'' q'=>.inl (x b o'' q q'),o',x b o' q e'⟩
noncomputable def Fresh(σ σ':List Addr)(h:Heap):Prop:=∃e,σ'=σ++e∧∀a∈e,h.get? a=none
theorem Fresh.refl{σ:List Addr}{h:Heap}:Fresh σ σ h:=⟨[],by simp,fun o_ hx=>nomatch hx⟩
theorem Fresh.trans{W:Addr→Prop}{σ σ' σ'':List Addr}{h h':Heap}(a:Fresh σ σ' h)(b:Fresh σ' σ'' h')(k:Kp W h h'):Fresh σ σ'' h:=by
 obtain⟨e,rfl,he⟩:=a
 obtain⟨e',rfl,he'⟩:=b
 refine⟨e++e',by rw[List.append_assoc],fun x hx=>(List.mem_append.mp hx).elim (he x) fun q=>?_⟩
 generalize z:h.get? x=zz
 induction zz using Option.casesOn with
 |none=>rfl
 |some o=>
  obtain⟨o',z'⟩:=(k x o z).2
  rw[he' x q]at z';contradiction
theorem Fresh.low{σ σ':List Addr}{h:Heap}(a:Fresh σ σ' h){x:Addr}{o:Obj}(l:h.get? x=some o)(m:x∈σ'):x∈σ:=by
 obtain⟨e,rfl,he⟩:=a
 rcases List.mem_append.mp m with q|q
 ·exact q
 ·rw[he x q]at l;contradiction
theorem Fresh.get{σ σ':List Addr}{h:Heap}(a:Fresh σ σ' h){i:Nat}{x:Addr}(e:σ[i]? =some x):σ'[i]? =some x:=by
 obtain⟨e',rfl,_⟩:=a
 rw[List.getElem?_append_left (List.getElem?_eq_some_iff.mp e).1];exact e
noncomputable def Bad(σ Λ:List Addr)(a:Addr):Prop:=a∈σ∨a∈Λ
noncomputable def InL(σ:List Addr)(a:Addr):Prop:=a∈σ
theorem Rep.step{σ σ' Λ:List Addr}{h h':Heap}{v:Value}{x:V}(r:Rep (Bad σ Λ) h v x)(f:Fresh σ σ' h)(k:Kp (Bad σ Λ) h h'):Rep (Bad σ' Λ) h' v x:=
 r.mono fun a o e n=>⟨k.at e n,fun b=>n (b.elim (fun q=>.inl (f.low e q)) .inr)⟩
theorem Reps.step{σ σ' Λ:List Addr}{h h':Heap}{v:List Value}{x:List V}(r:Reps (Bad σ Λ) h v x)(f:Fresh σ σ' h)(k:Kp (Bad σ Λ) h h'):Reps (Bad σ' Λ) h' v x:=
 r.mono fun a o e n=>⟨k.at e n,fun b=>n (b.elim (fun q=>.inl (f.low e q)) .inr)⟩
theorem RepD.step{σ σ' Λ:List Addr}{h h':Heap}{v:Value}{d:D}(r:RepD σ (Bad σ Λ) h v d)(f:Fresh σ σ' h)(k:Kp (Bad σ Λ) h h'):RepD σ' (Bad σ' Λ) h' v d:=by
 induction d using D.casesOn with
 |v x=>exact Rep.step r f k
 |m i=>obtain⟨a,e,q⟩:=r;exact⟨a,f.get e,q⟩
noncomputable def I3(σ Λ:List Addr)(h:Heap)(st:Sto):Prop:=
 σ.length=st.length∧σ.Nodup∧∀(i:Nat) (a:Addr) (l:List V),σ[i]? =some a→st[i]? =some l→∃vs:List Value,h.PlainList a vs.toArray∧Reps (Bad σ Λ) h vs l∧l.length≤2^20+1
noncomputable abbrev qj:=List (Addr×Addr×Str)
set_option genCtorIdx false in
structure Wd where
 prog:Program
 w:World
 K:Frag
 base:Heap
 p:Program
 loose:List Str
 mg:Str→Option Value
 mb:Str→Option Value
 X:K.In base
 T:TopRead p loose mg mb base
 live:∃o,base.get? (base.objs.size-1)=some o
 fr:List Addr
 tabs:List (Addr×Addr×Str)
 hd:∀q∈tabs,CodeHd base q.1 q.2.1∧base.get? q.2.1=none∧∀q'∈tabs,q'.2.1=q.2.1→q'=q
 bat:∀q∈tabs,∃bm o,mg "__builtins__"=some (.ref bm)∧bm≠builtinsNs∧bm≠mainGlobals∧base.get? bm=some o∧o.cls=.type "module"∧o.dict=some builtinsNs∧o.data=.plain
theorem ko{h h':Heap}{L:Addr}{m:Str→Option Value}(n:h.Ns L m)(k:∀o,h.get? L=some o→At h' L o):h'.Ns L m:=by
 refine qi n fun o es ep ho r=>?_
 obtain⟨sl,e⟩:=(k o ho).ex (ly fun ps q=>by rw[r.1]at q;contradiction)
 exact⟨_,es,ep,e,r⟩
theorem k7{h:Heap}{L:Addr}{m m':Str→Option Value}(n:h.Ns L m)(n':h.Ns L m'):m=m':=by
 funext y
 refine eo n fun o1 es1 ep1 g1 g2 g3 g4=>?_
 refine eo n' fun o2 es2 ep2 k1 k2 k3 k4=>?_
 rw[g1]at k1
 injection k1 with k1
 subst k1
 rw[g2]at k2
 injection k2 with k2
 subst k2
 rw[←g4 y,←k4 y]
theorem Et{h h':Heap}{L:Addr}(n:∃m,h.Ns L m)(k:∀b o,h.get? b=some o→h'.get? b=some o):∃m,h'.Ns L m:=by
 obtain⟨m,n⟩:=n
 exact⟨m,ko n fun o e=>.inl (k _ _ e)⟩
theorem n8{h h':Heap}{L:Addr}(n:∃m,h.Ns L m)(k:∀o,h.get? L=some o→At h' L o):∃m,h'.Ns L m:=by
 obtain⟨m,n⟩:=n
 exact⟨m,ko n k⟩
noncomputable def TabAt(T:qj)(B:Addr→Prop)(h:Heap)(P:Addr)(qual:Str):Prop:=
 ¬B P∧∃ps,h.get? P=some (tabObj ps)∧TriplesOk ps.toList∧∀pos cv,codeAmong pos ps.toList=some cv→∃c' o vs t,cv=.ref c'∧¬B c'∧(∀q∈T,q.2.1≠c')∧h.get? c'=some o∧o.data=.fields vs∧vs[1]? =some (.str qual t)
theorem TabAt.move{T:qj}{B B':Addr→Prop}{h h':Heap}{P:Addr}{qual:Str}(x:TabAt T B h P qual)(mv:∀b o,h.get? b=some o→¬B b→At h' b o∧¬B' b)(ex:∀b o,h.get? b=some o→¬B b→wn o→h'.get? b=some o):TabAt T B' h' P qual:=by
 obtain⟨nb,ps,hp,ht,hc⟩:=x
 refine⟨(mv P _ hp nb).2,ps,ex P _ hp nb ⟨rfl,_,rfl⟩,ht,fun pos cv e=>?_⟩
 obtain⟨c',o,vs,t,e1,e2,e0,e3,e4,e5⟩:=hc pos cv e
 refine⟨c',o,vs,t,e1,(mv c' o e3 e2).2,e0,?_,e4,e5⟩
 rcases(mv c' o e3 e2).1 with z|⟨⟨_,_,d⟩,_⟩|⟨d,_⟩
 ·exact z
 ·rw[e4]at d;contradiction
 ·exact ex c' o e3 e2 d
structure Inv (W:Wd) (σ Λ:List Addr) (h:Heap) (st:Sto):Prop where
 keep:∀b o,W.base.get? b=some o→h.get? b=some o
 new:∀a,Bad σ Λ a→W.base.objs.size≤a∧∃o,h.get? a=some o
 store:I3 σ Λ h st
 apart:∀a∈σ,a∉Λ
 dic:∀a∈W.fr,a∈Λ∧∃m,h.Ns a m
 tab:∀q∈W.tabs,TabAt W.tabs (Bad σ Λ) h q.2.1 q.2.2
noncomputable def A8(env:Env)(σ:List Addr)(h:Heap):Prop:=∀x c,env.cells.lookup x=some c→c∉σ∧∃w,h.IsCell c w
noncomputable def Vars(Λ:List Addr)(sc:Scope)(env:Env)(ρ:En)(σ:List Addr)(h:Heap):Prop:=
 ∃m,h.Ns env.locals m∧A8 env σ h∧∀x d,ρ.lookup x=some d→
  (sc.names.lookup x=some .local→∃v,m x=some v∧RepD σ (Bad σ Λ) h v d)∧
  (sc.names.lookup x=some .cell∨sc.names.lookup x=some .free→∃c o v,env.cells.lookup x=some c∧h.get? c=some o∧o.data=.cell (some v)∧c∉σ∧RepD σ (Bad σ Λ) h v d)
structure EnvOk (T:qj) (Λ:List Addr) (sc:Scope) (env:Env):Prop where
 kind:sc.kind=.function
 scope:env.scope=sc
 globals:env.globals=mainGlobals
 builtins:env.builtins=builtinsNs
 loc:env.locals∈Λ
 cin:∀x c,env.cells.lookup x=some c→c∈Λ
 cells:∀x,sc.names.lookup x=some .cell∨sc.names.lookup x=some .free→∃c,env.cells.lookup x=some c
 inj:∀x y c,env.cells.lookup x=some c→env.cells.lookup y=some c→x=y
 cd:(∃x,sc.names.lookup x=some .cell)→∃c P,env.code=.ref c∧(c,P,env.qual++"<lambda>")∈T
noncomputable def Stk(A:Around)(W:Wd):Prop:=∃l,A.frames=some l∧∀env∈l,env.scope.kind≠.module∧∃L,env.frame=some L∧L∈W.fr
noncomputable def qk(W:Wd)(l:List Env):Prop:=∀env∈l,env.scope.kind≠.module∧∃L,env.frame=some L∧L∈W.fr
noncomputable def ji(A:Around)(W:Wd)(env:Env):Prop:=∃outer L,A.frames=some (env::outer)∧qk W (env::outer)∧env.frame=some L
structure Flown (W:Wd) (B:Addr→Prop) (h h':Heap) (e:Addr) (c:Addr) (ns:List Str) (l:List V):Prop where
 keep:(∀b o,h.get? b=some o→b≠e→At h' b o)∧(∀b o,W.base.get? b=some o→h'.get? b=some o)∧∀b o,h.get? b=some o→wn o→b≠e→h'.get? b=some o
 here:(∃o,h.get? e=some o)∧¬B e∧e∉W.fr∧W.base.get? e=none
 obj:∃dx oe vs a0,h'.get? e=some oe∧oe.cls=.ref c∧oe.dict=some dx∧oe.data=.fields vs∧vs[0]? =some a0∧
  (vs[1]? =some .none∨∃T oT ts,vs[1]? =some (.ref T)∧h.get? T=none∧h'.get? T=some oT∧oT.data=.fields ts∧3<ts.size)∧
  ∃es n,dx≠e∧¬B dx∧At h dx (dictOf es n)∧gj es ns∧Reps (fun a=>B a∨a=e) h (es.map (·.val)) l
noncomputable def Q9(W:Wd)(B:Addr→Prop)(h h':Heap)(e:Addr):V→Prop
 |.inst c ns l=>Flown W B h h' e c ns l
 |_=>False
noncomputable def Po{α β:Type}(W:Wd)(Λ:List Addr)(X:Addr→Prop)(Rel:List Addr→Heap→β→α→Prop)(E:Value→Shared→Prop)(σ:List Addr)(s:Shared)(r:Out α)(Q:β→Shared→Prop):Prop:=
 match r with
 |.ok a st'=>∀σ' h' tk b,Fresh σ σ' s.heap→Kp (fun x=>x∈σ∨X x) s.heap h'→Inv W σ' Λ h' st'→Rel σ' h' b a→Q b { s with heap:=h',toks:=tk }
 |.exc x st'=>∀σ' hr h' tk e,Fresh σ σ' s.heap→Kp (fun x=>x∈σ∨X x) s.heap hr→Inv W σ' (e::Λ) hr st'→s.heap.get? e=none→Q9 W (Bad σ' Λ) hr h' e x→E (.ref e) { s with heap:=h',toks:=tk }
 |.stuck=>False
noncomputable def NoX:Addr→Prop:=fun o_=>False
noncomputable def au(Λ:List Addr):List Addr→Heap→Value→D→Prop:=fun σ h v d=>RepD σ (Bad σ Λ) h v d
noncomputable def L9(Λ:List Addr):List Addr→Heap→List Value→List D→Prop:=fun σ h v d=>RepDs σ (Bad σ Λ) h v d
noncomputable def ux:List Addr→Heap→Bool→Bool→Prop:=fun o_ o_ b c=>b=c
section
variable {α α' β β':Type} {W:Wd} {Λ:List Addr} {X X':Addr→Prop} {Rel:List Addr→Heap→β→α→Prop} {Rel':List Addr→Heap→β'→α'→Prop} {E:Value→Shared→Prop} {σ:List Addr} {s:Shared}
theorem Kp.none{W:Addr→Prop}{h h':Heap}(k:Kp W h h'){e:Addr}(n:h'.get? e=none):h.get? e=none:=by
 generalize z:h.get? e=zz
 induction zz using Option.casesOn with
 |none=>rfl
 |some o=>
  obtain⟨o',z'⟩:=(k e o z).2
  rw[n]at z';contradiction
theorem Po.shift{r:Out α}{Q:β→Shared→Prop}{σ':List Addr}{h':Heap}{tk:Nat}(H:Po W Λ X Rel E σ s r Q)(f:Fresh σ σ' s.heap)(k:Kp (fun x=>x∈σ∨X x) s.heap h'):
 Po W Λ X Rel E σ' { s with heap:=h',toks:=tk } r Q:=by
 have kk:∀{h'':Heap},Kp (fun x=>x∈σ'∨X x) h' h''→Kp (fun x=>x∈σ∨X x) s.heap h'':=fun k'=>k.trans k' fun a l q=>q.elim (fun q=>.inl (l.elim fun o_ e=>f.low e q)) .inr
 induction r using Out.casesOn with
 |ok a st'=>
  intro σ'' h'' tk'' b f' k' i r'
  exact H σ'' h'' tk'' b (f.trans f' k) (kk k') i r'
 |exc x st'=>
  intro σ'' hr h'' tk'' e f' k' i n x'
  exact H σ'' hr h'' tk'' e (f.trans f' k) (kk k') i (k.none n) x'
 |stuck=>exact H
theorem Po.seq{r:Out α}{f:α→Sto→Out α'}{Q':β'→Shared→Prop}{Q:β→Shared→Prop}(hX:∀a,X a→X' a)(H:Po W Λ X' Rel' E σ s (r.bind f) Q')
 (k:∀a st' σ' h' tk b,Fresh σ σ' s.heap→Kp (fun x=>x∈σ∨X x) s.heap h'→Inv W σ' Λ h' st'→Rel σ' h' b a→
   Po W Λ X' Rel' E σ' { s with heap:=h',toks:=tk } (f a st') Q'→Q b { s with heap:=h',toks:=tk }):
 Po W Λ X Rel E σ s r Q:=by
 induction r using Out.casesOn with
 |ok a st'=>
  intro σ' h' tk b f1 k1 i1 r1
  exact k a st' σ' h' tk b f1 k1 i1 r1 (Po.shift H f1 (k1.weak fun a q=>q.elim .inl fun q=>.inr (hX a q)))
 |exc x st'=>intro σ' hr h' tk e f k i n x';exact H σ' hr h' tk e f (k.weak fun a q=>q.elim .inl fun q=>.inr (hX a q)) i n x'
 |stuck=>exact H
theorem Po.seq0{r:Out α}{f:α→Sto→Out α'}{Q':β'→Shared→Prop}{Q:β→Shared→Prop}(H:Po W Λ X Rel' E σ s (r.bind f) Q')
 (k:∀a st' σ' h' tk b,Fresh σ σ' s.heap→Kp (fun x=>x∈σ∨X x) s.heap h'→Inv W σ' Λ h' st'→Rel σ' h' b a→
   Po W Λ X Rel' E σ' { s with heap:=h',toks:=tk } (f a st') Q'→Q b { s with heap:=h',toks:=tk }):
 Po W Λ X Rel E σ s r Q:=Po.seq (fun o_ q=>q) H k
theorem Po.quiet{r:Out α}{f:α→Sto→Out α'}{Q':β'→Shared→Prop}{Q:β→Shared→Prop}{E':Value→Shared→Prop}(hX:∀a,X a→X' a)(H:Po W Λ X' Rel' E σ s (r.quiet.bind f) Q')
 (k:∀a st' σ' h' tk b,Fresh σ σ' s.heap→Kp (fun x=>x∈σ∨X x) s.heap h'→Inv W σ' Λ h' st'→Rel σ' h' b a→
   Po W Λ X' Rel' E σ' { s with heap:=h',toks:=tk } (f a st') Q'→Q b { s with heap:=h',toks:=tk }):
 Po W Λ X Rel E' σ s r Q:=by
 induction r using Out.casesOn with
 |ok a st'=>
  intro σ' h' tk b f1 k1 i1 r1
  exact k a st' σ' h' tk b f1 k1 i1 r1 (Po.shift H f1 (k1.weak fun a q=>q.elim .inl fun q=>.inr (hX a q)))
 |exc x st'=>exact H.elim
 |stuck=>exact H
theorem Po.now{a:α}{st:Sto}{Q:β→Shared→Prop}{b:β}{tk:Nat}(H:Po W Λ X Rel E σ s (.ok a st) Q)(i:Inv W σ Λ s.heap st)(r:Rel σ s.heap b a):Q b { s with toks:=tk }:=
 H σ s.heap tk b Fresh.refl Kp.refl i r
theorem Po.ifS{c:Bool}{r:Out α}{Q:β→Shared→Prop}{G:Prop}(H:Po W Λ X Rel E σ s (if c=true then r else .stuck) Q)(k:c=true→Po W Λ X Rel E σ s r Q→G):G:=by
 induction c using Bool.casesOn with
 |true=>exact k rfl H
 |false=>exact H.elim
theorem Po.alt{c:Bool}{r q:Out α}{Q:β→Shared→Prop}{G:Prop}(H:Po W Λ X Rel E σ s (if c=true then r else q) Q)(k:c=true→Po W Λ X Rel E σ s r Q→G)(k':Po W Λ X Rel E σ s q Q→G):G:=by
 induction c using Bool.casesOn with
 |true=>exact k rfl H
 |false=>exact k' H
theorem Po.ifP{p:Prop}[Decidable p]{r:Out α}{Q:β→Shared→Prop}{G:Prop}(H:Po W Λ X Rel E σ s (if p then r else .stuck) Q)(k:p→Po W Λ X Rel E σ s r Q→G):G:=by
 by_cases hp:p
 ·rw[if_pos hp]at H;exact k hp H
 ·rw[if_neg hp]at H;exact H.elim
theorem Po.ofS{o:Option α}{st:Sto}{Q:β→Shared→Prop}{G:Prop}(H:Po W Λ X Rel E σ s (ofO st o) Q)(k:∀x,o=some x→Po W Λ X Rel E σ s (.ok x st) Q→G):G:=by
 induction o using Option.casesOn with
 |some x=>exact k x rfl H
 |none=>exact H.elim
end
section
variable {W:Wd} {Λ σ σ':List Addr} {h h':Heap} {st:Sto}
theorem Inv.size(I:Inv W σ Λ h st):W.base.objs.size≤h.objs.size:=by
 obtain⟨o,e⟩:=W.live
 exact Nat.le_of_pred_lt (Heap.lt_size (I.keep _ _ e))
theorem Inv.grow(I:Inv W σ Λ h st)(k:∀b o,h.get? b=some o→h'.get? b=some o):Inv W σ Λ h' st:=by
 refine⟨fun b x e=>k _ _ (I.keep b x e),fun a b=>⟨(I.new a b).1,?_⟩,⟨I.store.1,I.store.2.1,fun i a l e1 e2=>?_⟩,I.apart,fun a q=>⟨(I.dic a q).1,Et (I.dic a q).2 k⟩,fun q hq=>(I.tab q hq).move (fun b o e nb=>⟨.inl (k b o e),nb⟩) fun b o e o_ o_=>k b o e⟩
 ·obtain⟨o,e⟩:=(I.new a b).2
  exact⟨o,k _ _ e⟩
 ·refine bq (I.store.2.2 i a l e1 e2) fun vs q r z=>?_
  exact⟨vs,q.at fun o' e=>k _ _ e,r.step Fresh.refl (Kp.all k),z⟩
theorem Inv.push(I:Inv W σ Λ h st)(o:Obj):Inv W σ Λ (h.push o) st:=I.grow fun o_ o_ e=>Heap.get?_push_of_some _ e
theorem Inv.sigma(I:Inv W σ Λ h st){x:Addr}(l:x∈Λ):x∉σ:=fun q=>I.apart x q l
theorem an{h:Heap}:h.get? h.objs.size=none:=by
 generalize q:h.get? h.objs.size=zz
 induction zz using Option.casesOn with
 |none=>rfl
 |some o=>exact absurd (Heap.lt_size q) (Nat.lt_irrefl _)
theorem Inv.newAddr(I:Inv W σ Λ h st):¬Bad σ Λ h.objs.size:=fun b=>by
 obtain⟨o,e⟩:=(I.new _ b).2
 rw[an]at e;contradiction
end
theorem pe{h h':Heap}{c:Addr}{w:Option Value}(x:h.IsCell c w)(k:∀o,h.get? c=some o→At h' c o):h'.IsCell c w:=by
 obtain⟨o,e,d⟩:=x
 exact⟨o,(k o e).ndb (dq d rfl rfl),d⟩
theorem lz{h:Heap}{c L:Addr}{w:Option Value}{m:Str→Option Value}(x:h.IsCell c w)(n:h.Ns L m):c≠L:=fun q=>by
 obtain⟨o,e,d⟩:=x
 refine y6 n fun o2 es ep e2 d2 o_=>?_
 rw[q,e2]at e
 injection e with e
 subst e
 rw[d2]at d;contradiction
theorem Vars.turn{Λ σ σ' Λ':List Addr}{sc:Scope}{env:Env}{ρ ρ':En}{h h':Heap}{m':Str→Option Value}(V:Vars Λ sc env ρ σ h)(f:Fresh σ σ' h)(hm':h'.Ns env.locals m')
 (k:∀x c o,env.cells.lookup x=some c→h.get? c=some o→At h' c o) (kb:∀v d,RepD σ (Bad σ Λ) h v d→RepD σ' (Bad σ' Λ') h' v d)
 (hs:∀m,h.Ns env.locals m→∀y d,ρ'.lookup y=some d→ρ.lookup y=some d∧m' y=m y):Vars Λ' sc env ρ' σ' h':=by
 obtain⟨m,hn,Vc,V⟩:=V
 refine⟨m',hm',fun x c e=>⟨fun q=>?_,(Vc x c e).2.imp fun w z=>pe z fun o=>k x c o e⟩,fun x d e=>?_⟩
 ·obtain⟨w,o,e',_⟩:=(Vc x c e).2
  exact(Vc x c e).1 (f.low e' q)
 ·obtain⟨e1,e2⟩:=hs m hn x d e
  refine⟨fun q=>?_,fun q=>?_⟩
  ·obtain⟨v,a,b⟩:=(V x d e1).1 q
   exact⟨v,e2.trans a,kb v d b⟩
  ·refine ni ((V x d e1).2 q) fun c o v a ho hd hc b=>?_
   exact⟨c,o,v,a,(k x c o a ho).ndb (dq hd rfl rfl),hd,fun q=>hc (f.low ho q),kb v d b⟩
theorem Vars.step{Λ σ σ':List Addr}{sc:Scope}{env:Env}{ρ:En}{h h':Heap}(V:Vars Λ sc env ρ σ h)(hl:env.locals∉σ)(f:Fresh σ σ' h)(k:Kp (fun x=>x∈σ∨NoX x) h h'):Vars Λ sc env ρ σ' h':=by
 have kb:Kp (Bad σ Λ) h h':=k.weak fun a q=>q.elim .inl fun q=>q.elim
 obtain⟨m,hn,Vc,_⟩:=id V
 refine V.turn f (ko hn fun o ho=>k.at ho fun q=>q.elim hl fun q=>q.elim) (fun x c o e ho=>k.at ho fun q=>q.elim (Vc x c e).1 fun q=>q.elim) (fun v d r=>r.step f kb) fun m₂ hn₂ y d e=>⟨e,?_⟩
 rw[k7 hn hn₂]
noncomputable def SX{α β:Type}(W:Wd)(A:Around)(Λ:List Addr)(X:Addr→Prop)(Rel:List Addr→Heap→β→α→Prop)(pre:List Addr→Heap→Prop)(f:Sto→Out α)(t:Sem β):Prop:=
 ∀E σ s st Q,Inv W σ Λ s.heap st→pre σ s.heap→Po W Λ X Rel E σ s (f st) Q→wpAny (model W.prog W.w) A t Q E s
noncomputable def ExG(K:Frag)(C:Addr):Prop:=findIn K (.ref C) "__getattribute__"=some (some (.builtin "BaseException.__getattribute__"))∧findIn K (.ref C) "__getattr__"=some none∧subIn K (.ref C) (.type "BaseException")=some true
structure CxOk (W:Wd) (C:Cx):Prop where
 G:∀x v,C.G x=some v→nsIn W.K mainGlobals x=some (some v)∨(nsIn W.K mainGlobals x=some none∧bootBuiltins x=some v∧x≠"__name__")
 able:∀v,C.able v=true→∀(M:Model) h,W.K.In h→∃k,(k=Keeper.frame∨k=Keeper.machine∨k=Keeper.boundFrame)∧Looks M h (keeperOf v) k
 meth:∀c n f,C.meth c n=some f→plainGet W.K c n=true∧findIn W.K (.ref c) n=some (some (.ref f))∧isFn W.K (.ref f)=true∧keepIn W.K (.ref f)=true
 attr:∀c n,C.attr c n=true→(plainGet W.K c n=true∨ExG W.K c)∧hasDictIn W.K c=true∧∃a,findIn W.K (.ref c) n=some a∧noGet W.K a=true
 tk:∀a td,C.told a=some td→keepIn W.K (.ref a)=true
noncomputable def IE(W:Wd)(A:Around)(I:In):Prop:=∀Λ sc env ρ e,EnvOk W.tabs Λ sc env→SX W A Λ NoX (au Λ) (Vars Λ sc env ρ) (I.ex sc ρ e) (eval e env)
noncomputable def IT(W:Wd)(A:Around)(I:In):Prop:=∀Λ sc env ρ e,EnvOk W.tabs Λ sc env→SX W A Λ NoX ux (Vars Λ sc env ρ) (I.tt sc ρ e) (PySem.isTrue e env (eval e env))
noncomputable def CS(W:Wd)(A:Around)(Φ:D→List D→Sto→Out D):Prop:=
 ∀Λ d ds v vs,SX W A Λ NoX (au Λ) (fun σ h=>(∃L m,L∈Λ∧h.Ns L m)∧RepD σ (Bad σ Λ) h v d∧RepDs σ (Bad σ Λ) h vs ds) (Φ d ds) (call v vs)
theorem ib{x:Int}{n:Nat}(h:x.natAbs.log2<n)(hn:0<n):Builtin.Int.intBits x≤n:=by
 unfold Builtin.Int.intBits
 split
 ·exact Nat.zero_le _
 ·exact h
theorem Nw{a b:Int}(h:p7 a b=true):IntMulOk a b:=by
 unfold p7 at h
 rcases Bool.or_eq_true_iff.mp h with h|h
 ·obtain⟨h1,h2⟩:=zan h
  exact IntMulOk.of_le (ib (of_decide_eq_true h1) (by decide)) (ib (of_decide_eq_true h2) (by decide)) (by decide)
 ·exact IntMulOk.of_left (Nat.le_trans (ib (of_decide_eq_true h) (by decide)) (by decide))
structure AOk (A:Around):Prop where
 units:A.units+64<cLine
noncomputable def I4(base:Heap)(L:Addr)(h:Heap):List (Addr×Obj):=
 (List.range h.objs.size).filterMap fun a=>(h.get? a).bind fun o=>if(base.get? a).isNone&&a !=L then some (a,o)else none
theorem mem_alls{base:Heap}{L:Addr}{h:Heap}{a:Addr}{o:Obj}:(a,o)∈I4 base L h↔h.get? a=some o∧base.get? a=none∧a≠L:=by
 unfold I4
 rw[List.mem_filterMap]
 refine⟨fun⟨b,_,e⟩=>ao e fun o' h1 e=>gf e fun h2 e=>?_,fun⟨h1,h2,h3⟩=>⟨a,List.mem_range.mpr (Heap.lt_size h1),?_⟩⟩
 ·cases e
  obtain⟨h2,h3⟩:=zan h2
  exact⟨h1,Option.isNone_iff_eq_none.mp h2,bne_iff_ne.mp h3⟩
 ·show(h.get? a).bind _=_
  rw[h1]
  exact if_pos (Bool.and_eq_true_iff.mpr ⟨Option.isNone_iff_eq_none.mpr h2,bne_iff_ne.mpr h3⟩)
theorem Cz{base:Heap}{L:Addr}{h:Heap}:News base L h (I4 base L h):=fun p hp=>by
 obtain⟨a,o⟩:=p
 obtain⟨h1,h2,h3⟩:=mem_alls.mp hp
 exact⟨h1,h3,h2⟩
section
variable {W:Wd} {A:Around} {Λ σ:List Addr} {E:Value→Shared→Prop} {s:Shared} {st:Sto}
theorem y7{op:Operator}{i j z:Int}{t u:Tok}{Q:Value→Shared→Prop}(hh:tg op=true→A.handled=none)(hz:Nd op i j=some z)(fin:Q (.int z s.toks) { s with toks:=s.toks+1 }):wpAny (model W.prog W.w) A (binaryOp op (.int i t) (.int j u)) Q E s:=by
 have ii:∀{p:Prop} [Decidable p] {x:Int},(if p then some x else none)=some z→p∧x=z:=fun {p} _ {x} h=>by
  by_cases hp:p
  ·rw[if_pos hp]at h;exact⟨hp,Option.some.inj h⟩
  ·rw[if_neg hp]at h;cases h
 cases op with
 |Add=>cases hz;exact add_int fin
 |Sub=>cases hz;exact sub_int fin
 |Mult=>
  obtain⟨hm,rfl⟩:=ii hz;exact mul_int fin (Nw hm)
 |FloorDiv=>
  obtain⟨hm,rfl⟩:=ii hz
  obtain⟨h1,h2⟩:=zan hm
  exact floordiv_int (of_decide_eq_true h1) fin (.inl (PyProof.noPylong_of_log2 (of_decide_eq_true h2)))
 |Mod=>
  by_cases hm:j=0
  ·exact nomatch (if_pos hm).symm.trans hz
  ·cases (if_neg hm).symm.trans hz;exact mod_int hm fin
 |Pow=>obtain⟨hm,rfl⟩:=ii hz;exact pow_int hm.1 hm.2 fin
 |LShift=>
  obtain⟨hm,rfl⟩:=ii hz
  exact lshift_int_or (hh rfl) (fun q=>(Int.not_lt.mpr hm.1 q).elim) (fun o_=>hm.2) (fun o_=>fin)
 |RShift=>obtain⟨hm,rfl⟩:=ii hz;exact rshift_int hm fin
 |BitAnd=>cases hz;exact and_int fin
 |_=>cases hz
theorem y8{l1 l2:List V}{va vb:Value}{Q:Value→Shared→Prop}(I:Inv W σ Λ s.heap st)(ra:Rep (Bad σ Λ) s.heap va (.lst l1))(rb:Rep (Bad σ Λ) s.heap vb (.lst l2))(hz:cf (l1.length+l2.length)=true)
 (H:Po W Λ NoX (au Λ) E σ s (.ok (D.v (.lst (l1++l2))) st) Q):wpAny (model W.prog W.w) A (binaryOp .Add va vb) Q E s:=by
 obtain⟨a1,⟨c1,dd1,data1,sl1⟩,vs1,n1,rfl,hb1,ho1,hc1,hd1,hr1⟩:=Rep.l ra
 obtain⟨a2,⟨c2,dd2,data2,sl2⟩,vs2,n2,rfl,hb2,ho2,hc2,hd2,hr2⟩:=Rep.l rb
 simp only at hc1 hd1 hc2 hd2
 subst hc1 hd1 hc2 hd2
 have e:vs1.toArray++vs2.toArray=(vs1++vs2).toArray:=by simp
 have hz':vs1.toArray.size+vs2.toArray.size≤sizeLine:=by
  rw[List.size_toArray,List.size_toArray,hr1.length,hr2.length]
  exact Nat.le_trans (of_decide_eq_true hz) (by decide)
 refine concat_meets ⟨_,ho1,rfl⟩ ⟨_,ho2,rfl⟩ noFill_list_add seq_list_add PySem.F.slot_list_add PySem.F.entry_list_add (PySem.F.args_list_add_2 _ _) (list_addW a1 a2 vs1.toArray vs2.toArray n1 n2 dd1 dd2 sl1 sl2 hz') ⟨ho1,ho2,?_⟩
 rw[e]
 refine H σ _ s.toks _ Fresh.refl (Kp.push _) (I.push _) ⟨_,_,_,0,rfl,I.newAddr,Heap.get?_push_size _ rfl,rfl,rfl,?_⟩
 exact(hr1.append hr2).step Fresh.refl (Kp.push _)
theorem y9{l1 l2:List V}{va vb:Value}{Q:Value→Shared→Prop}(I:Inv W σ Λ s.heap st)(ra:Rep (Bad σ Λ) s.heap va (.tup l1))(rb:Rep (Bad σ Λ) s.heap vb (.tup l2))(hz:cf (l1.length+l2.length)=true)
 (H:Po W Λ NoX (au Λ) E σ s (.ok (D.v (.tup (l1++l2))) st) Q):wpAny (model W.prog W.w) A (binaryOp .Add va vb) Q E s:=by
 refine eo (Rep.t ra) fun a1 vs1 n1 ee3 hb1 ho1 hr1=>?_
 subst ee3
 refine eo (Rep.t rb) fun a2 vs2 n2 ee3 hb2 ho2 hr2=>?_
 subst ee3
 have hz':vs1.toArray.size+vs2.toArray.size≤sizeLine:=by
  rw[List.size_toArray,List.size_toArray,hr1.length,hr2.length]
  exact Nat.le_trans (of_decide_eq_true hz) (by decide)
 have hr:=hr1.append hr2
 by_cases e1:vs1.toArray.isEmpty=true
 ·refine PySem.concat_meets ⟨_,ho1,rfl⟩ ⟨_,ho2,rfl⟩ noFill_tuple_add seq_tuple_add PySem.F.slot_tuple_add PySem.F.entry_tuple_add (PySem.F.args_tuple_add_2 _ _) (PySem.AutoSeq1.tuple___add___tuple_tuple_0 a1 _ n1 a2 _ n2 e1) ⟨ho1,ho2,?_⟩
  have:vs1=[]:=by simpa using e1
  subst this
  exact H.now I ⟨a2,vs2,n2,rfl,hb2,ho2,hr⟩
 ·by_cases e2:vs2.toArray.isEmpty=true
  ·refine PySem.concat_meets ⟨_,ho1,rfl⟩ ⟨_,ho2,rfl⟩ noFill_tuple_add seq_tuple_add PySem.F.slot_tuple_add PySem.F.entry_tuple_add (PySem.F.args_tuple_add_2 _ _) (PySem.AutoSeq1.tuple___add___tuple_tuple_1 a1 _ n1 a2 _ n2 e1 e2) ⟨ho1,ho2,?_⟩
   have:vs2=[]:=by simpa using e2
   subst this
   rw[List.append_nil]at hr
   exact H.now I ⟨a1,vs1,n1,rfl,hb1,ho1,hr⟩
  ·refine PySem.concat_meets ⟨_,ho1,rfl⟩ ⟨_,ho2,rfl⟩ noFill_tuple_add seq_tuple_add PySem.F.slot_tuple_add PySem.F.entry_tuple_add (PySem.F.args_tuple_add_2 _ _) (PySem.AutoSeq1.tuple___add___tuple_tuple_2 a1 _ n1 a2 _ n2 e1 e2 hz') ⟨ho1,ho2,?_⟩
   have e:vs1.toArray++vs2.toArray=(vs1++vs2).toArray:=by simp
   rw[e]
   refine H σ _ s.toks _ Fresh.refl (Kp.push _) (I.push _) ⟨_,_,0,rfl,I.newAddr,Heap.get?_push_size _ rfl,?_⟩
   exact hr.step Fresh.refl (Kp.push _)
theorem qo{op:Operator}{a b:D}{x:V}{va vb:Value}{Q:Value→Shared→Prop}(I:Inv W σ Λ s.heap st)(ra:RepD σ (Bad σ Λ) s.heap va a)(rb:RepD σ (Bad σ Λ) s.heap vb b)(hx:Ea op a b=some x)
 (H:Po W Λ NoX (au Λ) E σ s (.ok (D.v x) st) Q):wpAny (model W.prog W.w) A (binaryOp op va vb) Q E s:=by
 cases op with
 |Sub=>
  refine ao hx fun p hp hx=>ao hx fun q hq hx=>?_
  rw[A1 hp]at ra
  rw[A1 hq]at rb
  have ra:va=.bool p:=ra
  have rb:vb=.bool q:=rb
  subst ra rb
  cases hx
  exact sub_bool (H.now I ⟨_,rfl⟩)
 |Add=>
  have hx:(Nf a b).or (Qy a b)=some x:=hx
  generalize hv:Nf a b=zz at hx
  induction zz using Option.casesOn with
  |some v=>
   cases hx
   refine ao hv fun p hp hv=>ao hv fun q hq hv=>gf hv fun hz hv=>?_
   cases hv
   rw[k6 hp]at ra
   rw[k6 hq]at rb
   exact y8 I ra rb hz H
  |none=>
   refine ao hx fun p hp hx=>ao hx fun q hq hx=>gf hx fun hz hx=>?_
   cases hx
   rw[yy hp]at ra
   rw[yy hq]at rb
   exact y9 I ra rb hz H
 |_=>cases hx
theorem wq{op:Operator}{a b:D}{va vb:Value}{Q:Value→Shared→Prop}(hh:tg op=true→A.handled=none)(I:Inv W σ Λ s.heap st)(ra:RepD σ (Bad σ Λ) s.heap va a)(rb:RepD σ (Bad σ Λ) s.heap vb b)
 (H:Po W Λ NoX (au Λ) E σ s (ofO st ((lu op a b).map D.v)) Q):wpAny (model W.prog W.w) A (binaryOp op va vb) Q E s:=by
 generalize hx:lu op a b=zz at H
 induction zz using Option.casesOn with
 |none=>exact H.elim
 |some x=>
  unfold lu at hx
  generalize hi:bw a=zz at hx
  induction zz using Option.casesOn with
  |none=>exact qo I ra rb hx H
  |some i=>
   generalize hj:bw b=zz at hx
   induction zz using Option.casesOn with
   |none=>exact qo I ra rb hx H
   |some j=>
    rw[ej hi]at ra
    rw[ej hj]at rb
    obtain⟨t,rfl⟩:=ra
    obtain⟨u,rfl⟩:=rb
    obtain⟨z,hz,rfl⟩:=zmp hx
    exact y7 hh hz (H.now I ⟨_,rfl⟩)
end
section
variable {W:Wd} {A:Around} {Λ σ:List Addr} {E:Value→Shared→Prop} {s:Shared} {st:Sto}
theorem jj{d:D}{v:Value}{b:Bool}{B:Addr→Prop}{h:Heap}{Q:Bool→Shared→Prop}(r:RepD σ B h v d)(e:c8 d=some b)(q:Q b s):wpAny (model W.prog W.w) A (truthy v) Q E s:=by
 induction d using D.casesOn with
 |m i=>cases e
 |v x=>
 cases x with
 |bool c=>
  have r:v=.bool c:=r
  subst r;cases e
  exact wpAny_truthy_bool q
 |int i=>
  obtain⟨t,rfl⟩:=r
  cases e
  exact truthy_int q
 |_=>cases e
mutual
theorem tj{B:Addr→Prop}{h:Heap}:∀{x:V} {v:Value} {d:PyData},Rep B h v x→x.dat=some d→∃as,Reads h v d as
 |.none,v,d,r,e=>by
  (first|subst e|contradiction|(injection e with e;subst e)|cases e)
  have r:v=.none:=r
  subst r;exact⟨_,.none⟩
 |.bool b,v,d,r,e=>by
  (first|subst e|contradiction|(injection e with e;subst e)|cases e)
  have r:v=.bool b:=r
  subst r;exact⟨_,.bool b⟩
 |.int i,v,d,r,e=>by
  (first|subst e|contradiction|(injection e with e;subst e)|cases e)
  obtain⟨t,rfl⟩:=r
  exact⟨_,.int i t⟩
 |.str x,v,d,r,e=>by
  (first|subst e|contradiction|(injection e with e;subst e)|cases e)
  obtain⟨t,rfl⟩:=r
  exact⟨_,.str x t⟩
 |.tup l,v,d,r,e=>by
  refine eo (Rep.t r) fun a vs n ee3 hb ho hr=>?_
  subst ee3
  obtain⟨ds,he,rfl⟩:=zmp e
  obtain⟨as,q⟩:=ic hr he
  exact⟨_,.tuple ho rfl rfl (by simpa using q)⟩
 |.lst l,v,d,r,e=>by
  refine ia (Rep.l r) fun a o vs n ee4 hb ho hc hd hr=>?_
  subst ee4
  obtain⟨ds,he,rfl⟩:=zmp e
  obtain⟨as,q⟩:=ic hr he
  exact⟨_,.list ho hc hd (by simpa using q)⟩
 |.inst _ _ _,_,_,_,e=>by contradiction
 |.rng _ _,_,_,_,e=>by contradiction
 |.val _,_,_,_,e=>by contradiction
theorem ic{B:Addr→Prop}{h:Heap}:∀{xs:List V} {vs:List Value} {ds:List PyData},Reps B h vs xs→V.dats xs=some ds→∃as,ReadsAll h vs ds as
 |[],[],ds,_,e=>by(first|subst e|contradiction|(injection e with e;subst e)|cases e);exact⟨_,.nil⟩
 |x::xs,v::vs,ds,r,e=>by
  refine ao e fun d h1 e=>ao e fun ds' h2 e=>?_
  cases e
  obtain⟨as,q⟩:=tj r.1 h1
  obtain⟨bs,q'⟩:=ic r.2 h2
  exact⟨_,.cons q q'⟩
 |[],_::_,_,r,_=>r.elim
 |_::_,[],_,r,_=>r.elim
end
theorem c0{d:D}{v:Value}{x:PyData}(I:Inv W σ Λ s.heap st)(r:RepD σ (Bad σ Λ) s.heap v d)(e:d.dat st=some x):∃as,Reads s.heap v x as:=by
 induction d using D.casesOn with
 |v y=>exact tj r e
 |m i=>
  obtain⟨a,ha,rfl⟩:=r
  refine ao e fun l hl e=>?_
  obtain⟨ds,he,rfl⟩:=zmp e
  obtain⟨vs,⟨n,ho⟩,hr,_⟩:=I.store.2.2 i a l ha hl
  obtain⟨as,q⟩:=ic hr he
  exact⟨_,.list ho rfl rfl (by simpa using q)⟩
theorem Eu{a b:D}{va vb:Value}{c:Bool}(ra:RepD σ (Bad σ Λ) s.heap va a)(rb:RepD σ (Bad σ Λ) s.heap vb b)(e:eqL a b=some c):c=false∧∃x y vs us,va=.ref x∧vb=.ref y∧s.heap.IsList x vs∧s.heap.IsList y us∧(vs.size !=us.size)=true:=by
 refine ao e fun l h1 e=>ao e fun q h2 e=>gf e fun hc e=>?_
 injection e with e
 rw[k6 h1]at ra
 rw[k6 h2]at rb
 refine ia (Rep.l ra) fun x ob vs n ea o_ ho hc1 hd hr=>?_
 refine ia (Rep.l rb) fun y ob' us m eb o_ ho' hc2 hd' hr'=>?_
 refine⟨e.symm,x,y,vs.toArray,us.toArray,ea,eb,⟨ob,ho,hc1,n,hd⟩,⟨ob',ho',hc2,m,hd'⟩,?_⟩
 rw[List.size_toArray,List.size_toArray,hr.length,hr'.length]
 cases l<;>cases q<;>first|rfl|contradiction
theorem Ev{a b:D}{c:Bool}(e:eqD a b st=some c):(∃x y,a.dat st=some x∧b.dat st=some y∧SeqAt.shaped x=true∧SeqAt.shaped y=true∧PyData.eqv x y=c)∨eqL a b=some c:=by
 rcases Option.or_eq_some_iff.mp e with e|e
 ·refine ao e fun x hx e=>ao e fun y hy e=>gf e fun hs e=>?_
  obtain⟨h1,h2⟩:=zan hs
  injection e with e
  exact .inl ⟨x,y,hx,hy,h1,h2,e⟩
 ·exact .inr e.2
theorem C1{a b:D}{va vb:Value}{c:Bool}{Q:Value→Shared→Prop}(hA:AOk A)(I:Inv W σ Λ s.heap st)(ra:RepD σ (Bad σ Λ) s.heap va a)(rb:RepD σ (Bad σ Λ) s.heap vb b)
 (e:eqD a b st=some c) (q:Q (.bool c) s):wpAny (model W.prog W.w) A (compareOp .Eq va vb) Q E s:=by
 rcases Ev e with⟨x,y,hx,hy,h1,h2,rfl⟩|e
 ·obtain⟨as,r1⟩:=c0 I ra hx
  obtain⟨bs,r2⟩:=c0 I rb hy
  exact SeqAt.compareEq_shaped r1 r2 h1 h2 hA.units q
 ·obtain⟨rfl,x,y,vs,us,rfl,rfl,h1,h2,h3⟩:=Eu ra rb e
  exact SeqAt.eq_list_lengthsAt h1 h2 h3 (Nat.lt_of_le_of_lt (Nat.le_add_right _ 64) hA.units) q
theorem C2{a b:D}{va vb:Value}{c:Bool}{Q:Value→Shared→Prop}(hA:AOk A)(I:Inv W σ Λ s.heap st)(ra:RepD σ (Bad σ Λ) s.heap va a)(rb:RepD σ (Bad σ Λ) s.heap vb b)
 (e:eqD a b st=some c) (q:Q (.bool (!c)) s):wpAny (model W.prog W.w) A (compareOp .NotEq va vb) Q E s:=by
 rcases Ev e with⟨x,y,hx,hy,h1,h2,rfl⟩|e
 ·obtain⟨as,r1⟩:=c0 I ra hx
  obtain⟨bs,r2⟩:=c0 I rb hy
  exact SeqAt.compareNe_shaped r1 r2 h1 h2 hA.units q
 ·obtain⟨rfl,x,y,vs,us,rfl,rfl,h1,h2,h3⟩:=Eu ra rb e
  exact SeqAt.RcNeAt.lists_lengths h1 h2 h3 (Nat.lt_of_le_of_lt (Nat.le_add_right _ 64) hA.units) W.prog W.w E Q q
theorem I5{d:PyData}{xs:List PyData}(h:Qx d=some xs):d=.tuple xs:=by
 cases d with
 |tuple ys=>cases h;rfl
 |_=>cases h
theorem Ew{a b:D}{c:Bool}(e:inD a b st=some c):∃x xs,a.dat st=some x∧b.dat st=some (.tuple xs)∧SeqAt.shaped x=true∧SeqAt.shaped (.tuple xs)=true∧x.depth≤32∧c=xs.any fun y=>PyData.eqv y x:=by
 refine ao e fun x hx e=>ao e fun xs hy e=>gf e fun hs e=>ao hy fun d hy hd=>?_
 obtain⟨h1,hs⟩:=zan hs
 obtain⟨h2,h3⟩:=zan hs
 injection e with e
 exact⟨x,xs,hx,hy.trans (congrArg some (I5 hd)),h1,h2,of_decide_eq_true h3,e.symm⟩
theorem Ex{xs:List PyData}(h:SeqAt.shaped (.tuple xs)=true):PyData.canLayAll0 xs=true:=by
 have:=SeqAt.canLay_of_shaped h
 simpa only[PyData.canLay0]using this
theorem Ey{a b:D}{va vb:Value}{c:Bool}{Q:Value→Shared→Prop}(hA:AOk A)(I:Inv W σ Λ s.heap st)(ra:RepD σ (Bad σ Λ) s.heap va a)(rb:RepD σ (Bad σ Λ) s.heap vb b)
 (e:inD a b st=some c) (q:Q (.bool c) s):wpAny (model W.prog W.w) A (compareOp .In va vb) Q E s:=by
 obtain⟨x,xs,hx,hy,h1,h2,h3,rfl⟩:=Ew e
 obtain⟨as,r1⟩:=c0 I ra hx
 obtain⟨bs,r2⟩:=c0 I rb hy
 have:=hA.units
 exact SeqAt.in_tuple_reads r2 r1 (Ex h2) (SeqAt.canLay_of_shaped h1) (by lia) q
theorem C3{a b:D}{va vb:Value}{c:Bool}{Q:Value→Shared→Prop}(hA:AOk A)(I:Inv W σ Λ s.heap st)(ra:RepD σ (Bad σ Λ) s.heap va a)(rb:RepD σ (Bad σ Λ) s.heap vb b)
 (e:inD a b st=some c) (q:Q (.bool (!c)) s):wpAny (model W.prog W.w) A (compareOp .NotIn va vb) Q E s:=by
 obtain⟨x,xs,hx,hy,h1,h2,h3,rfl⟩:=Ew e
 obtain⟨as,r1⟩:=c0 I ra hx
 obtain⟨bs,r2⟩:=c0 I rb hy
 have:=hA.units
 exact SeqAt.notIn_tuple_reads r2 r1 (Ex h2) (SeqAt.canLay_of_shaped h1) (by lia) q
theorem qp{op:CmpOp}{a b:D}{va vb:Value}{c:Bool}{Q:Value→Shared→Prop}(hA:AOk A)(I:Inv W σ Λ s.heap st)(ra:RepD σ (Bad σ Λ) s.heap va a)(rb:RepD σ (Bad σ Λ) s.heap vb b)
 (e:d7 op a b st=some c) (q:Q (.bool c) s):wpAny (model W.prog W.w) A (compareOp op va vb) Q E s:=by
 cases op with
 |Eq=>exact C1 hA I ra rb e q
 |NotEq=>
  obtain⟨z,hz,rfl⟩:=zmp e
  exact C2 hA I ra rb hz q
 |In=>exact Ey hA I ra rb e q
 |NotIn=>
  obtain⟨z,hz,rfl⟩:=zmp e
  exact C3 hA I ra rb hz q
 |_=>cases e
theorem za{op:CmpOp}{a b:Int}{t u:Tok}{c:Bool}{Q:Value→Shared→Prop}(e:Nc op a b=some c)(q:Q (.bool c) s):wpAny (model W.prog W.w) A (compareOp op (.int a t) (.int b u)) Q E s:=by
 cases op with
 |Lt=>cases e;exact lt_int q
 |LtE=>cases e;exact le_int q
 |Gt=>cases e;exact gt_int q
 |GtE=>cases e;exact ge_int q
 |Eq=>cases e;exact eq_int q
 |NotEq=>cases e;exact ne_int q
 |_=>cases e
theorem j6{op:CmpOp}{a b:D}{va vb:Value}{c:Bool}{Q:Value→Shared→Prop}(hA:AOk A)(I:Inv W σ Λ s.heap st)(ra:RepD σ (Bad σ Λ) s.heap va a)(rb:RepD σ (Bad σ Λ) s.heap vb b)
 (e:cmp op a b st=some c) (q:Q (.bool c) s):wpAny (model W.prog W.w) A (compareOp op va vb) Q E s:=by
 unfold cmp at e
 generalize hx:bw a=zz at e
 induction zz using Option.casesOn with
 |none=>exact qp hA I ra rb e q
 |some x=>
  generalize hy:bw b=zz at e
  induction zz using Option.casesOn with
  |none=>exact qp hA I ra rb e q
  |some y=>
   rw[ej hx]at ra
   rw[ej hy]at rb
   obtain⟨t,rfl⟩:=ra
   obtain⟨u,rfl⟩:=rb
   exact za e q
theorem uy{slice:PySem.Expr}{o i:Value}:∃ops,subscripted slice false o i=operate ops (getItem o i):=by
 cases slice with
 |Slice a b c p=>cases c<;>exact⟨_,rfl⟩
 |_=>exact⟨_,rfl⟩
theorem s0{k:Int}{n j:Nat}(h:seqIndex? k n=some j):(0≤k∧j=k.toNat)∨(k<0∧ -(n:Int)≤k∧j=(k+n).toNat):=by
 refine gf h fun hc h=>?_
 obtain⟨h1,h2⟩:=zan hc
 have h1:=of_decide_eq_true h1
 injection h with h
 by_cases hk:k<0
 ·rw[if_pos hk]at h h1
  exact .inr ⟨hk,by lia,h.symm⟩
 ·rw[if_neg hk]at h
  exact .inl ⟨Int.not_lt.mp hk,h.symm⟩
theorem tm{value slice:PySem.Expr}{a:Addr}{vs:List Value}{l:List V}{x:V}{B:Addr→Prop}{k:Int}{u:Tok}{Q:Value→Shared→Prop}(hl:s.heap.IsList a vs.toArray)(hr:Reps B s.heap vs l)
 (e:f5 l k=some x) (q:∀v,Rep B s.heap v x→Q v s):wpAny (model W.prog W.w) A (subscriptTail value slice (.ref a) (.int k u)) Q E s:=by
 obtain⟨ops,ho⟩:=uy (slice:=slice) (o:=.ref a) (i:=.int k u)
 refine Qw e fun hk e=>ao e fun j hj e=>?_
 obtain⟨v,hv,rv⟩:=hr.get e
 refine tail_any hl.typeIs slot_list_getitem.lookup ?_ ho
 rw[←hr.length]at hj
 rcases s0 hj with⟨h0,rfl⟩|⟨h0,hlo,rfl⟩
 ·exact wpAny_getItem_list hl h0 hk.2 (by simpa using hv) (q v rv)
 ·exact wpAny_getItem_list_neg hl h0 (by simpa using hlo) hk.1 (by simpa using hv) (q v rv)
theorem Ez{value slice:PySem.Expr}{a:Addr}{vs:List Value}{l:List V}{x:V}{n:Nat}{B:Addr→Prop}{k:Int}{u:Tok}{Q:Value→Shared→Prop}(ht:s.heap.get? a=some ({ cls:=.type "tuple",data:=.seq (vs.toArray) n }:Obj))(hr:Reps B s.heap vs l)
 (e:f5 l k=some x) (q:∀v,Rep B s.heap v x→Q v s):wpAny (model W.prog W.w) A (subscriptTail value slice (.ref a) (.int k u)) Q E s:=by
 obtain⟨ops,ho⟩:=uy (slice:=slice) (o:=.ref a) (i:=.int k u)
 refine Qw e fun hk e=>ao e fun j hj e=>?_
 obtain⟨v,hv,rv⟩:=hr.get e
 rw[←hr.length]at hj
 have hT:IsTup s.heap a vs.toArray:=⟨_,ht,rfl,n,rfl⟩
 refine tail_any (T:="tuple") ⟨_,ht,rfl⟩ slot_tuple_getitem.lookup ?_ ho
 exact getItem_tuple hT hk.1 hk.2 (by simpa using hj) (by simpa using hv) (q v rv)
end
theorem qq{e:PySem.Expr}{rest:List PySem.Expr}{env:Env}(h:dj e=false):starEach (e::rest) env=(false,eval e env)::starEach rest env:=by
 cases e<;>first|rfl|contradiction
theorem qr:∀{es:List PySem.Expr} {env:Env} {pos:Pos},noStar es=true→(backTo pos (starEach es env)).any (·.1)=false
 |[],_,_,_=>rfl
 |e::r,env,pos,h=>by
  unfold noStar at h
  rw[List.all_cons]at h
  obtain⟨h1,h2⟩:=zan h
  rw[qq (by simpa using h1)]
  show(false||(backTo pos (starEach r env)).any (·.1))=false
  rw[qr h2];rfl
theorem E0{es:List PySem.Expr}{env:Env}{pos:Pos}(h:noStar es=true):(backTo pos (starEach es env)).all (fun x=> !x.1)=true:=by
 have:=qr (env:=env) (pos:=pos) h
 rw[List.all_eq_true]
 intro x hx
 rw[List.any_eq_false]at this
 simpa using this x hx
section
variable {W:Wd} {A:Around} {Λ σ:List Addr} {E:Value→Shared→Prop} {s:Shared} {st:Sto} {I:In} {sc:Scope} {env:Env} {ρ:En}
theorem j7(hE:EnvOk W.tabs Λ sc env)(hI:IE W A I){pos:Pos}:∀(es:List PySem.Expr) {σ:List Addr} {s:Shared} {st:Sto} {Q:List Value→Shared→Prop},noStar es=true→Inv W σ Λ s.heap st→Vars Λ sc env ρ σ s.heap→
 Po W Λ NoX (L9 Λ) E σ s (evs (I.ex sc ρ) es st) Q→wpAny (model W.prog W.w) A (spliced (backTo pos (starEach es env))) Q E s
 |[],σ,s,st,Q,_,iv,V,H=>wpAny_pure (H.now iv trivial)
 |e::r,σ,s,st,Q,h,iv,V,H=>by
  unfold noStar at h
  rw[List.all_cons]at h
  obtain⟨h1,h2⟩:=zan h
  rw[qq (by simpa using h1)]
  refine spliced_cons ?_
  rw[p8]at H
  refine hI Λ sc env ρ e hE E σ s st _ iv V (Po.seq0 H fun d st₁ σ₁ h₁ tk₁ v f₁ k₁ i₁ r₁ H₁=>?_)
  have V₁:=V.step (iv.sigma hE.loc) f₁ k₁
  refine j7 hE hI r h2 i₁ V₁ (Po.seq0 H₁ fun ds st₂ σ₂ h₂ tk₂ vs f₂ k₂ i₂ r₂ H₂=>?_)
  exact Po.now (b:=v::vs) H₂ i₂ ⟨RepD.step r₁ f₂ (k₂.weak fun a q=>q.elim .inl fun q=>q.elim),r₂⟩
theorem nj{B:Addr→Prop}{h:Heap}:∀{ds:List D} {vs:List Value} {l:List V},RepDs σ B h vs ds→cj ds=some l→Reps B h vs l
 |[],[],_,_,e=>by(first|subst e|contradiction|(injection e with e;subst e)|cases e);trivial
 |.v x::r,v::vs,l,q,e=>by
  obtain⟨l',e',rfl⟩:=zmp e
  exact⟨q.1,nj q.2 e'⟩
 |.m _::_,_::_,_,_,e=>by contradiction
 |_::_,[],_,q,_=>q.elim
 |[],_::_,_,q,_=>q.elim
theorem k8{f:PySem.Expr→Sto→Out D}:∀{es:List PySem.Expr} {st st':Sto} {ds:List D},evs f es st=.ok ds st'→ds.length=es.length
 |[],_,_,_,e=>by(first|subst e|contradiction|(injection e with e;subst e)|cases e);rfl
 |x::es,st,st',ds,e=>by
  rw[p8]at e
  generalize h:f x st=zz at e
  induction zz using Out.casesOn with
  |ok d st₁=>
   unfold Out.bind at e
   dsimp only at e
   generalize h':evs f es st₁=zz at e
   induction zz using Out.casesOn with
   |ok ds' st₂=>
    (first|subst e|contradiction|(injection e with e;subst e)|cases e)
    exact congrArg (· +1) (k8 h')
   |exc x st=>contradiction
   |stuck=>contradiction
  |exc x st=>contradiction
  |stuck=>contradiction
theorem RepDs.length{B:Addr→Prop}{h:Heap}:∀{vs:List Value} {ds:List D},RepDs σ B h vs ds→vs.length=ds.length
 |[],[],_=>rfl
 |_::_,_::_,r=>congrArg (· +1) (RepDs.length r.2)
 |[],_::_,r=>r.elim
 |_::_,[],r=>r.elim
theorem Inv.tup{σ Λ:List Addr}{h:Heap}{st:Sto}{vs:List Value}{l:List V}(I:Inv W σ Λ h st)(r:Reps (Bad σ Λ) h vs l):Rep (Bad σ Λ) (h.push { cls:=.type "tuple",data:=.seq vs.toArray }) (.ref h.objs.size) (.tup l):=
 ⟨_,_,0,rfl,I.newAddr,Heap.get?_push_size _ rfl,r.step Fresh.refl (Kp.push _)⟩
theorem Inv.lst{σ Λ:List Addr}{h:Heap}{st:Sto}{vs:List Value}{l:List V}(I:Inv W σ Λ h st)(r:Reps (Bad σ Λ) h vs l):Rep (Bad σ Λ) (h.push { cls:=.type "list",data:=.seq vs.toArray }) (.ref h.objs.size) (.lst l):=
 ⟨_,_,_,0,rfl,I.newAddr,Heap.get?_push_size _ rfl,rfl,rfl,r.step Fresh.refl (Kp.push _)⟩
theorem Inv.newM{σ Λ:List Addr}{h:Heap}{st:Sto}{vs:List Value}{l:List V}{n:Nat}(I:Inv W σ Λ h st)(r:Reps (Bad σ Λ) h vs l)(hlen:l.length≤2^20+1):
 Inv W (σ++[h.objs.size]) Λ (h.push { cls:=.type "list",data:=.seq vs.toArray n }) (st++[l])∧Fresh σ (σ++[h.objs.size]) h:=by
 have f:Fresh σ (σ++[h.objs.size]) h:=⟨_,rfl,fun a ha=>by rw[List.mem_singleton.mp ha];exact an⟩
 have kp:Kp (Bad σ Λ) h (h.push { cls:=.type "list",data:=.seq vs.toArray n }):=Kp.push _
 refine⟨⟨fun b x e=>Heap.get?_push_of_some _ (I.keep b x e),fun a b=>?_,⟨?_,?_,fun i a m e1 e2=>?_⟩,fun a ha=>?_,fun a q=>⟨(I.dic a q).1,Et (I.dic a q).2 fun b o e=>Heap.get?_push_of_some _ e⟩,fun q hq=>(I.tab q hq).move (fun b o e nb=>⟨.inl (Heap.get?_push_of_some _ e),fun z=>nb (z.elim (fun z=>.inl (f.low e z)) .inr)⟩) fun b o e o_ o_=>Heap.get?_push_of_some _ e⟩,f⟩
 ·have old:Bad σ Λ a→W.base.objs.size≤a∧∃o,(h.push { cls:=.type "list",data:=.seq vs.toArray n }).get? a=some o:=fun b=>by
   obtain⟨z,o,e⟩:=I.new a b
   exact⟨z,o,Heap.get?_push_of_some _ e⟩
  rcases b with b|b
  ·rcases List.mem_append.mp b with b|b
   ·exact old (.inl b)
   ·rw[List.mem_singleton.mp b];exact⟨I.size,_,Heap.get?_push_size _ rfl⟩
  ·exact old (.inr b)
 ·rw[List.length_append,List.length_append,I.store.1];rfl
 ·rw[List.nodup_append]
  refine⟨I.store.2.1,by simp,fun a ha b hb=>?_⟩
  rw[List.mem_singleton.mp hb]
  intro q
  subst q
  exact I.newAddr (.inl ha)
 ·by_cases hi:i<σ.length
  ·rw[List.getElem?_append_left hi]at e1
   rw[List.getElem?_append_left (by rw[←I.store.1];exact hi)]at e2
   refine bq (I.store.2.2 i a m e1 e2) fun ws q r' z=>?_
   exact⟨ws,q.at fun o' e=>Heap.get?_push_of_some _ e,r'.step f kp,z⟩
  ·have hl:=(List.getElem?_eq_some_iff.mp e1).1
   rw[List.length_append]at hl
   have:i=σ.length:=by simp at hl;exact Nat.eq_of_lt_succ_of_not_lt hl hi
   subst this
   have e1':a=h.objs.size:=by simpa using e1.symm
   rw[I.store.1]at e2
   have e2':m=l:=by simpa using e2.symm
   subst e1' e2'
   exact⟨vs,⟨n,Heap.get?_push_size _ rfl⟩,r.step f kp,hlen⟩
 ·rcases List.mem_append.mp ha with b|b
  ·exact I.apart a b
  ·rw[List.mem_singleton.mp b]
   intro q
   exact I.newAddr (.inr q)
theorem Inv.setM{σ Λ:List Addr}{h h':Heap}{st:Sto}{vs:List Value}{l:List V}{n i:Nat}{a:Addr}(I:Inv W σ Λ h st)(hi:σ[i]? =some a)(hs:Heap.SameBut a h h')
 (ho:h'.get? a=some { cls:=.type "list",data:=.seq vs.toArray n }) (r:Reps (Bad σ Λ) h vs l) (hlen:l.length≤2^20+1):Inv W σ Λ h' (st.set i l)∧Kp (InL σ) h h':=by
 have ha:a∈σ:=List.mem_of_getElem? hi
 have kp:Kp (InL σ) h h':=Kp.same hs ha ho
 have kb:Kp (Bad σ Λ) h h':=kp.weak fun o_ q=>.inl q
 have hne:∀b o,W.base.get? b=some o→b≠a:=fun b o e q=>by
  have:=(I.new a (.inl ha)).1
  rw[←q]at this
  exact absurd (Heap.lt_size e) (Nat.not_lt.mpr this)
 refine⟨⟨fun b o e=>(hs.2 b (hne b o e)).trans (I.keep b o e),fun b q=>⟨(I.new b q).1,by
  obtain⟨o,e⟩:=(I.new b q).2
  exact(kp b o e).2⟩,⟨by rw[List.length_set];exact I.store.1,I.store.2.1,fun j b m e1 e2=>?_⟩,I.apart,fun b q=>⟨(I.dic b q).1,n8 (I.dic b q).2 fun o e=>.inl ((hs.2 b fun z=>I.apart a ha (z▸(I.dic b q).1)).trans e)⟩,fun q hq=>(I.tab q hq).move (fun b o e nb=>⟨kb.at e nb,nb⟩) fun b o e nb o_=>(hs.2 b fun z=>nb (.inl (z▸ha))).trans e⟩,kp⟩
 by_cases hj:j=i
 ·subst hj
  rw[hi]at e1;(first|subst e1|contradiction|(injection e1 with e1;subst e1)|cases e1)
  rw[List.getElem?_set_self (by have:=(List.getElem?_eq_some_iff.mp e2).1;simpa using this)]at e2
  (first|subst e2|contradiction|(injection e2 with e2;subst e2)|cases e2)
  exact⟨vs,⟨n,ho⟩,r.step Fresh.refl kb,hlen⟩
 ·rw[List.getElem?_set_ne (Ne.symm hj)]at e2
  refine bq (I.store.2.2 j b m e1 e2) fun ws q r' z=>?_
  have hb:b≠a:=fun e=>by
   subst e
   exact hj ((List.getElem?_inj (List.getElem?_eq_some_iff.mp e1).1 I.store.2.1).mp (e1.trans hi.symm))
  exact⟨ws,q.at fun o' e=>(hs.2 b hb).trans e,r'.step Fresh.refl kb,z⟩
end
theorem s4{f:PySem.Expr}{x:PySem.Expr}{args:List PySem.Expr}{kws:List Keyword}{p:Pos}{a:Str}{env:Env}{t:Sem Value}:attributeBase (.Call f (x::args) kws p) a env t=t:=by
 cases f<;>rfl
theorem ie{o:PySem.Expr}{a:Str}{env:Env}{t:Sem Value}(h:gw o=false):attributeBase o a env t=t:=by
 induction o using PySem.Expr.casesOn with
 |Call f args kws p=>
  induction args using List.casesOn with
  |nil=>contradiction
  |cons _ _=>exact s4
 |_=>rfl
theorem ig:∀{es:List DictEntry} {ns:List Str} (name:Str),gj es ns→getL name es=some ((ns.zip (es.map (·.val))).lookup name)
 |[],[],_,_=>rfl
 |e::es,n::ns,name,k=>by
  obtain⟨⟨t,he⟩,k'⟩:=k
  have ih:=ig name k'
  obtain⟨hh,kk,vv⟩:=e
  simp only at he
  subst he
  have e1:(⟨hh,.str n t,vv⟩:DictEntry).key.isStr name=(n==name):=rfl
  have e2:(⟨hh,.str n t,vv⟩:DictEntry).refKey=false:=rfl
  unfold getL at ih ⊢
  rw[List.map_cons,List.zip_cons_cons,List.lookup_cons,List.find?_cons,e1,List.any_cons,e2,Bool.false_or]
  cases hb:n==name with
  |true=>
   have:(name==n)=true:=by rw[beq_iff_eq]at hb ⊢;exact hb.symm
   rw[this]
  |false=>
   have:(name==n)=false:=by rw[beq_eq_false_iff_ne]at hb ⊢;exact fun q=>hb q.symm
   rw[this]
   exact ih
 |[],_::_,_,k=>k.elim
 |_::_,[],_,k=>k.elim
theorem to{B:Addr→Prop}{h:Heap}:∀{es:List DictEntry} {ns:List Str} {l:List V} {name:Str} {x:V},gj es ns→Reps B h (es.map (·.val)) l→(ns.zip l).lookup name=some x→∃v,getL name es=some (some v)∧Rep B h v x
 |[],[],l,name,x,_,r,e=>by cases l<;>contradiction
 |e::es,n::ns,[],name,x,_,r,_=>r.elim
 |e::es,n::ns,y::l,name,x,k,r,q=>by
  rw[ig name k]
  rw[List.map_cons,List.zip_cons_cons,List.lookup_cons]
  rw[List.zip_cons_cons,List.lookup_cons]at q
  obtain⟨_,k'⟩:=k
  cases hb:name==n with
  |true=>
   rw[hb]at q
   (first|subst q|contradiction|(injection q with q;subst q)|cases q)
   exact⟨_,rfl,r.1⟩
  |false=>
   rw[hb]at q
   obtain⟨v,a,b⟩:=to k' r.2 q
   rw[ig name k']at a
   exact⟨v,a,b⟩
 |[],_::_,_,_,_,k,_,_=>k.elim
 |_::_,[],_,_,_,k,_,_=>k.elim
theorem uz{h:Heap}{x c dx:Addr}{es:List DictEntry}{n:Nat}(I:IsI h x c dx)(D:At h dx (dictOf es n)):∃ox sl,InstAt h x ox c (some { dictOf es n with slots:=sl }):=by
 refine Ep I fun ox p1 p2 p3 p4 p5=>?_
 obtain⟨sl,e⟩:=D.ex (ly fun o_ q=>nomatch q)
 exact⟨ox,sl,p1,p2,p4,by rw[p3];exact e⟩
theorem qt:∀{es:List DictEntry} {ns:List Str} {name:Str},gj es ns→ns.contains name=false→getL name es=some none
 |es,ns,name,k,h=>by
  rw[ig name k]
  congr 1
  rw[List.lookup_eq_none_iff]
  intro p hp
  have:=(List.of_mem_zip (a:=p.1) (b:=p.2) hp).1
  rw[Bool.eq_false_iff]at h
  by_cases q:(name==p.1)=true
  ·exact absurd (List.contains_iff_mem.mpr ((eq_of_beq q)▸this)) h
  ·simpa using q
theorem zb{B:Addr→Prop}{h:Heap}{v:Value}{x:V}(r:Rep B h v x)(hx:jd x=false):handedIn v=true:=by
 induction x using Mine.V.casesOn with
 |none=>have r:v=.none:=r;subst r;rfl
 |bool b=>have r:v=.bool b:=r;subst r;rfl
 |int i=>obtain⟨t,rfl⟩:=r;rfl
 |str i=>obtain⟨t,rfl⟩:=r;rfl
 |tup l=>obtain⟨a,vs,n,rfl,_⟩:=Rep.t r;rfl
 |lst l=>obtain⟨a,o,vs,n,rfl,_⟩:=Rep.l r;rfl
 |inst c ns l=>obtain⟨a,o,vs,n,rfl,_⟩:=Rep.i r;rfl
 |rng a b=>obtain⟨a,o,vs,n,rfl,_⟩:=r;rfl
 |val v=>contradiction
section
variable {W:Wd} {A:Around} {Λ σ:List Addr} {E:Value→Shared→Prop} {s:Shared} {st:Sto} {sc:Scope} {env:Env} {ρ:En}
theorem qu{h:Heap}(iv:Inv W σ Λ h st)(hE:EnvOk W.tabs Λ sc env)(V:Vars Λ sc env ρ σ h):∃m,Fr W.base env.locals h m:=by
 obtain⟨m,hn,_⟩:=V
 exact⟨m,⟨hn,iv.keep,(iv.new _ (.inr hE.loc)).1⟩⟩
theorem Nx{B:Addr→Prop}{h:Heap}(v:Value):Rep B h v (gV v):=by
 cases v<;>first|exact⟨_,rfl⟩|exact rfl
set_option tactic.hygienic true in
theorem zc{C:Cx}(hC:CxOk W C)(hE:EnvOk W.tabs Λ sc env){x:Str}{pos:Pos}{Q:Value→Shared→Prop}(iv:Inv W σ Λ s.heap st)(V:Vars Λ sc env ρ σ s.heap)
 (H:Po W Λ NoX (au Λ) E σ s (if bf x then Out.stuck else if f0 sc x then ofO st (ρ.lookup x)else if sc.names.lookup x==some .globalImplicit then ofO st ((C.G x).map fun v=>D.v (gV v))else .stuck) Q):
 wpAny (model W.prog W.w) A (eval (.Name x pos) env) Q E s:=by
 have hk:env.scope.kind=.function:=by rw[hE.scope];exact hE.kind
 have hkind:∀k,sc.names.lookup x=some k→env.kindOf x=some k:=fun k e=>by unfold Env.kindOf;rw[hE.scope];exact e
 split at H
 ·exact H.elim
 ·rename_i hd
  unfold bf at hd
  rw[Bool.or_eq_true,not_or]at hd
  have hd':(x==("__debug__":Str))=false:=by simpa using hd.1
  have hcd:(x==("__classdict__":Str))=false:=by simpa using hd.2
  split at H
  ·rename_i hl
   generalize hρ:ρ.lookup x=zz at H
   induction zz using Option.casesOn with
   |none=>exact H.elim
   |some d=>
    obtain⟨m,hn,_,V⟩:=V
    unfold f0 at hl
    simp only[Bool.or_eq_true,beq_iff_eq]at hl
    rcases hl with(hl|hl)|hl
    ·obtain⟨v,hv,r⟩:=(V x d hρ).1 hl
     exact wpAny_Name (wpAny_loadName_local hk (hkind _ hl) hn hv (H.now iv r)) hd'
    ·refine ni ((V x d hρ).2 (.inl hl)) fun c o v hc ho hod o_ r=>?_
     exact wpAny_Name (wpAny_loadName_cell hk (hkind _ hl) hc ⟨o,ho,hod⟩ (H.now iv r)) hd'
    ·refine ni ((V x d hρ).2 (.inr hl)) fun c o v hc ho hod o_ r=>?_
     exact wpAny_Name (wpAny_loadName_free hk (hkind _ hl) hc ⟨o,ho,hod⟩ (H.now iv r) hcd) hd'
  ·split at H
   ·rename_i hg
    have hg:sc.names.lookup x=some .globalImplicit:=by simpa using hg
    generalize hG:C.G x=zz at H
    induction zz using Option.casesOn with
    |none=>exact H.elim
    |some v=>
     have fin:Q v s:=H.now iv (Nx v)
     have gk:=W.T.g.keeps iv.keep
     have bk:=W.T.b.keeps iv.keep
     rcases hC.G x v hG with e|⟨e,hb,hn⟩
     ·exact Name_function_global hk (hkind _ hg) (loadGlobal_global (by rw[hE.globals];exact gk) (mg_of W.X W.T.g e) fin) hd'
     ·exact Name_function_global hk (hkind _ hg) (loadGlobal_builtin (by rw[hE.globals];exact gk) (mg_none_of W.X W.T.g e) (by rw[hE.builtins];exact bk) ((W.T.builtins x hn).trans hb) fin) hd'
   ·exact H.elim
set_option tactic.hygienic true in
theorem c6{C:Cx}(hC:CxOk W C)(hE:EnvOk W.tabs Λ sc env){x:Str}{pos:Pos}{v:Value}{Q:Value→Shared→Prop}(h:dh C sc x=some v)(keep:∀b o,W.base.get? b=some o→s.heap.get? b=some o)(q:Q v s):wpAny (model W.prog W.w) A (eval (.Name x pos) env) Q E s:=by
 have hk:env.scope.kind=.function:=by rw[hE.scope];exact hE.kind
 unfold dh at h
 split at h
 ·contradiction
 ·rename_i hc
  simp only[Bool.or_eq_true,not_or,Bool.not_eq_true]at hc
  have hd:=hc.1
  unfold bf at hd
  have hd':(x==("__debug__":Str))=false:=by
   cases z:x==("__debug__":Str)with
   |false=>rfl
   |true=>rw[show(x==Str.ofString "__debug__")=true from z]at hd;contradiction
  split at h
  ·rename_i hg
   have hg:env.kindOf x=some .globalImplicit:=by unfold Env.kindOf;rw[hE.scope];simpa using hg
   have gk:=W.T.g.keeps keep
   have bk:=W.T.b.keeps keep
   rcases hC.G x v h with e|⟨e,hb,hn⟩
   ·exact Name_function_global hk hg (loadGlobal_global (by rw[hE.globals];exact gk) (mg_of W.X W.T.g e) q) hd'
   ·exact Name_function_global hk hg (loadGlobal_builtin (by rw[hE.globals];exact gk) (mg_none_of W.X W.T.g e) (by rw[hE.builtins];exact bk) ((W.T.builtins x hn).trans hb) q) hd'
  ·contradiction
theorem fe{f:PySem.Expr}{args:List PySem.Expr}{pos:Pos}(h:fh f=false):eval (.Call f args [] pos) env=(eval f env>>=fun v=>callWith pos v [] (backTo pos (starEach args env)) []):=by
 cases f<;>first|rfl|contradiction
theorem cg{I:In}(hE:EnvOk W.tabs Λ sc env)(hI:IE W A I){pos:Pos}{f:Value}{first:List Value}{args:List PySem.Expr}{Q:Value→Shared→Prop}(hns:noStar args=true)
 (hk:∀h,W.K.In h→∃k,(k=Keeper.frame∨k=Keeper.machine∨k=Keeper.boundFrame)∧Looks (model W.prog W.w) h (keeperOf f) k)
 (iv:Inv W σ Λ s.heap st) (V:Vars Λ sc env ρ σ s.heap)
 (H:Po W Λ NoX (L9 Λ) E σ s (evs (I.ex sc ρ) args st) (fun vs s₁=>W.K.In s₁.heap∧wpAny (model W.prog W.w) A (call f (first++vs)) Q E s₁)):
 wpAny (model W.prog W.w) A (callWith pos f first (backTo pos (starEach args env)) []) Q E s:=by
 refine callWith_of (P:=W.K.In) (by rw[qr hns];rfl) hk ?_
 induction args using List.casesOn with
 |nil=>exact evalArgs_nil3 (by exact H.now (b:=[]) (tk:=s.toks) iv trivial)
 |cons e r=>
  have he:dj e=false:=by
   unfold noStar at hns
   rw[List.all_cons]at hns
   simpa using(zan hns).1
  have q:=j7 (pos:=pos) hE hI (e::r) hns iv V H
  rw[qq he]at q ⊢
  exact evalArgs_plain q
end
section
variable {W:Wd} {A:Around} {Λ σ:List Addr} {E:Value→Shared→Prop} {s:Shared} {st:Sto} {sc:Scope} {env:Env} {ρ:En}
theorem qv{x:Option PySem.Expr}{k:Option Nat}{Q:Value→Shared→Prop}(e:gh x=some k)(q:∀v tk,IsPart v (k.map (Nat.cast:Nat→Int))→Q v { s with toks:=tk }):wpAny (model W.prog W.w) A (evalPart x env) Q E s:=by
 induction x using Option.casesOn with
 |none=>
  cases e
  exact wpAny_pure (q .none s.toks .none)
 |some x=>
  have v:∀x:PySem.Expr,((gh (some x)).isNone||Nat.beq x.ctorIdx 19)=true:=fun x=>by
   cases x with
   |Constant c k p=>exact Bool.or_true _
   |_=>exact T1
  have v2:∀(c:Const) k p,((gh (some (.Constant c k p))).isNone||Nat.beq c.ctorIdx (Const.int 0).ctorIdx)=true:=fun c k p=>by
   cases c with
   |int i=>exact Bool.or_true _
   |_=>exact T1
  refine Expr.Constant.elim (motive_1:=fun x=>gh (some x)=some k→wpAny (model W.prog W.w) A (evalPart (some x) env) Q E s) x (nf (v x) e) (fun c k0 p0 e=>?_) e
  refine Const.int.elim (motive:=fun c=>gh (some (.Constant c k0 p0))=some k→wpAny (model W.prog W.w) A (evalPart (some (.Constant c k0 p0)) env) Q E s) c (nf (v2 c k0 p0) e) (fun i e=>?_) e
  by_cases hi:0≤i
  ·cases (if_pos hi).symm.trans e
   refine wpAny_Constant_int (k:=k0) (pos:=p0) (q _ (s.toks+1) ?_)
   have:(Option.map (Nat.cast:Nat→Int) (some i.toNat))=some i:=by simp;exact Int.max_eq_left hi
   rw[this]
   exact .int i _
  ·exact nomatch (if_neg hi).symm.trans e
theorem wr{I:In}(hE:EnvOk W.tabs Λ sc env)(hI:IE W A I){o:PySem.Expr}{lo hi:Option PySem.Expr}{p pos:Pos}{Q:Value→Shared→Prop}(iv:Inv W σ Λ s.heap st)(V:Vars Λ sc env ρ σ s.heap)
 (H:Po W Λ NoX (au Λ) E σ s ((I.ex sc ρ o st).bind fun d st=>yv lo hi d st) Q):wpAny (model W.prog W.w) A (eval (.Subscript o (.Slice lo hi none p) pos) env) Q E s:=by
 refine Subscript_ (hI Λ sc env ρ o hE E σ s st _ iv V (Po.seq0 H fun d st₁ σ₁ h₁ tk₁ v f₁ k₁ i₁ r₁ H₁=>Po.ofS H₁ fun dm e H₁=>ao e fun l hl e=>ao e fun a ha e=>ao e fun b hb e=>gf e fun hz e=>?_))
 obtain⟨m,hm,rfl⟩:=zmp e
 rw[k6 hl]at r₁
 refine wpAny_Slice (qv ha fun vl tk₂ hl=>qv hb fun vu tk₃ hu=>wpAny_pure ?_)
 refine ia (Rep.l r₁) fun q ob vs n ee4 hB ho hc hd hr=>?_
 subst ee4
 have hl1:h₁.IsList q vs.toArray:=⟨ob,ho,hc,n,hd⟩
 have cut:∃ws,slicePick vs.toArray (a.map (Nat.cast:Nat→Int)) (b.map (Nat.cast:Nat→Int)) none=ws.toArray∧Reps (Bad σ₁ Λ) h₁ ws m:=by
  induction a using Option.casesOn with
  |none=>
   obtain⟨n,rfl,rfl⟩:=zmp (show b.map (fun n=>l.take n)=some m from hm)
   exact⟨vs.take _,by rw[Option.map_none,Option.map_some,slicePick_upto'],hr.take _⟩
  |some n=>
   refine gf hm fun hb hm=>?_
   cases hm
   rw[Option.isNone_iff_eq_none.mp hb]
   exact⟨vs.drop _,by rw[Option.map_none,Option.map_some,slicePick_from'],hr.drop _⟩
 obtain⟨ws,e,rw'⟩:=cut
 have i₂:=i₁.push { cls:=.type "slice",data:=.fields #[vl,vu,.none] }
 have r₂:=rw'.step (Λ:=Λ) (σ':=σ₁) Fresh.refl (Kp.push ({ cls:=.type "slice",data:=.fields #[vl,vu,.none] }:Obj))
 have z:=i₂.lst r₂
 obtain⟨ops,hops⟩:=uy (slice:=.Slice lo hi none p) (o:=.ref q) (i:=.ref h₁.objs.size)
 have hl2:(h₁.push { cls:=.type "slice",data:=.fields #[vl,vu,.none] }).IsList q vs.toArray:=⟨ob,Heap.get?_push_of_some _ ho,hc,n,hd⟩
 refine tail_any hl2.typeIs slot_list_getitem.lookup (wpAny_getItem_list_slice hl2 (sl:=h₁.objs.size) ?_ hl hu .none (fun q=>nomatch q) ?_ ?_) hops
 ·exact⟨_,Heap.get?_push_size _ rfl,rfl,rfl⟩
 ·dsimp only
  rw[e]
  exact H₁ σ₁ _ tk₃ _ Fresh.refl (Kp.trans (Kp.push _) (Kp.push _) fun o_ o_ q=>q) (i₂.push _) z
 ·rw[List.size_toArray,hr.length]
  exact Nat.le_trans (of_decide_eq_true hz) (by decide)
theorem ij{env:Env}:∀{ops:List CmpOp} {cs:List PySem.Expr},dk cs=true→markedEach ops cs (evalEach cs env)=evalEach cs env
 |[],cs,_=>by unfold markedEach;rfl
 |[op],[],_=>rfl
 |[op],[e],h=>by
  have h':ct e=false:=by simpa[dk]using h
  show[markedBehindIn op e (eval e env)]=[eval e env]
  have:behindInMarks op e=false:=by cases e<;>first|rfl|contradiction
  unfold markedBehindIn
  rw[this]
 |[op],e::e'::r,h=>by
  unfold dk at h
  rw[List.all_cons]at h
  show eval e env::markedEach [] (e'::r) (evalEach (e'::r) env)=_
  rw[ij (ops:=[]) (by unfold dk;exact(zan h).2)]
  rfl
 |op::op'::ops,[],_=>rfl
 |op::op'::ops,e::r,h=>by
  unfold dk at h
  rw[List.all_cons]at h
  show eval e env::markedEach (op'::ops) r (evalEach r env)=_
  rw[ij (by unfold dk;exact(zan h).2)]
  rfl
theorem wt{I:In}(hA:AOk A)(hE:EnvOk W.tabs Λ sc env)(hI:IE W A I){pos:Pos}:∀{ops:List CmpOp} {cs:List PySem.Expr} {a:D} {va:Value} {σ:List Addr} {s:Shared} {st:Sto} {Q:Value→Shared→Prop},
 ops.length=cs.length→Inv W σ Λ s.heap st→Vars Λ sc env ρ σ s.heap→RepD σ (Bad σ Λ) s.heap va a→
 Po W Λ NoX ux E σ s (chain (I.ex sc ρ) a ops cs st) (fun b s'=>Q (.bool b) s')→wpAny (model W.prog W.w) A (compareChain pos va ops (evalEach cs env)) Q E s:=by
 intro ops
 induction ops with
 |nil=>
  intro cs a va σ s st Q hl iv V ra H
  cases cs with
  |nil=>exact False.elim H
  |cons r rs=>cases hl
 |cons op ops ih=>
  intro cs a va σ s st Q hl iv V ra H
  cases cs with
  |nil=>cases hl
  |cons r rs=>
  cases ops with
  |nil=>
   cases rs with
   |cons r' rs=>cases Nat.succ.inj hl
   |nil=>
    show wpAny _ _ (holding [va] (eval r env)>>=fun rv=>standAt pos>>=fun o_=>operate [va,rv] (compareOp op va rv)) _ _ _
    rw[A6]at H
    refine wpAny_bind (wpAny_holding (hI Λ sc env ρ r hE E σ s st _ iv V (Po.seq0 H fun d st₁ σ₁ h₁ tk₁ v f₁ k₁ i₁ r₁ H₁=>?_)))
    refine wpAny_bind (wpAny_standAt (wpAny_operateT ?_))
    generalize hc:cmp op a d st₁=zz at H₁
    induction zz using Option.casesOn with
    |none=>exact H₁.elim
    |some c=>
     exact j6 hA i₁ (ra.step f₁ (k₁.weak fun a q=>q.elim .inl fun q=>q.elim)) r₁ hc (H₁.now (b:=c) i₁ rfl)
  |cons op' ops=>
   cases rs with
   |nil=>cases Nat.succ.inj hl
   |cons r' rs=>
    show wpAny _ _ (holding [va] (eval r env)>>=fun rv=>standAt pos>>=fun o_=>holding [va,rv] (compareOp op va rv)>>=fun c=>release [va,rv] [c]>>=fun o_=>holding [c,rv] (truthy c)>>=fun t=>
     if t=true then compareChain pos rv (op'::ops) (evalEach (r'::rs) env)else pure c) _ _ _
    rw[A7]at H
    refine wpAny_bind (wpAny_holding (hI Λ sc env ρ r hE E σ s st _ iv V (Po.seq0 H fun d st₁ σ₁ h₁ tk₁ v f₁ k₁ i₁ r₁ H₁=>?_)))
    refine wpAny_bind (wpAny_standAt (wpAny_bind (wpAny_holding ?_)))
    have V₁:=V.step (iv.sigma hE.loc) f₁ k₁
    generalize hc:cmp op a d st₁=zz at H₁
    induction zz using Option.casesOn with
    |none=>exact H₁.elim
    |some c=>
     refine j6 hA i₁ (ra.step f₁ (k₁.weak fun a q=>q.elim .inl fun q=>q.elim)) r₁ hc (wpAny_bind (wpAny_release (wpAny_bind (wpAny_holding (wpAny_truthy_bool ?_)))))
     induction c using Bool.casesOn with
     |true=>exact ih (Nat.succ.inj hl) i₁ V₁ r₁ H₁
     |false=>exact wpAny_pure (H₁.now (b:=false) i₁ rfl)
theorem o8{I:In}(hA:AOk A)(hE:EnvOk W.tabs Λ sc env)(hI:IE W A I){pos:Pos}:∀{ops:List CmpOp} {cs:List PySem.Expr} {a:D} {va:Value} {σ:List Addr} {s:Shared} {st:Sto} {Q:Bool→Shared→Prop},
 ops.length=cs.length→Inv W σ Λ s.heap st→Vars Λ sc env ρ σ s.heap→RepD σ (Bad σ Λ) s.heap va a→
 Po W Λ NoX ux E σ s (chain (I.ex sc ρ) a ops cs st) Q→wpAny (model W.prog W.w) A (testChain pos va ops (evalEach cs env)) Q E s:=by
 intro ops
 induction ops with
 |nil=>
  intro cs a va σ s st Q hl iv V ra H
  cases cs with
  |nil=>exact False.elim H
  |cons r rs=>cases hl
 |cons op ops ih=>
  intro cs a va σ s st Q hl iv V ra H
  cases cs with
  |nil=>cases hl
  |cons r rs=>
  cases ops with
  |nil=>
   cases rs with
   |cons r' rs=>cases Nat.succ.inj hl
   |nil=>
    show wpAny _ _ (holding [va] (eval r env)>>=fun rv=>standAt pos>>=fun o_=>operate [va,rv] (compareOp op va rv)>>=fun c=>holding [c] (truthy c)) _ _ _
    rw[A6]at H
    refine wpAny_bind (wpAny_holding (hI Λ sc env ρ r hE E σ s st _ iv V (Po.seq0 H fun d st₁ σ₁ h₁ tk₁ v f₁ k₁ i₁ r₁ H₁=>?_)))
    refine wpAny_bind (wpAny_standAt (wpAny_bind (wpAny_operateT ?_)))
    generalize hc:cmp op a d st₁=zz at H₁
    induction zz using Option.casesOn with
    |none=>exact H₁.elim
    |some c=>
     exact j6 hA i₁ (ra.step f₁ (k₁.weak fun a q=>q.elim .inl fun q=>q.elim)) r₁ hc (wpAny_holding (wpAny_truthy_bool (H₁.now (b:=c) i₁ rfl)))
  |cons op' ops=>
   cases rs with
   |nil=>cases Nat.succ.inj hl
   |cons r' rs=>
    show wpAny _ _ (holding [va] (eval r env)>>=fun rv=>standAt pos>>=fun o_=>holding [va,rv] (compareOp op va rv)>>=fun c=>release [va,rv] [c]>>=fun o_=>holding [c,rv] (truthy c)>>=fun t=>
     if t=true then testChain pos rv (op'::ops) (evalEach (r'::rs) env)else pure false) _ _ _
    rw[A7]at H
    refine wpAny_bind (wpAny_holding (hI Λ sc env ρ r hE E σ s st _ iv V (Po.seq0 H fun d st₁ σ₁ h₁ tk₁ v f₁ k₁ i₁ r₁ H₁=>?_)))
    refine wpAny_bind (wpAny_standAt (wpAny_bind (wpAny_holding ?_)))
    have V₁:=V.step (iv.sigma hE.loc) f₁ k₁
    generalize hc:cmp op a d st₁=zz at H₁
    induction zz using Option.casesOn with
    |none=>exact H₁.elim
    |some c=>
     refine j6 hA i₁ (ra.step f₁ (k₁.weak fun a q=>q.elim .inl fun q=>q.elim)) r₁ hc (wpAny_bind (wpAny_release (wpAny_bind (wpAny_holding (wpAny_truthy_bool ?_)))))
     induction c using Bool.casesOn with
     |true=>exact ih (Nat.succ.inj hl) i₁ V₁ r₁ H₁
     |false=>exact wpAny_pure (H₁.now (b:=false) i₁ rfl)
theorem k9{I:In}(hE:EnvOk W.tabs Λ sc env)(hT:IT W A I):∀{op:BoolOp} {es:List PySem.Expr} {σ:List Addr} {s:Shared} {st:Sto} {Q:Bool→Shared→Prop},
 Inv W σ Λ s.heap st→Vars Λ sc env ρ σ s.heap→Po W Λ NoX ux E σ s (allT (I.tt sc ρ) op es st) Q→wpAny (model W.prog W.w) A (allTrue op es env) Q E s
 |.And,[],σ,s,st,Q,iv,V,H=>wpAny_pure (H.now (b:=true) iv rfl)
 |.Or,[],σ,s,st,Q,iv,V,H=>wpAny_pure (H.now (b:=false) iv rfl)
 |.And,e::es,σ,s,st,Q,iv,V,H=>by
  rw[Ed]at H
  refine wpAny_allTrue_And_cons (hT Λ sc env ρ e hE E σ s st _ iv V (Po.seq0 H fun d st₁ σ₁ h₁ tk₁ v f₁ k₁ i₁ r₁ H₁=>?_))
  have r₁:v=d:=r₁
  subst r₁
  have V₁:=V.step (iv.sigma hE.loc) f₁ k₁
  induction v using Bool.casesOn with
  |true=>exact k9 hE hT i₁ V₁ H₁
  |false=>exact H₁.now (b:=false) i₁ rfl
 |.Or,e::es,σ,s,st,Q,iv,V,H=>by
  rw[Ee]at H
  refine wpAny_allTrue_Or_cons (hT Λ sc env ρ e hE E σ s st _ iv V (Po.seq0 H fun d st₁ σ₁ h₁ tk₁ v f₁ k₁ i₁ r₁ H₁=>?_))
  have r₁:v=d:=r₁
  subst r₁
  have V₁:=V.step (iv.sigma hE.loc) f₁ k₁
  induction v using Bool.casesOn with
  |true=>exact H₁.now (b:=true) i₁ rfl
  |false=>exact k9 hE hT i₁ V₁ H₁
set_option backward.match.sparseCases true in
theorem jk{I:In}(hE:EnvOk W.tabs Λ sc env)(hI:IE W A I){op:BoolOp}{pos:Pos}:∀{es:List PySem.Expr} {σ:List Addr} {s:Shared} {st:Sto} {Q:Value→Shared→Prop},
 Inv W σ Λ s.heap st→Vars Λ sc env ρ σ s.heap→Po W Λ NoX (au Λ) E σ s (boolV (I.ex sc ρ) op es st) Q→wpAny (model W.prog W.w) A (boolOp pos op (evalEach es env)) Q E s
 |[],σ,s,st,Q,iv,V,H=>False.elim H
 |[e],σ,s,st,Q,iv,V,H=>hI Λ sc env ρ e hE E σ s st _ iv V H
 |e::e'::es,σ,s,st,Q,iv,V,H=>by
  show wpAny _ _ (eval e env>>=fun v=>standAt pos>>=fun o_=>holding [v] (truthy v)>>=fun t=>match op,t with
   |.And,false|.Or,true=>pure v
   |_,_=>boolOp pos op (evalEach (e'::es) env)) _ _ _
  rw[uw]at H
  refine wpAny_bind (hI Λ sc env ρ e hE E σ s st _ iv V (Po.seq0 H fun d st₁ σ₁ h₁ tk₁ v f₁ k₁ i₁ r₁ H₁=>?_))
  refine wpAny_bind (wpAny_standAt (wpAny_bind (wpAny_holding ?_)))
  have V₁:=V.step (iv.sigma hE.loc) f₁ k₁
  generalize ht:c8 d=zz at H₁
  induction zz using Option.casesOn with
  |none=>cases op<;>exact H₁.elim
  |some t=>
   refine jj r₁ ht ?_
   cases op<;>(first|subst t|contradiction|(injection t with t;subst t)|cases t)
   ·exact wpAny_pure (H₁.now i₁ r₁)
   ·exact jk hE hI i₁ V₁ H₁
   ·exact jk hE hI i₁ V₁ H₁
   ·exact wpAny_pure (H₁.now i₁ r₁)
end
section
variable {W:Wd} {A:Around} {Λ σ:List Addr} {E:Value→Shared→Prop} {s:Shared} {st:Sto} {sc:Scope} {env:Env} {ρ:En}
theorem C5{o:PySem.Expr}{a:Str}{pos:Pos}:eval (.Attribute o a pos) env=(attributeBase o a env (eval o env)>>=fun v=>standAt pos.atName>>=fun o_=>holding [v] (getAttr v a true)>>=fun r=>letTemporaryGo o v r>>=fun o_=>pure r):=rfl
theorem tq{o:PySem.Expr}{name:Str}{ap pos:Pos}{args:List PySem.Expr}:eval (.Call (.Attribute o name ap) args [] pos) env=
 (attributeBase o name env (eval o env)>>=fun ov=>standAt ap.atName>>=fun o_=>methodCall o name ap pos env ov (args.length+0) (backTo pos (starEach args env)) []):=rfl
theorem br{s':Shared}{o:PySem.Expr}{name:Str}{ap pos:Pos}{ov f:Value}{first:List Value}{args:List PySem.Expr}{Q:Value→Shared→Prop}(hns:noStar args=true)(hlen:args.length<20)(hp:(ap.endLine==pos.line)=true)
 (hm:∀(pl:Sem Bool) (Q':Value×List Value→Shared→Prop),Q' (f,first) s'→wpAny (model W.prog W.w) A (getMethod ov name pl) Q' E s)
 (h:wpAny (model W.prog W.w) A (callWith pos f first (backTo pos (starEach args env)) []) Q E s'):
 wpAny (model W.prog W.w) A (methodCall o name ap pos env ov (args.length+0) (backTo pos (starEach args env)) []) Q E s:=by
 have few:methodCallForm (args.length+0) (backTo pos (starEach args env)) ([]:List (Option Str×Sem Value))=true:=by
  unfold methodCallForm
  rw[E0 hns]
  simp
  lia
 unfold methodCall
 rw[few]
 refine wpAny_bind (wpAny_holding ?_)
 show wpAny _ _ (getMethod ov name _) _ _ _
 refine hm _ _ ?_
 refine wpAny_bind ?_
 have:methodCallPos true o env ap pos=pure pos:=by
  unfold methodCallPos
  rw[if_pos (by rw[hp];rfl)]
 rw[this]
 exact wpAny_pure h
theorem ik{i:String}(h:Heap)(_:W.K.In h):∃k,(k=Keeper.frame∨k=Keeper.machine∨k=Keeper.boundFrame)∧Looks (model W.prog W.w) h (keeperOf (.builtin i)) k:=
 ⟨.machine,.inr (.inl rfl),Looks.of_pure rfl⟩
theorem ak{h:Heap}(iv:Inv W σ Λ h st):W.K.In h:=fun a o e=>iv.keep _ _ (W.X a o e)
theorem tr{B:Addr→Prop}{h:Heap}:∀{l:List V} {us:List Value} {x:V},Reps B h us (l++[x])→∃up w,us=up++[w]∧Reps B h up l∧Rep B h w x
 |[],[u],x,r=>⟨[],u,rfl,trivial,r.1⟩
 |[],u::_::_,x,r=>r.2.elim
 |[],[],x,r=>r.elim
 |y::l,[],x,r=>r.elim
 |y::l,u::us,x,r=>by
  refine em (tr (l:=l) r.2) fun up w ee2 r1 r2=>?_
  subst ee2
  exact⟨u::up,w,rfl,⟨r.1,r1⟩,r2⟩
theorem A9{h:Heap}{a:Addr}{p q:List Value}{y:Value}{n k:Nat}(ho:h.get? a=some { cls:=.type "list",data:=.seq (p++y::q).toArray n })(hk:k=p.length):
 ∃m,(h.update a (Obj.mapSeq fun xs=>xs.eraseIdxIfInBounds k)).get? a=some { cls:=.type "list",data:=.seq (p++q).toArray m }:=by
 subst hk
 have e:∀f:Array Value→Array Value,Obj.mapSeq f ({ cls:=.type "list",data:=.seq (p++y::q).toArray n }:Obj)=
  { cls:=.type "list",data:=.seq (f (p++y::q).toArray) (if(f (p++y::q).toArray).size==(p++y::q).toArray.size then n else n+1) }:=fun f=>rfl
 have u:=Heap.get?_update_self (Obj.mapSeq fun xs=>xs.eraseIdxIfInBounds p.length) ho (by rw[e];rfl)
 rw[e,kl_erase]at u
 exact⟨_,u⟩
theorem Po.dead{α α' β:Type}{X:Addr→Prop}{Rel:List Addr→Heap→β→α'→Prop}{r:Out α}{f:α→Sto→Out α'}{Q:β→Shared→Prop}(H:Po W Λ X Rel E σ s (r.quiet.bind f) Q)(h:∀a st,f a st=.stuck):False:=by
 induction r using Out.casesOn with
 |ok a st=>have:Po W Λ X Rel E σ s (f a st) Q:=H;rw[h]at this;exact this
 |exc x st=>exact H
 |stuck=>exact H
set_option tactic.hygienic true in
theorem wu{I:In}(hA:AOk A)(hE:EnvOk W.tabs Λ sc env)(hI:IE W A I){o:PySem.Expr}{name:Str}{ap pos:Pos}{i:Nat}{ov:Value}{args:List PySem.Expr}{Q:Value→Shared→Prop}(hns:noStar args=true)(hlen:args.length<20)(hp:(ap.endLine==pos.line)=true)
 (iv:Inv W σ Λ s.heap st) (V:Vars Λ sc env ρ σ s.heap) (r:RepD σ (Bad σ Λ) s.heap ov (.m i))
 (H:Po W Λ NoX (au Λ) E σ s ((evs (I.ex sc ρ) args st).quiet.bind fun ds st=>listM name i ds st) Q):
 wpAny (model W.prog W.w) A (methodCall o name ap pos env ov (args.length+0) (backTo pos (starEach args env)) []) Q E s:=by
 obtain⟨a,ha,rfl⟩:=r
 have hl:i<st.length:=by rw[←iv.store.1];exact(List.getElem?_eq_some_iff.mp ha).1
 obtain⟨vs,⟨n,ho⟩,hr,_⟩:=iv.store.2.2 i a st[i] ha (List.getElem?_eq_getElem hl)
 by_cases hap:(name==Str.ofString "append")=true
 ·have hap':=eq_of_beq hap
  subst hap'
  refine br hns hlen hp (f:=.builtin "list.append") (first:=[.ref a]) (fun pl Q' q=>getMethod_builtin (T:="list") ⟨_,ho,rfl⟩ PySem.F.plainAttrs_list PySem.F.slot_list_append PySem.F.type_list_append (fun b e=>by(first|subst e|contradiction|(injection e with e;subst e)|cases e);exact⟨_,ho,rfl⟩) q) ?_
  refine cg hE hI hns ik iv V (Po.quiet (fun o_ q=>q) H fun ds st₁ σ₁ h₁ tk₁ ws f₁ k₁ i₁ r₁ H₁=>⟨ak i₁,?_⟩)
  unfold listM at H₁
  split at H₁
  ·exact H₁.elim
  ·rename_i l hl₁
   rw[if_pos hap]at H₁
   split at H₁
   ·rename_i x hx
    have hx:=A0 hx
    subst hx
    split at H₁
    ·rename_i hz
     match ws,r₁ with
     |[w],r₁=>
     have ha₁:=f₁.get ha
     obtain⟨us,⟨n₁,ho₁⟩,hr₁,hln⟩:=i₁.store.2.2 i a l ha₁ hl₁
     have hz':us.toArray.size≤sizeLine:=by
      rw[List.size_toArray,hr₁.length]
      exact Nat.le_trans (of_decide_eq_true hz) (by decide)
     refine append_at (hsz:=hz') ho₁ fun h' hs ho'=>?_
     have hnew:Reps (Bad σ₁ Λ) h₁ (us++[w]) (l++[x]):=hr₁.append ⟨r₁.1,trivial⟩
     have ho'':h'.get? a=some { cls:=.type "list",data:=.seq (us++[w]).toArray (n₁+1) }:=by rw[ho'];simp
     obtain⟨i₂,k₂⟩:=i₁.setM ha₁ hs ho'' hnew (by rw[List.length_append];exact Nat.succ_le_succ (of_decide_eq_true hz))
     exact H₁ σ₁ h' _ _ Fresh.refl (k₂.weak fun o_ q=>.inl q) i₂ rfl
    ·exact H₁.elim
   ·exact H₁.elim
 ·by_cases hpp:(name==Str.ofString "pop")=true
  ·have hap':=eq_of_beq hpp
   subst hap'
   refine br hns hlen hp (f:=.builtin "list.pop") (first:=[.ref a]) (fun pl Q' q=>getMethod_builtin (T:="list") ⟨_,ho,rfl⟩ PySem.F.plainAttrs_list PySem.F.slot_list_pop PySem.F.type_list_pop (fun b e=>by(first|subst e|contradiction|(injection e with e;subst e)|cases e);exact⟨_,ho,rfl⟩) q) ?_
   refine cg hE hI hns ik iv V (Po.quiet (fun o_ q=>q) H fun ds st₁ σ₁ h₁ tk₁ ws f₁ k₁ i₁ r₁ H₁=>⟨ak i₁,?_⟩)
   unfold listM at H₁
   split at H₁
   ·exact H₁.elim
   ·rename_i l hl₁
    rw[if_neg hap,if_pos hpp]at H₁
    have ha₁:=f₁.get ha
    obtain⟨us,⟨n₁,ho₁⟩,hr₁,hln⟩:=i₁.store.2.2 i a l ha₁ hl₁
    split at H₁
    ·rename_i hds
     have hds:=List.isEmpty_iff.mp hds
     subst hds
     match ws,r₁ with
     |[],r₁=>
     split at H₁
     ·rename_i x hx
      have hlx:=List.getLast?_eq_some_iff.mp hx
      obtain⟨p,hp⟩:=hlx
      subst hp
      rw[List.dropLast_concat]at H₁
      refine em (tr hr₁) fun up w ee2 r1 r2=>?_
      subst ee2
      have hz':(up++[w]).toArray.size≤sizeLine:=by
       rw[List.size_toArray,hr₁.length]
       exact Nat.le_trans hln (by decide)
      have hk:(up++[w]).toArray.size-1=up.length:=by rw[List.size_toArray,List.length_append];rfl
      have hy:(up++[w]).toArray[(up++[w]).toArray.size-1]? =some w:=by rw[hk];simp
      refine call_meets PySem.F.slot_list_pop ⟨_,ho₁,rfl⟩ PySem.F.entry_list_pop (PySem.F.args_list_pop_1 _) (PySem.MeetsSeq.list_pop_last a _ n₁ w hy hz') ⟨ho₁,?_⟩
      obtain⟨m,ho'⟩:=A9 (q:=[]) ho₁ hk
      rw[List.append_nil]at ho'
      obtain⟨i₂,k₂⟩:=i₁.setM ha₁ (Heap.SameBut.update ..) ho' r1 (by rw[List.length_append]at hln;exact Nat.le_trans (Nat.le_add_right _ _) hln)
      exact H₁ σ₁ _ _ _ Fresh.refl (k₂.weak fun o_ q=>.inl q) i₂ (Rep.step r2 Fresh.refl (k₂.weak fun o_ q=>.inl q))
     ·exact H₁.elim
    ·by_cases hz:(Ec ds).any isZ=true
     rotate_left
     ·rw[if_neg hz]at H₁;exact H₁.elim
     rw[if_pos hz]at H₁
     generalize ho:Ec ds=z at hz
     induction z using Option.casesOn with
     |none=>cases hz
     |some x0=>
     have hx0:=A0 ho
     subst hx0
     have hz:=Nm hz
     subst hz
     match ws,r₁ with
     |[w],r₁=>
     split at H₁
     ·rename_i x r
      obtain⟨t,hw⟩:=r₁.1
      subst hw
      match us,hr₁,ho₁ with
      |u::us,hr₁,ho₁=>
      have hz':(u::us).toArray.size≤sizeLine:=by
       rw[List.size_toArray,hr₁.length]
       exact Nat.le_trans hln (by decide)
      have hy:(u::us).toArray[0]? =some u:=by simp
      have hk:seqIndex? 0 (u::us).toArray.size=some 0:=by
       unfold seqIndex?
       simp
      refine call_meets PySem.F.slot_list_pop ⟨_,ho₁,rfl⟩ PySem.F.entry_list_pop (PySem.F.args_list_pop_2 _ _) (PySem.MeetsSeq.list_pop_at a _ n₁ 0 t 0 u (by decide) hk hy hz') ⟨ho₁,?_⟩
      obtain⟨m,ho'⟩:=A9 (p:=[]) (k:=0) ho₁ rfl
      rw[List.nil_append]at ho'
      obtain⟨i₂,k₂⟩:=i₁.setM ha₁ (Heap.SameBut.update ..) ho' hr₁.2 (Nat.le_trans (Nat.le_succ _) hln)
      exact H₁ σ₁ _ _ _ Fresh.refl (k₂.weak fun o_ q=>.inl q) i₂ (Rep.step hr₁.1 Fresh.refl (k₂.weak fun o_ q=>.inl q))
     ·exact H₁.elim
  ·exact(Po.dead H fun ds st=>by
    unfold listM
    split
    ·rfl
    ·rw[if_neg hap,if_neg hpp]).elim
end
section
variable {W:Wd} {A:Around} {Λ σ:List Addr} {E:Value→Shared→Prop} {s:Shared} {st:Sto} {sc:Scope} {env:Env} {ρ:En}
theorem wv{I:In}(hE:EnvOk W.tabs Λ sc env)(hI:IE W A I){es:List PySem.Expr}{k:Nat}{pos:Pos}{Q:Value→Shared→Prop}(iv:Inv W σ Λ s.heap st)(V:Vars Λ sc env ρ σ s.heap)
 (H:Po W Λ NoX (au Λ) E σ s (if noStar es&&cf es.length then (evs (I.ex sc ρ) es st).bind fun ds st=>ofO st ((cj ds).map fun l=>D.v (.tup l))else .stuck) Q):
 wpAny (model W.prog W.w) A (eval (.Tuple es k pos) env) Q E s:=by
 refine Po.ifS H fun hc H=>?_
 obtain⟨h1,h2⟩:=zan hc
 refine wpAny_Tuple_spliced (j7 hE hI es h1 iv V ?_)
 generalize he:evs (I.ex sc ρ) es st=zz at H
 induction zz using Out.casesOn with
 |exc x st'=>exact H
 |stuck=>exact H
 |ok ds st'=>
  intro σ₁ h₁ tk₁ vs f₁ k₁ i₁ r₁
  refine⟨?_,Po.ofS H fun d e H=>?_⟩
  ·rw[RepDs.length r₁,k8 he];exact Nat.le_trans (of_decide_eq_true h2) (by decide)
  ·obtain⟨l,hv,rfl⟩:=zmp e
   exact H σ₁ _ tk₁ _ f₁ (k₁.trans (Kp.push _ (W:=fun x=>x∈σ∨NoX x)) fun o_ o_ q=>q) (i₁.push _) (i₁.tup (nj r₁ hv))
theorem zd{C:Cx}{I:In}(hE:EnvOk W.tabs Λ sc env)(hI:IE W A I){es:List PySem.Expr}{pos:Pos}{Q:Value→Shared→Prop}(iv:Inv W σ Λ s.heap st)(V:Vars Λ sc env ρ σ s.heap)
 (H:Po W Λ NoX (au Λ) E σ s (if noStar es&&cf es.length then (evs (I.ex sc ρ) es st).bind fun ds st=>match cj ds with
   |some l=>if C.mt pos then .ok (.m st.length) (st++[l])else .ok (.v (.lst l)) st
   |Option.none=>.stuck
   else .stuck) Q):
 wpAny (model W.prog W.w) A (eval (.List es pos) env) Q E s:=by
 refine Po.ifS H fun hc H=>?_
 obtain⟨h1,h2⟩:=zan hc
 refine wpAny_List_spliced (j7 hE hI es h1 iv V ?_)
 generalize he:evs (I.ex sc ρ) es st=zz at H
 induction zz using Out.casesOn with
 |exc x st'=>exact H
 |stuck=>exact H
 |ok ds st'=>
  have hl:ds.length≤2^20:=by rw[k8 he];exact of_decide_eq_true h2
  intro σ₁ h₁ tk₁ vs f₁ k₁ i₁ r₁
  refine⟨?_,?_⟩
  ·rw[RepDs.length r₁];exact Nat.le_trans hl (by decide)
  ·have H':Po W Λ NoX (au Λ) E σ s (match cj ds with
    |some l=>if C.mt pos then .ok (.m st'.length) (st'++[l])else .ok (.v (.lst l)) st'
    |Option.none=>.stuck) Q:=H
   generalize hv:cj ds=zz at H'
   induction zz using Option.casesOn with
   |none=>exact H'.elim
   |some l=>
    have rr:=nj r₁ hv
    dsimp only at H'
    generalize C.mt pos=c at H'
    induction c using Bool.casesOn with
    |true=>
     obtain⟨i₂,f₂⟩:=i₁.newM (n:=0) rr (by rw[←rr.length,RepDs.length r₁];exact Nat.le_succ_of_le hl)
     refine H' _ _ tk₁ _ (f₁.trans f₂ k₁) (k₁.trans (Kp.push _ (W:=fun x=>x∈σ∨NoX x)) fun o_ o_ q=>q) i₂ ⟨h₁.objs.size,?_,rfl⟩
     rw[←i₁.store.1];simp
    |false=>exact H' σ₁ _ tk₁ _ f₁ (k₁.trans (Kp.push _ (W:=fun x=>x∈σ∨NoX x)) fun o_ o_ q=>q) (i₁.push _) (i₁.lst rr)
theorem I6{C:Cx}{J:Js}{I:In}{Φ:D→List D→Sto→Out D}(hA:AOk A)(hI:IE W A I)(hT:IT W A I):IT W A (step C Φ J I):=by
 intro Λ sc env ρ e hE E σ s st Q iv V H
 have plain:∀e,(PySem.isTrue e env (eval e env)=do let v ←eval e env;standAt e.pos;holding [v] (truthy v))→Po W Λ NoX ux E σ s ((I.ex sc ρ e st).bind fun d st=>ofO st (c8 d)) Q→
  wpAny (model W.prog W.w) A (PySem.isTrue e env (eval e env)) Q E s:=by
  intro e he H
  refine wpAny_isTrue_value (hI Λ sc env ρ e hE E σ s st _ iv V (Po.seq0 H fun d st₁ σ₁ h₁ tk₁ v f₁ k₁ i₁ r₁ H₁=>?_)) he
  generalize ht:c8 d=zz at H₁
  induction zz using Option.casesOn with
  |none=>exact H₁.elim
  |some t=>exact jj r₁ ht (H₁.now (b:=t) i₁ rfl)
 induction e using PySem.Expr.casesOn with
 |UnaryOp op x pos=>
  induction op using PySem.UnaryOp.casesOn with
  |Not=>
   have H:Po W Λ NoX ux E σ s ((I.tt sc ρ x st).bind fun b st=>.ok (!b) st) Q:=H
   refine wpAny_isTrue_Not (hT Λ sc env ρ x hE E σ s st _ iv V (Po.seq0 H fun d st₁ σ₁ h₁ tk₁ v f₁ k₁ i₁ r₁ H₁=>?_))
   have r₁:v=d:=r₁
   subst r₁
   exact H₁.now (b:= !v) i₁ rfl
  |_=>exact plain _ rfl H
 |BoolOp op vs pos=>
  have H:Po W Λ NoX ux E σ s (allT (I.tt sc ρ) op vs st) Q:=H
  exact wpAny_isTrue_BoolOp (k9 hE hT iv V H)
 |IfExp c a b pos=>
  have H:Po W Λ NoX ux E σ s ((I.tt sc ρ c st).bind fun t st=>if t then I.tt sc ρ a st else I.tt sc ρ b st) Q:=H
  show wpAny _ _ (PySem.isTrue c env (eval c env)>>=fun t=>if t=true then PySem.isTrue a env (eval a env)else PySem.isTrue b env (eval b env)) _ _ _
  refine wpAny_bind (hT Λ sc env ρ c hE E σ s st _ iv V (Po.seq0 H fun d st₁ σ₁ h₁ tk₁ v f₁ k₁ i₁ r₁ H₁=>?_))
  have r₁:v=d:=r₁
  subst r₁
  have V₁:=V.step (iv.sigma hE.loc) f₁ k₁
  induction v using Bool.casesOn with
  |true=>exact hT Λ sc env ρ a hE E σ₁ _ st₁ _ i₁ V₁ H₁
  |false=>exact hT Λ sc env ρ b hE E σ₁ _ st₁ _ i₁ V₁ H₁
 |Compare l ops cs pos=>
  have H:Po W Λ NoX ux E σ s (if dk cs&&ops.length==cs.length then (I.ex sc ρ l st).bind fun a st=>chain (I.ex sc ρ) a ops cs st else .stuck) Q:=H
  refine Po.ifS H fun hc H=>?_
  obtain⟨h1,h2⟩:=zan hc
  show wpAny _ _ (eval l env>>=fun v=>testChain pos v ops (markedEach ops cs (evalEach cs env))) _ _ _
  rw[ij h1]
  refine wpAny_bind (hI Λ sc env ρ l hE E σ s st _ iv V (Po.seq0 H fun d st₁ σ₁ h₁ tk₁ v f₁ k₁ i₁ r₁ H₁=>?_))
  exact o8 hA hE hI (by simpa using h2) i₁ (V.step (iv.sigma hE.loc) f₁ k₁) r₁ H₁
 |_=>exact plain _ rfl H
end
noncomputable def ItSt(B:Addr→Prop)(h:Heap)(it:Addr)(l:List V):Prop:=
 (∃(a:Addr) (vs:List Value) (i:Nat),h.IsListIter it a i∧h.IsList a vs.toArray∧¬B a∧Reps B h (vs.drop i) l)∨
 (∃(a:Addr) (vs:List Value) (i:Nat),h.IsTupleIter it a i∧h.IsTuple a vs.toArray∧¬B a∧Reps B h (vs.drop i) l)∨
 ∃x left:Int,IsRangeIter h it x left 1∧0≤left∧l=gi x (x+left)
theorem ItSt.mono{B B':Addr→Prop}{h h':Heap}{it:Addr}{l:List V}(x:ItSt B h it l)(k:∀a o,h.get? a=some o→¬B a→At h' a o∧¬B' a)(hit:∀o,h.get? it=some o→At h' it o):ItSt B' h' it l:=by
 rcases x with⟨a,vs,i,⟨o,ho,h1⟩,⟨o',ho',h2,h3,h4⟩,hb,r⟩|⟨a,vs,i,⟨o,ho,h1⟩,⟨o',ho',h2,h3,h4⟩,hb,r⟩|⟨x,left,h1,h2⟩
 ·exact .inl ⟨a,vs,i,⟨o,(hit o ho).ndb (dq h1.2 h1.1 rfl),h1⟩,⟨o',(k a o' ho' hb).1.ndb (dq h4 h2 rfl),h2,h3,h4⟩,(k a o' ho' hb).2,r.mono k⟩
 ·exact .inr (.inl ⟨a,vs,i,⟨o,(hit o ho).ndb (dq h1.2 h1.1 rfl),h1⟩,⟨o',(k a o' ho' hb).1.ndb (dq h4 h2 rfl),h2,h3,h4⟩,(k a o' ho' hb).2,r.mono k⟩)
 ·exact .inr (.inr ⟨x,left,(hit _ h1).ndb rfl,h2⟩)
theorem jl{α:Type}{l r:List α}{i:Nat}{x:α}(h:l.drop i=x::r):l[i]? =some x∧l.drop (i+1)=r:=by
 have h1:(l.drop i)[0]? =some x:=by rw[h];rfl
 rw[List.getElem?_drop]at h1
 refine⟨by simpa using h1,?_⟩
 have:(l.drop i).drop 1=r:=by rw[h];rfl
 rw[List.drop_drop]at this
 exact this
theorem gm{α:Type}{l:List α}{i:Nat}(h:l.drop i=[]):l[i]? =none:=by
 have h1:(l.drop i)[0]? =none:=by rw[h];rfl
 rw[List.getElem?_drop]at h1
 simpa using h1
theorem gn{B:Addr→Prop}{h:Heap}{us:List Value}{x:V}{l:List V}(r:Reps B h us (x::l)):∃u vs,us=u::vs∧Rep B h u x∧Reps B h vs l:=by
 induction us using List.casesOn with
 |nil=>exact r.elim
 |cons u vs=>exact⟨u,vs,rfl,r.1,r.2⟩
theorem jm{B:Addr→Prop}{h:Heap}{us:List Value}(r:Reps B h us []):us=[]:=by
 induction us using List.casesOn with
 |nil=>rfl
 |cons u vs=>exact r.elim
theorem E5{x y:Int}:x+y-x=y:=by rw[Int.add_comm];exact Int.add_sub_cancel ..
theorem C6{x left:Int}{y:V}{l:List V}(h:gi x (x+left)=y::l):0<left∧y=.int x∧l=gi (x+1) (x+1+(left-1)):=by
 unfold gi at h ⊢
 rw[E5]at h ⊢
 generalize hn:left.toNat=zz
 induction zz using Nat.casesOn with
 |zero=>rw[hn]at h;contradiction
 |succ n=>
  rw[hn,List.range_succ_eq_map,List.map_cons,List.cons.injEq,List.map_map]at h
  obtain rfl:=Iy hn
  rw[Int.add_sub_cancel,Int.toNat_natCast]
  refine⟨Int.lt_add_one_of_le (Int.natCast_nonneg n),by rw[←h.1];exact congrArg V.int (Int.add_zero x),?_⟩
  rw[←h.2]
  exact List.map_congr_left fun i o_=>congrArg V.int (by show x+((i+1:Nat):Int)=_;rw[Int.natCast_add,Int.add_comm (i:Int),←Int.add_assoc];rfl)
theorem E6{x left:Int}(h:gi x (x+left)=[]):left≤0:=by
 unfold gi at h
 rw[E5,List.map_eq_nil_iff,List.range_eq_nil]at h
 exact Int.toNat_eq_zero.mp h
theorem u0{a b:Int}:Builtin.Range.rangeSize a b 1=if a<b then b-a else 0:=by
 unfold Builtin.Range.rangeSize
 rw[if_pos (by decide)]
 split
 ·rw[Int.ediv_one,Int.sub_add_cancel]
 ·rfl
theorem qw{i:Int}(h:i.natAbs≤2^21):Builtin.Range.rangeFitsLong i=true:=by
 unfold Builtin.Range.rangeFitsLong
 rw[Bool.and_eq_true]
 exact⟨decide_eq_true (by omega),decide_eq_true (by omega)⟩
theorem E7{a b:Int}(ha:a.natAbs≤2^20)(hb:b.natAbs≤2^20):Builtin.Range.small a b 1=true:=by
 have h0:∀{x:Int},x.natAbs≤2^20→x.natAbs≤2^21:=fun h=>Nat.le_trans h (by decide)
 have h2:(if a<b then b-a else 0).natAbs≤2^21:=by
  split
  ·exact Nat.le_trans (Int.natAbs_sub_le ..) (Nat.add_le_add hb ha)
  ·decide
 unfold Builtin.Range.small
 rw[u0,qw (h0 ha),qw (h0 hb),qw (i:=1) (by decide),qw h2,if_pos (show(1:Int)>0 by decide),qw (i:=b+(1-1)) (by rw[Int.sub_self,Int.add_zero];exact h0 hb)]
 simp only[Bool.or_true,Bool.and_true]
set_option tactic.hygienic true in
theorem Tu{a b:Int}:gi a b=gi a (a+if a<b then b-a else 0):=by
 unfold gi
 rw[E5]
 split
 ·rfl
 ·rename_i h
  rw[Int.toNat_of_nonpos (Int.sub_nonpos_of_le (Int.not_lt.mp h))];rfl
section
variable {W:Wd} {A:Around} {Λ σ:List Addr} {E:Value→Shared→Prop} {s:Shared} {st:Sto} {sc:Scope} {env:Env} {ρ:En}
theorem I7{it:Addr}{x:V}{l:List V}{Q:Option Value→Shared→Prop}(hl:it∈Λ)(I:ItSt (Bad σ Λ) s.heap it (x::l))
 (q:∀h' tk v,Heap.SameBut it s.heap h'→(∃o,h'.get? it=some o)→Rep (Bad σ Λ) h' v x→ItSt (Bad σ Λ) h' it l→Q (some v) { s with heap:=h',toks:=tk }):
 wpAny (model W.prog W.w) A (pyNext (.ref it)) Q E s:=by
 have hb:Bad σ Λ it:=.inr hl
 rcases I with⟨a,vs,i,h1,h2,hB,r⟩|⟨a,vs,i,h1,h2,hB,r⟩|⟨x',left,h1,h2,h3⟩
 ·refine em (gn r) fun u us he r1 r2=>?_
  obtain⟨g1,g2⟩:=jl he
  refine wpAny_pyNext_list_item h1 h2 (by simpa using g1) fun h' j hs=>?_
  have hne:a≠it:=fun e=>hB (e▸hb)
  have al:∃o,h'.get? it=some o:=by obtain⟨o,ho,_⟩:=j;exact⟨o,ho⟩
  obtain⟨o,ho⟩:=al
  have kp:Kp (Bad σ Λ) s.heap h':=Kp.same hs hb ho
  refine q h' s.toks u hs ⟨o,ho⟩ (r1.step Fresh.refl kp) (.inl ⟨a,vs,i+1,j,?_,hB,?_⟩)
  ·obtain⟨o',ho',z1,z2,z3⟩:=h2
   exact⟨o',(kp.at ho' hB).ndb (dq z3 z1 rfl),z1,z2,z3⟩
  ·rw[g2];exact r2.step Fresh.refl kp
 ·refine em (gn r) fun u us he r1 r2=>?_
  obtain⟨g1,g2⟩:=jl he
  refine wpAny_pyNext_tuple_item h1 h2 (by simpa using g1) fun h' j hs=>?_
  have al:∃o,h'.get? it=some o:=by obtain⟨o,ho,_⟩:=j;exact⟨o,ho⟩
  obtain⟨o,ho⟩:=al
  have kp:Kp (Bad σ Λ) s.heap h':=Kp.same hs hb ho
  refine q h' s.toks u hs ⟨o,ho⟩ (r1.step Fresh.refl kp) (.inr (.inl ⟨a,vs,i+1,j,?_,hB,?_⟩))
  ·obtain⟨o',ho',z1,z2,z3⟩:=h2
   exact⟨o',(kp.at ho' hB).ndb (dq z3 z1 rfl),z1,z2,z3⟩
  ·rw[g2];exact r2.step Fresh.refl kp
 ·obtain⟨g1,rfl,g3⟩:=C6 h3.symm
  refine wpAny_pyNext_range_item h1 g1 fun h' j hs=>?_
  exact q h' (s.toks+1) _ hs ⟨_,j⟩ ⟨_,rfl⟩ (.inr (.inr ⟨x'+1,left-1,j,by exact Int.sub_nonneg_of_le g1,g3⟩))
theorem Ny{it:Addr}{Q:Option Value→Shared→Prop}(hA:A.handled=none)(I:ItSt (Bad σ Λ) s.heap it [])
 (q:∀h',Heap.ExtBut it s.heap h'→Q none { s with heap:=h' }):wpAny (model W.prog W.w) A (pyNext (.ref it)) Q E s:=by
 rcases I with⟨a,vs,i,h1,h2,hB,r⟩|⟨a,vs,i,h1,h2,hB,r⟩|⟨x',left,h1,h2,h3⟩
 ·exact wpAny_pyNext_list_end hA h1 h2 (by simpa using gm (jm r)) q
 ·exact wpAny_pyNext_tuple_end hA h1 h2 (by simpa using gm (jm r)) q
 ·exact wpAny_pyNext_range_end hA h1 (E6 h3.symm) q
theorem ze{h h':Heap}{a:Addr}(n:h.get? a=none)(k:∀b o,h.get? b=some o→h'.get? b=some o):∀b o,h.get? b=some o→¬Bad σ Λ b→At h' b o∧¬Bad σ (a::Λ) b:=fun b o e nb=>⟨.inl (k b o e),fun q=>q.elim (fun q=>nb (.inl q)) fun q=>by
 rcases List.mem_cons.mp q with q|q
 ·rw[q,n]at e;contradiction
 ·exact nb (.inr q)⟩
set_option tactic.hygienic true in
theorem E8{d:D}{v:Value}{l:List V}{Q:Value→Shared→Prop}(iv:Inv W σ Λ s.heap st)(r:RepD σ (Bad σ Λ) s.heap v d)(e:pa d=some l)
 (q:∀o,Inv W σ Λ (s.heap.push o) st→(s.heap.push o).get? s.heap.objs.size=some o→ItSt (Bad σ (s.heap.objs.size::Λ)) (s.heap.push o) s.heap.objs.size l→Q (.ref s.heap.objs.size) { s with heap:=s.heap.push o }):
 wpAny (model W.prog W.w) A (pyIter v) Q E s:=by
 have mv:∀o,∀b o',s.heap.get? b=some o'→¬Bad σ Λ b→At (s.heap.push o) b o'∧¬Bad σ (s.heap.objs.size::Λ) b:=fun o=>ze an fun b o' e=>Heap.get?_push_of_some _ e
 induction d using D.casesOn with
 |m i=>cases e
 |v x=>
 cases x with
 |lst l'=>
  cases e
  have r:Rep (Bad σ Λ) s.heap v (.lst l):=r
  refine ia (Rep.l r) fun a ob vs n ee4 hb ho hc hd hr=>?_
  subst ee4
  refine wpAny_pyIter_list (items:=vs.toArray) ⟨ob,ho,hc,n,hd⟩ (q _ (iv.push _) (Heap.get?_push_size _ rfl) (.inl ⟨a,vs,0,⟨_,Heap.get?_push_size _ rfl,rfl,rfl⟩,⟨ob,Heap.get?_push_of_some _ ho,hc,n,hd⟩,(mv default a ob ho hb).2,?_⟩))
  rw[List.drop_zero]
  exact hr.mono (mv _)
 |tup l'=>
  cases e
  have r:Rep (Bad σ Λ) s.heap v (.tup l):=r
  refine eo (Rep.t r) fun a vs n ee3 hb ho hr=>?_
  subst ee3
  refine wpAny_pyIter_tuple (items:=vs.toArray) ⟨_,ho,rfl,n,rfl⟩ (q _ (iv.push _) (Heap.get?_push_size _ rfl) (.inr (.inl ⟨a,vs,0,⟨_,Heap.get?_push_size _ rfl,rfl,rfl⟩,⟨_,Heap.get?_push_of_some _ ho,rfl,n,rfl⟩,(mv default a _ ho hb).2,?_⟩)))
  rw[List.drop_zero]
  exact hr.mono (mv _)
 |rng a b=>
  by_cases hab:a.natAbs≤2^20∧b.natAbs≤2^20
  ·cases (if_pos hab).symm.trans e
   have r:Rep (Bad σ Λ) s.heap v (.rng a b):=r
   refine Er (Rep.r r) fun x t u w ee4 hb ho=>?_
   subst ee4
   refine wpAny_pyIter_range ho (E7 hab.1 hab.2) (q _ (iv.push _) (Heap.get?_push_size _ rfl) (.inr (.inr ⟨a,_,Heap.get?_push_size _ rfl,?_,?_⟩)))
   ·rw[u0];split
    ·rename_i h;exact Int.le_of_lt (Int.sub_pos_of_lt h)
    ·exact Int.le_refl _
   ·rw[u0];exact Tu
  ·cases (if_neg hab).symm.trans e
 |_=>cases e
theorem Inv.lam{h:Heap}{a:Addr}{o:Obj}(I:Inv W σ Λ h st)(n:h.get? a=none){h':Heap}(k:∀b o,h.get? b=some o→h'.get? b=some o)(ho:h'.get? a=some o)(hb:W.base.objs.size≤a):Inv W σ (a::Λ) h' st:=by
 have I':=I.grow k
 have mv:∀b o,h.get? b=some o→¬Bad σ Λ b→At h' b o∧¬Bad σ (a::Λ) b:=fun b o e nb=>⟨.inl (k b o e),fun q=>q.elim (fun q=>nb (.inl q)) fun q=>by
  rcases List.mem_cons.mp q with q|q
  ·rw[q,n]at e;contradiction
  ·exact nb (.inr q)⟩
 have mv':∀b o,h.get? b=some o→b≠a:=fun b o e q=>by rw[q,n]at e;contradiction
 refine⟨I'.keep,fun b q=>?_,⟨I.store.1,I.store.2.1,fun i b l e1 e2=>?_⟩,fun b hb' q=>?_,fun b q=>⟨.tail _ (I.dic b q).1,(I'.dic b q).2⟩,fun q hq=>(I.tab q hq).move mv fun b o e o_ o_=>k b o e⟩
 ·rcases q with q|q
  ·exact I'.new b (.inl q)
  ·rcases List.mem_cons.mp q with q|q
   ·rw[q];exact⟨hb,o,ho⟩
   ·exact I'.new b (.inr q)
 ·refine bq (I.store.2.2 i b l e1 e2) fun vs q r z=>?_
  exact⟨vs,q.at fun o' e=>k _ _ e,r.mono mv,z⟩
 ·rcases List.mem_cons.mp q with q|q
  ·obtain⟨o',e⟩:=(I.new b (.inl hb')).2
   exact mv' b o' e q
  ·exact I.apart b hb' q
theorem l7{h:Heap}{a:Addr}:∀b o,h.get? b=some o→¬Bad σ (a::Λ) b→At h b o∧¬Bad σ Λ b:=fun o_ o_ e n=>⟨.inl e,fun q=>n (q.elim .inl fun q=>.inr (.tail _ q))⟩
theorem Inv.nfr{h:Heap}{a:Addr}(I:Inv W σ Λ h st)(n:h.get? a=none):a∉W.fr:=fun q=>by
 obtain⟨_,_,o,_,_,e,_⟩:=I.dic a q
 rw[n]at e;contradiction
theorem Inv.unlam{h:Heap}{a:Addr}(I:Inv W σ (a::Λ) h st)(ha:a∉W.fr):Inv W σ Λ h st:=
 ⟨I.keep,fun b q=>I.new b (q.elim .inl fun q=>.inr (.tail _ q)),⟨I.store.1,I.store.2.1,fun i b l e1 e2=>by
  refine bq (I.store.2.2 i b l e1 e2) fun vs q r z=>?_
  exact⟨vs,q,r.mono l7,z⟩⟩,fun b hb q=>I.apart b hb (.tail _ q),fun b q=>⟨(List.mem_cons.mp (I.dic b q).1).elim (fun z=>absurd (z▸q) ha) id,(I.dic b q).2⟩,fun q hq=>(I.tab q hq).move l7 fun o_ o_ e o_ o_=>e⟩
theorem RepD.mono{σ:List Addr}{B B':Addr→Prop}{h h':Heap}(k:∀a o,h.get? a=some o→¬B a→At h' a o∧¬B' a){v:Value}{d:D}(r:RepD σ B h v d):RepD σ B' h' v d:=by
 induction d using D.casesOn with
 |v x=>exact Rep.mono k r
 |m i=>exact r
theorem Vars.mono{Λ Λ' σ:List Addr}{h h':Heap}(V:Vars Λ sc env ρ σ h)(k:∀a o,h.get? a=some o→¬Bad σ Λ a→At h' a o∧¬Bad σ Λ' a)(k':∀a o,h.get? a=some o→(a=env.locals∨∃x,env.cells.lookup x=some a)→At h' a o):Vars Λ' sc env ρ σ h':=by
 obtain⟨m,hn,_⟩:=id V
 exact V.turn Fresh.refl (ko hn fun o ho=>k' _ _ ho (.inl rfl)) (fun x c o e ho=>k' c o ho (.inr ⟨x,e⟩)) (fun v d r=>r.mono k) fun m₂ hn₂ y d e=>⟨e,by rw[k7 hn hn₂]⟩
end
noncomputable def XL(env:Env):Addr→Prop:=fun a=>a=env.locals∨∃x,env.cells.lookup x=some a
noncomputable def FlR(Λ σ:List Addr)(h:Heap):Flow→Fl→Prop
 |.next,.next=>True
 |.brk,.brk=>True
 |.cont,.cont=>True
 |.ret v,.ret d=>RepD σ (Bad σ Λ) h v d
 |_,_=>False
noncomputable def ck(Λ:List Addr)(sc:Scope)(env:Env):List Addr→Heap→Flow→Fl×En→Prop:=fun σ h f p=>FlR Λ σ h f p.1∧Vars Λ sc env p.2 σ h
noncomputable def IS(W:Wd)(A:Around)(I:In):Prop:=∀Λ sc env ρ b,EnvOk W.tabs Λ sc env→ji A W env→SX W A Λ (XL env) (ck Λ sc env) (Vars Λ sc env ρ) (I.st sc ρ b) (exec b env)
theorem d8{x:Str}{d:D}:∀{ρ:En} {y:Str},(dg x d ρ).lookup y=if y==x then some d else ρ.lookup y
 |[],y=>by
  show List.lookup y [(x,d)]=_
  rw[List.lookup_cons,List.lookup_nil]
  cases h:y==x<;>rfl
 |(z,e)::r,y=>by
  show(if x==z then (z,d)::r else (z,e)::dg x d r).lookup y=_
  by_cases hz:(x==z)=true
  ·have hz':=eq_of_beq hz
   subst hz'
   rw[if_pos hz,List.lookup_cons,List.lookup_cons]
   cases h:y==x<;>rfl
  ·rw[if_neg hz,List.lookup_cons,List.lookup_cons,d8]
   cases h:y==z with
   |true=>
    have:(y==x)=false:=by
     have h':=eq_of_beq h
     subst h'
     cases q:y==x with
     |false=>rfl
     |true=>exact absurd (by rw[beq_iff_eq]at q ⊢;exact q.symm) hz
    rw[this];rfl
   |false=>rfl
theorem du{v:PySem.Expr}{t:Option PySem.Expr}{l:Nat}{env:Env}(h:bj v=false):swapsWith v t l env=pure false:=by
 cases v<;>first|rfl|contradiction
theorem n9{ts:List PySem.Expr}{v:PySem.Expr}{env:Env}{sc:Scope}(h:env.scope=sc):swappedStores ts v env=swappedStores ts v (p9 sc):=by
 subst h;rfl
section
variable {W:Wd} {A:Around} {Λ σ:List Addr} {E:Value→Shared→Prop} {s:Shared} {st:Sto} {sc:Scope} {env:Env} {ρ:En}
theorem Inv.touch{h h':Heap}{a:Addr}{o:Obj}(I:Inv W σ Λ h st)(hs:Heap.SameBut a h h')(ha:a∈Λ)(ho:h'.get? a=some o)(hm:a∈W.fr→∃m,h'.Ns a m):Inv W σ Λ h' st:=by
 have kp:Kp (Bad σ Λ) h h':=Kp.same hs (.inr ha) ho
 have hne:∀b o,W.base.get? b=some o→b≠a:=fun b o e q=>by
  have:=(I.new a (.inr ha)).1
  rw[←q]at this
  exact absurd (Heap.lt_size e) (Nat.not_lt.mpr this)
 refine⟨fun b o e=>(hs.2 b (hne b o e)).trans (I.keep b o e),fun b q=>⟨(I.new b q).1,?_⟩,⟨I.store.1,I.store.2.1,fun i b l e1 e2=>?_⟩,I.apart,fun b q=>⟨(I.dic b q).1,?_⟩,fun q hq=>(I.tab q hq).move (fun b o e nb=>⟨kp.at e nb,nb⟩) fun b o e nb o_=>(hs.2 b fun z=>nb (.inr (z▸ha))).trans e⟩
 ·obtain⟨o,e⟩:=(I.new b q).2
  exact(kp b o e).2
 ·refine bq (I.store.2.2 i b l e1 e2) fun vs q r z=>?_
  have hb:b≠a:=fun e=>I.apart b (List.mem_of_getElem? e1) (e▸ha)
  exact⟨vs,q.at fun o' e=>(hs.2 b hb).trans e,r.step Fresh.refl kp,z⟩
 ·by_cases hb:b=a
  ·subst hb;exact hm q
  ·exact n8 (I.dic b q).2 fun o e=>.inl ((hs.2 b hb).trans e)
theorem dw{h:Heap}{a:Addr}{m:Str→Option Value}(n:h.Ns a m):∃o,h.get? a=some o:=by
 refine qi n fun o es ep ho o_=>?_
 exact⟨o,ho⟩
theorem dc{x y:Str}:∀{ρ:En} {d:D},(jh x ρ).lookup y=some d→ρ.lookup y=some d∧y≠x
 |[],_,h=>by contradiction
 |(z,e)::r,d,h=>by
  unfold jh at h
  rw[List.filter_cons]at h
  by_cases hz:(!(z==x))=true
  ·rw[if_pos hz,List.lookup_cons]at h
   rw[List.lookup_cons]
   cases q:y==z with
   |true=>
    rw[q]at h
    refine⟨h,fun w=>?_⟩
    rw[beq_iff_eq]at q
    rw[←q,w]at hz
    simp at hz
   |false=>
    rw[q]at h
    exact dc (ρ:=r) h
  ·rw[if_neg hz]at h
   obtain⟨a,b⟩:=dc (ρ:=r) h
   refine⟨?_,b⟩
   rw[List.lookup_cons]
   have hz:z=x:=by simpa using hz
   have:(y==z)=false:=by rw[hz];exact beq_eq_false_iff_ne.mpr b
   rw[this];exact a
theorem il{x y:Str}:∀{ρ:En} {d:D},ρ.lookup y=some d→y≠x→(jh x ρ).lookup y=some d
 |[],_,h,_=>h
 |(z,e)::r,d,h,n=>by
  unfold jh
  rw[List.filter_cons]
  rw[List.lookup_cons]at h
  by_cases hz:(z==x)=true
  ·have hz':=eq_of_beq hz
   rw[hz,Bool.not_true,if_neg (by decide)]
   have:(y==z)=false:=beq_eq_false_iff_ne.mpr fun q=>n (q.trans hz')
   rw[this]at h
   exact il (ρ:=r) h n
  ·have hz':(!(z==x))=true:=by simpa using hz
   rw[if_pos hz',List.lookup_cons]
   generalize hq:(y==z)=zz at h
   induction zz using Bool.casesOn with
   |true=>exact h
   |false=>exact il (ρ:=r) h n
theorem Vars.ins{h:Heap}{x:Str}{d:D}(V:Vars Λ sc env (jh x ρ) σ h)(hl:sc.names.lookup x=some .local→∃m v,h.Ns env.locals m∧m x=some v∧RepD σ (Bad σ Λ) h v d)
 (hc:sc.names.lookup x=some .cell∨sc.names.lookup x=some .free→∃c o v,env.cells.lookup x=some c∧h.get? c=some o∧o.data=.cell (some v)∧c∉σ∧RepD σ (Bad σ Λ) h v d):Vars Λ sc env (dg x d ρ) σ h:=by
 obtain⟨m,hn,Vc,V⟩:=V
 refine⟨m,hn,Vc,fun y e he=>?_⟩
 rw[d8]at he
 by_cases hy:(y==x)=true
 ·have hy':=eq_of_beq hy
  subst hy'
  rw[if_pos hy]at he
  injection he with he
  subst he
  refine⟨fun q=>?_,hc⟩
  refine em (hl q) fun m₂ v n2 e2 r=>?_
  rw[k7 hn n2]
  exact⟨v,e2,r⟩
 ·rw[if_neg hy]at he
  exact V y e (il he fun q=>hy (beq_iff_eq.mpr q))
theorem qx(hE:EnvOk W.tabs Λ sc env):(env.scope.kind==.class||(env.scope.kind==.module&&env.locals !=env.globals))=false:=by
 rw[hE.scope,hE.kind];rfl
theorem E9(iv:Inv W σ Λ s.heap st){c:Addr}{w:Option Value}(z:s.heap.IsCell c w):c∉W.fr:=fun q=>by
 obtain⟨_,m,n⟩:=iv.dic c q
 exact lz z n rfl
theorem nk{cl:List (Str×Addr)}(h:cl=[]){x:Str}{c:Addr}{P:Prop}(e:cl.lookup x=some c):P:=by rw[h]at e;contradiction
theorem Vars.cells{h:Heap}(V:Vars Λ sc env ρ σ h):A8 env σ h:=V.choose_spec.2.1
theorem Vars.stl{h h':Heap}{x:Str}{d:D}{v:Value}{m:Str→Option Value}(hE:EnvOk W.tabs Λ sc env)(hs:Heap.SameBut env.locals h h')(hn:h.Ns env.locals m)(hn':h'.Ns env.locals (fun y=>if y=x then some v else m y))(V:Vars Λ sc env ρ σ h)(hx:sc.names.lookup x=some .local)(r:RepD σ (Bad σ Λ) h v d):Vars Λ sc env (dg x d ρ) σ h':=by
 obtain⟨o,ho⟩:=dw hn'
 have kb:Kp (Bad σ Λ) h h':=Kp.same hs (.inr hE.loc) ho
 refine Vars.ins (V.turn Fresh.refl hn' (fun y c o e ho=>.inl ((hs.2 c (lz (V.cells y c e).2.choose_spec hn)).trans ho)) (fun v d r=>r.step Fresh.refl kb) fun m₂ hn₂ y d' e=>?_) (fun o_=>⟨_,v,hn',if_pos rfl,r.step Fresh.refl kb⟩) fun z=>?_
 ·obtain⟨e1,e2⟩:=dc e
  exact⟨e1,by rw[k7 hn₂ hn];exact if_neg e2⟩
 ·rw[hx]at z
  rcases z with z|z<;>contradiction
noncomputable def XN(sc:Scope)(env:Env)(xs:List Str)(a:Addr):Prop:=a=env.locals∨∃y,y∈xs∧sc.names.lookup y=some .cell∧env.cells.lookup y=some a
theorem XN.xl{xs:List Str}{a:Addr}(h:XN sc env xs a):XL env a:=h.elim .inl fun⟨y,_,_,h⟩=>.inr ⟨y,h⟩
theorem XN.lam{xs:List Str}{a:Addr}(hE:EnvOk W.tabs Λ sc env)(h:XN sc env xs a):a∈Λ:=h.elim (fun q=>q▸hE.loc) fun⟨y,_,_,h⟩=>hE.cin y a h
theorem XN.sub{xs ys:List Str}{a:Addr}(h:XN sc env xs a)(k:∀y∈xs,y∈ys):XN sc env ys a:=h.imp id fun⟨y,m,h⟩=>⟨y,k y m,h⟩
theorem gq(hE:EnvOk W.tabs Λ sc env){x:Str}{d:D}{v:Value}{Q:Unit→Shared→Prop}(iv:Inv W σ Λ s.heap st)(V:Vars Λ sc env ρ σ s.heap)(hx:je sc x=true)(r:RepD σ (Bad σ Λ) s.heap v d)
 (q:∀h' tk,Inv W σ Λ h' st→Kp (XN sc env [x]) s.heap h'→Vars Λ sc env (dg x d ρ) σ h'→Q () { s with heap:=h',toks:=tk }):wpAny (model W.prog W.w) A (storeName env x v) Q E s:=by
 obtain⟨m,hn,Vc,_⟩:=id V
 unfold je at hx
 simp only[Bool.or_eq_true,beq_iff_eq]at hx
 rcases hx with hx|hx
 ·refine wpAny_storeName_local (by unfold Env.kindOf;rw[hE.scope];exact hx) hn (fun h' hn' hs=>?_) (qx hE)
  obtain⟨o,ho⟩:=dw hn'
  exact q h' (s.toks+1) (iv.touch hs hE.loc ho fun o_=>⟨_,hn'⟩) (Kp.same hs (.inl rfl) ho) (Vars.stl hE hs hn hn' V hx r)
 ·obtain⟨c,hc⟩:=hE.cells x (.inl hx)
  obtain⟨hcs,w,hw⟩:=Vc x c hc
  refine wpAny_storeName_cell (by rw[hE.scope];exact hE.kind) (by unfold Env.kindOf;rw[hE.scope];exact hx) hc hw fun h' hw' hs=>?_
  obtain⟨o,ho,hd⟩:=id hw'
  have hcL:=lz hw hn
  have kb:Kp (Bad σ Λ) s.heap h':=Kp.same hs (.inr (hE.cin x c hc)) ho
  have hn':h'.Ns env.locals m:=ko hn fun o e=>.inl ((hs.2 _ (Ne.symm hcL)).trans e)
  have Vt:Vars Λ sc env (jh x ρ) σ h':=by
   obtain⟨m₀,hn₀,Vc₀,V₀⟩:=V
   refine⟨m,hn',fun y c' e=>⟨(Vc₀ y c' e).1,?_⟩,fun y d' e=>?_⟩
   ·by_cases hcc:c'=c
    ·exact⟨_,hcc▸hw'⟩
    ·exact(Vc₀ y c' e).2.imp fun w z=>pe z fun o e=>.inl ((hs.2 _ hcc).trans e)
   ·obtain⟨e1,e2⟩:=dc e
    rw[k7 hn hn₀]
    refine⟨fun z=>(((V₀ y d' e1).1 z).imp fun v z=>⟨z.1,z.2.step Fresh.refl kb⟩),fun z=>?_⟩
    refine ni ((V₀ y d' e1).2 z) fun c' o' v' a ho' hd' hc' b=>?_
    have hcc:c'≠c:=fun q=>e2 (hE.inj y x c (q▸a) hc)
    exact⟨c',o',v',a,(hs.2 _ hcc).trans ho',hd',hc',b.step Fresh.refl kb⟩
  refine q h' s.toks (iv.touch hs (hE.cin x c hc) ho fun z=>absurd z (E9 iv hw)) (Kp.same hs (.inr ⟨x,.head _,hx,hc⟩) ho) (Vt.ins (fun z=>?_) fun o_=>⟨c,o,v,hc,ho,hd,hcs,r.step Fresh.refl kb⟩)
  rw[hx]at z;contradiction
theorem Vars.congr{h:Heap}{ρ':En}(V:Vars Λ sc env ρ σ h)(e:∀y,ρ'.lookup y=ρ.lookup y):Vars Λ sc env ρ' σ h:=by
 obtain⟨m,hn,Vc,V⟩:=V
 exact⟨m,hn,Vc,fun y d h=>V y d ((e y).symm.trans h)⟩
theorem l8(hE:EnvOk W.tabs Λ sc env):∀(zs:List (Str×Value×D)) (ts:List (Value→Sem Unit)) {s:Shared} {ρ:En} {Q:Unit→Shared→Prop},ts.length=zs.length→
 (∀(i:Nat) (z:Str×Value×D) (t:Value→Sem Unit),zs[i]? =some z→ts[i]? =some t→∀(v:Value) (s:Shared) (Q:Unit→Shared→Prop),wpAny (model W.prog W.w) A (storeName env z.1 v) Q E s→wpAny (model W.prog W.w) A (t v) Q E s)→
 (∀z∈zs,je sc z.1=true∧RepD σ (Bad σ Λ) s.heap z.2.1 z.2.2)→Inv W σ Λ s.heap st→Vars Λ sc env ρ σ s.heap→
 (∀h' tk,Inv W σ Λ h' st→Kp (XN sc env (zs.map (·.1))) s.heap h'→Vars Λ sc env (zs.foldl (fun ρ z=>dg z.1 z.2.2 ρ) ρ) σ h'→Q () { s with heap:=h',toks:=tk })→
 wpAny (model W.prog W.w) A (assignInOrder ts (zs.map (·.2.1))) Q E s
 |[],[],s,ρ,Q,_,_,_,iv,V,q=>wpAny_assignInOrder_none (q s.heap s.toks iv Kp.refl V)
 |z::zs,t::ts,s,ρ,Q,hl,ht,hz,iv,V,q=>by
  rw[List.map_cons]
  refine wpAny_assignInOrder_more (ht 0 z t rfl rfl z.2.1 s _ (gq hE iv V (hz z (.head _)).1 (hz z (.head _)).2 fun h' tk iv' k' V'=>?_))
  refine l8 hE zs ts (s:={ s with heap:=h',toks:=tk }) (by simpa using hl) (fun i z' t' e1 e2=>ht (i+1) z' t' (by simpa using e1) (by simpa using e2)) (fun z' hz'=>⟨(hz z' (.tail _ hz')).1,(hz z' (.tail _ hz')).2.step Fresh.refl (k'.weak fun a q=>.inr (q.lam hE))⟩) iv' V' fun h'' tk' iv'' k'' V''=>q h'' tk' iv'' (Kp.trans (W:=XN sc env ((z::zs).map (·.1))) (k'.weak fun a q=>q.sub fun y m=>List.mem_singleton.mp m▸.head _) k'' fun o_ o_ q=>q.sub fun y m=>.tail _ m) V''
 |[],_::_,_,_,_,hl,_,_,_,_,_=>nomatch hl
 |_::_,[],_,_,_,hl,_,_,_,_,_=>nomatch hl
theorem l9:∀(zs:List (Str×Value×D)) (ρ:En) (y:Str),(zs.foldl (fun ρ z=>dg z.1 z.2.2 ρ) ρ).lookup y=match(zs.map fun z=>(z.1,z.2.2)).reverse.lookup y with|some d=>some d|none=>ρ.lookup y
 |[],ρ,y=>rfl
 |z::zs,ρ,y=>by
  rw[List.foldl_cons,l9 zs,List.map_cons,List.reverse_cons,List.lookup_append,d8]
  generalize (zs.map fun z=>(z.1,z.2.2)).reverse.lookup y=zz
  induction zz using Option.casesOn with
  |some v=>rfl
  |none=>
   rw[Option.none_or,List.lookup_cons,List.lookup_nil]
   cases y==z.1<;>rfl
theorem oa:∀{xs:List Str} {l:List V} {ρ ρ':En},cm sc xs l ρ=some ρ'→ai xs=true→xs.length=l.length∧(∀x∈xs,je sc x=true)∧
 ∀y,ρ'.lookup y=match(xs.zip (l.map D.v)).lookup y with|some d=>some d|none=>ρ.lookup y
 |[],[],ρ,ρ',h,_=>by(first|subst h|contradiction|(injection h with h;subst h)|cases h);exact⟨rfl,fun x hx=>(nomatch hx),fun y=>rfl⟩
 |x::xs,v::l,ρ,ρ',h,hd=>by
  refine gf h fun hx h=>?_
  obtain⟨hd1,hd2⟩:=zan hd
  ·obtain⟨a,b,c⟩:=oa h hd2
   refine⟨congrArg (· +1) a,fun y hy=>?_,fun y=>?_⟩
   ·rcases List.mem_cons.mp hy with rfl|hy
    ·exact hx
    ·exact b y hy
   ·rw[c y,List.map_cons,List.zip_cons_cons,List.lookup_cons,d8]
    cases hyx:y==x with
    |false=>rfl
    |true=>
     have:(xs.zip (l.map D.v)).lookup y=none:=by
      rw[List.lookup_eq_none_iff]
      intro p hp
      have hm:=(List.of_mem_zip (a:=p.1) (b:=p.2) hp).1
      cases q:y==p.1 with
      |false=>simp[bne,q]
      |true=>
       exfalso
       have e1:=eq_of_beq hyx
       have e2:=eq_of_beq q
       subst e1
       rw[←e2]at hm
       rw[Bool.not_eq_true',←Bool.not_eq_true]at hd1
       exact hd1 (List.contains_iff_mem.mpr hm)
     rw[this];rfl
 |[],_::_,_,_,h,_=>by contradiction
 |_::_,[],_,_,h,_=>by contradiction
theorem ff{I:In}(hE:EnvOk W.tabs Λ sc env)(hc:ji A W env)(hS:IS W A I):∀(b:List Stmt) (ρ:En),SX W A Λ (XL env) (ck Λ sc env) (Vars Λ sc env ρ) (exs (fun ρ=>I.st sc ρ) b ρ) (execs b env)
 |[],ρ=>fun E σ s st Q iv V H=>wpAny_execs_nil (Po.now (tk:=s.toks) (b:=Flow.next) H iv ⟨trivial,V⟩)
 |a::b,ρ=>fun E σ s st Q iv V H=>by
  rw[L7]at H
  refine wpAny_execs_cons (hS Λ sc env ρ a hE hc E σ s st _ iv V (Po.seq0 H fun p st₁ σ₁ h₁ tk₁ f f₁ k₁ i₁ r₁ H₁=>?_))
  obtain⟨fl,ρ₁⟩:=p
  obtain⟨r₁,V₁⟩:=r₁
  cases fl with
  |next=>
   cases f with
   |next=>exact ff hE hc hS b ρ₁ E σ₁ _ st₁ _ i₁ V₁ H₁
   |_=>exact r₁.elim
  |brk=>
   cases f with
   |brk=>exact Po.now (tk:=tk₁) (b:=Flow.brk) H₁ i₁ ⟨trivial,V₁⟩
   |_=>exact r₁.elim
  |cont=>
   cases f with
   |cont=>exact Po.now (tk:=tk₁) (b:=Flow.cont) H₁ i₁ ⟨trivial,V₁⟩
   |_=>exact r₁.elim
  |ret d=>
   cases f with
   |ret v=>exact Po.now (tk:=tk₁) (b:=Flow.ret v) H₁ i₁ ⟨r₁,V₁⟩
   |_=>exact r₁.elim
end
section
variable {M:Model} {W:Wd} {A:Around} {E:Value→Shared→Prop} {s:Shared} {hr:Heap} {e:Addr}
noncomputable def KeptE(W:Wd)(hr h:Heap)(e:Addr):Prop:=(∀b o,hr.get? b=some o→b≠e→At h b o)∧(∀b o,W.base.get? b=some o→h.get? b=some o)∧∀b o,hr.get? b=some o→wn o→b≠e→h.get? b=some o
theorem KeptE.none{h:Heap}(k:KeptE W hr h e){oe:Obj}(he:h.get? e=some oe){b:Addr}(n:h.get? b=none):hr.get? b=none:=by
 generalize z:hr.get? b=zz
 induction zz using Option.casesOn with
 |none=>rfl
 |some o=>
  by_cases q:b=e
  ·subst q;rw[n]at he;(first|subst he|contradiction|(injection he with he;subst he)|cases he)
  ·obtain⟨o',e'⟩:=(k.1 b o z q).any
   rw[n]at e';(first|subst e'|contradiction|(injection e' with e';subst e')|cases e')
theorem qy{σ Λ:List Addr}{st:Sto}(I:Inv W σ Λ hr st){h:Heap}(k:KeptE W hr h e)(hef:e∉W.fr):∀{l:List Env},qk W l→h.FunFrames W.base l
 |[],_=>trivial
 |env::l,H=>by
  obtain⟨h1,L,h2,h3⟩:=H env (.head _)
  obtain⟨hL,m,o,es,ep,ho,hd,_⟩:=I.dic L h3
  obtain⟨sl,e'⟩:=(k.1 L o ho fun q=>hef (q▸h3)).ex (ly fun o_ q=>by rw[hd]at q;contradiction)
  refine⟨h1,⟨L,_,h2,?_,e',fun vs q=>?_⟩,qy I k hef fun env' hm=>H env' (.tail _ hm)⟩
  ·generalize z:W.base.get? L=zz
   induction zz using Option.casesOn with
   |none=>rfl
   |some o'=>exact absurd (Heap.lt_size z) (Nat.not_lt.mpr (I.new L (.inr hL)).1)
  ·have q:o.data=.fields vs:=q
   rw[hd]at q;(first|subst q|contradiction|(injection q with q;subst q)|cases q)
theorem lb{l:List Env}(H:qk W l){b:Addr}(hb:b∈l.filterMap (·.frame)):b∈W.fr:=by
 obtain⟨env,h1,h2⟩:=List.mem_filterMap.mp hb
 obtain⟨_,L,h3,h4⟩:=H env h1
 rw[h3]at h2
 (first|subst h2|contradiction|(injection h2 with h2;subst h2)|cases h2)
 exact h4
theorem C7{env:Env}{outer:List Env}{L:Addr}{oe:Obj}{vs:Array Value}{head:Value}{hadNext:Bool}{σ Λ:List Addr}{st:Sto}{Q:Unit→Shared→Prop}
 (hfr:A.frames=some (env::outer)) (hl:qk W (env::outer)) (hf:env.frame=some L) (I:Inv W σ Λ hr st) (hef:e∉W.fr) (heb:W.base.get? e=none)
 (he:s.heap.get? e=some oe) (k:KeptE W hr s.heap e) (hd:oe.data=.fields vs) (hsz:1<vs.size)
 (h:∀h' T oT ts,KeptE W hr h' e→h'.get? e=some { oe with data:=.fields (vs.setIfInBounds 1 (.ref T)) }→hr.get? T=none→h'.get? T=some oT→oT.data=.fields ts→3<ts.size→Q () { s with heap:=h' }):
 wpAny M A (do let a ←frameOf env;let pl ←entryPlaceOf L hadNext;let b ←EntryCells.newEntry head a .none (rawInt L) .none pl;setField (.ref e) 1 b) Q E s:=by
 have FF:=qy I k hef hl
 refine wpAny_bind (wpAny_frameOf_fun hfr FF hf fun h₁ hs₁=>?_)
 refine wpAny_bind (wpAny_entryPlaceOf fun pl hpl=>?_)
 unfold EntryCells.newEntry newFields
 refine wpAny_bind (wpAny_newObj_type ?_ (hpl.sizeOk5 _ _ _ _ _))
 have he₁:h₁.get? e=some oe:=(hs₁.2.1 e fun q=>hef (lb hl q)).trans he
 have k₁:KeptE W hr h₁ e:=⟨fun b o ho hb=>(k.1 b o ho hb).trans fun o' e'=>by
  by_cases q:b∈W.fr
  ·obtain⟨_,m,o2,es,ep,ho2,hd2,_⟩:=I.dic b q
   rw[ho]at ho2;(first|subst ho2|contradiction|(injection ho2 with ho2;subst ho2)|cases ho2)
   obtain⟨sl,e3⟩:=hs₁.2.2 b o' e'
   refine .inr (.inl ⟨?_,sl,e3⟩)
   obtain⟨sl2,e4⟩:=(k.1 b o ho hb).ex (ly fun o_ q=>by rw[hd2]at q;contradiction)
   rw[e']at e4;(first|subst e4|contradiction|(injection e4 with e4;subst e4)|cases e4)
   exact⟨_,_,hd2⟩
  ·exact .inl ((hs₁.2.1 b fun z=>q (lb hl z)).trans e'),fun b o e'=>(hs₁.2.1 b fun z=>by rw[(FF.mem z).1]at e';(first|subst e'|contradiction|(injection e' with e';subst e')|cases e')).trans (k.2.1 b o e'),fun b o ho t hb=>(hs₁.2.1 b fun z=>by
  obtain⟨_,m,o2,es,ep,ho2,hd2,_⟩:=I.dic b (lb hl z)
  rw[ho]at ho2
  injection ho2 with ho2
  subst ho2
  obtain⟨_,ps,t⟩:=t
  rw[hd2]at t;contradiction).trans (k.2.2 b o ho t hb)⟩
 generalize hTo:({ cls:=.type "traceback",dict:=none,data:=.fields ([head,.ref L,.none,rawInt L,.none]++(if pl.isEmpty then List.replicate 6 Value.none else pl)).toArray }:Obj)=To
 have hTd:To.data=.fields ([head,.ref L,.none,rawInt L,.none]++(if pl.isEmpty then List.replicate 6 Value.none else pl)).toArray:=by rw[←hTo]
 have hTe:h₁.objs.size≠e:=Nat.ne_of_gt (Heap.lt_size he₁)
 have he₂:=Heap.get?_push_of_some (h:=h₁) To he₁
 refine wpAny_setField he₂ hd hsz ?_
 have hd₃:=Obj.data_mapFields hd (·.setIfInBounds 1 (Value.ref h₁.objs.size))
 have he₃:=Heap.get?_update_self (Obj.mapFields (·.setIfInBounds 1 (Value.ref h₁.objs.size))) he₂ (Obj.isFreed_of_fields hd₃)
 have hoe:Obj.mapFields (·.setIfInBounds 1 (Value.ref h₁.objs.size)) oe={ oe with data:=.fields (vs.setIfInBounds 1 (.ref h₁.objs.size)) }:=by
  obtain⟨a1,a2,a3,a4⟩:=oe
  have hd:a3=.fields vs:=hd
  subst hd
  rfl
 rw[hoe]at he₃
 have hT₃:=(Heap.get?_update_other (h₁.push To) (Obj.mapFields (·.setIfInBounds 1 (Value.ref h₁.objs.size))) (Ne.symm hTe)).trans (Heap.get?_push_size h₁ (Obj.isFreed_of_fields hTd))
 have hnT:hr.get? h₁.objs.size=none:=k₁.none he₁ an
 have keep:∀b o,b≠e→h₁.get? b=some o→((h₁.push To).update e (Obj.mapFields (·.setIfInBounds 1 (Value.ref h₁.objs.size)))).get? b=some o:=fun b o hbe hb=>by
  rw[Heap.get?_update_other _ _ (Ne.symm hbe)]
  exact Heap.get?_push_of_some _ hb
 refine h _ h₁.objs.size _ _ ⟨fun b o ho hb=>(k₁.1 b o ho hb).trans fun o' e'=>.inl (keep b o' hb e'),fun b o e'=>keep b o (fun q=>by rw[q,heb]at e';contradiction) (k₁.2.1 b o e'),fun b o ho t hb=>keep b o hb (k₁.2.2 b o ho t hb)⟩ he₃ hnT hT₃ hTd ?_
 show _<(_++_:List Value).length
 rw[List.length_append]
 exact Nat.lt_of_lt_of_le (by decide:3<5) (Nat.le_add_right _ _)
noncomputable def Tbd(h:Heap)(e:Addr):Prop:=∃oe vs T,h.get? e=some oe∧oe.data=.fields vs∧vs[1]? =some (.ref T)
theorem qz{env:Env}{outer:List Env}{L:Addr}{σ Λ:List Addr}{st:Sto}{B:Addr→Prop}{c:Addr}{ns:List Str}{l:List V}{Q:Unit→Shared→Prop}
 (hfr:A.frames=some (env::outer)) (hl:qk W (env::outer)) (hf:env.frame=some L) (I:Inv W σ Λ hr st) (F:Flown W B hr s.heap e c ns l)
 (q:∀h',Flown W B hr h' e c ns l→Tbd h' e→Q () { s with heap:=h' }):
 wpAny M A (noteFrame (.ref e) env) Q E s:=by
 have F0:=F
 obtain⟨k,⟨hex,hB,hef,heb⟩,dx,oe,vs,a0,he,hc,hdx,hd,h0,h1,rest⟩:=F
 unfold noteFrame
 simp only[hf]
 have fin:∀(s':Shared),s'.heap.get? e=some oe→KeptE W hr s'.heap e→∀hn head,1<vs.size→(∀h',({ s' with heap:=h' }:Shared)={ s with heap:=h' })→
  wpAny M A (do let a ←frameOf env;let pl ←entryPlaceOf L hn;let b ←EntryCells.newEntry head a .none (rawInt L) .none pl;setField (.ref e) 1 b) Q E s':=fun s' he' k' hn head hsz hs=>by
  refine C7 (hr:=hr) hfr hl hf I hef heb he' k' hd hsz fun h' T oT ts k2 e2 nT hT hTd h3=>?_
  rw[hs]
  have g1:(vs.setIfInBounds 1 (.ref T))[1]? =some (.ref T):=by simp[hsz]
  refine q h' ⟨k2,⟨hex,hB,hef,heb⟩,dx,_,_,a0,e2,hc,hdx,rfl,?_,.inr ⟨T,oT,ts,g1,nT,hT,hTd,h3⟩,rest⟩ ⟨_,_,T,e2,rfl,g1⟩
  rw[Array.getElem?_setIfInBounds_ne (by decide)];exact h0
 rcases h1 with h1|⟨T,oT,ts,h1,nT,hT,hTd,h3⟩
 ·refine wpAny_bind (wpAny_field he hd h1 ?_)
  rw[if_neg (by decide)]
  exact fin s he k _ _ (Array.getElem?_eq_some_iff.mp h1).1 fun o_=>rfl
 ·refine wpAny_bind (wpAny_field he hd h1 ?_)
  rw[if_pos (show(Value.ref T !=Value.none)=true from by simp)]
  refine wpAny_bind (wpAny_field hT hTd (Array.getElem?_eq_getElem h3) ?_)
  by_cases hm:(ts[3]==rawInt L)=true
  ·rw[if_pos hm]
   exact wpAny_pure (q s.heap F0 ⟨oe,vs,T,he,hd,h1⟩)
  rw[if_neg hm]
  refine wpAny_bind (wpAny_setField hT hTd h3 ?_)
  have hTe:T≠e:=fun q=>by
   obtain⟨o,ho⟩:=hex
   rw[q,ho]at nT;contradiction
  have other:∀b,b≠T→(s.heap.update T (Obj.mapFields (·.setIfInBounds 3 Value.none))).get? b=s.heap.get? b:=fun b hb=>Heap.get?_update_other _ _ (Ne.symm hb)
  have nb:∀b o,hr.get? b=some o→b≠T:=fun b o ho q=>by rw[q,nT]at ho;contradiction
  exact fin _ ((other e (Ne.symm hTe)).trans he) ⟨fun b o ho hb=>(k.1 b o ho hb).trans fun o' e'=>.inl ((other b (nb b o ho)).trans e'),fun b o e'=>(other b (nb b o (I.keep b o e'))).trans (k.2.1 b o e'),fun b o ho t hb=>(other b (nb b o ho)).trans (k.2.2 b o ho t hb)⟩ _ _ (Array.getElem?_eq_some_iff.mp h1).1 fun o_=>rfl
theorem eq{M:Model}{fo:Option Addr}{B:Addr→Prop}{c:Addr}{ns:List Str}{l:List V}{Q:Unit→Shared→Prop}(kb:∀b o,W.base.get? b=some o→hr.get? b=some o)(F:Flown W B hr s.heap e c ns l)(q:∀h',Flown W B hr h' e c ns l→Q () { s with heap:=h' }):wpAny M A (setFlight (.ref e) fo) Q E s:=by
 have F0:=F
 obtain⟨⟨k1,k2,k3⟩,⟨h1,h2,h3,h4⟩,dx,oe,vs,a0,g1,g2,g3,g4,g5,g6,rest⟩:=F
 unfold setFlight
 rcases g6 with g6|⟨T,oT,ts,t1,t2,t3,t4,t5⟩
 ·refine wpAny_bind (wpAny_field g1 g4 g6 ?_)
  rw[if_neg (by decide)]
  exact wpAny_pure (q s.heap F0)
 ·refine wpAny_bind (wpAny_field g1 g4 t1 ?_)
  rw[if_pos (show(Value.ref T !=Value.none)=true from by simp)]
  refine wpAny_setField t3 t4 t5 ?_
  generalize fo.elim Value.none (fun f=>rawInt f)=fv
  have hTe:T≠e:=fun z=>by
   obtain⟨o,ho⟩:=h1
   rw[z,ho]at t2;contradiction
  have other:∀b,b≠T→(s.heap.update T (Obj.mapFields (·.setIfInBounds 3 fv))).get? b=s.heap.get? b:=fun b hb=>Heap.get?_update_other _ _ (Ne.symm hb)
  have hTb:W.base.get? T=none:=by
   generalize z:W.base.get? T=zz
   induction zz using Option.casesOn with
   |none=>rfl
   |some o=>
    rw[kb T o z]at t2;contradiction
  refine q _ ⟨⟨fun b o ho hb=>(k1 b o ho hb).trans fun o' e'=>.inl ((other b fun z=>by rw[z,t2]at ho;contradiction).trans e'),fun b o e'=>(other b fun z=>by rw[z,hTb]at e';contradiction).trans (k2 b o e'),fun b o ho t hb=>(other b fun z=>by rw[z,t2]at ho;contradiction).trans (k3 b o ho t hb)⟩,⟨h1,h2,h3,h4⟩,dx,oe,vs,a0,(other e (Ne.symm hTe)).trans g1,g2,g3,g4,g5,.inr ⟨T,_,_,t1,t2,Heap.get?_update_self _ t3 (Obj.isFreed_of_fields (Obj.data_mapFields t4 _)),Obj.data_mapFields t4 _,?_⟩,rest⟩
  rw[Array.size_setIfInBounds];exact t5
theorem jn{env:Env}{outer:List Env}{L:Addr}{σ Λ:List Addr}{st:Sto}{B:Addr→Prop}{c:Addr}{ns:List Str}{l:List V}{Q:Unit→Shared→Prop}
 (hfr:A.frames=some (env::outer)) (hl:qk W (env::outer)) (hf:env.frame=some L) (I:Inv W σ Λ hr st) (F:Flown W B hr s.heap e c ns l)
 (q:∀h',Flown W B hr h' e c ns l→Q () { s with heap:=h' }):
 wpAny M A (noteFrame (.ref e) env) (fun o_ s'=>wpAny M A (setFlight (.ref e) none) Q E s') E s:=
 qz hfr hl hf I F fun h' F o_=>eq (s:={ s with heap:=h' }) I.keep F q
theorem zf{env:Env}{outer:List Env}{L:Addr}{σ Λ:List Addr}{st:Sto}{B:Addr→Prop}{c:Addr}{ns:List Str}{l:List V}{Ef:Value→Shared→Prop}
 (hfr:A.frames=some (env::outer)) (hl:qk W (env::outer)) (hf:env.frame=some L) (I:Inv W σ Λ hr st) (F:Flown W B hr s.heap e c ns l)
 (q:∀h',Flown W B hr h' e c ns l→Ef (.ref e) { s with heap:=h' }):
 notedBy M A env (fun e s'=>cameBackBy M A env Ef e s') (.ref e) s:=
 qz hfr hl hf I F fun h' F t=>by
  obtain⟨oe,vs,T,t1,t2,t3⟩:=t
  unfold cameBackBy
  refine wpAny_bind (wpAny_field (s:={ s with heap:=h' }) t1 t2 t3 ?_)
  rw[if_neg (by simp)]
  exact eq (s:={ s with heap:=h' }) I.keep F q
theorem Flown.weak{B B':Addr→Prop}{h h':Heap}{c:Addr}{ns:List Str}{l:List V}(F:Flown W B h h' e c ns l)(hB:∀a,B' a→B a):Flown W B' h h' e c ns l:=by
 obtain⟨k,⟨h1,h2,h3,h4⟩,dx,oe,vs,a0,g1,g2,g3,g4,g5,g6,es,n,g7,g8,g9,g10,g11⟩:=F
 exact⟨k,⟨h1,fun q=>h2 (hB _ q),h3,h4⟩,dx,oe,vs,a0,g1,g2,g3,g4,g5,g6,es,n,g7,fun q=>g8 (hB _ q),g9,g10,g11.mono fun b o e' nb=>⟨.inl e',fun q=>nb (q.elim (fun q=>.inl (hB _ q)) .inr)⟩⟩
end
theorem tu{env:Env}:∀{ts:List PySem.Expr} {xs:List Str},bg ts=some xs→(assignEach ts env).length=xs.length∧(assignEach ts env).findIdx? (·.1)=none∧
 ∀(i:Nat) (t:Value→Sem Unit),((assignEach ts env).map (·.2))[i]? =some t→∃x p,xs[i]? =some x∧t=assign (.Name x p) env
 |[],xs,h=>by(first|subst h|contradiction|(injection h with h;subst h)|cases h);exact⟨rfl,rfl,fun i t e=>by(first|subst e|contradiction|(injection e with e;subst e)|cases e)⟩
 |a::r,xs,h=>by
  refine ao h fun x hx h=>?_
  ·obtain⟨p,rfl⟩:=cz hx
   obtain⟨ys,hy,rfl⟩:=zmp h
   obtain⟨a,b,c⟩:=tu (env:=env) hy
   have e:assignEach (.Name x p::r) env=(false,assign (.Name x p) env)::assignEach r env:=rfl
   rw[e]
   refine⟨congrArg (· +1) a,by rw[List.findIdx?_cons,b];rfl,fun i t ht=>?_⟩
   induction i using Nat.casesOn with
   |zero=>(first|subst ht|contradiction|(injection ht with ht;subst ht)|cases ht);exact⟨x,p,rfl,rfl⟩
   |succ i=>exact c i t (by simpa using ht)
theorem cu{α:Type}:∀{xs:List Str} {vs:List α} (y:Str),ai xs=true→xs.length=vs.length→(xs.zip vs).reverse.lookup y=(xs.zip vs).lookup y
 |[],vs,y,_,_=>by simp
 |x::xs,[],y,_,h=>by(first|subst h|contradiction|(injection h with h;subst h)|cases h)
 |x::xs,v::vs,y,hd,hl=>by
  obtain⟨hd1,hd2⟩:=zan hd
  rw[List.zip_cons_cons,List.reverse_cons,List.lookup_append,cu y hd2 (by simpa using hl),List.lookup_cons,List.lookup_cons,List.lookup_nil]
  cases hb:y==x with
  |false=>simp
  |true=>
   have:(xs.zip vs).lookup y=none:=by
    rw[List.lookup_eq_none_iff]
    intro p hp
    have hm:=(List.of_mem_zip (a:=p.1) (b:=p.2) hp).1
    cases q:y==p.1 with
    |false=>simp[bne,q]
    |true=>
     exfalso
     have e1:=eq_of_beq hb
     have e2:=eq_of_beq q
     subst e1
     rw[←e2]at hm
     rw[Bool.not_eq_true',←Bool.not_eq_true]at hd1
     exact hd1 (List.contains_iff_mem.mpr hm)
   rw[this];rfl
section
variable {W:Wd} {A:Around} {Λ σ:List Addr} {E:Value→Shared→Prop} {s:Shared} {st:Sto} {sc:Scope} {env:Env} {ρ:En}
theorem u3{α β γ:Type}:∀{xs:List α} {vs:List β} {ds:List γ},xs.length=vs.length→ds.length=vs.length→(xs.zip (vs.zip ds)).map (·.2.1)=vs∧(xs.zip (vs.zip ds)).map (fun z=>(z.1,z.2.2))=xs.zip ds
 |[],[],[],_,_=>⟨rfl,rfl⟩
 |x::xs,v::vs,d::ds,h,h'=>by
  obtain⟨a,b⟩:=u3 (xs:=xs) (vs:=vs) (ds:=ds) (by simpa using h) (by simpa using h')
  rw[List.zip_cons_cons,List.zip_cons_cons,List.map_cons,List.map_cons,List.zip_cons_cons,a,b]
  exact⟨rfl,rfl⟩
 |[],_::_,_,h,_=>nomatch h
 |_::_,[],_,h,_=>nomatch h
 |_,[],_::_,_,h=>nomatch h
 |_,_::_,[],_,h=>nomatch h
theorem wy{σ:List Addr}{B:Addr→Prop}{h:Heap}:∀{vs:List Value} {l:List V} {z:Value×D},Reps B h vs l→z∈vs.zip (l.map D.v)→RepD σ B h z.1 z.2
 |[],[],_,_,h=>nomatch h
 |v::vs,x::l,z,r,h=>by
  rw[List.map_cons,List.zip_cons_cons]at h
  rcases List.mem_cons.mp h with rfl|h
  ·exact r.1
  ·exact wy r.2 h
 |[],_::_,_,r,_=>r.elim
 |_::_,[],_,r,_=>r.elim
noncomputable def I8(W:Wd)(A:Around)(env:Env)(E:Value→Shared→Prop)(Q:Flow→Shared→Prop)(s:Shared)(tk₁:Nat)(h₁:Heap)(xs:List Str)(vs:List Value):Prop:=
 ∃ds:List D,ds.length=vs.length∧∀(zs:List (Str×Value×D)) (tt:List (Value→Sem Unit)) (h':Heap),(∀b o,h₁.get? b=some o→h'.get? b=some o)→tt.length=zs.length→
  (∀(i:Nat) (z:Str×Value×D) (t:Value→Sem Unit),zs[i]? =some z→tt[i]? =some t→∀(v:Value) (s:Shared) (Q:Unit→Shared→Prop),wpAny (model W.prog W.w) A (storeName env z.1 v) Q E s→wpAny (model W.prog W.w) A (t v) Q E s)→
  (∀z∈zs,z∈xs.zip (vs.zip ds))→(∀y,(zs.map fun z=>(z.1,z.2.2)).reverse.lookup y=(xs.zip ds).lookup y)→
  wpAny (model W.prog W.w) A (assignInOrder tt (zs.map (·.2.1))) (fun o_=>Q .next) E { s with heap:=h',toks:=tk₁ }
theorem Ba{xs:List Str}{l:List V}{ρ':En}{Q:Flow→Shared→Prop}{st₁:Sto}{σ₁:List Addr}{h₁:Heap}{tk₁:Nat}{vs:List Value}(hE:EnvOk W.tabs Λ sc env)(hd:ai xs=true)(i₁:Inv W σ₁ Λ h₁ st₁)(V₁:Vars Λ sc env ρ σ₁ h₁)(hput:cm sc xs l ρ=some ρ')(hr:Reps (Bad σ₁ Λ) h₁ vs l)
 (H:∀h'' tk,Inv W σ₁ Λ h'' st₁→Kp (XN sc env xs) h₁ h''→Vars Λ sc env ρ' σ₁ h''→Q .next { s with heap:=h'',toks:=tk }):xs.length=vs.length∧I8 W A env E Q s tk₁ h₁ xs vs:=by
 obtain⟨p1,p2,p3⟩:=oa hput hd
 refine⟨p1.trans hr.length.symm,l.map D.v,by rw[List.length_map,hr.length],fun zs tt h' hk htl htt hzx hzl=>?_⟩
 have mv:∀b o,h₁.get? b=some o→¬Bad σ₁ Λ b→At h' b o∧¬Bad σ₁ Λ b:=fun b o e nb=>⟨.inl (hk b o e),nb⟩
 have V':Vars Λ sc env ρ σ₁ h':=V₁.mono mv fun b o e o_=>.inl (hk b o e)
 refine l8 (s:={ s with heap:=h',toks:=tk₁ }) hE zs tt htl htt (fun z hz=>?_) (i₁.grow hk) V' fun h'' tk iv'' kk V''=>
  H h'' tk iv'' ((Kp.all (W:=XN sc env xs) hk).trans kk fun o_ o_ q=>q.sub fun y m=>by
   obtain⟨z,hz,e⟩:=List.mem_map.mp m
   exact e▸(List.of_mem_zip (a:=z.1) (b:=z.2) (hzx z hz)).1) (V''.congr fun y=>?_)
 ·have z1:=List.of_mem_zip (a:=z.1) (b:=z.2) (hzx z hz)
  exact⟨p2 _ z1.1,RepD.mono mv (wy hr z1.2)⟩
 ·rw[p3 y,l9,hzl y]
theorem Bb{xs:List Str}{Q:Flow→Shared→Prop}{d:D}{st₁:Sto}{σ₁:List Addr}{h₁:Heap}{tk₁:Nat}{v:Value}(hE:EnvOk W.tabs Λ sc env)(hd:ai xs=true)(i₁:Inv W σ₁ Λ h₁ st₁)(V₁:Vars Λ sc env ρ σ₁ h₁)
 (H₁:Po W Λ (XL env) (ck Λ sc env) E σ₁ { s with heap:=h₁,toks:=tk₁ } ((match d with
   |.v (.tup l)=>(match cm sc xs l ρ with
    |some ρ'=>.ok (.next,ρ') st₁
    |Option.none=>.stuck)
   |_=>.stuck:Out (Fl×En))) Q) (r₁:RepD σ₁ (Bad σ₁ Λ) h₁ v d):∃a vs n,v=.ref a∧h₁.get? a=some ({ cls:=.type "tuple",data:=.seq vs.toArray n }:Obj)∧xs.length=vs.length∧I8 W A env E Q s tk₁ h₁ xs vs:=by
 induction d using D.casesOn with
 |m i=>exact H₁.elim
 |v y=>
  induction y using Mine.V.casesOn with
  |tup l=>
   have H₁:Po W Λ (XL env) (ck Λ sc env) E σ₁ { s with heap:=h₁,toks:=tk₁ } (match cm sc xs l ρ with
    |some ρ'=>.ok (.next,ρ') st₁
    |Option.none=>.stuck:Out (Fl×En)) Q:=H₁
   generalize hput:cm sc xs l ρ=zz at H₁
   induction zz using Option.casesOn with
   |none=>exact H₁.elim
   |some ρ'=>
    have r₁:Rep (Bad σ₁ Λ) h₁ v (.tup l):=r₁
    refine eo (Rep.t r₁) fun a vs n ee3 hb ho hr=>?_
    subst ee3
    exact⟨a,vs,n,rfl,ho,Ba hE hd i₁ V₁ hput hr fun h'' tk i k V=>H₁ σ₁ h'' tk .next Fresh.refl (k.weak fun a q=>.inr q.xl) i ⟨trivial,V⟩⟩
  |_=>exact H₁.elim
theorem Bc{ts:List PySem.Expr}{xs:List Str}{Q:Flow→Shared→Prop}{a:Addr}{vs:List Value}{n:Nat}{h₁:Heap}{tk₁:Nat}{k:Nat}{tp:Pos}(hh:A.handled=none)(hxs:bg ts=some xs)(hd:ai xs=true)(ho:h₁.get? a=some ({ cls:=.type "tuple",data:=.seq vs.toArray n }:Obj))(hl:xs.length=vs.length)(z:I8 W A env E Q s tk₁ h₁ xs vs):
 wpAny (model W.prog W.w) A (assign (.Tuple ts k tp) env (.ref a)) (fun o_=>Q .next) E { s with heap:=h₁,toks:=tk₁ }:=by
 obtain⟨e1,e2,e3⟩:=tu (env:=env) hxs
 obtain⟨ds,hds,z⟩:=z
 obtain⟨m1,m2⟩:=u3 hl hds
 refine wpAny_assign_Tuple hh (items:=vs.toArray) ⟨_,ho,rfl,n,rfl⟩ (by rw[e1,hl];simp) e2 fun h' hext=>?_
 have:=z (xs.zip (vs.zip ds)) ((assignEach ts env).map (·.2)) h' (fun b o e=>hext b o (fun q=>by rw[q,an]at e;contradiction) e) (by rw[List.length_map,e1,List.length_zip,List.length_zip,hds,Nat.min_self,←hl,Nat.min_self]) (fun i z t hz ht v s Q q=>by
  refine f7 (e3 i t ht) fun x p hx ee3=>?_
  subst ee3
  have:z.1=x:=by
   rw[List.getElem?_zip_eq_some]at hz
   exact Option.some.inj (hz.1.symm.trans hx)
  rw[this]at q
  exact wpAny_assign_Name q) (fun z hz=>hz) (fun y=>by rw[m2];exact cu y hd (hl.trans hds.symm))
 rw[m1]at this
 simpa using this
theorem I9{α:Type}{ys:List Str}{vs:List α}{i:Nat}{z:Str×α}{t:Value→Sem Unit}(hl:ys.length=vs.length)(hz:(ys.zip vs).reverse[i]? =some z)(ht:(ys.reverse.map fun n=>bindName env n)[i]? =some t):t=bindName env z.1:=by
 have hi:i<ys.length:=by
  have:=(List.getElem?_eq_some_iff.mp ht).1
  simpa using this
 have e1:(ys.zip vs).reverse[i]? =(ys.zip vs)[(ys.zip vs).length-1-i]? :=List.getElem?_reverse (by simpa[hl]using hi)
 have e2:ys.reverse[i]? =ys[ys.length-1-i]? :=List.getElem?_reverse hi
 rw[List.getElem?_map,e2]at ht
 rw[e1,List.getElem?_zip_eq_some]at hz
 have hzl:(ys.zip vs).length=ys.length:=by simp[hl]
 rw[hzl]at hz
 rw[hz.1]at ht
 exact(Option.some.inj ht).symm
theorem Ja{ys:List Str}{Q:Flow→Shared→Prop}{vs:List Value}{h₁:Heap}{tk₁:Nat}(hl:ys.length=vs.length)(z:I8 W A env E Q s tk₁ h₁ ys vs){h':Heap}(hext:∀b o,h₁.get? b=some o→h'.get? b=some o):
 wpAny (model W.prog W.w) A (assignInOrder (ys.reverse.map fun n=>bindName env n) vs.reverse) (fun o_=>Q .next) E { s with heap:=h',toks:=tk₁ }:=by
 obtain⟨ds,hds,z⟩:=z
 obtain⟨m1,m2⟩:=u3 hl hds
 have hz:ys.length=(vs.zip ds).length:=by rw[List.length_zip,hds,Nat.min_self,hl]
 have:=z (ys.zip (vs.zip ds)).reverse (ys.reverse.map fun n=>bindName env n) h' hext (by rw[List.length_map,List.length_reverse,List.length_reverse,List.length_zip,←hz,Nat.min_self]) (fun i z t hi ht v s Q q=>by
  rw[I9 hz hi ht];exact wpAny_bindName q) (fun z hz=>List.mem_reverse.mp hz) (fun y=>by rw[List.map_reverse,m2,List.reverse_reverse])
 have e:((ys.zip (vs.zip ds)).reverse.map (·.2.1))=vs.reverse:=by rw[List.map_reverse,m1]
 rw[e]at this
 exact this
theorem u4{I:In}(hh:A.handled=none)(hE:EnvOk W.tabs Λ sc env)(hI:IE W A I){ts:List PySem.Expr}{k:Nat}{tp pos:Pos}{e:PySem.Expr}{xs:List Str}{Q:Flow→Shared→Prop}(hc:bj e=false)(hxs:bg ts=some xs)(hd:ai xs=true)
 (hsw:Cu sc ts k tp e xs=true) (iv:Inv W σ Λ s.heap st) (V:Vars Λ sc env ρ σ s.heap)
 (H:Po W Λ (XL env) (ck Λ sc env) E σ s ((I.ex sc ρ e st).bind fun d st=>match d with
   |.v (.tup l)=>(match cm sc xs l ρ with
    |some ρ'=>.ok (.next,ρ') st
    |Option.none=>.stuck)
   |_=>.stuck) Q):wpAny (model W.prog W.w) A (exec (.Assign [.Tuple ts k tp] e pos) env) Q E s:=by
 have hs:swapsWithSole [.Tuple ts k tp] e pos.line env=pure false:=by
  unfold swapsWithSole
  exact du hc
 have nx:∀a,NoX a→XL env a:=fun a q=>q.elim
 refine Qv hsw fun o ho hsw=>?_
 have ho:=Eh ho
 induction o using Option.casesOn with
 |none=>
  have hnone:=ho
  refine Assign_Tuple (hI Λ sc env ρ e hE E σ s st _ iv V (Po.seq nx H fun d st₁ σ₁ h₁ tk₁ v f₁ k₁ i₁ r₁ H₁=>?_)) hs (by rw[n9 hE.scope];exact hnone)
  refine eo (Bb (A:=A) hE hd i₁ (V.step (iv.sigma hE.loc) f₁ k₁) H₁ r₁) fun a vs n ee3 ho hl z=>?_
  subst ee3
  exact Bc hh hxs hd ho hl z
 |some ys=>
  have hsome:=ho
  cases eq_of_beq hsw
  refine Assign_Tuple_swapped (hI Λ sc env ρ e hE E σ s st _ iv V (Po.seq nx H fun d st₁ σ₁ h₁ tk₁ v f₁ k₁ i₁ r₁ H₁=>?_)) hs (by rw[n9 hE.scope];exact hsome)
  refine eo (Bb (A:=A) hE hd i₁ (V.step (iv.sigma hE.loc) f₁ k₁) H₁ r₁) fun a vs n ee3 ho hl z=>?_
  subst ee3
  rw[hl,show vs.length=vs.toArray.size by simp]
  refine unpackItems_tuple hh ⟨_,ho,rfl,n,rfl⟩ fun h' hext=>?_
  have:=Ja hl z (h':=h') fun b o e=>hext b o (fun q=>by rw[q,an]at e;(first|subst e|contradiction|(injection e with e;subst e)|cases e)) e
  simpa using this
end
section
variable {W:Wd} {A:Around} {Λ σ:List Addr} {E:Value→Shared→Prop} {s:Shared} {st:Sto} {sc:Scope} {env:Env} {ρ:En}
theorem Po.sub{α α' β β':Type}{Λ' σ₁:List Addr}{s₁:Shared}{X X':Addr→Prop}{Rel:List Addr→Heap→β→α→Prop}{Rel':List Addr→Heap→β'→α'→Prop}{E':Value→Shared→Prop}{r:Out α}{f:α→Sto→Out α'}{Q':β'→Shared→Prop}{Q:β→Shared→Prop}
 (H:Po W Λ X' Rel' E σ₁ s₁ (r.quiet.bind f) Q')
 (k:∀a st' σ' h' tk b,Fresh σ σ' s.heap→Kp (fun x=>x∈σ∨X x) s.heap h'→Inv W σ' Λ' h' st'→Rel σ' h' b a→Po W Λ X' Rel' E σ₁ s₁ (f a st') Q'→Q b { s with heap:=h',toks:=tk }):
 Po W Λ' X Rel E' σ s r Q:=by
 induction r using Out.casesOn with
 |ok a st'=>intro σ' h' tk b f1 k1 i1 r1;exact k a st' σ' h' tk b f1 k1 i1 r1 H
 |exc x st'=>exact H.elim
 |stuck=>exact H.elim
theorem Po.subE{α α' β β':Type}{Λ' σ₁:List Addr}{s₁:Shared}{X X':Addr→Prop}{Rel:List Addr→Heap→β→α→Prop}{Rel':List Addr→Heap→β'→α'→Prop}{E E':Value→Shared→Prop}{r:Out α}{f:α→Sto→Out α'}{Q':β'→Shared→Prop}{Q:β→Shared→Prop}
 (H:Po W Λ X' Rel' E σ₁ s₁ (r.bind f) Q')
 (kx:∀x st' σ' hr h' tk e,Fresh σ σ' s.heap→Kp (fun x=>x∈σ∨X x) s.heap hr→Inv W σ' (e::Λ') hr st'→s.heap.get? e=none→Q9 W (Bad σ' Λ') hr h' e x→Po W Λ X' Rel' E σ₁ s₁ (.exc x st') Q'→E' (.ref e) { s with heap:=h',toks:=tk })
 (k:∀a st' σ' h' tk b,Fresh σ σ' s.heap→Kp (fun x=>x∈σ∨X x) s.heap h'→Inv W σ' Λ' h' st'→Rel σ' h' b a→Po W Λ X' Rel' E σ₁ s₁ (f a st') Q'→Q b { s with heap:=h',toks:=tk }):
 Po W Λ' X Rel E' σ s r Q:=by
 induction r using Out.casesOn with
 |ok a st'=>intro σ' h' tk b f1 k1 i1 r1;exact k a st' σ' h' tk b f1 k1 i1 r1 H
 |exc x st'=>intro σ' hr h' tk e f k i n x';exact kx x st' σ' hr h' tk e f k i n x' H
 |stuck=>exact H.elim
theorem wz{I:In}(hE:EnvOk W.tabs Λ sc env)(hcl:ji A W env)(hT:IT W A I)(hS:IS W A I){c:PySem.Expr}{b:List Stmt}{Q:Flow→Shared→Prop}{N:Nat}
 (iv:Inv W σ Λ s.heap st) (V:Vars Λ sc env ρ σ s.heap)
 (H:Po W Λ (XL env) (ck Λ sc env) E σ s (fj (fun ρ st=>I.tt sc ρ c st) (fun ρ st=>exs (fun ρ=>I.st sc ρ) b ρ st) N ρ st) Q):
 codeAny (model W.prog W.w) A (.whileLoop c b [] env) (fun r s'=>match r with|.ok f=>Q f s'|.error e=>cameBackBy (model W.prog W.w) A env E e s') s:=by
 refine codeAny_whileLoop (fun k s₁=>∃ρ₁ σ₁ st₁,Inv W σ₁ Λ s₁.heap st₁∧Vars Λ sc env ρ₁ σ₁ s₁.heap∧
  Po W Λ (XL env) (ck Λ sc env) E σ₁ s₁ (fj (fun ρ st=>I.tt sc ρ c st) (fun ρ st=>exs (fun ρ=>I.st sc ρ) b ρ st) k ρ₁ st₁) Q) (fun k s₁ hI=>?_) N ⟨ρ,σ,st,iv,V,H⟩
 refine y6 hI fun ρ₁ σ₁ st₁ iv₁ V₁ H₁=>?_
 cases k with
 |zero=>exact H₁.elim
 |succ k=>
  rw[wf]at H₁
  have nx:∀a,NoX a→XL env a:=fun a q=>q.elim
  refine hT Λ sc env ρ₁ c hE _ σ₁ s₁ st₁ _ iv₁ V₁ (Po.quiet nx H₁ fun t st₂ σ₂ h₂ tk₂ v f₂ k₂ i₂ r₂ H₂=>?_)
  have r₂:v=t:=r₂
  subst r₂
  have V₂:=V₁.step (iv₁.sigma hE.loc) f₂ k₂
  cases v with
  |false=>exact wpAny_execs_nil (Po.now (tk:=tk₂) (b:=Flow.next) H₂ i₂ ⟨trivial,V₂⟩)
  |true=>
   rw[if_pos rfl]at H₂ ⊢
   refine ff hE hcl hS b ρ₁ _ σ₂ _ st₂ _ i₂ V₂ (Po.quiet (fun o_ q=>q) H₂ fun p st₃ σ₃ h₃ tk₃ f f₃ k₃ i₃ r₃ H₃=>?_)
   obtain⟨fl,ρ₃⟩:=p
   obtain⟨r₃,V₃⟩:=r₃
   cases fl with
   |next=>
    cases f with
    |next=>exact⟨k,Nat.lt_succ_self _,ρ₃,σ₃,st₃,i₃,V₃,H₃⟩
    |_=>exact r₃.elim
   |brk=>
    cases f with
    |brk=>exact Po.now (tk:=tk₃) (b:=Flow.next) H₃ i₃ ⟨trivial,V₃⟩
    |_=>exact r₃.elim
   |cont=>
    cases f with
    |cont=>exact⟨k,Nat.lt_succ_self _,ρ₃,σ₃,st₃,i₃,V₃,H₃⟩
    |_=>exact r₃.elim
   |ret d=>
    cases f with
    |ret v=>exact Po.now (tk:=tk₃) (b:=Flow.ret v) H₃ i₃ ⟨r₃,V₃⟩
    |_=>exact r₃.elim
noncomputable def XOff(Ls:List Addr)(h h':Heap):Prop:=∀b o,b∉Ls→h.get? b=some o→h'.get? b=some o
theorem XOff.of{a:Addr}{h h':Heap}(x:Heap.ExtBut a h h'):XOff [a] h h':=fun b o q e=>x b o (fun z=>q (z▸.head _)) e
theorem XOff.trans{a b:List Addr}{h h' h'':Heap}(x:XOff a h h')(y:XOff b h' h''):XOff (b++a) h h'':=fun c o q e=>y c o (fun z=>q (List.mem_append_left _ z)) (x c o (fun z=>q (List.mem_append_right _ z)) e)
theorem Kp.fins{W:Addr→Prop}{h h' h'':Heap}{Ls:List Addr}(k:Kp W h h')(n:∀a∈Ls,h.get? a=Option.none)(x:XOff Ls h' h''):Kp W h h'':=fun b o e=>by
 have q:b∉Ls:=fun q=>by rw[n b q]at e;contradiction
 obtain⟨o',e'⟩:=(k b o e).2
 exact⟨fun w=>(k.at e w).trans fun o'' q'=>.inl (x b o'' q q'),o',x b o' q e'⟩
theorem Inv.perm{h:Heap}{Λ':List Addr}(I:Inv W σ Λ h st)(m:∀a,a∈Λ'↔a∈Λ):Inv W σ Λ' h st:=by
 refine⟨I.keep,fun a q=>I.new a (q.elim .inl fun z=>.inr ((m a).mp z)),⟨I.store.1,I.store.2.1,fun i a l e1 e2=>?_⟩,fun a ha q=>I.apart a ha ((m a).mp q),fun a q=>⟨(m a).mpr (I.dic a q).1,(I.dic a q).2⟩,fun q hq=>(I.tab q hq).move (fun b o e nb=>⟨.inl e,fun z=>nb (z.elim .inl fun z=>.inr ((m b).mp z))⟩) fun o_ o_ e o_ o_=>e⟩
 refine bq (I.store.2.2 i a l e1 e2) fun vs q r z=>?_
 exact⟨vs,q,r.mono fun b o e nb=>⟨.inl e,fun z=>nb (z.elim .inl fun z=>.inr ((m b).mp z))⟩,z⟩
theorem Inv.drop{h h':Heap}{Ls:List Addr}(I:Inv W σ (Ls++Λ) h st)(hn:∀a∈Ls,a∉Λ)(hf:∀a∈Ls,a∉W.fr)(x:XOff Ls h h'):Inv W σ Λ h' st:=by
 have ne:∀b,Bad σ Λ b→b∉Ls:=fun b q e=>by
  rcases q with q|q
  ·exact I.apart b q (List.mem_append_left _ e)
  ·exact hn b e q
 have up:∀b,Bad σ Λ b→Bad σ (Ls++Λ) b:=fun b q=>q.elim .inl fun q=>.inr (List.mem_append_right _ q)
 have mv:∀b o,h.get? b=some o→¬Bad σ (Ls++Λ) b→At h' b o∧¬Bad σ Λ b:=fun b o e n=>⟨.inl<|x b o (fun q=>n (.inr (List.mem_append_left _ q))) e,fun q=>n (up b q)⟩
 refine⟨fun b o e=>x b o (fun q=>?_) (I.keep b o e),fun b q=>⟨(I.new b (up b q)).1,?_⟩,⟨I.store.1,I.store.2.1,fun i b l e1 e2=>?_⟩,fun b hb q=>I.apart b hb (List.mem_append_right _ q),fun b q=>⟨(List.mem_append.mp (I.dic b q).1).elim (fun z=>absurd q (hf b z)) id,n8 (I.dic b q).2 fun o e=>.inl (x b o (fun z=>hf b z q) e)⟩,fun q hq=>(I.tab q hq).move mv fun b o e nb o_=>x b o (fun q=>nb (.inr (List.mem_append_left _ q))) e⟩
 ·exact absurd (Heap.lt_size e) (Nat.not_lt.mpr (I.new b (.inr (List.mem_append_left _ q))).1)
 ·obtain⟨o,e⟩:=(I.new b (up b q)).2
  exact⟨o,x b o (ne b q) e⟩
 ·refine bq (I.store.2.2 i b l e1 e2) fun vs q r z=>?_
  exact⟨vs,q.at fun o e=>x b o (ne b (.inl (List.mem_of_getElem? e1))) e,r.mono mv,z⟩
theorem Vars.drop{h h':Heap}{Ls:List Addr}(V:Vars (Ls++Λ) sc env ρ σ h)(hl:env.locals∉Ls)(hc:∀x c,env.cells.lookup x=some c→c∉Ls)(x:XOff Ls h h'):Vars Λ sc env ρ σ h':=
 V.mono (fun b o e n=>⟨.inl (x b o (fun q=>n (.inr (List.mem_append_left _ q))) e),fun q=>n (q.elim .inl fun q=>.inr (List.mem_append_right _ q))⟩) fun b o e q=>.inl<|x b o (fun z=>by
  rcases q with q|⟨y,q⟩
  ·exact hl (q▸z)
  ·exact hc y b q z) e
theorem Inv.turn{h h':Heap}(I:Inv W σ Λ h st)(k:Kp (fun a=>a∈Λ) h h')(hb:∀b o,W.base.get? b=some o→h'.get? b=some o)(hf:∀a∈W.fr,∀o,h.get? a=some o→At h' a o)(ht:∀b o,h.get? b=some o→¬Bad σ Λ b→h'.get? b=some o):Inv W σ Λ h' st:=by
 have kb:Kp (Bad σ Λ) h h':=k.weak fun a q=>.inr q
 refine⟨hb,fun b q=>⟨(I.new b q).1,?_⟩,⟨I.store.1,I.store.2.1,fun i b l e1 e2=>?_⟩,I.apart,fun b q=>⟨(I.dic b q).1,n8 (I.dic b q).2 (hf b q)⟩,fun q hq=>(I.tab q hq).move (fun b o e nb=>⟨k.at e fun w=>nb (.inr w),nb⟩) fun b o e nb o_=>ht b o e nb⟩
 ·obtain⟨o,e⟩:=(I.new b q).2
  exact(k b o e).2
 ·refine bq (I.store.2.2 i b l e1 e2) fun vs q r z=>?_
  obtain⟨n,e⟩:=q
  exact⟨vs,⟨n,(k.at e fun w=>I.apart b (List.mem_of_getElem? e1) w).ndb rfl⟩,r.step Fresh.refl kb,z⟩
theorem EnvOk.lam(hE:EnvOk W.tabs Λ sc env)(a:Addr):EnvOk W.tabs (a::Λ) sc env:=⟨hE.kind,hE.scope,hE.globals,hE.builtins,.tail _ hE.loc,fun x c e=>.tail _ (hE.cin x c e),hE.cells,hE.inj,hE.cd⟩
theorem C8{t:PySem.Expr}{x:V}{ρ ρ':En}(h:Ng sc t x ρ=some ρ'):∃n p,t=.Name n p∧je sc n=true∧ρ'=dg n (.v x) ρ:=by
 refine ao h fun n hn h=>gf h fun hx h'=>?_
 obtain⟨p,e⟩:=cz hn
 exact⟨n,p,e,hx,(Option.some.inj h').symm⟩
noncomputable abbrev ItS:=(Addr→Prop)→Heap→List V→Prop
structure Itr (W:Wd) (A:Around) (Ls:List Addr) (S:ItS) (it₀:Addr) (t:PySem.Expr) (sc:Scope) (env:Env) (put:V→En→Option En):Prop where
 mono:∀{B B':Addr→Prop} {h h':Heap} {l:List V},S B h l→(∀a o,h.get? a=some o→¬B a→At h' a o∧¬B' a)→(∀a∈Ls,∀o,h.get? a=some o→At h' a o)→S B' h' l
 self:∀{B:Addr→Prop} {s:Shared} {l:List V} {E:Value→Shared→Prop} {Q:Value→Shared→Prop},S B s.heap l→Q (.ref it₀) s→wpAny (model W.prog W.w) A (pyIter (.ref it₀)) Q E s
 fin:∀{Λ σ:List Addr} {s:Shared} {E:Value→Shared→Prop} {Q:Option Value→Shared→Prop},A.handled=none→(∀a∈Ls,a∈Λ)→S (Bad σ Λ) s.heap []→(∀h',XOff Ls s.heap h'→Q none { s with heap:=h' })→wpAny (model W.prog W.w) A (pyNext (.ref it₀)) Q E s
 next:∀{Λ σ:List Addr} {s:Shared} {st:Sto} {ρ ρ₃:En} {x:V} {l:List V} {E:Value→Shared→Prop} {Q:Unit→Shared→Prop},A.handled=none→EnvOk W.tabs Λ sc env→(∀a∈Ls,a∈Λ∧a∉W.fr)→env.locals∉Ls→(∀x c,env.cells.lookup x=some c→c∉Ls)→Inv W σ Λ s.heap st→S (Bad σ Λ) s.heap (x::l)→Vars Λ sc env ρ σ s.heap→put x ρ=some ρ₃→
  (∀h' tk,Inv W σ Λ h' st→S (Bad σ Λ) h' l→Kp (fun a=>a∈Ls∨XN sc env (qa t) a) s.heap h'→Vars Λ sc env ρ₃ σ h'→Q () { s with heap:=h',toks:=tk })→
  wpAny (model W.prog W.w) A (pyNext (.ref it₀)) (fun r s₁=>match r with
   |none=>False
   |some v=>wpAny (model W.prog W.w) A (letOwnedTupleGo t (.ref it₀) v) (fun o_ s₁'=>wpAny (model W.prog W.w) A (assign t env v) Q E s₁') E s₁) E s
structure Fst (W:Wd) (Λ σ₁:List Addr) (h₁:Heap) (Ls:List Addr) (S:ItS) (sc:Scope) (env:Env) (h:Heap) (σ:List Addr) (st:Sto) (ρ:En) (l:List V):Prop where
 fr:Fresh σ₁ σ h₁
 kp:Kp (fun x=>x∈σ₁∨XL env x) h₁ h
 iv:Inv W σ (Ls++Λ) h st
 it:S (Bad σ (Ls++Λ)) h l
 vr:Vars (Ls++Λ) sc env ρ σ h
structure Fit0 (W:Wd) (Λ:List Addr) (h₁:Heap) (Ls:List Addr) (env:Env):Prop where
 no:∀a∈Ls,h₁.get? a=none
 nl:∀a∈Ls,a∉Λ
 fr:∀a∈Ls,a∉W.fr
 lo:env.locals∉Ls
 ce:∀x c,env.cells.lookup x=some c→c∉Ls
theorem Fit0.of{h₁:Heap}{Ls:List Addr}{st₁:Sto}{σ₁:List Addr}(hE:EnvOk W.tabs Λ sc env)(i:Inv W σ₁ Λ h₁ st₁)(n:∀a∈Ls,h₁.get? a=none):Fit0 W Λ h₁ Ls env:=
 have nl:∀a∈Ls,a∉Λ:=fun a ha q=>by
  obtain⟨o,e⟩:=(i.new a (.inr q)).2
  rw[n a ha]at e;contradiction
 ⟨n,nl,fun a ha=>i.nfr (n a ha),fun q=>nl _ q hE.loc,fun x c e q=>nl c q (hE.cin x c e)⟩
theorem EnvOk.ups(hE:EnvOk W.tabs Λ sc env):∀(Ls:List Addr),EnvOk W.tabs (Ls++Λ) sc env
 |[]=>hE
 |a::Ls=>(hE.ups Ls).lam a
theorem Ma{h:Heap}{Ls:List Addr}:∀b o,h.get? b=some o→¬Bad σ (Ls++Λ) b→At h b o∧¬Bad σ Λ b:=fun o_ o_ e n=>⟨.inl e,fun q=>n (q.elim .inl fun q=>.inr (List.mem_append_right _ q))⟩
theorem Inv.ups{h:Heap}:∀{Ls:List Addr},Inv W σ (Ls++Λ) h st→(∀a∈Ls,a∉W.fr)→Inv W σ Λ h st
 |[],I,_=>I
 |a::Ls,I,hf=>Inv.ups (Ls:=Ls) (Inv.unlam (a:=a) I (hf a (.head _))) fun b hb=>hf b (.tail _ hb)
theorem Vars.ups{h:Heap}{Ls:List Addr}(V:Vars (Ls++Λ) sc env ρ σ h):Vars Λ sc env ρ σ h:=V.mono Ma fun o_ o_ e o_=>.inl e
noncomputable def Fa(W:Wd)(Λ:List Addr)(E:Value→Shared→Prop)(Q:Flow→Shared→Prop)(σ₁:List Addr)(s:Shared)(h₁:Heap)(tk₁:Nat)(Ls:List Addr)(S:ItS)(sc:Scope)(env:Env)(L:List V→En→Sto→Out (Fl×En))(k:Nat)(s₂:Shared):Prop:=
 ∃h₂ tk₂ l₂ ρ₂ σ₂ st₂,s₂={ s with heap:=h₂,toks:=tk₂ }∧k=List.length (α:=Mine.V) l₂∧Fst W Λ σ₁ h₁ Ls S sc env h₂ σ₂ st₂ ρ₂ l₂∧Po W Λ (XL env) (ck Λ sc env) E σ₁ { s with heap:=h₁,toks:=tk₁ } (L l₂ ρ₂ st₂) Q
section
variable {I:In} {σ₁:List Addr} {h₁:Heap} {tk₁:Nat} {it₀:Addr} {Ls:List Addr} {S:ItS} {put:V→En→Option En} {Q:Flow→Shared→Prop} {t:PySem.Expr} {b:List Stmt}
theorem Tv{h₄ h₅:Heap}{σ₂ σ₅:List Addr}{st₂ st₅:Sto}{ρ₂ ρ₅:En}{l₂:List V}(J:Itr W A Ls S it₀ t sc env put)(F:Fit0 W Λ h₁ Ls env)(hE:EnvOk W.tabs Λ sc env)(c:Fst W Λ σ₁ h₁ Ls S sc env h₄ σ₂ st₂ ρ₂ l₂)(f₅:Fresh σ₂ σ₅ h₄)(k₅:Kp (fun x=>x∈σ₂∨XL env x) h₄ h₅)(i₅:Inv W σ₅ (Ls++Λ) h₅ st₅)(V₅:Vars (Ls++Λ) sc env ρ₅ σ₅ h₅):Fst W Λ σ₁ h₁ Ls S sc env h₅ σ₅ st₅ ρ₅ l₂:=
 ⟨c.fr.trans f₅ c.kp,c.kp.trans k₅ fun a al q=>q.elim (fun q=>.inl (al.elim fun o_ e=>c.fr.low e q)) .inr,i₅,J.mono c.it (fun b o e nb=>⟨k₅.at e fun q=>nb (by
  rcases q with q|q|⟨y,q⟩
  ·exact .inl q
  ·rw[q];exact .inr (List.mem_append_right _ hE.loc)
  ·exact .inr (List.mem_append_right _ (hE.cin y b q))),fun q=>nb (q.elim (fun q=>.inl (f₅.low e q)) .inr)⟩) (fun a ha o e=>k₅.at e fun q=>by
  rcases q with q|q|⟨y,q⟩
  ·exact c.iv.apart _ q (List.mem_append_left _ ha)
  ·exact F.lo (q▸ha)
  ·exact F.ce y _ q ha),V₅⟩
noncomputable def Mb(W:Wd)(A:Around)(E:Value→Shared→Prop)(Q:Flow→Shared→Prop)(env:Env)(b:List Stmt)(J:Nat→Shared→Prop)(n:Nat)(s₂:Shared):Prop:=
 wpAny (model W.prog W.w) A (execs b env) (fun f s₃=>match f with
         |.next|.cont=>∃m,m<n∧J m s₃
         |.brk=>Q .next s₃
         |.ret v=>Q (.ret v) s₃) (notedBy (model W.prog W.w) A env fun e s'=>cameBackBy (model W.prog W.w) A env E e s') s₂
noncomputable def Mc(W:Wd)(A:Around)(E:Value→Shared→Prop)(Q:Flow→Shared→Prop)(it₀:Addr)(env:Env)(t:PySem.Expr)(b:List Stmt)(J:Nat→Shared→Prop)(n:Nat)(s:Shared):Prop:=
 wpAny (model W.prog W.w) A (pyNext (.ref it₀)) (fun r s₁=>match r with
  |none=>wpAny (model W.prog W.w) A (execs [] env) (fun f s₃=>Q f s₃) (notedBy (model W.prog W.w) A env fun e s'=>cameBackBy (model W.prog W.w) A env E e s') s₁
  |some v=>wpAny (model W.prog W.w) A (letOwnedTupleGo t (.ref it₀) v) (fun o_ s₁'=>
    wpAny (model W.prog W.w) A (assign t env v) (fun o_ s₂=>Mb W A E Q env b J n s₂) (notedBy (model W.prog W.w) A env fun e s'=>cameBackBy (model W.prog W.w) A env E e s') s₁') (notedBy (model W.prog W.w) A env fun e s'=>cameBackBy (model W.prog W.w) A env E e s') s₁) (notedBy (model W.prog W.w) A env fun e s'=>cameBackBy (model W.prog W.w) A env E e s') s
theorem Nz{h₄:Heap}{tk₄:Nat}{σ₂:List Addr}{st₂:Sto}{ρ₂:En}{l₂:List V}{n:Nat}(J:Itr W A Ls S it₀ t sc env put)(hn:l₂.length<n)(hE:EnvOk W.tabs Λ sc env)(hcl:ji A W env)(hS:IS W A I)(F:Fit0 W Λ h₁ Ls env)(c:Fst W Λ σ₁ h₁ Ls S sc env h₄ σ₂ st₂ ρ₂ l₂)
 (H:Po W Λ (XL env) (ck Λ sc env) E σ₁ { s with heap:=h₁,toks:=tk₁ } ((exs (fun ρ=>I.st sc ρ) b ρ₂ st₂).bind fun p st=>match p.1 with
   |.next=>fz put (fun ρ st=>exs (fun ρ=>I.st sc ρ) b ρ st) l₂ p.2 st
   |.cont=>fz put (fun ρ st=>exs (fun ρ=>I.st sc ρ) b ρ st) l₂ p.2 st
   |.brk=>.ok (.next,p.2) st
   |.ret d=>.ok (.ret d,p.2) st) Q):
 wpAny (model W.prog W.w) A (execs b env) (fun f s₃=>match f with
         |.next|.cont=>∃m,m<n∧Fa W Λ E Q σ₁ s h₁ tk₁ Ls S sc env (fz put fun ρ st=>exs (fun ρ=>I.st sc ρ) b ρ st) m s₃
         |.brk=>Q .next s₃
         |.ret v=>Q (.ret v) s₃) (notedBy (model W.prog W.w) A env fun e s'=>cameBackBy (model W.prog W.w) A env E e s') { s with heap:=h₄,toks:=tk₄ }:=by
 refine ff (hE.ups Ls) hcl hS b _ _ σ₂ _ st₂ _ c.iv c.vr (Po.subE H (fun x st' σ' hr h' tk e f k i n x'=>?_) fun p₅ st₅ σ₅ h₅ tk₅ f f₅ k₅ i₅ r₅ H₅=>?_)
 ·induction x using Mine.V.casesOn with
  |inst xc ns l=>
   refine em hcl fun outer L t1 t2 t3=>?_
   have x':Flown W (Bad σ' (Ls++Λ)) hr h' e xc ns l:=x'
   have kk:Kp (fun x=>x∈σ₁∨XL env x) h₁ hr:=c.kp.trans k fun a al q=>q.elim (fun q=>.inl (al.elim fun o_ e=>c.fr.low e q)) .inr
   exact fun H₅=>zf (s:={ s with heap:=h',toks:=tk }) t1 t2 t3 i x' fun h'' F'=>H₅ σ' hr h'' tk e (c.fr.trans f c.kp) kk (Inv.ups (Ls:=Ls) (i.perm fun a=>(List.perm_middle (l₁:=Ls)).mem_iff) F.fr) (c.kp.none n) (F'.weak fun a q=>q.elim .inl fun q=>.inr (List.mem_append_right _ q))
  |_=>exact x'.elim
 obtain⟨fl,ρ₅⟩:=p₅
 obtain⟨r₅,V₅⟩:=r₅
 have c₅:=Tv J F hE c f₅ k₅ i₅ V₅
 cases fl with
 |next=>
  cases f with
  |next=>exact⟨l₂.length,hn,h₅,tk₅,l₂,ρ₅,σ₅,st₅,rfl,rfl,c₅,H₅⟩
  |_=>exact r₅.elim
 |brk=>
  cases f with
  |brk=>exact H₅ σ₅ h₅ tk₅ .next c₅.fr c₅.kp (i₅.ups F.fr) ⟨trivial,V₅.ups⟩
  |_=>exact r₅.elim
 |cont=>
  cases f with
  |cont=>exact⟨l₂.length,hn,h₅,tk₅,l₂,ρ₅,σ₅,st₅,rfl,rfl,c₅,H₅⟩
  |_=>exact r₅.elim
 |ret d=>
  cases f with
  |ret v=>exact H₅ σ₅ h₅ tk₅ (.ret v) c₅.fr c₅.kp (i₅.ups F.fr) ⟨RepD.mono Ma r₅,V₅.ups⟩
  |_=>exact r₅.elim
theorem N0{h₂:Heap}{tk₂:Nat}{σ₂:List Addr}{st₂:Sto}{ρ₂:En}{l₂:List V}(J:Itr W A Ls S it₀ t sc env put)(hh:A.handled=none)(hE:EnvOk W.tabs Λ sc env)(hcl:ji A W env)(hS:IS W A I)(F:Fit0 W Λ h₁ Ls env)(c:Fst W Λ σ₁ h₁ Ls S sc env h₂ σ₂ st₂ ρ₂ l₂)
 (H:Po W Λ (XL env) (ck Λ sc env) E σ₁ { s with heap:=h₁,toks:=tk₁ } (fz put (fun ρ st=>exs (fun ρ=>I.st sc ρ) b ρ st) l₂ ρ₂ st₂) Q):
 Mc W A E Q it₀ env t b (Fa W Λ E Q σ₁ s h₁ tk₁ Ls S sc env (fz put fun ρ st=>exs (fun ρ=>I.st sc ρ) b ρ st)) l₂.length { s with heap:=h₂,toks:=tk₂ }:=by
 induction l₂ using List.casesOn with
 |nil=>exact J.fin hh (fun a ha=>List.mem_append_left _ ha) c.it fun h' hx=>wpAny_execs_nil (H σ₂ h' tk₂ .next c.fr (c.kp.fins F.no hx) (c.iv.drop F.nl F.fr hx) ⟨trivial,c.vr.drop F.lo F.ce hx⟩)
 |cons x l₂=>
  rw[Eg]at H
  generalize hput:put x ρ₂=zz at H
  induction zz using Option.casesOn with
  |none=>exact H.elim
  |some ρ₃=>
   refine wpAny_mono (J.next (st:=st₂) (Q:=fun o_ s₂=>Mb W A E Q env b (Fa W Λ E Q σ₁ s h₁ tk₁ Ls S sc env (fz put fun ρ st=>exs (fun ρ=>I.st sc ρ) b ρ st)) (l₂.length+1) s₂) hh (hE.ups Ls) (fun a ha=>⟨List.mem_append_left _ ha,F.fr a ha⟩) F.lo F.ce c.iv c.it c.vr hput fun h₄ tk₄ i₄ it₄ k₄ V₄=>Nz (tk₄:=tk₄) J (Nat.lt_succ_self _) hE hcl hS F ⟨c.fr,c.kp.trans k₄ fun a al q=>q.elim (fun q=>by
    obtain⟨o,e⟩:=al
    rw[F.no a q]at e;contradiction) fun q=>.inr q.xl,i₄,it₄,V₄⟩ H) (fun r s₁ z=>?_) fun o_ o_ z=>z
   induction r using Option.casesOn with
   |none=>exact z.elim
   |some v=>exact z
theorem N3{l:List V}{h₂:Heap}{tk₂:Nat}{st₁:Sto}(J:Itr W A Ls S it₀ t sc env put)(hh:A.handled=none)(hE:EnvOk W.tabs Λ sc env)(hcl:ji A W env)(hS:IS W A I)(F:Fit0 W Λ h₁ Ls env)(c:Fst W Λ σ₁ h₁ Ls S sc env h₂ σ₁ st₁ ρ l)
 (H:Po W Λ (XL env) (ck Λ sc env) E σ₁ { s with heap:=h₁,toks:=tk₁ } (fz put (fun ρ st=>exs (fun ρ=>I.st sc ρ) b ρ st) l ρ st₁) Q):
 codeAny (model W.prog W.w) A (.forLoop t (.ref it₀) b [] env) (fun r s'=>match r with|.ok f=>Q f s'|.error e=>cameBackBy (model W.prog W.w) A env E e s') { s with heap:=h₂,toks:=tk₂ }:=by
 refine codeAny_forLoop_any (Fa W Λ E Q σ₁ s h₁ tk₁ Ls S sc env (fz put fun ρ st=>exs (fun ρ=>I.st sc ρ) b ρ st)) (fun k s₂ hI2=>?_) l.length ⟨_,_,l,ρ,σ₁,st₁,rfl,rfl,c,H⟩
 show Mc W A E Q it₀ env t b (Fa W Λ E Q σ₁ s h₁ tk₁ Ls S sc env (fz put fun ρ st=>exs (fun ρ=>I.st sc ρ) b ρ st)) k s₂
 refine Nt hI2 fun h₂ tk₂ l₂ ρ₂ σ₂ st₂ ee6 ee7 c H₂=>?_
 subst ee6
 subst ee7
 exact N0 J hh hE hcl hS F c H₂
end
theorem C9{it:PySem.Expr}(h:ct it=false)(x:Value):foldedSetIterable it env x=pure x:=by
 cases it<;>first|rfl|contradiction
theorem Jb{B:Addr→Prop}{it:Addr}{l:List V}{Q:Value→Shared→Prop}(I:ItSt B s.heap it l)(q:Q (.ref it) s):wpAny (model W.prog W.w) A (pyIter (.ref it)) Q E s:=by
 rcases I with⟨a,vs,i,h1,_⟩|⟨a,vs,i,h1,_⟩|⟨x',left,h1,_⟩
 ·exact wpAny_pyIter_listiter h1 q
 ·exact wpAny_pyIter_tupleiter h1 q
 ·exact wpAny_pyIter_rangeiter h1 q
set_option tactic.hygienic true in
theorem Jc{it₀:Addr}{t:PySem.Expr}:Itr W A [it₀] (fun B h l=>ItSt B h it₀ l) it₀ t sc env (Ng sc t) where
 mono I k ki:=I.mono k (ki it₀ (.head _))
 self I q:=Jb I q
 fin hh _ I q:=Ny hh I fun h' hx=>q h' (.of hx)
 next:=fun {Λ σ s st ρ ρ₃ x l E Q} hh hE hL hlo hce iv I V hput q=>by
  refine em (C8 hput) fun n p ee2 hn ee4=>?_
  subst ee2
  subst ee4
  refine I7 (hL _ (.head _)).1 I fun h₃ tk₃ v₃ hs₃ al₃ r₃ hit₃=>al₃.elim fun o₃ al₃=>?_
  have kp₃:Kp (fun x=>x=it₀) s.heap h₃:=Kp.same hs₃ rfl al₃
  have i₃:Inv W σ Λ h₃ st:=iv.touch hs₃ (hL _ (.head _)).1 al₃ fun q=>absurd q (hL _ (.head _)).2
  have V₃:Vars Λ sc env ρ σ h₃:=V.mono (fun b o e nb=>⟨kp₃.at e fun q=>nb (.inr (q▸(hL _ (.head _)).1)),nb⟩) fun b o e q=>kp₃.at e fun q'=>by
   rcases q with q|⟨y,q⟩
   ·exact hlo (List.mem_singleton.mpr (q.symm.trans q'))
   ·exact hce y b q (List.mem_singleton.mpr q')
  refine wpAny_pure (wpAny_assign_Name (gq (d:=.v x) hE i₃ V₃ hn r₃ fun h₄ tk₄ i₄ k₄ V₄=>q h₄ tk₄ i₄ ?_ ?_ V₄))
  ·exact hit₃.mono (fun b o e nb=>⟨k₄.at e fun q=>nb (.inr (q.lam hE)),nb⟩) fun o e=>k₄.at e fun q=>by
    rcases q.xl with q|⟨y,q⟩
    ·exact hlo (List.mem_singleton.mpr q.symm)
    ·exact hce y _ q (.head _)
  ·exact(kp₃.weak fun a q=>.inl (List.mem_singleton.mpr q)).trans (k₄.weak fun a q=>.inr q) fun a o_ q=>q
end
section
variable {W:Wd} {A:Around} {Λ σ:List Addr} {E:Value→Shared→Prop} {s:Shared} {st:Sto} {sc:Scope} {env:Env} {ρ:En}
theorem jo{base h:Heap}(hb:base.objs.size≤h.objs.size){a:Addr}(ha:h.objs.size≤a):base.get? a=none:=by
 generalize q:base.get? a=zz
 induction zz using Option.casesOn with
 |none=>rfl
 |some o=>exact absurd (Heap.lt_size q) (Nat.not_lt.mpr (Nat.le_trans hb ha))
theorem Inv.lams{h h':Heap}{N:List Addr}(I:Inv W σ Λ h st)(k:∀b o,h.get? b=some o→h'.get? b=some o)(hN:∀a∈N,h.get? a=none∧W.base.objs.size≤a∧∃o,h'.get? a=some o):Inv W σ (N++Λ) h' st:=by
 have mv:∀b o,h.get? b=some o→¬Bad σ Λ b→At h' b o∧¬Bad σ (N++Λ) b:=fun b o e nb=>⟨.inl (k b o e),fun q=>q.elim (fun q=>nb (.inl q)) fun q=>(List.mem_append.mp q).elim (fun z=>by
  rw[(hN b z).1]at e;contradiction) fun z=>nb (.inr z)⟩
 have I':=I.grow k
 refine⟨I'.keep,fun b q=>?_,⟨I.store.1,I.store.2.1,fun i b l e1 e2=>?_⟩,fun b hb q=>?_,fun b q=>⟨List.mem_append_right _ (I.dic b q).1,(I'.dic b q).2⟩,fun q hq=>(I.tab q hq).move mv fun b o e o_ o_=>k b o e⟩
 ·rcases q with q|q
  ·exact I'.new b (.inl q)
  ·rcases List.mem_append.mp q with q|q
   ·exact(hN b q).2
   ·exact I'.new b (.inr q)
 ·refine bq (I.store.2.2 i b l e1 e2) fun vs q r z=>?_
  exact⟨vs,q.at fun o' e=>k _ _ e,r.mono mv,z⟩
 ·rcases List.mem_append.mp q with q|q
  ·obtain⟨o,e⟩:=(I.new b (.inl hb)).2
   rw[(hN b q).1]at e;contradiction
  ·exact I.apart b hb q
inductive EnSt (B:Addr→Prop) (h:Heap) (e it:Addr) (i:Nat) (l:List V):Prop
 |mk (a:Addr) (vs:List Value) (old:Value) (h1:IsEnum h e it (i:Int) old) (h2:h.IsListIter it a i) (h3:h.IsList a vs.toArray) (h4:¬B a) (h5:Reps B h (vs.drop i) l)
theorem EnSt.mono{B B':Addr→Prop}{h h':Heap}{e it:Addr}{i:Nat}{l:List V}(x:EnSt B h e it i l)(k:∀a o,h.get? a=some o→¬B a→At h' a o∧¬B' a)(ki:∀a∈[e,it],∀o,h.get? a=some o→At h' a o):EnSt B' h' e it i l:=by
 obtain⟨a,vs,old,h1,⟨o,ho,h2⟩,⟨o',ho',h3,h4,h5⟩,hb,r⟩:=x
 exact⟨a,vs,old,(ki e (.head _) _ h1).ndb rfl,⟨o,(ki it (.tail _ (.head _)) o ho).ndb (dq h2.2 h2.1 rfl),h2⟩,
  ⟨o',(k a o' ho' hb).1.ndb (dq h5 h3 rfl),h3,h4,h5⟩,(k a o' ho' hb).2,r.mono k⟩
theorem q5{i:Nat}{l:List V}(h:[]=m8 i l):l=[]:=by
 induction l using List.casesOn with
 |nil=>rfl
 |cons x r=>exact nomatch h
theorem nq{i:Nat}{x:V}{l r:List V}(h:x::r=m8 i l):∃y l',l=y::l'∧x=.tup [.int (i:Int),y]∧r=m8 (i+1) l':=by
 induction l using List.casesOn with
 |nil=>exact nomatch h
 |cons y l'=>
  injection h with h1 h2
  exact⟨y,l',rfl,h1,h2⟩
theorem Bd{t:PySem.Expr}{x:V}{ρ ρ':En}{l:List V}(h:yw sc t (.tup l) ρ=some ρ'):∃ts k tp xs,t=.Tuple ts k tp∧bg ts=some xs∧ai xs=true∧cm sc xs l ρ=some ρ':=by
 have v:∀t:PySem.Expr,((yw sc t (.tup l) ρ).isNone||Nat.beq t.ctorIdx 25)=true:=fun t=>by
  cases t with
  |Tuple ts k tp=>exact Bool.or_true _
  |_=>exact T1
 refine Expr.Tuple.elim (motive_1:=fun t=>yw sc t (.tup l) ρ=some ρ'→∃ts k tp xs,t=.Tuple ts k tp∧bg ts=some xs∧ai xs=true∧cm sc xs l ρ=some ρ') t (nf (v t) h) (fun ts k tp h=>?_) h
 unfold yw at h
 dsimp only at h
 generalize hx:bg ts=z at h
 induction z using Option.casesOn with
 |none=>cases h
 |some xs=>
  dsimp only at h
  by_cases hd:ai xs=true
  ·rw[if_pos hd]at h;exact⟨_,_,_,xs,rfl,hx,hd,h⟩
  ·rw[if_neg hd]at h;cases h
theorem tv{Ls:List Addr}{S:ItS}{ts:List PySem.Expr}{k:Nat}{tp:Pos}{xs:List Str}{ρ₃:En}{l2 l:List V}{T:Addr}{vs:List Value}{n:Nat}{h₂:Heap}{tk₂:Nat}{Q:Unit→Shared→Prop}
 (mono:∀{B B':Addr→Prop} {h h':Heap} {l:List V},S B h l→(∀a o,h.get? a=some o→¬B a→At h' a o∧¬B' a)→(∀a∈Ls,∀o,h.get? a=some o→At h' a o)→S B' h' l)
 (hh:A.handled=none) (hE:EnvOk W.tabs Λ sc env) (hL:∀a∈Ls,a∈Λ∧a∉W.fr) (hlo:env.locals∉Ls) (hce:∀x c,env.cells.lookup x=some c→c∉Ls) (iv:Inv W σ Λ s.heap st) (V:Vars Λ sc env ρ σ s.heap)
 (hxs:bg ts=some xs) (hd:ai xs=true) (hp:cm sc xs l2 ρ=some ρ₃) (ex:XOff Ls s.heap h₂) (al:∀a∈Ls,∃o,h₂.get? a=some o) (hT:h₂.get? T=some ({ cls:=.type "tuple",data:=.seq vs.toArray n }:Obj)) (hr:Reps (Bad σ Λ) h₂ vs l2) (hS:S (Bad σ Λ) h₂ l)
 (q:∀h' tk,Inv W σ Λ h' st→S (Bad σ Λ) h' l→Kp (fun a=>a∈Ls∨XN sc env (qa (.Tuple ts k tp)) a) s.heap h'→Vars Λ sc env ρ₃ σ h'→Q () { s with heap:=h',toks:=tk }):
 wpAny (model W.prog W.w) A (assign (.Tuple ts k tp) env (.ref T)) (fun o_=>Q ()) E { s with heap:=h₂,toks:=tk₂ }:=by
 have kp:Kp (fun b=>b∈Ls) s.heap h₂:=fun b o z=>by
  by_cases m:b∈Ls
  ·exact⟨fun n=>absurd m n,al b m⟩
  ·exact⟨fun o_=>.inl (ex b o m z),o,ex b o m z⟩
 have kL:Kp (fun b=>b∈Λ) s.heap h₂:=kp.weak fun b z=>(hL b z).1
 have off:∀b o,s.heap.get? b=some o→b∉Λ→h₂.get? b=some o:=fun b o z n=>ex b o (fun m=>n (hL b m).1) z
 have i₂:Inv W σ Λ h₂ st:=iv.turn kL (fun b o z=>off b o (iv.keep b o z) fun m=>absurd (Heap.lt_size z) (Nat.not_lt.mpr (iv.new b (.inr m)).1))
  (fun b hb o z=>.inl (ex b o (fun m=>(hL b m).2 hb) z)) fun b o z nb=>off b o z fun m=>nb (.inr m)
 have V₂:Vars Λ sc env ρ σ h₂:=V.mono (fun b o z nb=>⟨kL.at z fun w=>nb (.inr w),nb⟩) fun b o z w=>kp.at z fun w'=>by
  rcases w with w|⟨y,w⟩
  ·exact hlo (w▸w')
  ·exact hce y b w w'
 have sm:=Ba (s:=s) (A:=A) (E:=E) (Q:=fun o_=>Q ()) (tk₁:=tk₂) hE hd i₂ V₂ hp hr fun h₄ tk₄ i₄ k₄ V₄=>q h₄ tk₄ i₄ (mono hS (fun b o z nb=>⟨k₄.at z fun w=>nb (.inr (w.lam hE)),nb⟩) fun b hb o z=>k₄.at z fun w=>by
  rcases w.xl with w|⟨y,w⟩
  ·exact hlo (w▸hb)
  ·exact hce y b w hb) ((kp.weak fun b z=>.inl z).trans (k₄.weak fun b z=>.inr (by
   show XN sc env ((bg ts).getD []) b
   rw[hxs];exact z)) fun b o_ z=>z) V₄
 exact Bc hh hxs hd hT sm.1 sm.2
set_option tactic.hygienic true in
theorem Jd{e it:Addr}{t:PySem.Expr}(hne:e≠it):Itr W A [e,it] (fun B h L=>∃i l,L=m8 i l∧EnSt B h e it i l) e t sc env (yw sc t) where
 mono I k ki:=by
  obtain⟨i,l,e1,I⟩:=I
  exact⟨i,l,e1,I.mono k ki⟩
 self I q:=by
  obtain⟨i,l,e1,a,vs,old,h1,_⟩:=I
  exact wpAny_pyIter_enum h1 q
 fin hh _ I q:=by
  obtain⟨i,l,e1,a,vs,old,h1,h2,h3,hb,r⟩:=I
  have e1:=q5 e1
  subst e1
  exact wpAny_pyNext_enum_end hh h1 h2 h3 (by simpa using gm (jm r)) fun h' hx=>q h' fun b o n z=>hx b o (fun w=>n (w▸.tail _ (.head _))) z
 next:=fun {Λ σ s st ρ ρ₃ x l E Q} hh hE hL hlo hce iv I V hput q=>by
  obtain⟨i,l₀,e1,a,vs,old,h1,h2,h3,hb,r⟩:=I
  obtain⟨y,l',rfl,rfl,rfl⟩:=nq e1
  obtain⟨ts,k,tp,xs,rfl,hxs,hd,hp⟩:=Bd (x:=.none) hput
  obtain⟨u,us,he,r1,r2⟩:=gn r
  obtain⟨g1,g2⟩:=jl he
  refine wpAny_pyNext_enum_item h1 h2 h3 (by simpa using g1) hne fun h₁ heo hit₁ ht₁ hz₁ hk₁=>?_
  refine wpAny_letOwnedTupleGo_enum (s:={ s with heap:=h₁,toks:=s.toks+1 }) heo fun h₂ he₂ hs₂=>?_
  replace hs₂:Heap.SameBut e h₁ h₂:=hs₂
  have ex:XOff [e,it] s.heap h₂:=fun b o n z=>(hs₂.2 b fun w=>n (w▸.head _)).trans (hk₁ b o (fun w=>n (w▸.head _)) (fun w=>n (w▸.tail _ (.head _))) z)
  have hit₂:h₂.IsListIter it a (i+1):=by
   obtain⟨o,ho,z⟩:=hit₁
   exact⟨o,(hs₂.2 it (Ne.symm hne)).trans ho,z⟩
  have kb:Kp (Bad σ Λ) s.heap h₂:=fun b o z=>by
   by_cases m:b∈[e,it]
   ·refine⟨fun n=>absurd (.inr (hL b m).1) n,?_⟩
    rcases List.mem_cons.mp m with m|m
    ·rw[m];exact⟨_,he₂⟩
    ·rw[List.mem_singleton.mp m];obtain⟨o,ho,_⟩:=hit₂;exact⟨o,ho⟩
   ·exact⟨fun o_=>.inl (ex b o m z),o,ex b o m z⟩
  have ht₂:h₂.get? s.heap.objs.size=some ({ cls:=.type "tuple",data:=.seq [Value.int (i:Int) s.toks,u].toArray }:Obj):=(hs₂.2 _ fun q=>by
   have h1':=Heap.lt_size h1
   rw[←q]at h1'
   exact Nat.lt_irrefl _ h1').trans ht₁
  have na:a∉[e,it]:=fun m=>hb (.inr (hL a m).1)
  refine tv (s:=s) (tk₂:=s.toks+1) (S:=fun B h L=>∃i l,L=m8 i l∧EnSt B h e it i l) (fun I k ki=>?_) hh hE hL hlo hce iv V hxs hd hp ex (fun b m=>?_) ht₂ ⟨⟨_,rfl⟩,r1.step Fresh.refl kb,trivial⟩ ⟨i+1,l',rfl,a,vs,u,?_,hit₂,?_,hb,by rw[g2];exact r2.step Fresh.refl kb⟩ q
  ·obtain⟨i,l,e1,I⟩:=I
   exact⟨i,l,e1,I.mono k ki⟩
  ·rcases List.mem_cons.mp m with m|m
   ·rw[m];exact⟨_,he₂⟩
   ·rw[List.mem_singleton.mp m];obtain⟨o,ho,_⟩:=hit₂;exact⟨o,ho⟩
  ·have:((i+1:Nat):Int)=(i:Int)+1:=by push_cast;rfl
   rw[this];exact he₂
  ·obtain⟨o',ho',z⟩:=h3
   exact⟨o',ex a o' na ho',z⟩
inductive ZpSt (z TI TO i1 i2:Addr) (B:Addr→Prop) (h:Heap) (L:List V):Prop
 |mk (k:Nat) (l q:List V) (a1 a2:Addr) (vs1 vs2:List Value) (u v:Value) (h0:L=sy l q) (h1:IsZip h z TI TO .none) (h2:IsPair h TI (.ref i1) (.ref i2)) (h3:IsPair h TO u v) (h4:h.IsListIter i1 a1 k) (h5:h.IsListIter i2 a2 k) (h6:h.IsList a1 vs1.toArray) (h7:h.IsList a2 vs2.toArray) (h8:¬B a1) (h9:¬B a2) (r1:Reps B h (vs1.drop k) l) (r2:Reps B h (vs2.drop k) q)
theorem lc{h h':Heap}{a:Addr}{xs:Array Value}(x:h.IsList a xs)(k:∀o,h.get? a=some o→At h' a o):h'.IsList a xs:=by
 obtain⟨o,ho,h3,h4,h5⟩:=x
 exact⟨o,(k o ho).ndb (dq h5 h3 rfl),h3,h4,h5⟩
theorem Fb{h h':Heap}{a b:Addr}{i:Nat}(x:h.IsListIter a b i)(k:∀o,h.get? a=some o→At h' a o):h'.IsListIter a b i:=by
 obtain⟨o,ho,h2⟩:=x
 exact⟨o,(k o ho).ndb (dq h2.2 h2.1 rfl),h2⟩
theorem ZpSt.mono{z TI TO i1 i2:Addr}{B B':Addr→Prop}{h h':Heap}{L:List V}(x:ZpSt z TI TO i1 i2 B h L)(k:∀a o,h.get? a=some o→¬B a→At h' a o∧¬B' a)(ki:∀a∈[z,TI,TO,i1,i2],∀o,h.get? a=some o→At h' a o):ZpSt z TI TO i1 i2 B' h' L:=by
 obtain⟨n,l,q,a1,a2,vs1,vs2,u,v,e,hz,hTI,hTO,h1,h2,h3,h4,b1,b2,r1,r2⟩:=x
 have c1:¬B' a1:=by obtain⟨o,ho,_⟩:=id h3;exact(k a1 o ho b1).2
 have c2:¬B' a2:=by obtain⟨o,ho,_⟩:=id h4;exact(k a2 o ho b2).2
 exact⟨n,l,q,a1,a2,vs1,vs2,u,v,e,(ki z (by simp) _ hz).ndb rfl,(ki TI (by simp) _ hTI).ndb rfl,(ki TO (by simp) _ hTO).ndb rfl,Fb h1 (ki i1 (by simp)),Fb h2 (ki i2 (by simp)),lc h3 fun o e=>(k a1 o e b1).1,lc h4 fun o e=>(k a2 o e b2).1,c1,c2,r1.mono k,r2.mono k⟩
structure ZpA (z TI TO i1 i2:Addr):Prop where
 TIz:TI≠z
 TOz:TO≠z
 i1z:i1≠z
 i2z:i2≠z
 TITO:TI≠TO
 TIi1:TI≠i1
 TIi2:TI≠i2
 TOi1:TO≠i1
 TOi2:TO≠i2
 i12:i1≠i2
theorem ZpA.all{z TI TO i1 i2 a1 a2:Addr}(D:ZpA z TI TO i1 i2)(h1:a1∉[z,TI,TO,i1,i2])(h2:a2∉[z,TI,TO,i1,i2]):ZipApart z TI TO i1 i2 a1 a2:=
 ⟨D.TIz,D.TOz,D.i1z,D.i2z,D.TITO,D.TIi1,D.TIi2,D.TOi1,D.TOi2,D.i12,fun q=>h1 (by simp[q]),fun q=>h1 (by simp[q]),fun q=>h1 (by simp[q]),fun q=>h1 (by simp[q]),fun q=>h2 (by simp[q]),fun q=>h2 (by simp[q]),fun q=>h2 (by simp[q]),fun q=>h2 (by simp[q])⟩
theorem Fc{l q:List V}(h:[]=sy l q):l=[]∨q=[]:=by
 induction l using List.casesOn with
 |nil=>exact .inl rfl
 |cons x r=>
  induction q using List.casesOn with
  |nil=>exact .inr rfl
  |cons y s=>exact nomatch h
theorem Da{x:V}{r l q:List V}(h:x::r=sy l q):∃a l' b q',l=a::l'∧q=b::q'∧x=.tup [a,b]∧r=sy l' q':=by
 induction l using List.casesOn with
 |nil=>exact nomatch h
 |cons a l'=>
  induction q using List.casesOn with
  |nil=>exact nomatch h
  |cons b q'=>
   injection h with h1 h2
   exact⟨a,l',b,q',rfl,rfl,h1,h2⟩
set_option tactic.hygienic true in
theorem Je{z TI TO i1 i2:Addr}{t:PySem.Expr}(D:ZpA z TI TO i1 i2):Itr W A [z,TI,TO,i1,i2] (ZpSt z TI TO i1 i2) z t sc env (yw sc t) where
 mono I k ki:=I.mono k ki
 self I q:=by
  obtain⟨n,l,q',a1,a2,vs1,vs2,u,v,e,hz,_,_,_,_,_,_,_,_,_,_⟩:=I
  exact wpAny_pyIter_zip hz q
 fin:=fun {Λ σ s E Q} hh hL I q=>by
  obtain⟨n,l,q',a1,a2,vs1,vs2,u,v,e,hz,hTI,hTO,h1,h2,h3,h4,b1,b2,r1,r2⟩:=I
  refine wpAny_pyNext_zip_end hh (D.all (fun m=>b1 (.inr (hL a1 m))) fun m=>b2 (.inr (hL a2 m))) hz hTI hTO h1 h2 h3 h4 ?_ fun h' hk=>q h' fun b o w z=>hk b o (fun c=>w (by simp[c])) (fun c=>w (by simp[c])) (fun c=>w (by simp[c])) (fun c=>w (by simp[c])) z
  rcases Fc e with e|e
  ·subst e;exact .inl (by simpa using gm (jm r1))
  ·subst e;exact .inr (by simpa using gm (jm r2))
 next:=fun {Λ σ s st ρ ρ₃ x l E Q} hh hE hL hlo hce iv I V hput q=>by
  obtain⟨n,l,q',a1,a2,vs1,vs2,u,v,e,hz,hTI,hTO,h1,h2,h3,h4,b1,b2,r1,r2⟩:=I
  obtain⟨x1,l',x2,q'',rfl,rfl,rfl,rfl⟩:=Da e
  obtain⟨ts,k,tp,xs,rfl,hxs,hd,hp⟩:=Bd (x:=.none) hput
  obtain⟨u1,us1,e1,p1,p2⟩:=gn r1
  obtain⟨u2,us2,e2,p3,p4⟩:=gn r2
  obtain⟨g1,g2⟩:=jl e1
  obtain⟨g3,g4⟩:=jl e2
  have n1:a1∉[z,TI,TO,i1,i2]:=fun m=>b1 (.inr (hL a1 m).1)
  have n2:a2∉[z,TI,TO,i1,i2]:=fun m=>b2 (.inr (hL a2 m).1)
  refine wpAny_pyNext_zip_item (D.all n1 n2) hz hTI hTO h1 h2 h3 h4 (by simpa using g1) (by simpa using g3) fun h₁ hz₁ hTO₁ h1₁ h2₁ hT₁ hsz₁ hk₁=>?_
  refine wpAny_letOwnedTupleGo_zip (s:={ s with heap:=h₁ }) hz₁ fun h₂ hz₂ hs₂=>?_
  replace hs₂:Heap.SameBut z h₁ h₂:=hs₂
  have ex:XOff [z,TI,TO,i1,i2] s.heap h₂:=fun b o n z'=>(hs₂.2 b fun w=>n (by simp[w])).trans (hk₁ b o (fun w=>n (by simp[w])) (fun w=>n (by simp[w])) (fun w=>n (by simp[w])) (fun w=>n (by simp[w])) z')
  have hTI₂:IsPair h₂ TI (.ref i1) (.ref i2):=(hs₂.2 TI D.TIz).trans (hk₁ TI _ D.TIz D.TITO D.TIi1 D.TIi2 hTI)
  have hTO₂:IsPair h₂ TO u1 u2:=(hs₂.2 TO D.TOz).trans hTO₁
  have hi1₂:h₂.IsListIter i1 a1 (n+1):=by
   obtain⟨o,ho,w⟩:=h1₁
   exact⟨o,(hs₂.2 i1 D.i1z).trans ho,w⟩
  have hi2₂:h₂.IsListIter i2 a2 (n+1):=by
   obtain⟨o,ho,w⟩:=h2₁
   exact⟨o,(hs₂.2 i2 D.i2z).trans ho,w⟩
  have al:∀b∈[z,TI,TO,i1,i2],∃o,h₂.get? b=some o:=fun b m=>by
   simp only[List.mem_cons,List.not_mem_nil,or_false]at m
   rcases m with rfl|rfl|rfl|rfl|rfl
   ·exact⟨_,hz₂⟩
   ·exact⟨_,hTI₂⟩
   ·exact⟨_,hTO₂⟩
   ·obtain⟨o,ho,_⟩:=hi1₂;exact⟨o,ho⟩
   ·obtain⟨o,ho,_⟩:=hi2₂;exact⟨o,ho⟩
  have kb:Kp (Bad σ Λ) s.heap h₂:=fun b o w=>by
   by_cases m:b∈[z,TI,TO,i1,i2]
   ·exact⟨fun n=>absurd (.inr (hL b m).1) n,al b m⟩
   ·exact⟨fun o_=>.inl (ex b o m w),o,ex b o m w⟩
  have hT₂:h₂.get? s.heap.objs.size=some ({ cls:=.type "tuple",data:=.seq [u1,u2].toArray }:Obj):=(hs₂.2 _ fun q=>by
   have h1':=Heap.lt_size hz
   rw[←q]at h1'
   exact Nat.lt_irrefl _ h1').trans hT₁
  exact tv (s:=s) (tk₂:=s.toks) (S:=ZpSt z TI TO i1 i2) (fun I k ki=>I.mono k ki) hh hE hL hlo hce iv V hxs hd hp ex al hT₂ ⟨p1.step Fresh.refl kb,p3.step Fresh.refl kb,trivial⟩
   ⟨n+1,l',q'',a1,a2,vs1,vs2,u1,u2,rfl,hz₂,hTI₂,hTO₂,hi1₂,hi2₂,lc h3 fun o w=>.inl (ex a1 o n1 w),lc h4 fun o w=>.inl (ex a2 o n2 w),b1,b2,by rw[g2];exact p2.step Fresh.refl kb,by rw[g4];exact p4.step Fresh.refl kb⟩ q
end
section
variable {W:Wd} {A:Around} {Λ σ:List Addr} {E:Value→Shared→Prop} {s:Shared} {st:Sto} {sc:Scope} {env:Env} {ρ:En}
theorem N4{C:Cx}{it:PySem.Expr}{p:Src×List PySem.Expr}(h:cn C sc it=p):p=(.one,[it])∨∃x np args cp v,it=.Call (.Name x np) args [] cp∧dh C sc x=some v∧C.able v=true∧noStar args=true∧((v=.type "enumerate"∧p=(.enu,args))∨(v=.type "zip"∧p=(.zip,args))):=by
 have v:∀it:PySem.Expr,it.ctorIdx=16∨cn C sc it=(.one,[it]):=fun it=>by
  cases it with
  |Call=>exact .inl rfl
  |_=>exact .inr rfl
 rcases v it with k|k
 rotate_left
 ·exact .inl (h.symm.trans k)
 refine Expr.Call.elim (motive_1:=fun it=>cn C sc it=p→p=(.one,[it])∨∃x np args cp v,it=.Call (.Name x np) args [] cp∧dh C sc x=some v∧C.able v=true∧noStar args=true∧((v=.type "enumerate"∧p=(.enu,args))∨(v=.type "zip"∧p=(.zip,args)))) it k (fun f args kws cp h=>?_) h
 induction kws using List.casesOn with
 |cons k ks=>exact .inl h.symm
 |nil=>
  unfold cn at h
  dsimp only at h
  generalize hv:(c9 f).bind (dh C sc)=z at h
  induction z using Option.casesOn with
  |none=>exact .inl h.symm
  |some v=>
   dsimp only at h
   by_cases hc:(C.able v&&noStar args)=true
   ·rw[if_pos hc]at h
    obtain⟨x,hx,hg⟩:=zbd hv
    obtain⟨np,rfl⟩:=cz hx
    obtain⟨hab,hns⟩:=zan hc
    have ty:∀{t:String},qc t v=true→v=.type t:=fun {t} e=>by
     have w:∀v:Value,(!qc t v||Nat.beq v.ctorIdx 8)=true:=fun v=>by
      cases v with
      |type s=>exact Bool.or_true _
      |_=>exact T1
     have:=w v
     rw[e]at this
     refine Value.type.elim (motive:=fun v=>qc t v=true→v=.type t) v (Nat.eq_of_beq_eq_true this) (fun s e=>by rw[eq_of_beq e]) e
    unfold Qz at h
    by_cases h1:qc "enumerate" v=true
    ·rw[if_pos h1]at h
     exact .inr ⟨x,np,args,cp,v,rfl,hg,hab,hns,.inl ⟨ty h1,h.symm⟩⟩
    ·rw[if_neg h1]at h
     by_cases h1:qc "zip" v=true
     ·rw[if_pos h1]at h
      exact .inr ⟨x,np,args,cp,v,rfl,hg,hab,hns,.inr ⟨ty h1,h.symm⟩⟩
     ·rw[if_neg h1]at h;exact .inl h.symm
   ·rw[if_neg hc]at h;exact .inl h.symm
structure Its (W:Wd) (A:Around) (Λ σ₁:List Addr) (h₁ h₂:Heap) (st₁:Sto) (Ls:List Addr) (S:ItS) (it₀:Addr) (pr:Src) (l:List V):Prop where
 no:∀a∈Ls,h₁.get? a=none
 kp:∀b o,h₁.get? b=some o→h₂.get? b=some o
 iv:Inv W σ₁ (Ls++Λ) h₂ st₁
 it:S (Bad σ₁ (Ls++Λ)) h₂ l
 itr:∀{t sc env},Itr W A Ls S it₀ t sc env (m9 pr sc t)
theorem zg{σ₁:List Addr}{h₁:Heap}{v:Value}{d:D}{l:List V}{B:Addr→Prop}(hl:fy d=some l)(r:RepD σ₁ B h₁ v d):∃a vs,v=.ref a∧¬B a∧h₁.IsList a (List.toArray vs)∧Reps B h₁ vs l:=by
 rw[k6 hl]at r
 have r:Rep B h₁ v (.lst l):=r
 refine ia (Rep.l r) fun a ob vs n ee4 hb ho hc hd' hr=>?_
 exact⟨a,vs,ee4,hb,⟨ob,ho,hc,n,hd'⟩,hr⟩
theorem u5{h₁ h₂:Heap}{Ls:List Addr}(no:∀a∈Ls,h₁.get? a=none)(k:∀b o,h₁.get? b=some o→h₂.get? b=some o):∀b o,h₁.get? b=some o→¬Bad σ Λ b→At h₂ b o∧¬Bad σ (Ls++Λ) b:=fun b o z nb=>⟨.inl (k b o z),fun q=>q.elim (fun q=>nb (.inl q)) fun q=>(List.mem_append.mp q).elim (fun q=>by rw[no b q]at z;contradiction) fun q=>nb (.inr q)⟩
theorem zpa(n:Nat):ZpA (n+4) (n+2) (n+3) n (n+1):=
 ⟨Nat.ne_of_lt (Nat.add_lt_add_left (by decide) n),Nat.ne_of_lt (Nat.add_lt_add_left (by decide) n),Nat.ne_of_lt (Nat.lt_add_of_pos_right (by decide)),Nat.ne_of_lt (Nat.add_lt_add_left (by decide) n),Nat.ne_of_lt (Nat.add_lt_add_left (by decide) n),Nat.ne_of_gt (Nat.lt_add_of_pos_right (by decide)),Nat.ne_of_gt (Nat.add_lt_add_left (by decide) n),Nat.ne_of_gt (Nat.lt_add_of_pos_right (by decide)),Nat.ne_of_gt (Nat.add_lt_add_left (by decide) n),Nat.ne_of_lt (Nat.lt_add_of_pos_right (by decide))⟩
noncomputable def Be{β γ:Type}(W:Wd)(A:Around)(Λ σ:List Addr)(E:Value→Shared→Prop)(s:Shared)(X:Addr→Prop)(Rel:List Addr→Heap→γ→β→Prop)(Q:γ→Shared→Prop)(Q':Value→Shared→Prop)(pr:Src)(f:List V→Sto→Out β):Prop:=
 ∀σ₁ h₁ tk₁ st₁ l h₂ tk₂ it₀ Ls S,Fresh σ σ₁ s.heap→Kp (fun x=>x∈σ∨NoX x) s.heap h₁→Inv W σ₁ Λ h₁ st₁→Its W A Λ σ₁ h₁ h₂ st₁ Ls S it₀ pr l→Po W Λ X Rel E σ₁ { s with heap:=h₁,toks:=tk₁ } (f l st₁) Q→Q' (.ref it₀) { s with heap:=h₂,toks:=tk₂ }
section
variable {β γ:Type} {X:Addr→Prop} {Rel:List Addr→Heap→γ→β→Prop} {Q:γ→Shared→Prop} {Q':Value→Shared→Prop} {f:List V→Sto→Out β} {σ₁:List Addr} {h₁:Heap} {tk₁:Nat} {st₁:Sto}
theorem N5{v:Value}{d:D}(f₁:Fresh σ σ₁ s.heap)(k₁:Kp (fun x=>x∈σ∨NoX x) s.heap h₁)(i₁:Inv W σ₁ Λ h₁ st₁)(r₁:RepD σ₁ (Bad σ₁ Λ) h₁ v d)(H₁:Po W Λ X Rel E σ₁ { s with heap:=h₁,toks:=tk₁ } ((ofO st₁ (pa d)).bind f) Q)(k:Be W A Λ σ E s X Rel Q Q' .one f):
 wpAny (model W.prog W.w) A (pyIter v) Q' E { s with heap:=h₁,toks:=tk₁ }:=by
 generalize hl:pa d=zz at H₁
 induction zz using Option.casesOn with
 |none=>exact H₁.elim
 |some l=>
  have hnone:h₁.get? h₁.objs.size=none:=an
  refine E8 (s:={ s with heap:=h₁,toks:=tk₁ }) i₁ r₁ hl fun o i₂ ho hit=>k σ₁ h₁ tk₁ st₁ l _ tk₁ _ [h₁.objs.size] (fun B h l=>ItSt B h h₁.objs.size l) f₁ k₁ i₁ ⟨fun a ha=>List.mem_singleton.mp ha▸hnone,fun b o' e=>Heap.get?_push_of_some _ e,i₁.lam hnone (fun b o' e=>Heap.get?_push_of_some _ e) ho i₁.size,hit,Jc⟩ H₁
theorem N6{d:D}{v:Value}(f₁:Fresh σ σ₁ s.heap)(k₁:Kp (fun x=>x∈σ∨NoX x) s.heap h₁)(i₁:Inv W σ₁ Λ h₁ st₁)(r₁:RepD σ₁ (Bad σ₁ Λ) h₁ v d)(H₁:Po W Λ X Rel E σ₁ { s with heap:=h₁,toks:=tk₁ } ((ofO st₁ ((fy d).map (m8 0))).bind f) Q)(k:Be W A Λ σ E s X Rel Q Q' .enu f):
 wpAny (model W.prog W.w) A (call (.type "enumerate") [v]) (fun v s₁=>wpAny (model W.prog W.w) A (pyIter v) Q' E s₁) E { s with heap:=h₁,toks:=tk₁ }:=by
 generalize hl:fy d=zz at H₁
 induction zz using Option.casesOn with
 |none=>exact H₁.elim
 |some l=>
  obtain⟨a,vs,e,hb,ho,hr⟩:=zg hl r₁
  subst e
  refine call_enumerate_list (s:={ s with heap:=h₁,toks:=tk₁ }) (items:=vs.toArray) ho fun h₂ he₂ hit₂ hz₂ hk₂=>wpAny_pyIter_enum he₂ ?_
  have n1:h₁.get? h₁.objs.size=none:=an
  have n2:h₁.get? (h₁.objs.size+1)=none:=jo (Nat.le_refl _) (Nat.le_succ _)
  obtain⟨oi,hoi,_⟩:=id hit₂
  have no:∀b∈[h₁.objs.size+1,h₁.objs.size],h₁.get? b=none:=fun b hb=>by
   rcases List.mem_cons.mp hb with hb|hb
   ·rw[hb];exact n2
   ·rw[List.mem_singleton.mp hb];exact n1
  have mv:=u5 (σ:=σ₁) (Λ:=Λ) no hk₂
  refine k σ₁ h₁ tk₁ st₁ _ h₂ _ _ [h₁.objs.size+1,h₁.objs.size] _ f₁ k₁ i₁ ⟨no,hk₂,i₁.lams hk₂ fun b hb=>⟨no b hb,?_⟩,⟨0,l,rfl,a,vs,.none,he₂,hit₂,lc ho fun o e=>.inl (hk₂ a o e),?_,by rw[List.drop_zero];exact hr.mono mv⟩,Jd (Nat.succ_ne_self _)⟩ H₁
  ·rcases List.mem_cons.mp hb with hb|hb
   ·rw[hb];exact⟨Nat.le_trans i₁.size (Nat.le_succ _),_,he₂⟩
   ·rw[List.mem_singleton.mp hb];exact⟨i₁.size,_,hoi⟩
  ·obtain⟨o,e,_⟩:=ho
   exact(mv a o e hb).2
theorem N7{d e:D}{v w:Value}(f₁:Fresh σ σ₁ s.heap)(k₁:Kp (fun x=>x∈σ∨NoX x) s.heap h₁)(i₁:Inv W σ₁ Λ h₁ st₁)(r₁:RepD σ₁ (Bad σ₁ Λ) h₁ v d)(r₂:RepD σ₁ (Bad σ₁ Λ) h₁ w e)(H₁:Po W Λ X Rel E σ₁ { s with heap:=h₁,toks:=tk₁ } ((ofO st₁ ((fy d).bind fun l=>(fy e).map fun q=>sy l q)).bind f) Q)(k:Be W A Λ σ E s X Rel Q Q' .zip f):
 wpAny (model W.prog W.w) A (call (.type "zip") [v,w]) (fun v s₁=>wpAny (model W.prog W.w) A (pyIter v) Q' E s₁) E { s with heap:=h₁,toks:=tk₁ }:=by
 generalize hl:fy d=zz at H₁
 induction zz using Option.casesOn with
 |none=>exact H₁.elim
 |some l=>
  have H₁:Po W Λ X Rel E σ₁ { s with heap:=h₁,toks:=tk₁ } ((ofO st₁ ((fy e).map fun q=>sy l q)).bind f) Q:=H₁
  generalize hq:fy e=zz at H₁
  induction zz using Option.casesOn with
  |none=>exact H₁.elim
  |some q=>
   obtain⟨a,vs,e,hb,ho,hr⟩:=zg hl r₁
   obtain⟨b,us,e',hb',ho',hr'⟩:=zg hq r₂
   subst e e'
   refine call_zip_2 (s:={ s with heap:=h₁,toks:=tk₁ }) ho ho' fun h₂ hz hTI hTO hi1 hi2 hsz hk₂=>wpAny_pyIter_zip hz ?_
   have nn:∀i,h₁.get? (h₁.objs.size+i)=none:=fun i=>jo (Nat.le_refl _) (Nat.le_add_right _ _)
   have no:∀b∈[h₁.objs.size+4,h₁.objs.size+2,h₁.objs.size+3,h₁.objs.size,h₁.objs.size+1],∃i,b=h₁.objs.size+i:=fun b hb=>by
    simp only[List.mem_cons,List.not_mem_nil,or_false]at hb
    rcases hb with hb|hb|hb|hb|hb
    ·exact⟨4,hb⟩
    ·exact⟨2,hb⟩
    ·exact⟨3,hb⟩
    ·exact⟨0,hb⟩
    ·exact⟨1,hb⟩
   have no':∀b∈[h₁.objs.size+4,h₁.objs.size+2,h₁.objs.size+3,h₁.objs.size,h₁.objs.size+1],h₁.get? b=none:=fun b hb=>by
    obtain⟨i,rfl⟩:=no b hb
    exact nn i
   have mv:=u5 (σ:=σ₁) (Λ:=Λ) no' hk₂
   refine k σ₁ h₁ tk₁ st₁ _ h₂ _ _ [h₁.objs.size+4,h₁.objs.size+2,h₁.objs.size+3,h₁.objs.size,h₁.objs.size+1] _ f₁ k₁ i₁ ⟨no',hk₂,i₁.lams hk₂ fun b hb=>⟨no' b hb,?_⟩,⟨0,l,q,a,b,vs,us,.none,.none,rfl,hz,hTI,hTO,hi1,hi2,lc ho fun o e=>.inl (hk₂ a o e),lc ho' fun o e=>.inl (hk₂ b o e),?_,?_,by rw[List.drop_zero];exact hr.mono mv,by rw[List.drop_zero];exact hr'.mono mv⟩,Je ?_⟩ H₁
   ·obtain⟨i,hi⟩:=no b hb
    refine⟨hi▸Nat.le_trans i₁.size (Nat.le_add_right _ _),?_⟩
    simp only[List.mem_cons,List.not_mem_nil,or_false]at hb
    rcases hb with rfl|rfl|rfl|rfl|rfl
    ·exact⟨_,hz⟩
    ·exact⟨_,hTI⟩
    ·exact⟨_,hTO⟩
    ·obtain⟨o,ho,_⟩:=hi1;exact⟨o,ho⟩
    ·obtain⟨o,ho,_⟩:=hi2;exact⟨o,ho⟩
   ·exact zpa _
   ·obtain⟨o,e,_⟩:=ho
    exact(mv a o e hb).2
   ·obtain⟨o,e,_⟩:=ho'
    exact(mv b o e hb').2
theorem q6{C:Cx}{I:In}(hC:CxOk W C)(hE:EnvOk W.tabs Λ sc env)(hI:IE W A I){it:PySem.Expr}(iv:Inv W σ Λ s.heap st)(V:Vars Λ sc env ρ σ s.heap)
 (H:Po W Λ X Rel E σ s ((f6 (I.ex sc ρ) (cn C sc it) st).bind f) Q) (k:Be W A Λ σ E s X Rel Q Q' (cn C sc it).1 f):
 wpAny (model W.prog W.w) A (eval it env) (fun v s₁=>wpAny (model W.prog W.w) A (pyIter v) Q' E s₁) E s:=by
 have hX:∀a,NoX a→X a:=fun a q=>q.elim
 generalize hp:cn C sc it=p at H k
 unfold f6 at H
 rw[Out.bind_assoc]at H
 rcases N4 hp with rfl|⟨x,np,args,cp,v,rfl,hg,hab,hns,z⟩
 ·have H:Po W Λ X Rel E σ s (((I.ex sc ρ it st).bind fun d st=>.ok [d] st).bind fun ds st=>(ofO st (dp .one ds)).bind f) Q:=H
  rw[Out.bind_assoc]at H
  exact hI Λ sc env ρ it hE E σ s st _ iv V (Po.seq hX H fun d st₁ σ₁ h₁ tk₁ v f₁ k₁ i₁ r₁ H₁=>N5 f₁ k₁ i₁ r₁ H₁ k)
 ·rw[fe rfl]
  refine wpAny_bind (c6 hC hE hg iv.keep (cg (first:=[]) hE hI hns (fun h X=>hC.able _ hab _ h X) iv V ?_))
  rcases z with⟨rfl,rfl⟩|⟨rfl,rfl⟩
  ·refine Po.seq hX H fun ds st₁ σ₁ h₁ tk₁ vs f₁ k₁ i₁ rs H₁=>⟨ak i₁,?_⟩
   induction ds using List.casesOn with
   |nil=>exact H₁.elim
   |cons d r=>
    induction r using List.casesOn with
    |cons _ _=>exact H₁.elim
    |nil=>
     induction vs using List.casesOn with
     |nil=>exact rs.elim
     |cons v r=>
      induction r using List.casesOn with
      |cons _ _=>exact rs.2.elim
      |nil=>exact N6 f₁ k₁ i₁ rs.1 H₁ k
  ·refine Po.seq hX H fun ds st₁ σ₁ h₁ tk₁ vs f₁ k₁ i₁ rs H₁=>⟨ak i₁,?_⟩
   generalize h2:two ds=zz at H₁
   induction zz using Option.casesOn with
   |none=>
    have H₁:Po W Λ X Rel E σ₁ { s with heap:=h₁,toks:=tk₁ } ((ofO st₁ ((two ds).bind fun p=>(fy p.1).bind fun l=>(fy p.2).map fun q=>sy l q)).bind f) Q:=H₁
    rw[h2]at H₁
    exact H₁.elim
   |some p=>
    obtain⟨d,e,rfl⟩:∃d e,ds=[d,e]:=⟨_,_,Ni h2⟩
    induction vs using List.casesOn with
    |nil=>exact rs.elim
    |cons v r=>
     induction r using List.casesOn with
     |nil=>exact rs.2.elim
     |cons w r=>
      induction r using List.casesOn with
      |cons _ _=>exact rs.2.2.elim
      |nil=>exact N7 f₁ k₁ i₁ rs.1 rs.2.1 H₁ k
end
theorem Db{C:Cx}{I:In}(hC:CxOk W C)(hh:A.handled=none)(hE:EnvOk W.tabs Λ sc env)(hcl:ji A W env)(hI:IE W A I)(hS:IS W A I){t it:PySem.Expr}{b:List Stmt}{pos:Pos}{Q:Flow→Shared→Prop}
 (hd:ct it=false) (iv:Inv W σ Λ s.heap st) (V:Vars Λ sc env ρ σ s.heap)
 (H:Po W Λ (XL env) (ck Λ sc env) E σ s ((f6 (I.ex sc ρ) (cn C sc it) st).bind fun l st=>fz (m9 (cn C sc it).1 sc t) (fun ρ st=>exs (fun ρ=>I.st sc ρ) b ρ st) l ρ st) Q):wpAny (model W.prog W.w) A (exec (.For t it b [] pos) env) Q E s:=
 wpAny_For (q6 hC hE hI iv V H fun σ₁ h₁ tk₁ st₁ l h₂ tk₂ it₀ Ls S f₁ k₁ i₁ T H₁=>
  N3 T.itr hh hE hcl hS (Fit0.of hE i₁ T.no) ⟨Fresh.refl,Kp.all T.kp,T.iv,T.it,(V.step (iv.sigma hE.loc) f₁ k₁).mono (u5 T.no T.kp) fun b o e o_=>.inl (T.kp b o e)⟩ H₁) (C9 hd)
end
theorem lf{env:Env}(f:Str×NameKind→List (Str×Addr)→Sem (ForInStep (List (Str×Addr))))(hf:∀x acc,x.2=.free→f x acc=(cellOf env x.1>>=fun a=>pure (.yield ((x.1,a)::acc))))(hf':∀x acc,x.2≠.free→f x acc=pure (.yield acc)):
 ∀(names:List (Str×NameKind)) (acc:List (Str×Addr)),(∀x∈names,x.2=.free→∃c,env.cells.lookup x.1=some c)→(∀p∈acc,env.cells.lookup p.1=some p.2)→
  ∃cl,forIn names acc f=(pure cl:Sem _)∧(∀p∈cl,env.cells.lookup p.1=some p.2)∧(∀x∈names,x.2=.free→∃p∈cl,p.1=x.1)∧∀p∈acc,p∈cl
 |[],acc,_,ha=>⟨acc,rfl,ha,fun x hx=>(nomatch hx),fun p hp=>hp⟩
 |x::r,acc,h,ha=>by
  by_cases hx:x.2=.free
  ·obtain⟨c,hc⟩:=h x (.head _) hx
   obtain⟨cl,h1,h2,h3,h4⟩:=lf f hf hf' r ((x.1,c)::acc) (fun y hy=>h y (.tail _ hy)) (fun p hp=>by
    rcases List.mem_cons.mp hp with rfl|hp
    ·exact hc
    ·exact ha p hp)
   refine⟨cl,?_,h2,fun y hy e=>?_,fun p hp=>h4 p (.tail _ hp)⟩
   ·rw[List.forIn_cons,hf x acc hx]
    have:cellOf env x.1=pure c:=by unfold cellOf;rw[hc]
    rw[this]
    exact h1
   ·rcases List.mem_cons.mp hy with rfl|hy
    ·exact⟨_,h4 _ (.head _),rfl⟩
    ·exact h3 y hy e
  ·refine Np (lf f hf hf' r acc (fun y hy=>h y (.tail _ hy)) ha) fun cl h1 h2 h3 h4=>?_
   refine⟨cl,?_,h2,fun y hy e=>?_,h4⟩
   ·rw[List.forIn_cons,hf' x acc hx]
    exact h1
   ·rcases List.mem_cons.mp hy with rfl|hy
    ·exact absurd e hx
    ·exact h3 y hy e
set_option tactic.hygienic true in
theorem i9{scope:Scope}{env:Env}(h:∀x∈scope.names,x.2=.free→∃c,env.cells.lookup x.1=some c):
 ∃cl,closureFor scope env=pure cl∧(∀x c,cl.lookup x=some c→env.cells.lookup x=some c)∧∀x∈scope.names,x.2=.free→∃c,cl.lookup x.1=some c:=by
 obtain⟨cl,h1,h2,h3,_⟩:=lf (env:=env) (fun x cs=>match x with
  |(name,kind)=>if(kind==NameKind.free)=true then do let a ←cellOf env name;pure (ForInStep.yield ((name,a)::cs))else pure (ForInStep.yield cs))
  (fun x acc e=>by
    obtain⟨n,k⟩:=x
    have e:k=.free:=e
    subst e;rfl) (fun x acc e=>by
    obtain⟨n,k⟩:=x
    have:(k==NameKind.free)=false:=by simpa using e
    simp[this]) scope.names [] h (fun p hp=>(nomatch hp))
 refine⟨cl,?_,fun x c e=>?_,fun x hx e=>?_⟩
 ·have e:closureFor scope env=((forIn scope.names [] fun x cs=>match x with
   |(name,kind)=>if(kind==NameKind.free)=true then do let a ←cellOf env name;pure (ForInStep.yield ((name,a)::cs))else pure (ForInStep.yield cs))>>=fun cs=>pure cs):=rfl
  rw[e,h1]
  rfl
 ·have:(x,c)∈cl:=by
   clear h1 h2 h3
   rename_i h4
   clear h4
   induction cl with
   |nil=>(first|subst e|contradiction|(injection e with e;subst e)|cases e)
   |cons p r ih=>
    rw[List.lookup_cons]at e
    cases q:x==p.1 with
    |true=>
     rw[q]at e
     (first|subst e|contradiction|(injection e with e;subst e)|cases e)
     rw[eq_of_beq q]
     exact .head _
    |false=>
     rw[q]at e
     exact .tail _ (ih e)
  exact h2 (x,c) this
 ·obtain⟨p,hp,he⟩:=h3 x hx e
  cases q:cl.lookup x.1 with
  |some c=>exact⟨c,rfl⟩
  |none=>
   rw[List.lookup_eq_none_iff]at q
   have:=q p hp
   rw[he]at this
   simp at this
section
variable {W:Wd} {A:Around} {Λ σ:List Addr} {E:Value→Shared→Prop} {s:Shared} {st:Sto} {sc:Scope} {env:Env} {ρ:En}
theorem Inv.moveM{h:Heap}{a:Addr}{vs:List Value}{l:List V}{n:Nat}(I:Inv W σ (a::Λ) h st)(hn:a∉Λ)(hf:a∉W.fr)(ho:h.get? a=some { cls:=.type "list",data:=.seq vs.toArray n })(r:Reps (Bad σ (a::Λ)) h vs l)(hlen:l.length≤2^20+1):
 Inv W (σ++[a]) Λ h (st++[l]):=by
 have same:∀b,Bad (σ++[a]) Λ b→Bad σ (a::Λ) b:=fun b q=>by
  rcases q with q|q
  ·rcases List.mem_append.mp q with q|q
   ·exact .inl q
   ·rw[List.mem_singleton.mp q];exact .inr (.head _)
  ·exact .inr (.tail _ q)
 have mv:∀b o,h.get? b=some o→¬Bad σ (a::Λ) b→At h b o∧¬Bad (σ++[a]) Λ b:=fun b o e n=>⟨.inl e,fun q=>n (same b q)⟩
 refine⟨I.keep,fun b q=>I.new b (same b q),⟨by rw[List.length_append,List.length_append,I.store.1];rfl,?_,fun i b m e1 e2=>?_⟩,fun b hb q=>?_,fun b q=>⟨(List.mem_cons.mp (I.dic b q).1).elim (fun z=>absurd (z▸q) hf) id,(I.dic b q).2⟩,fun q hq=>(I.tab q hq).move mv fun o_ o_ e o_ o_=>e⟩
 ·rw[List.nodup_append]
  refine⟨I.store.2.1,by simp,fun b hb c hc=>?_⟩
  rw[List.mem_singleton.mp hc]
  rintro rfl
  exact I.apart b hb (.head _)
 ·by_cases hi:i<σ.length
  ·rw[List.getElem?_append_left hi]at e1
   rw[List.getElem?_append_left (by rw[←I.store.1];exact hi)]at e2
   refine bq (I.store.2.2 i b m e1 e2) fun ws q r' z=>?_
   exact⟨ws,q,r'.mono mv,z⟩
  ·have hl:=(List.getElem?_eq_some_iff.mp e1).1
   rw[List.length_append]at hl
   have:i=σ.length:=by simp at hl;exact Nat.eq_of_lt_succ_of_not_lt hl hi
   subst this
   have e1':b=a:=by simpa using e1.symm
   rw[I.store.1]at e2
   have e2':m=l:=by simpa using e2.symm
   subst e1' e2'
   exact⟨vs,⟨n,ho⟩,r.mono mv,hlen⟩
 ·rcases List.mem_append.mp hb with hb|hb
  ·exact I.apart b hb (.tail _ q)
  ·rw[List.mem_singleton.mp hb]at q;exact hn q
theorem Fd(hE:EnvOk W.tabs Λ sc env)(scope:Scope):relabel scope env=aq scope sc:=by
 have:=hE.scope
 subst this
 rfl
theorem j8{scope:Scope}:∀{names:List (Str×NameKind)} {x:Str} {k:NameKind},(names.map fun(n,k)=>if(k==.free&&(p9 sc).scope.kind==.function&&(p9 sc).kindOf n==some .cell)then (n,NameKind.cell)else (n,k)).lookup x=some k→
 (k=.local→names.lookup x=some .local)∧(k=.cell→∃k',(k'=.cell∨k'=.free)∧names.lookup x=some k')∧(k=.free→names.lookup x=some .free)
 |[],_,_,h=>by(first|subst h|contradiction|(injection h with h;subst h)|cases h)
 |(n,k0)::r,x,k,h=>by
  rw[List.map_cons,List.lookup_cons]at h
  rw[List.lookup_cons]
  by_cases hc:(k0==.free&&(p9 sc).scope.kind==.function&&(p9 sc).kindOf n==some .cell)=true
  ·dsimp only at h
   rw[if_pos hc]at h
   have hk:k0=.free:=by
    simp only[Bool.and_eq_true,beq_iff_eq]at hc
    exact hc.1.1
   dsimp only at h
   cases q:x==n with
   |true=>
    rw[q]at h
    (first|subst h|contradiction|(injection h with h;subst h)|cases h)
    subst hk
    exact⟨fun e=>(by(first|subst e|contradiction|(injection e with e;subst e)|cases e)),fun o_=>⟨_,.inr rfl,rfl⟩,fun e=>(by(first|subst e|contradiction|(injection e with e;subst e)|cases e))⟩
   |false=>
    rw[q]at h
    exact j8 (scope:=scope) h
  ·dsimp only at h
   rw[if_neg hc]at h
   dsimp only at h
   cases q:x==n with
   |true=>
    rw[q]at h
    (first|subst h|contradiction|(injection h with h;subst h)|cases h)
    exact⟨fun e=>by rw[e],fun e=>⟨_,.inl rfl,by rw[e]⟩,fun e=>by rw[e]⟩
   |false=>
    rw[q]at h
    exact j8 (scope:=scope) h
theorem jp:∀{names:List (Str×NameKind)} {x:Str},(∀y∈names,y.2≠.cell)→(names.map fun(n,k)=>if(k==.free&&(p9 sc).scope.kind==.function&&(p9 sc).kindOf n==some .cell)then (n,NameKind.cell)else (n,k)).lookup x=some .cell→sc.names.lookup x=some .cell
 |[],_,_,h=>nomatch h
 |(n,k0)::r,x,hn,h=>by
  rw[List.map_cons,List.lookup_cons]at h
  by_cases hc:(k0==.free&&(p9 sc).scope.kind==.function&&(p9 sc).kindOf n==some .cell)=true
  ·dsimp only at h
   rw[if_pos hc]at h
   dsimp only at h
   generalize q:(x==n)=zz at h
   induction zz using Bool.casesOn with
   |true=>
    rw[eq_of_beq q]
    simp only[Bool.and_eq_true,beq_iff_eq]at hc
    exact hc.2
   |false=>exact jp (fun y hy=>hn y (.tail _ hy)) h
  ·dsimp only at h
   rw[if_neg hc]at h
   dsimp only at h
   generalize q:(x==n)=zz at h
   induction zz using Bool.casesOn with
   |true=>
    injection h with h
    exact absurd h (hn _ (.head _))
   |false=>exact jp (fun y hy=>hn y (.tail _ hy)) h
theorem zh{scope:Scope}(hall:∀x∈scope.names,x.2≠.cell):(∃x,(aq scope sc).names.lookup x=some .cell)→∃x,sc.names.lookup x=some .cell:=fun⟨x,h⟩=>⟨x,jp hall h⟩
theorem mem_of_lookup{α:Type}:∀{l:List (Str×α)} {x:Str} {a:α},l.lookup x=some a→(x,a)∈l
 |[],_,_,h=>by(first|subst h|contradiction|(injection h with h;subst h)|cases h)
 |(y,b)::r,x,a,h=>by
  rw[List.lookup_cons]at h
  cases q:x==y with
  |true=>
   rw[q]at h
   (first|subst h|contradiction|(injection h with h;subst h)|cases h)
   rw[eq_of_beq q]
   exact .head _
  |false=>
   rw[q]at h
   exact .tail _ (mem_of_lookup h)
set_option tactic.hygienic true in
theorem d5{sc':Scope}:∀{ρ:En} {x:Str} {d:D},(az sc' ρ).lookup x=some d→ρ.lookup x=some d∧(sc'.names.lookup x=some .cell∨sc'.names.lookup x=some .free)
 |[],x,d,h=>by(first|subst h|contradiction|(injection h with h;subst h)|cases h)
 |(y,e)::r,x,d,h=>by
  unfold az at h
  rw[List.filter_cons]at h
  rw[List.lookup_cons]
  split at h
  ·rename_i hc
   rw[List.lookup_cons]at h
   cases q:x==y with
   |true=>
    rw[q]at h
    (first|subst h|contradiction|(injection h with h;subst h)|cases h)
    have:=eq_of_beq q
    subst this
    refine⟨rfl,?_⟩
    simpa using hc
   |false=>
    rw[q]at h
    exact d5 (ρ:=r) h
  ·rename_i hc
   have ih:=d5 (ρ:=r) h
   cases q:x==y with
   |true=>
    have:=eq_of_beq q
    subst this
    exfalso
    apply hc
    simpa using ih.2
   |false=>exact ih
noncomputable abbrev nL(C₀ D₀:Addr)(Ls Λ:List Addr):List Addr:=C₀::(Ls++(D₀::Λ))
theorem Jf{C₀ D₀:Addr}{Ls:List Addr}:D₀∈nL C₀ D₀ Ls Λ:=.tail _ (List.mem_append_right _ (.head _))
theorem Dc{C₀ D₀ a:Addr}{Ls:List Addr}(h:a∈Ls):a∈nL C₀ D₀ Ls Λ:=.tail _ (List.mem_append_left _ h)
theorem Ra{C₀ D₀ a:Addr}{Ls:List Addr}(h:a∈Λ):a∈nL C₀ D₀ Ls Λ:=.tail _ (List.mem_append_right _ (.tail _ h))
theorem Md{C₀ D₀ a:Addr}{Ls:List Addr}(h:a∈nL C₀ D₀ Ls Λ):a=C₀∨a∈Ls∨a=D₀∨a∈Λ:=(List.mem_cons.mp h).imp id fun h=>(List.mem_append.mp h).imp id List.mem_cons.mp
structure Cfit (W:Wd) (Λ:List Addr) (h₁:Heap) (C₀ D₀:Addr) (Ls:List Addr) (env:Env):Prop where
 hC:h₁.get? C₀=none
 hD:h₁.get? D₀=none
 hI:∀a∈Ls,h₁.get? a=none
 fC:C₀∉W.fr
 fD:D₀∉W.fr
 fI:∀a∈Ls,a∉W.fr
 lC:C₀∉Λ
 lD:D₀∉Λ
 lI:∀a∈Ls,a∉Λ
 cd:C₀≠D₀
 ci:C₀∉Ls
 di:D₀∉Ls
 loc:env.locals=C₀
 ce:∀x d,env.cells.lookup x=some d→d∈Λ
structure Cst (W:Wd) (Λ σ₁:List Addr) (h₁:Heap) (C₀ D₀:Addr) (Ls:List Addr) (S:ItS) (sc:Scope) (env:Env) (h:Heap) (σ:List Addr) (st:Sto) (ρ:En) (l acc:List V):Prop where
 fr:Fresh σ₁ σ h₁
 kp:Kp (fun x=>x∈σ₁∨NoX x) h₁ h
 iv:Inv W σ (nL C₀ D₀ Ls Λ) h st
 it:S (Bad σ (nL C₀ D₀ Ls Λ)) h l
 vr:Vars (nL C₀ D₀ Ls Λ) sc env ρ σ h
 len:acc.length≤2^20+1
 ls:∃ws n,h.get? D₀=some ({ cls:=.type "list",data:=.seq (List.toArray ws) n }:Obj)∧Reps (Bad σ (nL C₀ D₀ Ls Λ)) h ws acc
section
variable {σ₁ σ':List Addr} {h₁ h h':Heap} {C₀ D₀ it₀:Addr} {Ls:List Addr} {S:ItS} {t:PySem.Expr} {put:V→En→Option En} {st':Sto} {l acc:List V}
theorem Cst.ev(c:Cst W Λ σ₁ h₁ C₀ D₀ Ls S sc env h σ st ρ l acc)(F:Cfit W Λ h₁ C₀ D₀ Ls env)(J:Itr W A Ls S it₀ t sc env put)(f:Fresh σ σ' h)(k:Kp (fun x=>x∈σ∨NoX x) h h')(i:Inv W σ' (nL C₀ D₀ Ls Λ) h' st'):
 Cst W Λ σ₁ h₁ C₀ D₀ Ls S sc env h' σ' st' ρ l acc:=by
 have kb:Kp (Bad σ (nL C₀ D₀ Ls Λ)) h h':=k.weak fun a q=>q.elim .inl fun q=>q.elim
 refine f7 c.ls fun ws n ho r=>?_
 refine⟨c.fr.trans f c.kp,c.kp.trans k fun a al q=>q.elim (fun q=>.inl (al.elim fun o_ e=>c.fr.low e q)) .inr,i,?_,c.vr.step (c.iv.sigma (F.loc▸.head _)) f k,c.len,ws,n,(k.at ho fun q=>q.elim (c.iv.sigma Jf) fun q=>q.elim).ndb rfl,r.step f kb⟩
 exact J.mono c.it (fun b o e nb=>⟨kb.at e nb,fun q=>nb (q.elim (fun q=>.inl (f.low e q)) .inr)⟩) fun a ha o e=>k.at e fun q=>q.elim (c.iv.sigma (Dc ha)) fun q=>q.elim
theorem Cst.nx{ρ':En}{l':List V}(c:Cst W Λ σ₁ h₁ C₀ D₀ Ls S sc env h σ st ρ l acc)(F:Cfit W Λ h₁ C₀ D₀ Ls env)(hloc:un sc t=true)(i:Inv W σ (nL C₀ D₀ Ls Λ) h' st)(it:S (Bad σ (nL C₀ D₀ Ls Λ)) h' l')(k:Kp (fun a=>a∈Ls∨XN sc env (qa t) a) h h')(V:Vars (nL C₀ D₀ Ls Λ) sc env ρ' σ h'):
 Cst W Λ σ₁ h₁ C₀ D₀ Ls S sc env h' σ st ρ' l' acc:=by
 have xn:∀a,XN sc env (qa t) a→a=C₀:=fun a q=>q.elim (fun q=>q.trans F.loc) fun⟨y,m,e,_⟩=>by
  have z:=eq_of_beq (List.all_eq_true.mp hloc y m)
  rw[e]at z;contradiction
 have k:Kp (fun a=>a∈Ls∨a=C₀) h h':=k.weak fun a q=>q.imp id (xn a)
 refine f7 c.ls fun ws n ho r=>?_
 refine⟨c.fr,c.kp.trans k fun a al q=>?_,i,it,V,c.len,ws,n,(k.at ho fun q=>q.elim F.di fun q=>F.cd q.symm).ndb rfl,r.step Fresh.refl (k.weak fun a q=>.inr (q.elim Dc fun q=>q▸.head _))⟩
 obtain⟨o,e⟩:=al
 rcases q with q|q
 ·rw[F.hI a q]at e;contradiction
 ·rw[q,F.hC]at e;contradiction
theorem Cst.app{y:V}{v:Value}{ws:List Value}{m:Nat}{o':Obj}(c:Cst W Λ σ₁ h₁ C₀ D₀ Ls S sc env h σ st ρ l acc)(F:Cfit W Λ h₁ C₀ D₀ Ls env)(J:Itr W A Ls S it₀ t sc env put)(r:Reps (Bad σ (nL C₀ D₀ Ls Λ)) h ws acc)(r₉:Rep (Bad σ (nL C₀ D₀ Ls Λ)) h v y)(hz:acc.length≤2^20)
 (hs:Heap.SameBut D₀ h h') (ho':h'.get? D₀=some o') (hl:o'=({ cls:=.type "list",data:=.seq (List.toArray (ws++[v])) (m+1) }:Obj)):Cst W Λ σ₁ h₁ C₀ D₀ Ls S sc env h' σ st ρ l (acc++[y]):=by
 have bD:Bad σ (nL C₀ D₀ Ls Λ) D₀:=.inr Jf
 have kpD:Kp (fun a=>a=D₀) h h':=Kp.same hs rfl ho'
 have kpB:Kp (Bad σ (nL C₀ D₀ Ls Λ)) h h':=kpD.weak fun a q=>q▸bD
 refine⟨c.fr,c.kp.trans (W':=fun a=>a=D₀) kpD fun a al q=>?_,c.iv.touch hs Jf ho' (fun q=>absurd q F.fD),J.mono c.it (fun b o e nb=>⟨kpB.at e nb,nb⟩) (fun a ha o e=>kpD.at e fun q=>F.di (q▸ha)),c.vr.mono (fun b o e nb=>⟨kpB.at e nb,nb⟩) fun b o e q=>kpD.at e fun q'=>?_,by rw[List.length_append];exact Nat.succ_le_succ hz,ws++[v],m+1,by rw[ho',hl],(r.step Fresh.refl kpB).append ⟨r₉.step Fresh.refl kpB,trivial⟩⟩
 ·obtain⟨o,e⟩:=al
  rw[q,F.hD]at e;contradiction
 ·rcases q with q|⟨y,q⟩
  ·exact F.cd (F.loc.symm.trans (q.symm.trans q'))
  ·exact F.lD (q'▸F.ce y b q)
theorem Cst.done{mt:Bool}{Q:Value→Shared→Prop}{tk tk':Nat}{s:Shared}(c:Cst W Λ σ₁ h₁ C₀ D₀ Ls S sc env h σ st ρ [] acc)(F:Cfit W Λ h₁ C₀ D₀ Ls env)
 (H:Po W Λ NoX (au Λ) E σ₁ { s with heap:=h₁,toks:=tk } (if mt then .ok (.m st.length) (st++[acc])else .ok (.v (.lst acc)) st) Q)
 {h'':Heap} (x1:XOff Ls h h') (x2:Heap.ExtBut C₀ h' h''):Q (.ref D₀) { s with heap:=h'',toks:=tk' }:=by
 refine f7 c.ls fun ws n ho r=>?_
 have x:XOff (C₀::Ls) h h'':=x1.trans (.of x2)
 have i2:Inv W σ (D₀::Λ) h'' st:=Inv.drop (Ls:=C₀::Ls) c.iv (fun a ha q=>(List.mem_cons.mp ha).elim (fun e=>(List.mem_cons.mp q).elim (fun z=>F.cd (e.symm.trans z)) fun z=>F.lC (e▸z)) fun ha=>(List.mem_cons.mp q).elim (fun z=>F.di (z▸ha)) fun z=>F.lI a ha z) (fun a ha=>(List.mem_cons.mp ha).elim (fun e=>e▸F.fC) fun ha=>F.fI a ha) x
 have mv:∀b o,h.get? b=some o→¬Bad σ (nL C₀ D₀ Ls Λ) b→At h'' b o∧¬Bad σ (D₀::Λ) b:=fun b o e nb=>
  ⟨.inl (x b o (fun q=>nb (.inr ((List.mem_cons.mp q).elim (fun q=>q▸.head _) Dc))) e),fun q=>nb (q.elim .inl fun q=>.inr (.tail _ (List.mem_append_right _ q)))⟩
 have r2:Reps (Bad σ (D₀::Λ)) h'' ws acc:=r.mono mv
 have o2:h''.get? D₀=some ({ cls:=.type "list",data:=.seq (List.toArray ws) n }:Obj):=x _ _ (fun q=>(List.mem_cons.mp q).elim (fun q=>F.cd q.symm) F.di) ho
 have kp:Kp (fun x=>x∈σ₁∨NoX x) h₁ h'':=c.kp.fins (fun a ha=>(List.mem_cons.mp ha).elim (fun e=>e▸F.hC) fun ha=>F.hI a ha) x
 induction mt using Bool.casesOn with
 |true=>
  rw[if_pos rfl]at H
  have i3:=i2.moveM F.lD F.fD o2 r2 c.len
  refine H (σ++[D₀]) h'' tk' (.ref D₀) ?_ kp i3 ⟨D₀,?_,rfl⟩
  ·obtain⟨e,rfl,he⟩:=c.fr
   refine⟨e++[D₀],by rw[List.append_assoc],fun a ha=>?_⟩
   rcases List.mem_append.mp ha with ha|ha
   ·exact he a ha
   ·rw[List.mem_singleton.mp ha];exact F.hD
  ·rw[←c.iv.store.1,List.getElem?_append_right (Nat.le_refl _),Nat.sub_self];rfl
 |false=>
  rw[if_neg (by decide)]at H
  refine H σ h'' tk' (.ref D₀) c.fr kp (i2.unlam F.fD) ?_
  exact⟨D₀,_,ws,n,rfl,fun q=>q.elim (i2.sigma (.head _)) F.lD,o2,rfl,rfl,r2.mono l7⟩
end
structure Kt (β γ:Type) where
 X:Addr→Prop
 Rel:List Addr→Heap→γ→β→Prop
 fin:List V→Sto→Out β
 Q:γ→Shared→Prop
 E:Value→Shared→Prop
noncomputable def Jg(mt:Bool)(acc:List V)(st:Sto):Out D:=if mt then .ok (.m st.length) (st++[acc])else .ok (.v (.lst acc)) st
noncomputable def Owe{β γ:Type}(W:Wd)(Λ:List Addr)(K:Kt β γ)(σ₁:List Addr)(s:Shared)(r:Out (List V)):Prop:=
 Po W Λ K.X K.Rel K.E σ₁ s (r.bind K.fin) K.Q
noncomputable def Dd{β γ:Type}(W:Wd)(Λ:List Addr)(K:Kt β γ)(σ₁:List Addr)(s:Shared)(h₁:Heap)(tk₁:Nat)(C₀ D₀:Addr)(Ls:List Addr)(S:ItS)(sc':Scope)(cenv:Env)(L:List V→En→List V→Sto→Out (List V))(k:Nat)(s₂:Shared):Prop:=
 ∃h₅ tk₅ l₅ ρ₅ σ₅ st₅ acc,s₂={ s with heap:=h₅,toks:=tk₅ }∧k=List.length (α:=Mine.V) l₅∧Cst W Λ σ₁ h₁ C₀ D₀ Ls S sc' cenv h₅ σ₅ st₅ ρ₅ l₅ acc∧Owe W Λ K σ₁ { s with heap:=h₁,toks:=tk₁ } (L l₅ ρ₅ acc st₅)
noncomputable def Fe(W:Wd)(A:Around)(EE:Value→Shared→Prop)(D₀:Addr)(cenv:Env)(elt:PySem.Expr)(ifs:List PySem.Expr)(P:Shared→Prop)(s:Shared):Prop:=
 wpAny (model W.prog W.w) A (forIn ifs true fun c r=>if r=true then do let ok ←PySem.isTrue c cenv (eval c cenv);pure (ForInStep.yield ok)else pure (ForInStep.yield r)) (fun ok s₃=>
  if ok=true then wpAny (model W.prog W.w) A (eval elt cenv) (fun x s₄=>wpAny (model W.prog W.w) A (call (.builtin "list.append") [.ref D₀,x]) (fun o_ s₅=>P s₅) EE s₄) EE s₃ else P s₃) EE s
noncomputable def Me(W:Wd)(A:Around)(R:Result→Shared→Prop)(D₀ it₀:Addr)(cenv:Env)(elt target:PySem.Expr)(ifs:List PySem.Expr)(P:Shared→Prop)(s:Shared):Prop:=
 wpAny (model W.prog W.w) A (pyNext (.ref it₀)) (fun r s₁=>match r with
  |none=>R (.ok .next) s₁
  |some v=>wpAny (model W.prog W.w) A (letOwnedTupleGo target (.ref it₀) v) (fun o_ s₁'=>wpAny (model W.prog W.w) A (assign target cenv v) (fun o_ s₂=>Fe W A (notedBy (model W.prog W.w) A cenv fun e s'=>R (.error e) s') D₀ cenv elt ifs P s₂)
   (notedBy (model W.prog W.w) A cenv fun e s'=>R (.error e) s') s₁') (notedBy (model W.prog W.w) A cenv fun e s'=>R (.error e) s') s₁) (notedBy (model W.prog W.w) A cenv fun e s'=>R (.error e) s') s
theorem zi{R:Result→Shared→Prop}{D₀ it₀:Addr}{cenv:Env}{elt target iter:PySem.Expr}{ifs:List PySem.Expr}{scope:Scope}{pos:Pos}(J:Nat→Shared→Prop)(turn:∀n s,J n s→Me W A R D₀ it₀ cenv elt target ifs (fun s₅=>∃m,m<n∧J m s₅) s)(n:Nat)(h:J n s):
 codeAny (model W.prog W.w) A (.compLoop (.ListComp elt [⟨target,iter,ifs,0⟩] scope pos) 0 (.ref it₀) (.ref D₀) cenv) R s:=by
 refine codeAny_loop rfl J (fun n s hI=>?_) n h
 show wpAny _ A ((compTurn (.ListComp elt [⟨target,iter,ifs,0⟩] scope pos) 0 (.ref it₀) (.ref D₀) cenv).onRaise (fun x=>do noteFrame x cenv;theTreesLotGoes x)) _ _ s
 refine wpAny_noted ?_
 rw[compTurn_list]
 refine wpAny_bind (wpAny_standAt (wpAny_bind (wpAny_mono (turn n s hI) (fun r s₁ h₁=>?_) fun o_ o_ h'=>h')))
 induction r using Option.casesOn with
 |none=>exact wpAny_pure h₁
 |some v=>
  refine wpAny_bind (wpAny_mono h₁ (fun o_ s₁' h₁'=>?_) fun o_ o_ h'=>h')
  refine wpAny_bind (wpAny_mono h₁' (fun o_ s₂ h₂=>wpAny_bind (wpAny_mono h₂ (fun ok s₃ h₃=>?_) fun o_ o_ h'=>h')) fun o_ o_ h'=>h')
  induction ok using Bool.casesOn with
  |false=>exact wpAny_pure ⟨rfl,h₃⟩
  |true=>exact wpAny_bind (wpAny_bind (wpAny_mono h₃ (fun x s₄ h₄=>wpAny_bind (wpAny_mono h₄ (fun o_ s₅ h₅=>wpAny_pure (wpAny_pure ⟨rfl,h₅⟩)) fun o_ o_ h'=>h')) fun o_ o_ h'=>h'))
section
variable {β γ:Type} {K:Kt β γ} {RR:Result→Shared→Prop} {I:In} {σ₁:List Addr} {h₁:Heap} {tk₁:Nat} {C₀ D₀ it₀:Addr} {Ls:List Addr} {S:ItS} {sc':Scope} {cenv:Env} {mt:Bool} {Q:Value→Shared→Prop} {t:PySem.Expr} {put:V→En→Option En}
theorem w3{elt:PySem.Expr}{tst:En→Sto→Out Bool}{E':Value→Shared→Prop}{b:Bool}{σ₈:List Addr}{h₈:Heap}{tk₈:Nat}{st₈:Sto}{ρ₆:En}{l₅ acc:List V}{n₀:Nat}(hn₀:l₅.length<n₀)(hI:IE W A I)(hE':EnvOk W.tabs (nL C₀ D₀ Ls Λ) sc' cenv)
 (F:Cfit W Λ h₁ C₀ D₀ Ls cenv) (J:Itr W A Ls S it₀ t sc' cenv put) (c₈:Cst W Λ σ₁ h₁ C₀ D₀ Ls S sc' cenv h₈ σ₈ st₈ ρ₆ l₅ acc)
 (H₈:Owe W Λ K σ₁ { s with heap:=h₁,toks:=tk₁ } (if b then (I.ex sc' ρ₆ elt st₈).quiet.bind fun d st=>match d with
   |.v y=>if cf acc.length then a8 put tst (fun ρ st=>I.ex sc' ρ elt st) l₅ ρ₆ (acc++[y]) st else .stuck
   |.m _=>.stuck
   else a8 put tst (fun ρ st=>I.ex sc' ρ elt st) l₅ ρ₆ acc st₈)):
 (if b=true then wpAny (model W.prog W.w) A (eval elt cenv)
   (fun x' s₄=>wpAny (model W.prog W.w) A (call (Value.builtin "list.append") [.ref D₀,x']) (fun o_ s₅=>∃m,m<n₀∧Dd W Λ K σ₁ s h₁ tk₁ C₀ D₀ Ls S sc' cenv (a8 put tst fun ρ st=>I.ex sc' ρ elt st) m s₅) E' s₄) E' { s with heap:=h₈,toks:=tk₈ }
   else ∃m,m<n₀∧Dd W Λ K σ₁ s h₁ tk₁ C₀ D₀ Ls S sc' cenv (a8 put tst fun ρ st=>I.ex sc' ρ elt st) m { s with heap:=h₈,toks:=tk₈ }):=by
 induction b using Bool.casesOn with
 |false=>exact⟨l₅.length,hn₀,h₈,tk₈,l₅,_,σ₈,st₈,acc,rfl,rfl,c₈,H₈⟩
 |true=>
  rw[if_pos rfl]at H₈ ⊢
  unfold Owe at H₈
  rw[Out.bind_assoc]at H₈
  refine hI _ _ _ _ elt hE' _ σ₈ _ st₈ _ c₈.iv c₈.vr (Po.sub H₈ fun d st₉ σ₉ h₉ tk₉ v₉ f₉ k₉ i₉ r₉ H₉=>?_)
  have c₉:=c₈.ev F J f₉ k₉ i₉
  induction d using D.casesOn with
  |m i=>exact H₉.elim
  |v y=>
   by_cases hz:cf acc.length=true
   ·have H₉:Owe W Λ K σ₁ { s with heap:=h₁,toks:=tk₁ } (if cf acc.length then a8 put tst (fun ρ st=>I.ex sc' ρ elt st) l₅ ρ₆ (acc++[y]) st₉ else .stuck):=H₉
    rw[if_pos hz]at H₉
    refine f7 c₉.ls fun ws m ho r=>?_
    have hz':acc.length≤2^20:=of_decide_eq_true hz
    exact append_at ho (fun h' hs ho'=>⟨l₅.length,hn₀,h',tk₉,l₅,_,σ₉,st₉,acc++[y],rfl,rfl,c₉.app (m:=m) F J r r₉ hz' hs ho' (by simp),H₉⟩) (by rw[List.size_toArray,r.length];exact Nat.le_trans hz' (by decide))
   ·have H₉:Owe W Λ K σ₁ { s with heap:=h₁,toks:=tk₁ } (if cf acc.length then a8 put tst (fun ρ st=>I.ex sc' ρ elt st) l₅ ρ₆ (acc++[y]) st₉ else .stuck):=H₉
    rw[if_neg hz]at H₉
    exact H₉.elim
theorem Ff{elt:PySem.Expr}{ifs:List PySem.Expr}{E':Value→Shared→Prop}{σ₇:List Addr}{h₇:Heap}{tk₇:Nat}{st₇:Sto}{ρ₆:En}{l₅ acc:List V}{n₀:Nat}(hn₀:l₅.length<n₀)(hI:IE W A I)(hT:IT W A I)(hE':EnvOk W.tabs (nL C₀ D₀ Ls Λ) sc' cenv)
 (F:Cfit W Λ h₁ C₀ D₀ Ls cenv) (J:Itr W A Ls S it₀ t sc' cenv put) (c₇:Cst W Λ σ₁ h₁ C₀ D₀ Ls S sc' cenv h₇ σ₇ st₇ ρ₆ l₅ acc)
 (H₇:Owe W Λ K σ₁ { s with heap:=h₁,toks:=tk₁ } ((ey (I.tt sc') ifs ρ₆ st₇).quiet.bind fun b st=>if b then (I.ex sc' ρ₆ elt st).quiet.bind fun d st=>match d with
   |.v y=>if cf acc.length then a8 put (ey (I.tt sc') ifs) (fun ρ st=>I.ex sc' ρ elt st) l₅ ρ₆ (acc++[y]) st else .stuck
   |.m _=>.stuck
   else a8 put (ey (I.tt sc') ifs) (fun ρ st=>I.ex sc' ρ elt st) l₅ ρ₆ acc st)):
 Fe W A E' D₀ cenv elt ifs (fun s₅=>∃m,m<n₀∧Dd W Λ K σ₁ s h₁ tk₁ C₀ D₀ Ls S sc' cenv (a8 put (ey (I.tt sc') ifs) fun ρ st=>I.ex sc' ρ elt st) m s₅) { s with heap:=h₇,toks:=tk₇ }:=by
 unfold Owe at H₇
 rw[Out.bind_assoc]at H₇
 induction ifs using List.casesOn with
 |nil=>exact wpAny_tests_nil (w3 (b:=true) hn₀ hI hE' F J c₇ H₇)
 |cons q r=>
  induction r using List.casesOn with
  |nil=>
   refine wpAny_tests_one (hT _ _ _ _ q hE' _ σ₇ _ st₇ _ c₇.iv c₇.vr (Po.sub H₇ fun b st₈ σ₈ h₈ tk₈ b' f₈ k₈ i₈ r₈ H₈=>?_))
   have r₈:b'=b:=r₈
   subst r₈
   exact w3 hn₀ hI hE' F J (c₇.ev F J f₈ k₈ i₈) H₈
  |cons _ _=>exact H₇.elim
noncomputable def w4{β γ:Type}(W:Wd)(Λ:List Addr)(K:Kt β γ)(σ₁:List Addr)(s:Shared)(h₁:Heap)(tk₁:Nat)(C₀ D₀:Addr)(Ls:List Addr)(S:ItS)(sc':Scope)(cenv:Env)(RR:Result→Shared→Prop):Prop:=
 ∀h₅ tk₅ σ₅ st₅ ρ₅ acc h',Cst W Λ σ₁ h₁ C₀ D₀ Ls S sc' cenv h₅ σ₅ st₅ ρ₅ [] acc→Po W Λ K.X K.Rel K.E σ₁ { s with heap:=h₁,toks:=tk₁ } (K.fin acc st₅) K.Q→XOff Ls h₅ h'→RR (.ok .next) { s with heap:=h',toks:=tk₅ }
theorem Fg{h₅ h':Heap}{σ₅:List Addr}{st₅:Sto}{ρ₅:En}{l acc:List V}(F:Cfit W Λ h₁ C₀ D₀ Ls cenv)(c:Cst W Λ σ₁ h₁ C₀ D₀ Ls S sc' cenv h₅ σ₅ st₅ ρ₅ l acc)(hx:XOff Ls h₅ h'):∃m,h'.Ns C₀ m:=by
 obtain⟨m,hn,_⟩:=id c.vr
 refine⟨m,?_⟩
 refine qi hn fun o es ep ho r=>?_
 rw[F.loc]at ho
 exact⟨o,es,ep,hx _ _ F.ci ho,r⟩
theorem Fh(F:Cfit W Λ h₁ C₀ D₀ Ls cenv):
 w4 W Λ (⟨NoX,au Λ,Jg mt,Q,E⟩:Kt D Value) σ₁ s h₁ tk₁ C₀ D₀ Ls S sc' cenv (compPost (model W.prog W.w) A E none Q (.ref D₀) C₀):=fun o_ o_ o_ o_ o_ o_ o_ c H₅ hx=>
 (Fg F c hx).elim fun m hm=>⟨m,hm,fun o_ hs=>c.done (mt:=mt) F H₅ hx fun b o_ q e=>(hs.2 b q).trans e⟩
theorem De(hf:w4 W Λ K σ₁ s h₁ tk₁ C₀ D₀ Ls S sc' cenv RR){elt:PySem.Expr}{ifs:List PySem.Expr}{h₅:Heap}{tk₅:Nat}{σ₅:List Addr}{st₅:Sto}{ρ₅:En}{l₅ acc:List V}(hh:A.handled=none)(hI:IE W A I)(hT:IT W A I)(hE':EnvOk W.tabs (nL C₀ D₀ Ls Λ) sc' cenv)
 (F:Cfit W Λ h₁ C₀ D₀ Ls cenv) (J:Itr W A Ls S it₀ t sc' cenv put) (hloc:un sc' t=true) (c:Cst W Λ σ₁ h₁ C₀ D₀ Ls S sc' cenv h₅ σ₅ st₅ ρ₅ l₅ acc)
 (H₅:Owe W Λ K σ₁ { s with heap:=h₁,toks:=tk₁ } (a8 put (ey (I.tt sc') ifs) (fun ρ st=>I.ex sc' ρ elt st) l₅ ρ₅ acc st₅)):
 Me W A RR D₀ it₀ cenv elt t ifs (fun s₅=>∃m,m<l₅.length∧Dd W Λ K σ₁ s h₁ tk₁ C₀ D₀ Ls S sc' cenv (a8 put (ey (I.tt sc') ifs) fun ρ st=>I.ex sc' ρ elt st) m s₅) { s with heap:=h₅,toks:=tk₅ }:=by
 induction l₅ using List.casesOn with
 |nil=>exact J.fin hh (fun a ha=>Dc ha) c.it fun h' hx=>hf _ _ _ _ _ _ _ c H₅ hx
 |cons x l₅=>
  unfold Owe at H₅
  rw[Ax]at H₅
  generalize hput:put x ρ₅=zz at H₅
  induction zz using Option.casesOn with
  |none=>exact H₅.elim
  |some ρ₆=>
   refine wpAny_mono (J.next (st:=st₅) (Q:=fun o_ s₂=>Fe W A (notedBy (model W.prog W.w) A cenv fun e s'=>RR (.error e) s') D₀ cenv elt ifs (fun s₅=>∃m,m<l₅.length+1∧Dd W Λ K σ₁ s h₁ tk₁ C₀ D₀ Ls S sc' cenv (a8 put (ey (I.tt sc') ifs) fun ρ st=>I.ex sc' ρ elt st) m s₅) s₂) hh hE' (fun a ha=>⟨Dc ha,F.fI a ha⟩) (F.loc▸F.ci) (fun x c e q=>F.lI c q (F.ce x c e)) c.iv c.it c.vr hput
    fun h₇ tk₇ i₇ it₇ k₇ V₇=>Ff (tk₇:=tk₇) (Nat.lt_succ_self _) hI hT hE' F J (c.nx F hloc i₇ it₇ k₇ V₇) H₅) (fun r s₁ z=>?_) fun o_ o_ z=>z
   induction r using Option.casesOn with
   |none=>exact z.elim
   |some v=>exact z
noncomputable abbrev LST:Obj:={ cls:=.type "list",data:=.seq ([]:List Value).toArray }
theorem w5{h h':Heap}(k:∀b o,h.get? b=some o→h'.get? b=some o){x:Addr}(n:h'.get? x=none):h.get? x=none:=by
 generalize q:h.get? x=zz
 induction zz using Option.casesOn with
 |none=>rfl
 |some o=>rw[k _ _ q]at n;contradiction
theorem Bf{scope:Scope}{x:Str}(hall:∀x∈scope.names,x.2≠.cell)(q:(aq scope sc).names.lookup x=some .cell∨(aq scope sc).names.lookup x=some .free):scope.names.lookup x=some .free:=by
 rcases q with q|q
 ·obtain⟨k',hk',e⟩:=(j8 (scope:=scope) q).2.1 rfl
  rcases hk' with rfl|rfl
  ·exact absurd rfl (hall _ (mem_of_lookup e))
  ·exact e
 ·exact(j8 (scope:=scope) q).2.2 rfl
theorem Fi{scope:Scope}{cl:List (Str×Addr)}{pr:Src}(hf:Cfit W Λ h₁ C₀ D₀ Ls (compEnvC scope cl C₀ env)→w4 W Λ K σ₁ s h₁ tk₁ C₀ D₀ Ls S (aq scope sc) (compEnvC scope cl C₀ env) RR){elt target iter:PySem.Expr}{ifs:List PySem.Expr}{pos:Pos}{h₂ h₃ h₄:Heap}{tk₄:Nat}{l:List V}{st₁:Sto}(hh:A.handled=none)(hloc:un (aq scope sc) target=true)(hI:IE W A I)(hT:IT W A I)(hE:EnvOk W.tabs Λ sc env)(hkind:scope.kind=.function)
 (hall:∀x∈scope.names,x.2≠.cell) (hfr:∀x∈scope.names,x.2=.free→sc.names.lookup x.1=some .cell∨sc.names.lookup x.1=some .free)
 (hcl1:∀x c,cl.lookup x=some c→env.cells.lookup x=some c) (hcl2:∀x∈scope.names,x.2=.free→∃c,cl.lookup x.1=some c)
 (i₁:Inv W σ₁ Λ h₁ st₁) (V₁:Vars Λ sc env ρ σ₁ h₁) (T:Its W A Λ σ₁ h₁ h₂ st₁ Ls S it₀ pr l) (i₃:Inv W σ₁ (D₀::(Ls++Λ)) h₃ st₁) (n2:h₂.get? D₀=none) (n3:h₃.get? C₀=none)
 (kp2:∀b o,h₂.get? b=some o→h₃.get? b=some o) (kp3:∀b o,h₃.get? b=some o→h₄.get? b=some o)
 (hDl:D₀∉Ls++Λ) (hCl:C₀∉D₀::(Ls++Λ)) (hsz:W.base.objs.size≤C₀) (oD:h₃.get? D₀=some LST) (hns:∃m,h₄.Ns C₀ m)
 (H₁:Owe W Λ K σ₁ { s with heap:=h₁,toks:=tk₁ } (a8 (m9 pr (aq scope sc) target) (ey (I.tt (aq scope sc)) ifs) (fun ρ st=>I.ex (aq scope sc) ρ elt st) l (az (aq scope sc) ρ) [] st₁)):
 codeAny (model W.prog W.w) A (.compStart (.ListComp elt [⟨target,iter,ifs,0⟩] scope pos) 0 (.ref it₀) (.ref D₀) (compEnvC scope cl C₀ env)) RR { s with heap:=h₄,toks:=tk₄ }:=by
 have hD1:=w5 T.kp n2
 have hC1:=w5 (fun b o e=>kp2 b o (T.kp b o e)) n3
 have kp14:∀b o,h₁.get? b=some o→h₄.get? b=some o:=fun b o e=>kp3 _ _ (kp2 _ _ (T.kp _ _ e))
 have lI:∀a∈Ls,a∉Λ:=fun a ha q=>by
  obtain⟨o,e⟩:=(i₁.new a (.inr q)).2
  rw[T.no a ha]at e;contradiction
 have F:Cfit W Λ h₁ C₀ D₀ Ls (compEnvC scope cl C₀ env):=⟨hC1,hD1,T.no,i₁.nfr hC1,i₁.nfr hD1,fun a ha=>i₁.nfr (T.no a ha),fun q=>hCl (.tail _ (List.mem_append_right _ q)),fun q=>hDl (List.mem_append_right _ q),lI,fun q=>hCl (q▸.head _),fun q=>hCl (.tail _ (List.mem_append_left _ q)),fun q=>hDl (List.mem_append_left _ q),rfl,fun x d e=>hE.cin x d (hcl1 x d e)⟩
 have hE':EnvOk W.tabs (nL C₀ D₀ Ls Λ) (aq scope sc) (compEnvC scope cl C₀ env):=
  ⟨hkind,Fd hE scope,hE.globals,hE.builtins,.head _,fun x c e=>Ra (hE.cin x c (hcl1 x c e)),fun x q=>hcl2 _ (mem_of_lookup (Bf hall q)) rfl,fun x y c e e'=>hE.inj x y c (hcl1 x c e) (hcl1 y c e'),fun q=>hE.cd (zh hall q)⟩
 have mv14:∀b o,h₁.get? b=some o→¬Bad σ₁ Λ b→At h₄ b o∧¬Bad σ₁ (nL C₀ D₀ Ls Λ) b:=fun b o e nb=>⟨.inl (kp14 b o e),fun q=>by
  rcases q with q|q
  ·exact nb (.inl q)
  ·rcases Md q with q|q|q|q
   ·rw[q,hC1]at e;contradiction
   ·rw[T.no b q]at e;contradiction
   ·rw[q,hD1]at e;contradiction
   ·exact nb (.inr q)⟩
 have V₅:Vars (nL C₀ D₀ Ls Λ) (aq scope sc) (compEnvC scope cl C₀ env) (az (aq scope sc) ρ) σ₁ h₄:=by
  obtain⟨mm,hns⟩:=hns
  refine⟨mm,hns,fun x c e=>⟨(V₁.cells x c (hcl1 x c e)).1,(V₁.cells x c (hcl1 x c e)).2.imp fun w z=>pe z fun o e=>.inl (kp14 _ _ e)⟩,fun x d e=>?_⟩
  obtain⟨e1,e2⟩:=d5 e
  refine⟨fun q=>by rw[q]at e2;rcases e2 with e2|e2<;>contradiction,fun q=>?_⟩
  have scf:=Bf hall q
  obtain⟨c',hc'⟩:=hcl2 _ (mem_of_lookup scf) rfl
  obtain⟨m,hn,_,Vm⟩:=V₁
  refine ni ((Vm x d e1).2 (hfr _ (mem_of_lookup scf) rfl)) fun c ob w' hcl hob hod hcs rr=>?_
  have:=hcl1 x c' hc'
  rw[hcl]at this
  injection this with this
  subst this
  exact⟨_,ob,w',hc',kp14 _ _ hob,hod,hcs,rr.mono mv14⟩
 have hit₅:S (Bad σ₁ (nL C₀ D₀ Ls Λ)) h₄ l:=by
  refine(T.itr (t:=target) (sc:=sc) (env:=env)).mono T.it (fun b o' e nb=>⟨.inl (kp3 _ _ (kp2 _ _ e)),fun q=>?_⟩) fun a o_ o' e=>.inl (kp3 _ _ (kp2 _ _ e))
  rcases q with q|q
  ·exact nb (.inl q)
  ·rcases Md q with q|q|q|q
   ·rw[←q,kp2 _ _ e]at n3;contradiction
   ·exact nb (.inr (List.mem_append_left _ q))
   ·rw[q,n2]at e;contradiction
   ·exact nb (.inr (List.mem_append_right _ q))
 have i₅:Inv W σ₁ (nL C₀ D₀ Ls Λ) h₄ st₁:=hns.elim fun m hns=>(dw hns).elim fun oC hoC=>(i₃.perm fun a=>(List.perm_middle (l₁:=Ls)).mem_iff).lam n3 kp3 hoC hsz
 have loop:codeAny (model W.prog W.w) A (.compLoop (.ListComp elt [⟨target,iter,ifs,0⟩] scope pos) 0 (.ref it₀) (.ref D₀) (compEnvC scope cl C₀ env)) RR { s with heap:=h₄,toks:=tk₄ }:=by
  refine zi (Dd W Λ K σ₁ s h₁ tk₁ C₀ D₀ Ls S (aq scope sc) (compEnvC scope cl C₀ env) (a8 (m9 pr (aq scope sc) target) (ey (I.tt (aq scope sc)) ifs) fun ρ st=>I.ex (aq scope sc) ρ elt st)) (fun k s₂ hI2=>?_) l.length ⟨h₄,tk₄,l,_,σ₁,st₁,[],rfl,rfl,⟨Fresh.refl,Kp.all kp14,i₅,hit₅,V₅,Nat.zero_le _,[],0,kp3 _ _ oD,trivial⟩,H₁⟩
  refine Nu hI2 fun h₅ tk₅ l₅ ρ₅ σ₅ st₅ acc ee7 ee8 c H₅=>?_
  subst ee7
  subst ee8
  exact De (hf F) hh hI hT hE' F T.itr hloc c H₅
 exact codeAny_compStart_list loop ((T.itr (t:=target) (sc:=sc) (env:=env)).self hit₅ loop)
end
theorem Jh{scope:Scope}(h:jf scope sc=true):scope.kind=.function∧(∀x∈scope.names,x.2≠.cell)∧(∀x∈scope.names,x.2=.local→scope.names.lookup x.1=some .local)∧(∀x∈scope.names,x.2=.free→sc.names.lookup x.1=some .cell∨sc.names.lookup x.1=some .free):=by
 unfold jf at h
 obtain⟨hkind,hall⟩:=zan h
 have hall':∀x∈scope.names,x.2≠.cell∧(x.2=.local→scope.names.lookup x.1=some .local)∧(x.2=.free→scope.names.lookup x.1=some .free∧(sc.names.lookup x.1=some .cell∨sc.names.lookup x.1=some .free)):=fun x hx=>by
  have:=List.all_eq_true.mp hall x hx
  simp only[Bool.and_eq_true,Bool.or_eq_true,bne_iff_ne,ne_eq,beq_iff_eq]at this
  refine⟨this.1.1,fun e=>this.1.2.resolve_left fun q=>q e,fun e=>this.2.resolve_left fun q=>q e⟩
 exact⟨by simpa using hkind,fun x hx=>(hall' x hx).1,fun x hx=>(hall' x hx).2.1,fun x hx e=>((hall' x hx).2.2 e).2⟩
theorem Fj{iter:PySem.Expr}(h:ct iter=false)(x:Value):foldedSetIterable iter env x=pure x:=by
 cases iter<;>first|rfl|(first|subst h|contradiction|(injection h with h;subst h)|cases h)
theorem tx{C:Cx}{β γ:Type}{I:In}{use:Option (Value→Sem Unit)}{X:Addr→Prop}{Rel:List Addr→Heap→γ→β→Prop}{fin:List V→Sto→Out β}{Q₀:γ→Shared→Prop}{Qc:Value→Shared→Prop}(hC:CxOk W C)(hh:A.handled=none)(hE:EnvOk W.tabs Λ sc env)(hI:IE W A I)(hT:IT W A I){elt target iter:PySem.Expr}{ifs:List PySem.Expr}{scope:Scope}{pos cpos:Pos}
 (hok:jf scope sc=true) (hdisp:ct iter=false) (hnm:un (aq scope sc) target=true) (iv:Inv W σ Λ s.heap st) (V:Vars Λ sc env ρ σ s.heap)
 (H:Po W Λ X Rel E σ s ((f6 (I.ex sc ρ) (cn C sc iter) st).bind fun l st=>(a8 (m9 (cn C sc iter).1 (aq scope sc) target) (ey (I.tt (aq scope sc)) ifs) (fun ρ st=>I.ex (aq scope sc) ρ elt st) l (az (aq scope sc) ρ) [] st).bind fin) Q₀)
 (hf:∀σ₁ st₁ h₁ tk₁ C₀ D₀ Ls S cl,Inv W σ₁ Λ h₁ st₁→Vars Λ sc env ρ σ₁ h₁→Cfit W Λ h₁ C₀ D₀ Ls (compEnvC scope cl C₀ env)→
   w4 W Λ (⟨X,Rel,fin,Q₀,E⟩:Kt β γ) σ₁ s h₁ tk₁ C₀ D₀ Ls S (aq scope sc) (compEnvC scope cl C₀ env) (compPost (model W.prog W.w) A E use Qc (.ref D₀) C₀)):
 wpAny (model W.prog W.w) A (comprehension (.ListComp elt [⟨target,iter,ifs,0⟩] scope pos) scope env cpos (newList []) false (eval iter env) use) Qc E s:=by
 refine fk (Jh hok) fun hkind hall hloc hfr=>?_
 refine bq (i9 (env:=env) (scope:=scope) fun x hx e=>hE.cells x.1 (hfr x hx e)) fun cl hclos hcl1 hcl2=>?_
 refine wpAny_comprehension_free (g:=⟨target,iter,ifs,0⟩) (gs:=[]) rfl (Fj hdisp) hclos hkind hloc (q6 hC hE hI iv V H fun σ₁ h₁ tk₁ st₁ l h₂ tk₂ it₀ Ls S f₁ k₁ i₁ T H₁=>?_)
 have V₁:=V.step (iv.sigma hE.loc) f₁ k₁
 have i₃:Inv W σ₁ (h₂.objs.size::(Ls++Λ)) (h₂.push LST) st₁:=T.iv.lam an (fun b o' e=>Heap.get?_push_of_some _ e) (Heap.get?_push_size _ rfl) T.iv.size
 exact wpAny_newList (wpAny_newFunctionEnv hall (fun x hx=>(nomatch hx)) (fun h₄ hns hsb=>
  have kp3:∀b o',(h₂.push LST).get? b=some o'→h₄.get? b=some o':=fun b o' e=>(hsb.2 b fun q=>by rw[q]at e;rw[an]at e;contradiction).trans (Heap.get?_push_of_some _ e)
  Fi (K:=⟨X,Rel,fin,Q₀,E⟩) (fun F=>hf σ₁ st₁ h₁ tk₁ _ _ _ _ cl i₁ V₁ F) hh hnm hI hT hE hkind hall hfr hcl1 hcl2 i₁ V₁ T i₃ an an (fun b o' e=>Heap.get?_push_of_some _ e) kp3
   (fun q=>T.iv.newAddr (.inr q)) (fun q=>i₃.newAddr (.inr q)) i₃.size (Heap.get?_push_size _ rfl) ⟨_,hns⟩ H₁) hkind) (by decide)
theorem zj{C:Cx}{I:In}(hC:CxOk W C)(hh:C.hand=false→A.handled=none)(hE:EnvOk W.tabs Λ sc env)(hI:IE W A I)(hT:IT W A I){elt target iter:PySem.Expr}{ifs:List PySem.Expr}{scope:Scope}{pos:Pos}{Q:Value→Shared→Prop}
 (iv:Inv W σ Λ s.heap st) (V:Vars Λ sc env ρ σ s.heap)
 (H:Po W Λ NoX (au Λ) E σ s (if((jf scope sc&& !ct iter)&&un (aq scope sc) target)&& !C.hand then (f6 (I.ex sc ρ) (cn C sc iter) st).bind fun l st=>(a8 (m9 (cn C sc iter).1 (aq scope sc) target) (ey (I.tt (aq scope sc)) ifs) (fun ρ st=>I.ex (aq scope sc) ρ elt st) l (az (aq scope sc) ρ) [] st).bind (Jg (C.mt pos))
   else .stuck) Q):wpAny (model W.prog W.w) A (eval (.ListComp elt [⟨target,iter,ifs,0⟩] scope pos) env) Q E s:=by
 by_cases hc:(((jf scope sc&& !ct iter)&&un (aq scope sc) target)&& !C.hand)=true
 ·rw[if_pos hc]at H
  simp only[Bool.and_eq_true,Bool.not_eq_true']at hc
  exact tx hC (hh hc.2) hE hI hT hc.1.1.1 hc.1.1.2 hc.1.2 iv V H fun o_ o_ o_ o_ o_ o_ o_ o_ o_ o_ o_ F=>Fh F
 ·rw[if_neg hc]at H;exact H.elim
theorem Ji{y:Str}{py:Pos}{mt:Bool}{Q:Flow→Shared→Prop}{σ₁:List Addr}{h₁:Heap}{tk₁:Nat}{st₁:Sto}{C₀ D₀:Addr}{Ls:List Addr}{S:ItS}{sc':Scope}{cenv:Env}(hE:EnvOk W.tabs Λ sc env)(hy:sc.names.lookup y=some .local)(i₁:Inv W σ₁ Λ h₁ st₁)(V₁:Vars Λ sc env ρ σ₁ h₁)(F:Cfit W Λ h₁ C₀ D₀ Ls cenv):
 w4 W Λ (⟨XL env,ck Λ sc env,fun acc st=>(Jg mt acc st).bind fun d st=>.ok (.next,dg y d ρ) st,Q,E⟩:Kt (Fl×En) Flow) σ₁ s h₁ tk₁ C₀ D₀ Ls S sc' cenv
  (compPost (model W.prog W.w) A E (some (assign (.Name y py) env)) (fun o_ s'=>Q .next s') (.ref D₀) C₀):=fun h₅ tk₅ σ₅ st₅ ρ₅ acc h' c H₅ hx=>by
 have ge:env.locals≠C₀:=fun q=>F.lC (q▸hE.loc)
 have kp1:=c.kp.fins F.hI hx
 have key:∀σ' st' d,Inv W σ' (C₀::Λ) h' st'→Fresh σ₁ σ' h₁→RepD σ' (Bad σ' (C₀::Λ)) h' (.ref D₀) d→Po W Λ (XL env) (ck Λ sc env) E σ₁ { s with heap:=h₁,toks:=tk₁ } (.ok (Fl.next,dg y d ρ) st') Q→
  wpAny (model W.prog W.w) A (assign (.Name y py) env (.ref D₀)) (fun o_ s''=>∃m,s''.heap.Ns C₀ m∧∀h',Heap.SameBut C₀ s''.heap h'→Q .next { s'' with heap:=h' }) E { s with heap:=h',toks:=tk₅ }:=by
  intro σ' st' d i f r H
  have V':Vars (C₀::Λ) sc env ρ σ' h':=by
   have V2:Vars (C₀::Λ) sc env ρ σ₁ h₁:=V₁.mono (fun b o e nb=>⟨.inl e,fun q=>q.elim (fun q=>nb (.inl q)) fun q=>(List.mem_cons.mp q).elim (fun q=>by rw[q,F.hC]at e;contradiction) fun q=>nb (.inr q)⟩) fun o_ o_ e o_=>.inl e
   exact V2.step (i₁.sigma hE.loc) f kp1
  refine wpAny_assign_Name (gq (hE.lam C₀) i V' (by unfold je;rw[hy];rfl) r fun h₇ tk₇ i₇ k₇ V₇=>?_)
  have k₇:Kp (fun a=>a=env.locals) h' h₇:=k₇.weak fun a q=>q.elim id fun⟨z,m,e,_⟩=>by rw[List.mem_singleton.mp m,hy]at e;contradiction
  obtain⟨m,hm⟩:=Fg F c hx
  refine⟨m,ko hm fun o e=>k₇.at e fun q=>ge q.symm,fun h'' hs=>?_⟩
  have x3:Heap.ExtBut C₀ h₇ h'':=fun b o q e=>(hs.2 b q).trans e
  have i₈:Inv W σ' Λ h'' st':=Inv.drop (Ls:=[C₀]) i₇ (fun a ha=>(List.mem_singleton.mp ha).symm▸F.lC) (fun a ha=>(List.mem_singleton.mp ha).symm▸F.fC) (.of x3)
  have V₈:Vars Λ sc env (dg y d ρ) σ' h'':=Vars.drop (Ls:=[C₀]) V₇ (fun q=>ge (List.mem_singleton.mp q)) (fun x c e q=>F.lC (List.mem_singleton.mp q▸hE.cin x c e)) (.of x3)
  refine H σ' h'' tk₇ .next f ?_ i₈ ⟨trivial,V₈⟩
  refine Kp.fin (Kp.trans (W:=fun x=>x∈σ₁∨XL env x) (kp1.weak fun a q=>q.elim .inl fun q=>q.elim) k₇ fun a o_ q=>.inr (.inl q)) F.hC x3
 refine f7 c.ls fun ws n ho r=>?_
 have dl:D₀∉C₀::Λ:=fun q=>(List.mem_cons.mp q).elim (fun q=>F.cd q.symm) F.lD
 have i1:Inv W σ₅ (D₀::C₀::Λ) h' st₅:=Inv.drop (Ls:=Ls) (c.iv.perm fun a=>by
  simp only[List.mem_cons,List.mem_append]
  exact⟨fun z=>z.elim (fun z=>.inr (.inl z)) fun z=>z.elim (fun z=>.inr (.inr (.inl z))) fun z=>z.elim .inl fun z=>.inr (.inr (.inr z)),fun z=>z.elim (fun z=>.inr (.inr (.inl z))) fun z=>z.elim .inl fun z=>z.elim (fun z=>.inr (.inl z)) fun z=>.inr (.inr (.inr z))⟩) (fun a ha q=>(List.mem_cons.mp q).elim (fun z=>F.di (z▸ha)) fun q=>(List.mem_cons.mp q).elim (fun z=>F.ci (z▸ha)) fun q=>F.lI a ha q) F.fI hx
 have o1:h'.get? D₀=some ({ cls:=.type "list",data:=.seq (List.toArray ws) n }:Obj):=hx _ _ F.di ho
 have r1:Reps (Bad σ₅ (D₀::C₀::Λ)) h' ws acc:=r.mono fun b o e nb=>⟨.inl (hx b o (fun q=>nb (.inr (Dc q))) e),fun q=>nb (q.elim .inl fun q=>.inr ((List.mem_cons.mp q).elim (fun q=>q▸Jf) fun q=>(List.mem_cons.mp q).elim (fun q=>q▸.head _) Ra))⟩
 induction mt using Bool.casesOn with
 |true=>
  refine key (σ₅++[D₀]) _ (.m st₅.length) (i1.moveM dl F.fD o1 r1 c.len) ?_ ⟨D₀,?_,rfl⟩ H₅
  ·obtain⟨e,rfl,he⟩:=c.fr
   refine⟨e++[D₀],by rw[List.append_assoc],fun a ha=>?_⟩
   rcases List.mem_append.mp ha with ha|ha
   ·exact he a ha
   ·rw[List.mem_singleton.mp ha];exact F.hD
  ·rw[←c.iv.store.1,List.getElem?_append_right (Nat.le_refl _),Nat.sub_self];rfl
 |false=>
  refine key σ₅ st₅ (.v (.lst acc)) (i1.unlam F.fD) c.fr ?_ H₅
  exact⟨D₀,_,ws,n,rfl,fun q=>q.elim (i1.sigma (.head _)) dl,o1,rfl,rfl,r1.mono l7⟩
theorem Fk{gens:List Comprehension}{g:PySem.Expr×PySem.Expr×List PySem.Expr}(hg:gy gens=some g):gens=[⟨g.1,g.2.1,g.2.2,0⟩]:=by
 refine ao hg fun x hx hg=>gf hg fun hz hg=>?_
 obtain⟨t,i,f,a⟩:=x
 rw[ng hx,←Option.some.inj hg,show a=0 from eq_of_beq hz]
theorem Fm{C:Cx}{I:In}(hC:CxOk W C)(hh:C.hand=false→A.handled=none)(hE:EnvOk W.tabs Λ sc env)(hI:IE W A I)(hT:IT W A I){x:Str}{xp:Pos}{elt:PySem.Expr}{gens:List Comprehension}{scope:Scope}{cp pos:Pos}{Q:Flow→Shared→Prop}
 (iv:Inv W σ Λ s.heap st) (V:Vars Λ sc env ρ σ s.heap)
 (H:Po W Λ (XL env) (ck Λ sc env) E σ s (if wh sc x xp scope cp then (Ay C I sc ρ elt gens scope cp st).bind fun d st=>.ok (.next,dg x d ρ) st else .stuck) Q):wpAny (model W.prog W.w) A (exec (.Assign [.Name x xp] (.ListComp elt gens scope cp) pos) env) Q E s:=by
 by_cases hu:wh sc x xp scope cp=true
 ·rw[if_pos hu]at H
  unfold wh at hu
  simp only[Bool.and_eq_true]at hu
  obtain⟨h1,h2,h3⟩:=hu
  have hsw:swapsWith (.ListComp elt gens scope cp) (some (.Name x xp)) pos.line env=pure true:=by
   show(pure (env.blockKind==.function&&env.kindOf x==some .local&&xp.line==cp.line&& !(scope.names.any fun(n,k)=>n==x&&(k==.local||k==.cell))):Sem Bool)=pure true
   have e1:(env.blockKind==.function)=true:=by unfold Env.blockKind;rw[hE.scope,hE.kind];rfl
   have e2:(env.kindOf x==some .local)=true:=by unfold Env.kindOf;rw[hE.scope];exact h1
   rw[e1,e2,h2]
   exact congrArg pure h3
  unfold Ay at H
  generalize hg:gy gens=zz at H
  induction zz using Option.casesOn with
  |none=>exact H.elim
  |some g=>
   obtain⟨target,iter,ifs⟩:=g
   obtain rfl:=Fk hg
   dsimp only at H
   by_cases hc:(((jf scope sc&& !ct iter)&&un (aq scope sc) target)&& !C.hand)=true
   ·rw[if_pos hc,Out.bind_assoc]at H
    simp only[Bool.and_eq_true,Bool.not_eq_true']at hc
    rw[exec_Assign_Name_used _ _ _ _ hsw]
    refine wpAny_bind (wpAny_standAt (wpAny_bind ?_))
    show wpAny _ A (do let _ ←comprehension (.ListComp elt [⟨target,iter,ifs,0⟩] scope cp) scope env _ (newList []) false (eval iter env) (some (assign (.Name x xp) env))) _ _ s
    refine wpAny_bind (wpAny_mono (tx (Qc:=fun o_ s'=>Q .next s') hC (hh hc.2) hE hI hT hc.1.1.1 hc.1.1.2 hc.1.2 iv V (fin:=fun acc st=>(Jg (C.mt cp) acc st).bind fun d st=>.ok (.next,dg x d ρ) st) (Q₀:=Q) (X:=XL env) (Rel:=ck Λ sc env) ?_ fun o_ o_ o_ o_ o_ o_ o_ o_ o_ i₁ V₁ F=>Ji hE (eq_of_beq h1) i₁ V₁ F)
     (fun o_ s' hq=>wpAny_pure (wpAny_pure hq)) fun o_ o_ e=>e)
    refine cast (congrArg (fun r=>Po W Λ (XL env) (ck Λ sc env) E σ s r Q) ?_) H
    congr 1
    funext l st
    exact Out.bind_assoc ..
   ·rw[if_neg hc]at H;exact H.elim
 ·rw[if_neg hu]at H;exact H.elim
end
noncomputable abbrev w6:String:="Exception.__new__"
structure BmOk (bm:List Value):Prop where
 hasB:bm.contains (.type "Exception")=true
 noAttr:bm.contains (.type "AttributeError")=false
 noName:bm.contains (.type "NameError")=false
section
variable {nm q:Str} {C N:Addr} {bs bm:List Value} {hdct:Bool} {sn:List Str} {sub:List Value} {ab:Bool} {col:Option Bool} {dd:Option Addr} {k0 k1 k2 k3 k5:Option Value}
theorem Df{M:Model}{A:Around}{E:Value→Shared→Prop}{h:Heap}{g:Array GenState}{d:Drawn}{t:Nat}{os:OsState}(B:BmOk bm){rest:List Value}{Q:Unit→Shared→Prop}
 (hC:h.get? C=some (excClassObj nm q C N bs bm hdct sn sub ab col dd k0 k1 k2 k3 k5 w6)) (hq:Q () ⟨h,g,d,t,os⟩):wpAny M A (checkBuiltinCall w6 ⟨.ref C::rest,[]⟩) Q E ⟨h,g,d,t,os⟩:=by
 have F:=PySem.F.excBase_Exception
 have hcont:(Value.ref C::bm).contains (.type "Exception")=true:=by rw[List.contains_cons,B.hasB,Bool.or_true]
 have hstar:=F.noStar
 simp only[checkBuiltinCall,F.newKind,F.newSplit,F.newRow]
 repeat (first|refine wpAny_loadPart_at hC ?_|(refine wpAny_isSubtype_exc hC ?_;rw[hcont])|refine wpAny_staticBase_exc hC ?_|refine wpAny_madeBy_exc hC ?_|simp only[bne_self_eq_false,Bool.false_eq_true,if_false]|wp_step)
 exact hq
noncomputable abbrev fm(C t:Addr):Obj:={ cls:=.ref C,data:=.fields #[.ref t,.none,.none,.none,.bool false,.none] }
noncomputable abbrev ca(h:Heap)(C:Addr)(rest:List Value):Heap:=(h.push { cls:=.type "tuple",data:=.seq rest.toArray }).push (fm C h.objs.size)
theorem Jj{prog:Program}{w:World}{A:Around}{R:Result→Shared→Prop}{h:Heap}{g:Array GenState}{d:Drawn}{t:Nat}{os:OsState}(B:BmOk bm){rest:List Value}
 (hC:h.get? C=some (excClassObj nm q C N bs bm hdct sn sub ab col dd k0 k1 k2 k3 k5 w6)) (hq:R (.ok (.ret (.ref (h.objs.size+1)))) ⟨ca h C rest,g,d,t,os⟩) (hrest:rest.length≤sizeLine):
 codeAny (model prog w) A (.builtin w6 ⟨.ref C::rest,[]⟩) R ⟨h,g,d,t,os⟩:=by
 have F:=PySem.F.excBase_Exception
 have hends:=F.ends
 have hcB:(Value.ref C::bm).contains (.type "Exception")=true:=by rw[List.contains_cons,B.hasB,Bool.or_true]
 have hcA:(Value.ref C::bm).contains (.type "AttributeError")=false:=by rw[List.contains_cons,B.noAttr];rfl
 have hcN:(Value.ref C::bm).contains (.type "NameError")=false:=by rw[List.contains_cons,B.noName];rfl
 refine codeAny_builtinAt F.entry ?_
 unfold Builtin.«BaseException.__new__»
 refine PySem.wpAt_bind ?_
 show PySem.wpAt _ _ _ (stack>>=_) _ _ _
 refine PySem.wpAt_bind (PySem.wpAt_stack fun p below=>PySem.wpAt_of_wpAny ?_)
 wp_walk
 refine PySem.wpAt_of_wpAny ?_
 rw[F.owner]
 repeat (first|with_reducible refine wpAny_madeHere_exc F.canon hC ?_|with_reducible refine wpAny_loadPart_at hC ?_|(with_reducible refine wpAny_isSubtype_exc hC ?_;first|rw[hcB]|rw[hcA]|rw[hcN])|wp_step)
 show R _ _
 rw[Heap.size_push]
 exact hq
theorem Jk{M:Model}{h:Heap}{base:Value}(hC:h.get? C=some (excClassObj nm q C N bs bm hdct sn sub ab col dd k0 k1 k2 k3 k5 w6)):Looks M h (isSubtype (.ref C) base) ((Value.ref C::bm).contains base):=by
 intro A Q E s k z
 obtain⟨hh,g,d,t,os⟩:=s
 exact wpAny_isSubtype_exc (k _ _ hC) z
theorem Fn{prog:Program}{w:World}{A:Around}{E:Value→Shared→Prop}{h:Heap}{g:Array GenState}{d:Drawn}{t:Nat}{os:OsState}(B:BmOk bm){rest:List Value}{init:Value}{Q:Value→Shared→Prop}
 (hC:h.get? C=some (excClassObj nm q C N bs bm hdct sn sub ab col dd k0 k1 k2 k3 k5 w6)) (hi:Looks (model prog w) h (typeLookup (.ref C) "__init__") (some init)) (hb:∀self,Looks (model prog w) h (bindSpecial init self) (init,[self])) (hrest:rest.length≤sizeLine)
 (hq:codeAny (model prog w) (A.under (.builtin "type.__call__" ⟨.ref C::rest,[]⟩)) (.call init ⟨.ref (h.objs.size+1)::rest,[]⟩) (fun r s'=>match r with|.ok (.ret v)=>v=.none∧Q (.ref (h.objs.size+1)) s'|.ok _=>False|.error e=>E e s') ⟨ca h C rest,g,d,t,os⟩):
 wpAny (model prog w) A (call (.ref C) rest) Q E ⟨h,g,d,t,os⟩:=by
 have F:=PySem.F.excBase_Exception
 have f1:=tc_lookup
 have f2:=tc_bind (.ref C)
 have hT:(⟨h,g,d,t,os⟩:Shared).TypeIs (.ref C) "type":=⟨_,hC,rfl⟩
 refine wpAny_call (codeAny_of_tree ?_)
 show wpAny _ _ (callAny (.ref C) _) _ _ _
 repeat (any_goals (first|assumption|with_reducible refine wpAny_loadPart_at hC ?_|wp_step))
 refine⟨rfl,?_⟩
 refine codeAny_call_builtin_at (Code.quiet_builtin _ (by decide+kernel)) entry_typeCall (wpAny_check_type_call_sub hC ?_)
 unfold Builtin.«type.__call__»
 repeat (first|with_reducible refine wpAny_loadPart_at hC ?_|with_reducible refine wpAny_madeBy_exc hC ?_|wp_step)
 refine codeAny_call_builtin_code (Code.quiet_builtin _ F.quiet) (Df B hC ?_)
 refine Jj B hC ?_ hrest
 show wpAny _ _ _ _ _ _
 have k:∀b o,h.get? b=some o→(ca h C rest).get? b=some o:=fun b o e=>Heap.get?_push_of_some _ (Heap.get?_push_of_some _ e)
 have hx:(ca h C rest).get? (h.objs.size+1)=some (fm C h.objs.size):=by
  have:=Heap.get?_push_size (h.push { cls:=.type "tuple",data:=.seq rest.toArray }) (o:=fm C h.objs.size) rfl
  rw[Heap.size_push]at this
  exact this
 have t1:Looks (model prog w) (ca h C rest) (typeOf (.ref (h.objs.size+1))) (.ref C):=(Looks.ld hx).andThen .now
 have s1:Looks (model prog w) (ca h C rest) (isSubtype (.ref C) (.ref C)) true:=by
  have z:=Jk (M:=model prog w) (base:=.ref C) (k _ _ hC)
  rw[show(Value.ref C::bm).contains (.ref C)=true by simp]at z
  exact z
 have i1:=hi.keeps k
 have b1:=(hb (.ref (h.objs.size+1))).keeps k
 show wpAny _ _ _ _ _ ⟨ca h C rest,g,d,t,os⟩
 unfold isInstance callSpecial? specialOf
 repeat (first|with_reducible refine wpAny_call ?_|lk)
 refine codeAny_mono hq fun r s' z=>?_
 rcases r with e|(v|_|_|_)<;>first|exact z|exact z.elim|skip
 obtain⟨rfl,z⟩:=z
 exact wpAny_pure (wpAny_pure z)
end
end Mine
end
section
open PySem PySem.W PySem.Spec PySem.Calls PyProof.Rows Builtin Builtin.ObjectAttr
namespace Mine
noncomputable def pf:List Value→Bool
 |.ref _::r=>pf r
 |l=>l==[.type "Exception",.type "BaseException",.type "object"]
noncomputable def Jl(K:Frag)(C:Addr):Bool:=(clsIn K C).any fun cd=>onlyObject cd.mro||pf cd.mro
theorem q7(self:Value):∀{l:List Value},pf l=true→refuseLoop self "__setattr__" l=pure ()∧l.contains (.type "object")=true
 |[],h=>by contradiction
 |a::r,h=>by
  cases a with
  |ref c=>
   obtain⟨h1,h2⟩:=q7 self (l:=r) h
   exact⟨by rw[refuseLoop_ref];exact h1,by rw[List.contains_cons,h2,Bool.or_true]⟩
  |_=>
   have h:=eq_of_beq (h:(_==_)=true)
   rw[h]
   exact⟨PySem.F.store_Exception.passes self,by decide⟩
theorem zk{self:Value}{l:List Value}(h:(onlyObject l||pf l)=true):refuseLoop self "__setattr__" l=pure ()∧l.contains (.type "object")=true:=by
 rcases Bool.or_eq_true_iff.mp h with h|h
 ·exact⟨refuse_only self h,only_has h⟩
 ·exact q7 self h
section
variable {prog:Program} {w:World} {A:Around} {E:Value→Shared→Prop} {s:Shared} {K:Frag} {x C:Addr} {name:Str} {v:Value} {ox:Obj} {od:Option Obj}
theorem Bh{tk:Tok}{R:Result→Shared→Prop}(X:K.In s.heap)(I:InstAt s.heap x ox C od)(hp:Jl K C=true)(ht:takerIn K C name=some none)
 (h:∀b,wpAny (model prog w) A.in1 (storeInOwnDict (.ref x) (.ref C) (.str name tk) name v b)
   (fun fin s'=>match fin with|.done f=>R (.ok f) s'|.again c'=>c'.quiet=true∧codeAny (model prog w) A c' R s') (fun e s'=>R (.error e) s') s):
 codeAny (model prog w) A (.call (.builtin "object.__setattr__") ⟨[.ref x,.str name tk,v],[]⟩) R s:=by
 have SF:=PySem.F.store_object
 obtain⟨cd,hc,ho⟩:=any_some hp
 obtain⟨r1,r2⟩:=zk (self:=.ref x) ho
 have ne:cd.mro.isEmpty=false:=by generalize q:cd.mro=zz;induction zz using List.casesOn with|nil=>rw[q]at r2;contradiction|cons _ _=>rfl
 have sub:Looks (model prog w) s.heap (isInstance (.ref x) (.type "object")) true:=I.type.andThen (looks_mroIn X (by unfold mroIn;rw[hc,Option.bind_some,if_neg (by rw[ne];decide),r2]))
 refine codeAny_call_builtin SF.slot.plain SF.entry (@check_slot (model prog w) _ _ s "object.__setattr__" "object" "__setattr__" (.ref x) [.str name tk,v] [] _ SF.kind SF.split sub (SF.args (.ref x) (.str name tk) v) ?_)
 obtain⟨attr,ha,hr⟩:=zbd ht
 have hm:Looks (model prog w) s.heap (mroOf (.ref C)) cd.mro:=(looks_clsIn X hc).andThen .now
 have L3:Looks (model prog w) s.heap (storeTaker? attr) none:=by
  induction attr using Option.casesOn with
  |none=>exact .now
  |some a=>
   obtain⟨b,hb,hr⟩:=zmp hr
   refine(looks_takesIn X hb).andThen ?_
   induction b using Bool.casesOn with
   |true=>contradiction
   |false=>exact .now
 rw[osa_eq,refuse_eq]
 refine wpAny_bind (wpAny_bind (I.type.here (wpAny_bind (hm.here ?_))))
 rw[r1]
 exact wpAny_pure (wpAny_bind (I.type.here (wpAny_bind ((looks_findIn X ha).here (wpAny_bind (L3.here (h _)))))))
set_option tactic.hygienic true in
theorem Fp{A:Around}{dx:Addr}{es:List DictEntry}{n:Nat}{tk:Tok}{Q:Fin→Shared→Prop}(D:s.heap.get? dx=some (dictOf es n))(hl:(getL name es).isSome=true)(hz:(putL name (PyData.keyHash w.params name) (.str name s.toks) v es).length≤1000)
 (q:∀h',Heap.SameBut dx s.heap h'→h'.get? dx=some (dictOf (putL name (PyData.keyHash w.params name) (.str name s.toks) v es) (putN name es n))→Q (.done (.ret .none)) { s with heap:=h',toks:=s.toks+1 }):
 wpAny (model prog w) A (storeInDict dx (.str name tk) name v) Q E s:=by
 unfold storeInDict newKeyGuard
 refine wpAny_bind (wpAny_pure (wpAny_bind ?_))
 unfold nsSet
 refine wpAny_bind (wpAny_bind (wpAny_askSetting (wpAny_pure (wpAny_bind (wpAny_mkText (wpAny_bind (wpAny_loadPart D ?_)))))))
 have c:(!es.any (·.key.isStr name)&&es.any (·.refKey))=false:=by
  unfold getL at hl
  split at hl
  ·rename_i en he
   rw[List.any_eq_true.mpr ⟨en,List.mem_of_find?_eq_some he,List.find?_some he⟩];rfl
  ·split at hl
   ·contradiction
   ·rename_i z;rw[Bool.not_eq_true]at z;rw[z,Bool.and_false]
 dsimp only
 rw[aRefKeyMayBeTheName_at,List.any_toArray,List.any_toArray,c]
 have D':=Heap.get?_update_self (Obj.putName name (PyData.keyHash w.params name) (.str name s.toks) v) D (by rw[putName_dict];rfl)
 rw[putName_dict]at D'
 refine wpAny_updatePart D (wpAny_bind (wpAny_lookBehind D' (pastItsLine_dict (by rw[List.size_toArray,sizeLine_eq];lia)) ?_))
 exact wpAny_pure (q _ (.update ..) D')
structure ClsIs (K:Frag) (C:Addr):Prop where
 setattr:findIn K (.ref C) "__setattr__"=some (some (.builtin "object.__setattr__"))
 plain:Jl K C=true
 dict:hasDictIn K C=true
theorem N8{dx:Addr}{es:List DictEntry}{n:Nat}{Q:Unit→Shared→Prop}(X:K.In s.heap)(hx:s.heap.get? x=some ox)(hc:ox.cls=.ref C)(hd:ox.dict=some dx)(hn:notCls ox=true)(D:s.heap.get? dx=some (dictOf es n))(ci:ClsIs K C)
 (ht:takerIn K C name=some none) (hl:(getL name es).isSome=true) (hz:(putL name (PyData.keyHash w.params name) (.str name (s.toks+1)) v es).length≤1000)
 (q:∀h',Heap.SameBut dx s.heap h'→h'.get? dx=some (dictOf (putL name (PyData.keyHash w.params name) (.str name (s.toks+1)) v es) (putN name es n))→Q () { s with heap:=h',toks:=s.toks+2 }):
 wpAny (model prog w) A (setAttr (.ref x) name v) Q E s:=by
 have I:InstAt s.heap x ox C (some (dictOf es n)):=⟨hx,hc,hn,by rw[hd];exact D⟩
 refine set_plain X I ci.setattr (Bh (s:={ s with toks:=s.toks+1 }) X I ci.plain ht fun b=>?_)
 obtain⟨cd,hcd,hd'⟩:=any_some ci.dict
 obtain⟨oc,odi,oda,osl⟩:=ox
 dsimp only at hc hd
 subst hc hd
 refine wpAny_bind (wpAny_pure (wpAny_bind (wpAny_bind (wpAny_loadPart hx (wpAny_bind (looks_clsIn X hcd _ _ _ _ (fun o_ o_ e=>e) ?_))))))
 rw[hd']
 refine wpAny_pure (a:=some dx) (wpAny_bind (wpAny_pure ?_))
 exact Fp (s:={ s with toks:=s.toks+1 }) (tk:=s.toks) D hl hz q
theorem Rb{α:Type}{M:Model}{A:Around}{t t':Sem α}{Q:α→Shared→Prop}{E:Value→Shared→Prop}{s:Shared}(e:t=t')(h:wpAny M A t' Q E s):wpAny M A t Q E s:=e▸h
set_option backward.match.sparseCases true in
theorem Dg{α:Type}{oc:Value}{odi:Option Addr}{od:Data}{osl:Array (Option Value)}(h:notCls ⟨oc,odi,od,osl⟩=true)(a:ClassData→α)(b:α):(match(generalizing:=false) od with
 |.cls c=>a c
 |_=>b)=b:=by
 cases od<;>first|rfl|exact(Bool.false_ne_true h).elim
set_option backward.match.sparseCases true in
theorem Jm{Q:Unit→Shared→Prop}(X:K.In s.heap)(hx:s.heap.get? x=some ox)(hc:ox.cls=.ref C)(hd:ox.dict=none)(hn:notCls ox=true)(ci:ClsIs K C)(ht:takerIn K C name=some none)
 (q:∀h' es n,(∀b,b≠x→b≠s.heap.objs.size→h'.get? b=s.heap.get? b)→h'.get? x=some { ox with dict:=some s.heap.objs.size }→es=[⟨PyData.keyHash w.params name,.str name (s.toks+1),v⟩]→h'.get? s.heap.objs.size=some (dictOf es n)→Q () { s with heap:=h',toks:=s.toks+2 }):
 wpAny (model prog w) A (setAttr (.ref x) name v) Q E s:=by
 have I:InstAt s.heap x ox C none:=⟨hx,hc,hn,by rw[hd];trivial⟩
 refine set_plain X I ci.setattr (Bh (s:={ s with toks:=s.toks+1 }) X I ci.plain ht fun b=>?_)
 obtain⟨cd,hcd,hd'⟩:=any_some ci.dict
 have hxs:x≠s.heap.objs.size:=Nat.ne_of_lt (Heap.lt_size hx)
 have hx₁:(s.heap.push (dictOf [] 0)).get? x=some ox:=Heap.get?_push_of_some _ hx
 have hfr:({ ox with dict:=some s.heap.objs.size }:Obj).isFreed=false:=by
  have:=(Heap.get?_some_iff.mp hx).2
  obtain⟨oc,odi,oda,osl⟩:=ox
  cases oda<;>first|rfl|exact this
 have hx₂:=Heap.get?_update_self (fun o=>{ o with dict:=some s.heap.objs.size }) hx₁ hfr
 have hd₂:((s.heap.push (dictOf [] 0)).update x fun o=>{ o with dict:=some s.heap.objs.size }).get? s.heap.objs.size=some (dictOf [] 0):=(Heap.get?_update_other _ _ hxs).trans (Heap.get?_push_size _ rfl)
 have oth:∀b,b≠x→b≠s.heap.objs.size→((s.heap.push (dictOf [] 0)).update x fun o=>{ o with dict:=some s.heap.objs.size }).get? b=s.heap.get? b:=fun b h1 h2=>by
  rw[Heap.get?_update_other _ _ (Ne.symm h1)]
  exact Heap.get?_push_ne _ _ _ h2
 have fin:wpAny (model prog w) (A.in1) (storeInDict s.heap.objs.size (.str name s.toks) name v) (fun fin s'=>match fin with|.done f=>(match(Except.ok f:Result)with|.ok (.ret _)=>Q () s'|.ok _=>False|.error e=>E e s')|.again c'=>c'.quiet=true∧codeAny (model prog w) A c' (fun r s'=>match r with|.ok (.ret _)=>Q () s'|.ok _=>False|.error e=>E e s') s') (fun e s'=>E e s')
  { s with heap:=(s.heap.push (dictOf [] 0)).update x fun o=>{ o with dict:=some s.heap.objs.size },toks:=s.toks+1 }:=by
  refine Fp hd₂ rfl (by simp[putL]) fun h' hs hD=>?_
  refine q h' _ _ (fun b h1 h2=>(hs.2 b h2).trans (oth b h1 h2)) ((hs.2 x hxs).trans hx₂) rfl hD
 obtain⟨oc,odi,oda,osl⟩:=ox
 dsimp only at hc hd
 subst hc hd
 refine wpAny_bind (wpAny_pure (wpAny_bind (wpAny_bind (wpAny_loadPart hx (wpAny_bind (looks_clsIn X hcd _ _ _ _ (fun o_ o_ e=>e) ?_))))))
 rw[hd']
 show wpAny (model prog w) (A.in1) (match(generalizing:=false) oda with
  |.cls _=>pure none
  |_=>(do
  let d ←alloc { cls:=Value.type "dict",data:=Data.dict #[] }
  update x fun o=>{ o with dict:=some d }
  dictMade (.ref C) x d)) _ _ _
 refine Rb (Dg hn (fun o_=>pure none) (do
  let d ←alloc { cls:=Value.type "dict",data:=Data.dict #[] }
  update x fun o=>{ o with dict:=some d }
  dictMade (.ref C) x d)) ?_
 refine wpAny_bind (wpAny_alloc (s:={ s with toks:=s.toks+1 }) (wpAny_bind (wpAny_update hx₁ ?_)))
 exact wpAny_pure (a:=some s.heap.objs.size) fin
end
end Mine
end
section
open PySem PySem.W PySem.Spec PySem.Calls PyProof.Rows
namespace Mine
section
variable {W:Wd} {A:Around} {Λ σ:List Addr} {E:Value→Shared→Prop} {s:Shared} {st:Sto} {sc:Scope} {env:Env} {ρ:En}
theorem Bi{h:Heap}{B:Addr→Prop}{ws:List Value}(r:RepDs σ B h ws []):ws=[]:=by
 induction ws using List.casesOn with
 |nil=>rfl
 |cons _ _=>exact r.elim
set_option tactic.hygienic true in
theorem zl{I:In}(hE:EnvOk W.tabs Λ sc env)(hI:IE W A I){o:PySem.Expr}{name:Str}{ap pos:Pos}{i:Int}{ov:Value}{args:List PySem.Expr}{Q:Value→Shared→Prop}(hns:noStar args=true)(hlen:args.length<20)(hp:(ap.endLine==pos.line)=true)
 (iv:Inv W σ Λ s.heap st) (V:Vars Λ sc env ρ σ s.heap) (r:RepD σ (Bad σ Λ) s.heap ov (.v (.int i))) (H:Po W Λ NoX (au Λ) E σ s (Cv name i args st) Q):
 wpAny (model W.prog W.w) A (methodCall o name ap pos env ov (args.length+0) (backTo pos (starEach args env)) []) Q E s:=by
 unfold Cv at H
 split at H
 ·rename_i hn
  obtain⟨h1,ha⟩:=zan hn
  have h1:=eq_of_beq h1
  clear hn
  obtain⟨t,rfl⟩:=r
  have hm:∀(pl:Sem Bool) (Q':Value×List Value→Shared→Prop),Q' (.builtin "int.bit_length",[.int i t]) s→wpAny (model W.prog W.w) A (getMethod (.int i t) name pl) Q' E s:=fun pl Q' q'=>h1▸getMethod_int_bit_length q'
  refine br hns hlen hp hm ?_
  refine cg hE hI hns ik iv V ?_
  rw[List.isEmpty_iff.mp ha]
  intro σ₂ h₂ tk₂ ws f₂ k₂ i₂ r₂
  rw[Bi r₂]
  have q:Q (.int (Builtin.Int.intBits i) tk₂) { s with heap:=h₂,toks:=tk₂+1 }:=H σ₂ h₂ (tk₂+1) (.int (Builtin.Int.intBits i) tk₂) f₂ k₂ i₂ ⟨tk₂,rfl⟩
  exact⟨ak i₂,call_int_bit_length (s:={ s with heap:=h₂,toks:=tk₂ }) q⟩
 ·exact H.elim
end
end Mine
end
section
open PySem PySem.W PySem.Spec PySem.Calls PyProof.Rows Builtin Builtin.ObjectAttr
namespace Mine
section
variable {prog:Program} {w:World} {A:Around} {E:Value→Shared→Prop} {s:Shared} {K:Frag} {x C:Addr} {ox:Obj} {od:Option Obj} {name:Str} {expr:Bool} {Q:Value→Shared→Prop}
theorem Jn{v:Value}(X:K.In s.heap)(I:InstAt s.heap x ox C od)(hga:findIn K (.ref C) "__getattribute__"=some (some (.builtin "BaseException.__getattribute__")))(hgh:findIn K (.ref C) "__getattr__"=some none)
 (hsub:subIn K (.ref C) (.type "BaseException")=some true) (hf:findObj K C od name=some (.value v)) (hh:handedIn v=true) (h:Q v { s with toks:=s.toks+1 }):wpAny (model prog w) A (getAttr (.ref x) name expr) Q E s:=by
 obtain⟨hp,g,d,t,os⟩:=s
 have FX:=PySem.F.attr_Exception
 have L0:=I.type (M:=model prog w)
 have L1:=looks_findIn (M:=model prog w) X hga
 have L2:=looks_findIn (M:=model prog w) X hgh
 have L3:=looks_find (M:=model prog w) X I hf
 have SB:Looks (model prog w) hp (isInstance (.ref x) (.type "BaseException")) true:=L0.andThen (looks_subIn X hsub)
 have hx0:(expr&&onTheHeap (Value.builtin "BaseException.__getattribute__"))=false:=by cases expr<;>rfl
 unfold getAttr getAttrBy
 refine wpAny_bind (wpAny_mkText (wpAny_holding (wpAny_bind (L0.at (wpAny_bind (L1.at ?_))))))
 show wpAny _ _ (getAttrByItsOwn (.ref x) (.str name t) (.ref C) (.builtin "BaseException.__getattribute__") true expr) _ _ _
 unfold getAttrByItsOwn
 refine wpAny_bind (L2.at ?_)
 refine wpAny_bind (wpAny_attempt (wpAny_holding ?_))
 unfold callGetattribute
 rw[hx0]
 show wpAny _ _ (boundAndCalled _ _ _) _ _ _
 unfold boundAndCalled
 rw[FX.ga.bind]
 have hk:builtinKind "BaseException.__getattribute__"=some .slot:=by decide+kernel
 have hsplit:splitId "BaseException.__getattribute__"=some ("BaseException","__getattribute__"):=by decide+kernel
 have ha:=PySem.F.args_bexc_ga (.ref x) (.str name t)
 refine wpAny_bind (wpAny_pure (wpAny_call ?_))
 refine codeAny_call_builtin FX.ga.plain PySem.F.entry_bexc_ga ?_
 refine @check_slot (model prog w) _ _ ⟨hp,g,d,t+1,os⟩ "BaseException.__getattribute__" "BaseException" "__getattribute__" (.ref x) [.str name t] [] _ hk hsplit SB ha ?_
 unfold Builtin.«object.__getattribute__»
 refine wpAny_bind (wpAny_pure (wpAny_bind (wpAny_pure (wpAny_bind (L0.at (wpAny_bind (L3.at ?_)))))))
 refine wpAny_pure ?_
 show wpAny _ _ (handedOut v) _ _ _
 rw[handedOut_of hh];exact wpAny_pure h
end
end Mine
end
section
open PySem PySem.W PySem.Spec PySem.Calls PyProof.Rows
namespace Mine
section
variable {W:Wd} {A:Around} {Λ σ:List Addr} {E:Value→Shared→Prop} {s:Shared} {st:Sto} {sc:Scope} {env:Env} {ρ:En}
theorem Vars.fr{h:Heap}(hE:EnvOk W.tabs Λ sc env)(V:Vars Λ sc env ρ σ h):∃L m,L∈Λ∧h.Ns L m:=by
 obtain⟨m,hn,_⟩:=V
 exact⟨_,m,hE.loc,hn⟩
section
variable {C:Cx} {J:Js} {I:In} {Φ:D→List D→Sto→Out D} {Q:Value→Shared→Prop}
theorem N9{l r:PySem.Expr}{op:Operator}{pos:Pos}(hh:C.hand=false→A.handled=none)(hI:IE W A I)(hE:EnvOk W.tabs Λ sc env)(iv:Inv W σ Λ s.heap st)(V:Vars Λ sc env ρ σ s.heap)
 (H:Po W Λ NoX (au Λ) E σ s (if C.hand&&tg op then .stuck else (I.ex sc ρ l st).bind fun a st=>(I.ex sc ρ r st).bind fun b st=>ofO st ((lu op a b).map D.v)) Q):wpAny (model W.prog W.w) A (eval (.BinOp l op r pos) env) Q E s:=by
 cases hsh:C.hand&&tg op with
 |true=>rw[hsh]at H;exact H.elim
 |false=>
  rw[hsh]at H
  refine wpAny_BinOp (hI Λ sc env ρ l hE E σ s st _ iv V (Po.seq0 H fun a st₁ σ₁ h₁ tk₁ va f₁ k₁ i₁ r₁ H₁=>hI Λ sc env ρ r hE E σ₁ _ st₁ _ i₁ (V.step (iv.sigma hE.loc) f₁ k₁) (Po.seq0 H₁ fun b st₂ σ₂ h₂ tk₂ vb f₂ k₂ i₂ r₂ H₂=>?_)))
  exact wq (fun q=>hh (by cases z:C.hand with|false=>rfl|true=>rw[z,q]at hsh;(first|subst hsh|contradiction|(injection hsh with hsh;subst hsh)|cases hsh))) i₂ (RepD.step r₁ f₂ (k₂.weak fun a q=>q.elim .inl fun q=>q.elim)) r₂ H₂
theorem Oa{x:PySem.Expr}{pos:Pos}(hI:IE W A I)(hE:EnvOk W.tabs Λ sc env)(iv:Inv W σ Λ s.heap st)(V:Vars Λ sc env ρ σ s.heap)
 (H:Po W Λ NoX (au Λ) E σ s ((I.ex sc ρ x st).bind fun a st=>ofO st ((bw a).map fun i=>D.v (.int (-i)))) Q):wpAny (model W.prog W.w) A (eval (.UnaryOp .USub x pos) env) Q E s:=by
 refine wpAny_UnaryOp (hI Λ sc env ρ x hE E σ s st _ iv V (Po.seq0 H fun d st₁ σ₁ h₁ tk₁ v f₁ k₁ i₁ r₁ H₁=>?_))
 generalize hd:bw d=z at H₁
 induction z using Option.casesOn with
 |none=>exact H₁.elim
 |some i=>
  rw[ej hd]at r₁
  obtain⟨t,rfl⟩:=r₁
  exact neg_int (H₁ σ₁ h₁ (tk₁+1) _ Fresh.refl Kp.refl i₁ ⟨_,rfl⟩)
theorem Ob{x:PySem.Expr}{pos:Pos}(hI:IE W A I)(hE:EnvOk W.tabs Λ sc env)(iv:Inv W σ Λ s.heap st)(V:Vars Λ sc env ρ σ s.heap)
 (H:Po W Λ NoX (au Λ) E σ s ((I.ex sc ρ x st).bind fun a st=>ofO st ((c8 a).map fun b=>D.v (.bool (!b)))) Q):wpAny (model W.prog W.w) A (eval (.UnaryOp .Not x pos) env) Q E s:=by
 refine wpAny_UnaryOp (hI Λ sc env ρ x hE E σ s st _ iv V (Po.seq0 H fun d st₁ σ₁ h₁ tk₁ v f₁ k₁ i₁ r₁ H₁=>not_of ?_))
 generalize ht:c8 d=zz at H₁
 induction zz using Option.casesOn with
 |none=>exact H₁.elim
 |some t=>exact jj r₁ ht (Po.now (tk:=tk₁) H₁ i₁ rfl)
theorem Oc{c a b:PySem.Expr}{pos:Pos}(hI:IE W A I)(hT:IT W A I)(hE:EnvOk W.tabs Λ sc env)(iv:Inv W σ Λ s.heap st)(V:Vars Λ sc env ρ σ s.heap)
 (H:Po W Λ NoX (au Λ) E σ s ((I.tt sc ρ c st).bind fun t st=>if t then I.ex sc ρ a st else I.ex sc ρ b st) Q):wpAny (model W.prog W.w) A (eval (.IfExp c a b pos) env) Q E s:=by
 refine wpAny_IfExp (hT Λ sc env ρ c hE E σ s st _ iv V (Po.seq0 H fun d st₁ σ₁ h₁ tk₁ v f₁ k₁ i₁ r₁ H₁=>?_))
 have r₁:v=d:=r₁
 subst r₁
 have V₁:=V.step (iv.sigma hE.loc) f₁ k₁
 induction v using Bool.casesOn with
 |true=>exact hI Λ sc env ρ a hE E σ₁ _ st₁ _ i₁ V₁ H₁
 |false=>exact hI Λ sc env ρ b hE E σ₁ _ st₁ _ i₁ V₁ H₁
theorem Od{l:PySem.Expr}{ops:List CmpOp}{cs:List PySem.Expr}{pos:Pos}(hA:AOk A)(hI:IE W A I)(hE:EnvOk W.tabs Λ sc env)(iv:Inv W σ Λ s.heap st)(V:Vars Λ sc env ρ σ s.heap)
 (H:Po W Λ NoX (au Λ) E σ s (if dk cs&&ops.length==cs.length then (I.ex sc ρ l st).bind fun a st=>(chain (I.ex sc ρ) a ops cs st).bind fun b st=>.ok (.v (.bool b)) st else .stuck) Q):wpAny (model W.prog W.w) A (eval (.Compare l ops cs pos) env) Q E s:=by
 cases hc:dk cs&&ops.length==cs.length with
 |false=>rw[hc]at H;exact H.elim
 |true=>
  rw[hc]at H
  obtain⟨h1,h2⟩:=zan hc
  show wpAny _ _ (eval l env>>=fun v=>compareChain pos v ops (markedEach ops cs (evalEach cs env))) _ _ _
  rw[ij h1]
  refine wpAny_bind (hI Λ sc env ρ l hE E σ s st _ iv V (Po.seq0 H fun d st₁ σ₁ h₁ tk₁ v f₁ k₁ i₁ r₁ H₁=>wt hA hE hI (eq_of_beq h2) i₁ (V.step (iv.sigma hE.loc) f₁ k₁) r₁ (Po.seq0 H₁ fun b st₂ σ₂ h₂ tk₂ vb f₂ k₂ i₂ r₂ H₂=>?_)))
  have r₂:vb=b:=r₂
  subst r₂
  exact Po.now (tk:=tk₂) H₂ i₂ rfl
theorem Jo{c:Addr}{ns:List Str}{vs:List V}{a:Str}{x:V}{v:Value}(hC:CxOk W C)(hE:EnvOk W.tabs Λ sc env)(iv:Inv W σ Λ s.heap st)(V:Vars Λ sc env ρ σ s.heap)(hat:C.attr c a=true)(hx:(ns.zip vs).lookup a=some x)(hv:jd x=false)
 (r:Rep (Bad σ Λ) s.heap v (.inst c ns vs)) {K:Value→Shared→Prop} (k:∀w tk,Rep (Bad σ Λ) s.heap w x→K w { s with toks:=tk }):wpAny (model W.prog W.w) A (getAttr v a true) K E s:=by
 obtain⟨g1,g2,at',g3,g4⟩:=hC.attr c a hat
 refine uv (Rep.i r) fun q dx es n ee4 n1 n2 o1 o2 kk rr=>?_
 subst ee4
 obtain⟨w',hw,rw'⟩:=to kk rr hx
 obtain⟨m,F⟩:=qu iv hE V
 obtain⟨ox,sl,IA⟩:=uz o1 o2
 have fo:=findObj_own g2 g3 g4 (show lookIn a (dictOf es n)=_ from hw)
 have hr:=zb rw' hv
 exact g1.elim (fun g1=>get_value (W.X.keeps F.keep) IA (plainGet_of g1).1 fo hr (k _ _ rw')) fun g1=>Jn (W.X.keeps F.keep) IA g1.1 g1.2.1 g1.2.2 fo hr (k _ _ rw')
theorem Jp{o:PySem.Expr}{a:Str}{pos:Pos}(hC:CxOk W C)(hI:IE W A I)(hE:EnvOk W.tabs Λ sc env)(iv:Inv W σ Λ s.heap st)(V:Vars Λ sc env ρ σ s.heap)
 (H:Po W Λ NoX (au Λ) E σ s (if gw o then .stuck else (I.ex sc ρ o st).bind fun d st=>match d with
   |.v (.inst c ns vs)=>if C.attr c a then (match(ns.zip vs).lookup a with
    |some x=>if jd x then .stuck else .ok (.v x) st
    |Option.none=>.stuck)else .stuck
   |_=>.stuck) Q):wpAny (model W.prog W.w) A (eval (.Attribute o a pos) env) Q E s:=by
 generalize hb:gw o=zz at H
 induction zz using Bool.casesOn with
 |true=>exact H.elim
 |false=>
  rw[C5,ie hb]
  refine wpAny_bind (hI Λ sc env ρ o hE E σ s st _ iv V (Po.seq0 H fun d st₁ σ₁ h₁ tk₁ v f₁ k₁ i₁ r₁ H₁=>wpAny_bind (wpAny_standAt (wpAny_bind (wpAny_holding ?_)))))
  induction d using D.casesOn with
  |m i=>exact H₁.elim
  |v y=>
   induction y using Mine.V.casesOn with
   |inst c ns vs=>
    have H₁:Po W Λ NoX (au Λ) E σ₁ { s with heap:=h₁,toks:=tk₁ } (if C.attr c a then (match(ns.zip vs).lookup a with
     |some x=>if jd x then .stuck else .ok (.v x) st₁
     |Option.none=>.stuck)else .stuck) Q:=H₁
    generalize hat:C.attr c a=zz at H₁
    induction zz using Bool.casesOn with
    |false=>exact H₁.elim
    |true=>
     generalize hx:(ns.zip vs).lookup a=zz at H₁
     induction zz using Option.casesOn with
     |none=>exact H₁.elim
     |some x=>
      generalize hv:jd x=zz
      induction zz using Bool.casesOn with
      |true=>
       have H₁:Po W Λ NoX (au Λ) E σ₁ { s with heap:=h₁,toks:=tk₁ } (if jd x then .stuck else .ok (.v x) st₁) Q:=H₁
       rw[hv]at H₁;exact H₁.elim
      |false=>
       have H₁:Po W Λ NoX (au Λ) E σ₁ { s with heap:=h₁,toks:=tk₁ } (if jd x then .stuck else .ok (.v x) st₁) Q:=H₁
       rw[hv]at H₁
       exact Jo (s:={ s with heap:=h₁,toks:=_ }) hC hE i₁ (V.step (iv.sigma hE.loc) f₁ k₁) hat hx hv r₁ fun w tk rw'=>wpAny_bind (wpAny_letTemporaryGo (wpAny_pure (Po.now (a:=D.v x) (st:=st₁) H₁ i₁ rw')))
   |_=>exact H₁.elim
theorem zm{value slice:PySem.Expr}{d k:D}{v vk:Value}{x:V}(iv:Inv W σ Λ s.heap st)(r₁:RepD σ (Bad σ Λ) s.heap v d)(r₂:RepD σ (Bad σ Λ) s.heap vk k)(hx:kt d k st=some x)(fin:∀v,Rep (Bad σ Λ) s.heap v x→Q v s):wpAny (model W.prog W.w) A (subscriptTail value slice v vk) Q E s:=by
 obtain⟨z,hk,hy⟩:=zbd hx
 obtain⟨l,hl,hi⟩:=zbd hy
 clear hx hy
 cases ej hk
 obtain⟨t,rfl⟩:=r₂
 rcases wg hl with rfl|rfl|⟨j,rfl,hl⟩
 ·have r₁:Rep (Bad σ Λ) s.heap v (.lst l):=r₁
  refine ia (Rep.l r₁) fun q ob vs n ee4 hb ho hc hd hr=>?_
  subst ee4
  exact tm ⟨ob,ho,hc,n,hd⟩ hr hi fin
 ·have r₁:Rep (Bad σ Λ) s.heap v (.tup l):=r₁
  refine eo (Rep.t r₁) fun q vs n ee3 hb ho hr=>?_
  subst ee3
  exact Ez ho hr hi fin
 ·obtain⟨a,ha,rfl⟩:=r₁
  refine bq (iv.store.2.2 j a l ha hl) fun us pl hr o_=>?_
  exact tm pl.isList hr hi fin
theorem Jq{o i:PySem.Expr}{pos:Pos}(hI:IE W A I)(hE:EnvOk W.tabs Λ sc env)(iv:Inv W σ Λ s.heap st)(V:Vars Λ sc env ρ σ s.heap)
 (H:Po W Λ NoX (au Λ) E σ s (if dj i then .stuck else (I.ex sc ρ o st).bind fun d st=>(I.ex sc ρ i st).bind fun k st=>ofO st ((kt d k st).map D.v)) Q):wpAny (model W.prog W.w) A (eval (.Subscript o i pos) env) Q E s:=by
 generalize hs:dj i=zz at H
 induction zz using Bool.casesOn with
 |true=>exact H.elim
 |false=>
  refine Subscript_ (hI Λ sc env ρ o hE E σ s st _ iv V (Po.seq0 H fun d st₁ σ₁ h₁ tk₁ v f₁ k₁ i₁ r₁ H₁=>hI Λ sc env ρ i hE E σ₁ _ st₁ _ i₁ (V.step (iv.sigma hE.loc) f₁ k₁) (Po.seq0 H₁ fun k st₂ σ₂ h₂ tk₂ vk f₂ k₂ i₂ r₂ H₂=>?_)))
  generalize hx:kt d k st₂=zz at H₂
  induction zz using Option.casesOn with
  |none=>exact H₂.elim
  |some x=>
   exact zm (s:={ s with heap:=h₂,toks:=_ }) i₂ (RepD.step r₁ f₂ (k₂.weak fun a q=>q.elim .inl fun q=>q.elim)) r₂ hx fun v r=>Po.now (tk:=tk₂) H₂ i₂ r
theorem Oe{o i:PySem.Expr}{pos:Pos}(hI:IE W A I)(hE:EnvOk W.tabs Λ sc env)(iv:Inv W σ Λ s.heap st)(V:Vars Λ sc env ρ σ s.heap):Po W Λ NoX (au Λ) E σ s ((step C Φ J I).ex sc ρ (.Subscript o i pos) st) Q→wpAny (model W.prog W.w) A (eval (.Subscript o i pos) env) Q E s:=by
 have gen:=@Jq W A Λ σ E s st sc env ρ I Q o i pos hI hE iv V
 induction i using PySem.Expr.casesOn with
 |Slice lo hi stp p=>
  induction stp using Option.casesOn with
  |none=>exact wr hE hI iv V
  |some z=>exact gen
 |_=>exact gen
theorem Jr{o:PySem.Expr}{name:Str}{ap pos:Pos}{args:List PySem.Expr}(hA:AOk A)(hC:CxOk W C)(hI:IE W A I)(hΦ:CS W A Φ)(hE:EnvOk W.tabs Λ sc env)(iv:Inv W σ Λ s.heap st)(V:Vars Λ sc env ρ σ s.heap)
 (H:Po W Λ NoX (au Λ) E σ s (if !gw o&&noStar args&&decide (args.length<20)&&ap.endLine==pos.line then (I.ex sc ρ o st).bind fun d st=>match d with
   |.m i=>(evs (I.ex sc ρ) args st).quiet.bind fun ds st=>listM name i ds st
   |.v (.int i)=>Cv name i args st
   |.v (.inst c ns _)=>(match C.meth c name with
    |some f=>if ns.contains name then .stuck else (evs (I.ex sc ρ) args st).bind fun ds st=>Φ (.v (.val (.ref f))) (d::ds) st
    |Option.none=>.stuck)
   |_=>.stuck
   else .stuck) Q):wpAny (model W.prog W.w) A (eval (.Call (.Attribute o name ap) args [] pos) env) Q E s:=by
 cases hc: !gw o&&noStar args&&decide (args.length<20)&&ap.endLine==pos.line with
 |false=>rw[hc]at H;exact H.elim
 |true=>
  rw[hc]at H
  simp only[Bool.and_eq_true,Bool.not_eq_true',decide_eq_true_eq]at hc
  obtain⟨⟨⟨c1,c2⟩,c3⟩,c4⟩:=hc
  rw[tq,ie c1]
  refine wpAny_bind (hI Λ sc env ρ o hE E σ s st _ iv V (Po.seq0 H fun d st₁ σ₁ h₁ tk₁ v f₁ k₁ i₁ r₁ H₁=>wpAny_bind (wpAny_standAt ?_)))
  have V₁:=V.step (iv.sigma hE.loc) f₁ k₁
  cases d with
  |m i=>exact wu hA hE hI c2 c3 c4 i₁ V₁ r₁ H₁
  |v y=>
   cases y with
   |int i=>exact zl hE hI c2 c3 c4 i₁ V₁ r₁ H₁
   |inst c ns vs=>
    have H₁:Po W Λ NoX (au Λ) E σ₁ { s with heap:=h₁,toks:=tk₁ } (match C.meth c name with
     |some f=>if ns.contains name then .stuck else (evs (I.ex sc ρ) args st₁).bind fun ds st=>Φ (.v (.val (.ref f))) ((.v (.inst c ns vs))::ds) st
     |Option.none=>.stuck) Q:=H₁
    cases hm:C.meth c name with
    |none=>rw[hm]at H₁;exact H₁.elim
    |some fa=>
     rw[hm]at H₁
     cases hct:ns.contains name with
     |true=>
      have H₁:Po W Λ NoX (au Λ) E σ₁ { s with heap:=h₁,toks:=tk₁ } (if ns.contains name then .stuck else (evs (I.ex sc ρ) args st₁).bind fun ds st=>Φ (.v (.val (.ref fa))) ((.v (.inst c ns vs))::ds) st) Q:=H₁
      rw[hct]at H₁;exact H₁.elim
     |false=>
      have H₁:Po W Λ NoX (au Λ) E σ₁ { s with heap:=h₁,toks:=tk₁ } (if ns.contains name then .stuck else (evs (I.ex sc ρ) args st₁).bind fun ds st=>Φ (.v (.val (.ref fa))) ((.v (.inst c ns vs))::ds) st) Q:=H₁
      rw[hct]at H₁
      refine fk (hC.meth c name fa hm) fun g1 g2 g3 g4=>?_
      have r₁':Rep (Bad σ₁ Λ) h₁ v (.inst c ns vs):=r₁
      refine uv (Rep.i r₁') fun q dx es n ee4 n1 n2 o1 o2 k rr=>?_
      subst ee4
      obtain⟨m,F⟩:=qu i₁ hE V₁
      obtain⟨ox,sl,IA⟩:=uz o1 o2
      refine br c2 c3 c4 (f:=.ref fa) (first:=[.ref q]) (fun pl Q' q'=>method_fn (W.X.keeps F.keep) IA (plainGet_of g1).1 (plainGet_of g1).2 g2 (eq_of_beq g3) (by show(lookIn name (dictOf es n)).map _=_;rw[lookIn_dict,qt k hct];rfl) q') ?_
      refine cg hE hI c2 (fun h X=>keeps_K g4 h X) i₁ V₁ (Po.seq0 H₁ fun ds st₂ σ₂ h₂ tk₂ ws f₂ k₂ i₂ r₂ H₂=>⟨ak i₂,?_⟩)
      exact hΦ Λ (.v (.val (.ref fa))) (.v (.inst c ns vs)::ds) (.ref fa) (.ref q::ws) E σ₂ _ st₂ _ i₂ ⟨Vars.fr hE (V₁.step (i₁.sigma hE.loc) f₂ k₂),rfl,RepD.step r₁ f₂ (k₂.weak fun a q=>q.elim .inl fun q=>q.elim),r₂⟩ H₂
   |_=>exact H₁.elim
theorem Fq{f:PySem.Expr}{args:List PySem.Expr}{pos:Pos}(hC:CxOk W C)(hI:IE W A I)(hΦ:CS W A Φ)(hE:EnvOk W.tabs Λ sc env)(iv:Inv W σ Λ s.heap st)(V:Vars Λ sc env ρ σ s.heap)
 (H:Po W Λ NoX (au Λ) E σ s (if fh f|| !noStar args then .stuck else (I.ex sc ρ f st).bind fun d st=>match d with
   |.v (.val v)=>if C.able v then (evs (I.ex sc ρ) args st).bind fun ds st=>Φ d ds st else .stuck
   |_=>.stuck) Q):wpAny (model W.prog W.w) A (eval (.Call f args [] pos) env) Q E s:=by
 cases hc:fh f|| !noStar args with
 |true=>rw[hc]at H;exact H.elim
 |false=>
  rw[hc]at H
  obtain⟨hf,hn⟩:=Bool.or_eq_false_iff.mp hc
  rw[fe hf]
  refine wpAny_bind (hI Λ sc env ρ f hE E σ s st _ iv V (Po.seq0 H fun d st₁ σ₁ h₁ tk₁ v f₁ k₁ i₁ r₁ H₁=>?_))
  have V₁:=V.step (iv.sigma hE.loc) f₁ k₁
  induction d using D.casesOn with
  |m i=>exact H₁.elim
  |v y=>
   induction y using Mine.V.casesOn with
   |val vv=>
    have H₁:Po W Λ NoX (au Λ) E σ₁ { s with heap:=h₁,toks:=tk₁ } (if C.able vv then (evs (I.ex sc ρ) args st₁).bind fun ds st=>Φ (.v (.val vv)) ds st else .stuck) Q:=H₁
    generalize hab:C.able vv=zz at H₁
    induction zz using Bool.casesOn with
    |false=>exact H₁.elim
    |true=>
     have r₁':v=vv:=r₁
     subst r₁'
     refine cg hE hI (by simpa using hn) (fun h X=>hC.able v hab _ h X) i₁ V₁ (Po.seq0 H₁ fun ds st₂ σ₂ h₂ tk₂ ws f₂ k₂ i₂ r₂ H₂=>⟨ak i₂,?_⟩)
     exact hΦ Λ (.v (.val v)) ds v ws E σ₂ _ st₂ _ i₂ ⟨Vars.fr hE (V₁.step (i₁.sigma hE.loc) f₂ k₂),rfl,r₂⟩ H₂
   |_=>exact H₁.elim
noncomputable def et:Arguments:=⟨[],[],none,[],[],none,[]⟩
theorem Of{a:Arguments}(h:noA a=true):a=et:=by
 obtain⟨a1,a2,a3,a4,a5,a6,a7⟩:=a
 unfold noA at h
 simp only[Bool.and_eq_true,List.isEmpty_iff,Option.isNone_iff_eq_none]at h
 obtain⟨rfl,rfl,rfl,rfl,rfl,rfl,rfl⟩:=h
 rfl
theorem Fs{args:List PySem.Expr}{l:PySem.Expr×Scope×Pos}(h:lx args=some l):args=[.Lambda et l.1 l.2.1 l.2.2]:=by
 obtain⟨e,h1,h2⟩:=zbd h
 rw[ng h1]
 have v:∀e:PySem.Expr,((Nj e).isNone||Nat.beq e.ctorIdx 4)=true:=fun e=>by
  cases e with
  |Lambda a b c p=>exact Bool.or_true _
  |_=>exact T1
 refine Expr.Lambda.elim (motive_1:=fun e=>Nj e=some l→[e]=[.Lambda et l.1 l.2.1 l.2.2]) e (nf (v e) h2) (fun a b c p h2=>?_) h2
 by_cases hn:noA a=true
 ·cases (if_pos hn).symm.trans h2;rw[Of hn]
 ·exact nomatch (if_neg hn).symm.trans h2
noncomputable def Bj(B:Addr→Prop)(h:Heap)(fL:Addr)(body:PySem.Expr)(lsc:Scope)(cl:List (Str×Addr))(qual:Str):Prop:=
 ∃c' pm ctv,h.get? fL=some (kla_obj "<lambda>" qual et body lsc cl pm c' ctv)∧¬B fL∧h.CodeRec (.ref c') qual
structure Capt (lsc:Scope) (env:Env) (cl:List (Str×Addr)):Prop where
 up:∀x c,cl.lookup x=some c→env.cells.lookup x=some c
 all:∀x∈lsc.names,x.2=.free→∃c,cl.lookup x.1=some c
noncomputable def TS(W:Wd)(A:Around)(C:Cx)(J:Js):Prop:=∀Λ sc env ρ E σ s st Q a body lsc cl fL,EnvOk W.tabs Λ sc env→Inv W σ Λ s.heap st→Vars Λ sc env ρ σ s.heap→(C.told a).isSome=true→qd lsc sc=true→Capt lsc env cl→Bj (Bad σ Λ) s.heap fL body lsc cl (env.qual++"<lambda>")→
 Po W Λ NoX (au Λ) E σ s (J.t a body lsc (az lsc ρ) st) Q→wpAny (model W.prog W.w) A (call (.ref a) [.ref fL]) Q E s
structure LamOk (lsc sc:Scope):Prop where
 kind:lsc.kind=.function
 co:lsc.isCoroutine=false
 gen:lsc.isGenerator=false
 cell:∀x∈lsc.names,x.2≠.cell
 free:∀x∈lsc.names,x.2=.free→lsc.names.lookup x.1=some .free∧(sc.names.lookup x.1=some .cell∨sc.names.lookup x.1=some .free)
 some:∃x,sc.names.lookup x=some .cell
theorem w7{lsc sc:Scope}(h:qd lsc sc=true):LamOk lsc sc:=by
 unfold qd at h
 obtain⟨h1,h⟩:=zan h
 obtain⟨h2,h⟩:=zan h
 obtain⟨h3,h⟩:=zan h
 obtain⟨h4,h5⟩:=zan h
 refine⟨by simpa using h1,by simpa using h2,by simpa using h3,fun x hx=>?_,fun x hx e=>?_,?_⟩
 ·have:=(zan (List.all_eq_true.mp h4 x hx)).1
  simpa using this
 ·have:=(zan (List.all_eq_true.mp h4 x hx)).2
  rw[e]at this
  simpa using this
 ·obtain⟨x,_,hx⟩:=List.any_eq_true.mp h5
  exact⟨x.1,by simpa using hx⟩
set_option tactic.hygienic true in
theorem q8{pos lp:Pos}{c cv:Value}:∀{l:List Value},TriplesOk l→codeAmong pos (l++[rawInt lp.line,rawInt lp.col,c])=some cv→codeAmong pos l=some cv∨cv=c
 |[],_,h=>by
  unfold rawInt at h
  rw[List.nil_append]at h
  unfold codeAmong at h
  split at h
  ·injection h with h;exact .inr h.symm
  ·exact .inl h
 |.int a t::.int b u::d::r,ht,h=>by
  rw[List.cons_append,List.cons_append,List.cons_append]at h
  unfold codeAmong at h ⊢
  split at h
  ·rename_i hq;rw[if_pos hq];exact .inl h
  ·rename_i hq;rw[if_neg hq];exact q8 (l:=r) ht h
theorem Inv.grown{h h':Heap}{q:Addr×Addr×Str}{ps:Array Value}(I:Inv W σ Λ h st)(hq:q∈W.tabs)(x:∀b o,b≠q.2.1→h.get? b=some o→h'.get? b=some o)(hP:h'.get? q.2.1=some (tabObj ps))(nt:TabAt W.tabs (Bad σ Λ) h' q.2.1 q.2.2):Inv W σ Λ h' st∧Kp (fun x=>x∈σ∨NoX x) h h':=by
 obtain⟨nb,ps₀,hP₀,_⟩:=I.tab q hq
 have kp:Kp NoX h h':=fun b o e=>by
  by_cases hb:b=q.2.1
  ·subst hb
   rw[hP₀]at e
   injection e with e
   subst e
   exact⟨fun o_=>.inr (.inr ⟨⟨rfl,_,rfl⟩,ps,hP⟩),_,hP⟩
  ·exact⟨fun o_=>.inl (x b o hb e),o,x b o hb e⟩
 have kb:Kp (Bad σ Λ) h h':=kp.weak fun o_ q=>q.elim
 refine⟨⟨fun b o e=>x b o (fun z=>?_) (I.keep b o e),fun b z=>⟨(I.new b z).1,?_⟩,⟨I.store.1,I.store.2.1,fun i b l e1 e2=>?_⟩,I.apart,fun b z=>⟨(I.dic b z).1,n8 (I.dic b z).2 fun o e=>kp.at e id⟩,fun q' hq'=>?_⟩,kp.weak fun o_ q=>.inr q⟩
 ·rw[z,(W.hd q hq).2.1]at e;contradiction
 ·obtain⟨o,e⟩:=(I.new b z).2
  exact(kp b o e).2
 ·refine bq (I.store.2.2 i b l e1 e2) fun vs z r hl=>?_
  have hb:b≠q.2.1:=fun e=>nb (e▸.inl (List.mem_of_getElem? e1))
  exact⟨vs,z.at fun o e=>x b o hb e,r.step Fresh.refl kb,hl⟩
 ·by_cases hb:q'.2.1=q.2.1
  ·rw[(W.hd q hq).2.2 q' hq' hb];exact nt
  ·obtain⟨nb',ps',hP',ht',hc'⟩:=I.tab q' hq'
   refine⟨nb',ps',x _ _ hb hP',ht',fun pos cv e=>?_⟩
   obtain⟨c',o,vs,t,e1,e2,e0,e3,e4,e5⟩:=hc' pos cv e
   exact⟨c',o,vs,t,e1,e2,e0,x _ _ (fun z=>e0 q hq z.symm) e3,e4,e5⟩
theorem Ft{body:PySem.Expr}{lsc:Scope}{lp:Pos}(hE:EnvOk W.tabs Λ sc env)(iv:Inv W σ Λ s.heap st)(V:Vars Λ sc env ρ σ s.heap)(hok:qd lsc sc=true)
 (q:∀h' tk fL cl,Capt lsc env cl→Inv W σ Λ h' st→Kp (fun x=>x∈σ∨NoX x) s.heap h'→Bj (Bad σ Λ) h' fL body lsc cl (env.qual++"<lambda>")→Q (.ref fL) { s with heap:=h',toks:=tk }):
 wpAny (model W.prog W.w) A (eval (.Lambda et body lsc lp) env) Q E s:=by
 have ok:=w7 hok
 obtain⟨c,P,hcode,hm⟩:=hE.cd ok.some
 obtain⟨nb,ps,hP,ht,hc⟩:=iv.tab _ hm
 obtain⟨hh,hbn,hun⟩:=W.hd _ hm
 obtain⟨bm,bo,b1,b2,b3,b4,b5,b6,b7⟩:=W.bat _ hm
 refine bq (i9 (env:=env) (scope:=lsc) fun x hx e=>hE.cells x.1 (ok.free x hx e).2) fun cl hclos hcl1 hcl2=>?_
 have hg:=W.T.g.keeps iv.keep
 have hgP:mainGlobals≠P:=fun z=>by
  refine y6 hg fun o es ep e hd o_=>?_
  rw[z,hP]at e
  injection e with e
  subst e
  contradiction
 have hbP:bm≠P:=fun z=>by
  have e:=iv.keep _ _ b4
  rw[z,hP]at e
  injection e with e
  subst e
  contradiction
 have nbf:∀{h':Heap},s.heap.objs.size≤h'.objs.size→¬Bad σ Λ h'.objs.size:=fun hz z=>by
  obtain⟨o,e⟩:=(iv.new _ z).2
  exact absurd (Heap.lt_size e) (Nat.not_lt.mpr hz)
 refine kla_eval rfl ?_
 generalize hca:codeAmong lp ps.toList=zz
 induction zz using Option.casesOn with
 |none=>
  refine kla_makeFunction (mg:=W.mg) hclos hE.globals hg hcode (hh.keeps iv.keep) hP ht hca hgP ⟨bm,bo,b1,b2,b3,hbP,iv.keep _ _ b4,b5,b6,b7⟩ fun c' ctv h' tk hx hge hlt hrec hP'=>?_
  obtain⟨c₂,oc,vs,t,e2,hoc,hd,hv⟩:=hrec
  injection e2 with e2
  subst e2
  have hsz:s.heap.objs.size≤h'.objs.size:=Nat.le_of_lt (Nat.lt_of_le_of_lt hge hlt)
  have low:∀q∈W.tabs,q.2.1≠c':=fun q' hq' z=>by
   obtain⟨_,_,hP₂,_⟩:=iv.tab q' hq'
   exact absurd (Heap.lt_size hP₂) (Nat.not_lt.mpr (z▸hge))
  have x:∀b o,b≠P→s.heap.get? b=some o→(h'.push (kla_obj "<lambda>" (env.qual++"<lambda>") et body lsc cl ((W.mg "__name__").getD .none) c' ctv)).get? b=some o:=fun b o hb e=>Heap.get?_push_of_some _ (hx b o hb e)
  have hl:(ps++#[rawInt lp.line,rawInt lp.col,.ref c']).toList=ps.toList++[rawInt lp.line,rawInt lp.col,.ref c']:=by simp
  have nt:TabAt W.tabs (Bad σ Λ) (h'.push (kla_obj "<lambda>" (env.qual++"<lambda>") et body lsc cl ((W.mg "__name__").getD .none) c' ctv)) P (env.qual++"<lambda>"):=by
   refine⟨nb,_,Heap.get?_push_of_some _ hP',by rw[hl];exact TriplesOk_snoc _ _ _ _ ht,fun pos cv e=>?_⟩
   rw[hl]at e
   rcases q8 ht e with e|rfl
   ·obtain⟨c₃,o₃,vs₃,t₃,e1,e2,e0,e3,e4,e5⟩:=hc pos cv e
    exact⟨c₃,o₃,vs₃,t₃,e1,e2,e0,x _ _ (fun z=>e0 _ hm z.symm) e3,e4,e5⟩
   ·refine⟨c',oc,vs,t,rfl,fun z=>?_,low,Heap.get?_push_of_some _ hoc,hd,hv⟩
    obtain⟨o,e⟩:=(iv.new _ z).2
    exact absurd (Heap.lt_size e) (Nat.not_lt.mpr hge)
  obtain⟨i',kp⟩:=iv.grown hm x (Heap.get?_push_of_some _ hP') nt
  exact q _ tk _ cl ⟨hcl1,hcl2⟩ i' kp ⟨c',_,ctv,Heap.get?_push_size _ rfl,nbf hsz,c',oc,vs,t,rfl,Heap.get?_push_of_some _ hoc,hd,hv⟩
 |some cv=>
  obtain⟨c',o,vs,t,e1,e2,e0,e3,e4,e5⟩:=hc lp cv hca
  subst e1
  refine kla_makeFunctionHit (mg:=W.mg) hclos hE.globals hg hcode (hh.keeps iv.keep) hP ht hca ⟨bm,bo,b1,b2,b3,hbP,iv.keep _ _ b4,b5,b6,b7⟩ fun ctv h' tk hk hsz=>?_
  have hk':∀b o,s.heap.get? b=some o→(h'.push (kla_obj "<lambda>" (env.qual++"<lambda>") et body lsc cl ((W.mg "__name__").getD .none) c' ctv)).get? b=some o:=fun b o e=>Heap.get?_push_of_some _ (hk b o e)
  exact q _ tk _ cl ⟨hcl1,hcl2⟩ (iv.grow hk') (Kp.all hk') ⟨c',_,ctv,Heap.get?_push_size _ rfl,nbf hsz,c',o,vs,t,rfl,hk' _ _ e3,e4,e5⟩
theorem Jt{f:PySem.Expr}{args:List PySem.Expr}{pos:Pos}{l:PySem.Expr×Scope×Pos}(hC:CxOk W C)(hJ:TS W A C J)(hE:EnvOk W.tabs Λ sc env)(iv:Inv W σ Λ s.heap st)(V:Vars Λ sc env ρ σ s.heap)(hl:lx args=some l)
 (H:Po W Λ NoX (au Λ) E σ s (kn C J sc ρ f l st) Q):wpAny (model W.prog W.w) A (eval (.Call f args [] pos) env) Q E s:=by
 rw[Fs hl]
 unfold kn at H
 generalize hg:((c9 f).bind (dh C sc)).bind kv=zz at H
 induction zz using Option.casesOn with
 |none=>exact H.elim
 |some a=>
  refine ao hg fun gv hg hr=>ao hg fun g hn hga=>Po.ifS H fun hk H=>?_
  obtain⟨p,rfl⟩:=cz hn
  rw[j5 hr]at hga
  ·obtain⟨hok,ht⟩:=zan hk
   rw[fe rfl]
   refine wpAny_bind (c6 hC hE hga iv.keep ?_)
   obtain⟨td,htd⟩:=Option.isSome_iff_exists.mp ht
   refine callWith_of (P:=W.K.In) rfl (fun h X=>keeps_K (hC.tk a td htd) h X) ?_
   have e1:starEach [PySem.Expr.Lambda et l.1 l.2.1 l.2.2] env=(false,eval (.Lambda et l.1 l.2.1 l.2.2) env)::starEach [] env:=rfl
   have q:wpAny (model W.prog W.w) A (spliced (backTo pos (starEach [PySem.Expr.Lambda et l.1 l.2.1 l.2.2] env))) (fun vs s₁=>W.K.In s₁.heap∧wpAny (model W.prog W.w) A (call (.ref a) ([]++vs)) Q E s₁) E s:=by
    rw[e1]
    refine spliced_cons (Ft hE iv V hok fun h' tk fL cl cap i' kp la=>wpAny_pure ⟨ak i',?_⟩)
    exact hJ Λ sc env ρ E σ { s with heap:=h',toks:=tk } st Q a l.1 l.2.1 cl fL hE i' (V.step (iv.sigma hE.loc) Fresh.refl kp) ht hok cap la (Po.shift H Fresh.refl kp)
   rw[e1]at q ⊢
   exact evalArgs_plain q
theorem Ju{f:PySem.Expr}{args:List PySem.Expr}{kw:Keyword}{kws:List Keyword}{pos:Pos}:(step C Φ J I).ex sc ρ (.Call f args (kw::kws) pos) st=.stuck:=by cases f<;>rfl
theorem Jv{f:PySem.Expr}{args:List PySem.Expr}{pos:Pos}(h:fh f=false):(step C Φ J I).ex sc ρ (.Call f args [] pos) st=(match lx args with
 |some l=>kn C J sc ρ f l st
 |Option.none=>if fh f|| !noStar args then .stuck else (I.ex sc ρ f st).bind fun d st=>match d with
  |.v (.val v)=>if C.able v then (evs (I.ex sc ρ) args st).bind fun ds st=>Φ d ds st else .stuck
  |_=>.stuck):=by cases f<;>first|rfl|contradiction
theorem Jw{f:PySem.Expr}(h:fh f=true):∃o n p,f=.Attribute o n p:=by cases f<;>first|contradiction|exact⟨_,_,_,rfl⟩
theorem Jx{f:PySem.Expr}{args:List PySem.Expr}{kws:List Keyword}{pos:Pos}(hA:AOk A)(hC:CxOk W C)(hI:IE W A I)(hΦ:CS W A Φ)(hJ:TS W A C J)(hE:EnvOk W.tabs Λ sc env)(iv:Inv W σ Λ s.heap st)(V:Vars Λ sc env ρ σ s.heap)(H:Po W Λ NoX (au Λ) E σ s ((step C Φ J I).ex sc ρ (.Call f args kws pos) st) Q):wpAny (model W.prog W.w) A (eval (.Call f args kws pos) env) Q E s:=by
 induction kws using List.casesOn with
 |cons k r=>rw[Ju]at H;exact H.elim
 |nil=>
  generalize ha:fh f=zz
  induction zz using Bool.casesOn with
  |true=>
   refine gz (Jw ha) fun o n p e=>?_
   subst e
   exact Jr hA hC hI hΦ hE iv V H
  |false=>
   rw[Jv ha]at H
   generalize hl:lx args=zz at H
   induction zz using Option.casesOn with
   |some l=>exact Jt hC hJ hE iv V hl H
   |none=>exact Fq hC hI hΦ hE iv V H
theorem Jy{elt:PySem.Expr}{gens:List Comprehension}{scope:Scope}{pos:Pos}(hC:CxOk W C)(hh:C.hand=false→A.handled=none)(hI:IE W A I)(hT:IT W A I)(hE:EnvOk W.tabs Λ sc env)(iv:Inv W σ Λ s.heap st)(V:Vars Λ sc env ρ σ s.heap)
 (H:Po W Λ NoX (au Λ) E σ s ((step C Φ J I).ex sc ρ (.ListComp elt gens scope pos) st) Q):wpAny (model W.prog W.w) A (eval (.ListComp elt gens scope pos) env) Q E s:=by
 generalize hg:gy gens=zz
 induction zz using Option.casesOn with
 |none=>
  have:(step C Φ J I).ex sc ρ (.ListComp elt gens scope pos) st=.stuck:=by
   show(match gy gens with|some (target,iter,ifs)=>_|Option.none=>Out.stuck)=_
   rw[hg]
  rw[this]at H
  exact H.elim
 |some g=>
  cases Fk hg
  exact zj hC hh hE hI hT iv V H
end
theorem Jz{C:Cx}{J:Js}{I:In}{Φ:D→List D→Sto→Out D}(hA:AOk A)(hh:C.hand=false→A.handled=none)(hC:CxOk W C)(hI:IE W A I)(hT:IT W A I)(hΦ:CS W A Φ)(hJ:TS W A C J):IE W A (step C Φ J I):=by
 intro Λ sc env ρ e hE E σ s st Q iv V
 cases e with
 |Constant c k pos=>
  cases c with
  |int i=>exact fun H=>wpAny_Constant_int (Po.now (a:=D.v (.int i)) (st:=st) H iv ⟨_,rfl⟩)
  |bool b=>exact fun H=>wpAny_Constant_bool (Po.now (a:=D.v (.bool b)) (st:=st) (tk:=s.toks) H iv rfl)
  |str x=>exact fun H=>wpAny_Constant_str (Po.now (a:=D.v (.str x)) (st:=st) H iv ⟨_,rfl⟩)
  |none=>exact fun H=>wpAny_Constant_none (Po.now (a:=D.v .none) (st:=st) (tk:=s.toks) H iv rfl)
  |_=>exact False.elim
 |Name x pos=>exact zc hC hE iv V
 |BinOp l op r pos=>exact N9 hh hI hE iv V
 |UnaryOp op x pos=>
  cases op with
  |Not=>exact Ob hI hE iv V
  |USub=>exact Oa hI hE iv V
  |_=>exact False.elim
 |IfExp c a b pos=>exact Oc hI hT hE iv V
 |BoolOp op vs pos=>exact jk hE hI iv V
 |Compare l ops cs pos=>exact Od hA hI hE iv V
 |Tuple es k pos=>exact wv hE hI iv V
 |List es pos=>exact zd hE hI iv V
 |Attribute o a pos=>exact Jp hC hI hE iv V
 |Subscript o i pos=>exact Oe hI hE iv V
 |Call f args kws pos=>exact Jx hA hC hI hΦ hJ hE iv V
 |ListComp elt gens scope pos=>exact Jy hC hh hI hT hE iv V
 |_=>exact False.elim
end
theorem jq:∀{ps:List Str} {vs:List Value},ps.length=vs.length→∀n∈ps,∃v,(ps.zip vs).lookup n=some v
 |p::ps,v::vs,h,n,hn=>by
  rw[List.zip_cons_cons,List.lookup_cons]
  cases q:n==p with
  |true=>exact⟨v,rfl⟩
  |false=>
   rcases List.mem_cons.mp hn with rfl|hn
   ·simp at q
   ·exact jq (by simpa using h) n hn
 |[],_,_,n,hn=>nomatch hn
theorem w8{α β:Type}{f g:α→Option β}:∀{l:List α},(∀a∈l,f a=g a)→l.filterMap f=l.filterMap g
 |[],_=>rfl
 |a::l,h=>by rw[List.filterMap_cons,List.filterMap_cons,h a (.head _),w8 fun b hb=>h b (.tail _ hb)]
theorem w9:∀{ps:List Str} {vs:List Value},ps.length=vs.length→ai ps=true→ps.filterMap (fun n=>((ps.zip vs).lookup n).map (n,·))=ps.zip vs
 |p::ps,v::vs,h,hd=>by
  obtain⟨hd1,hd2⟩:=zan hd
  rw[List.zip_cons_cons,List.filterMap_cons]
  simp only[List.lookup_cons,beq_self_eq_true,Option.map_some]
  congr 1
  have:∀n∈ps,(n==p)=false:=fun n hn=>by
   cases q:n==p with
   |false=>rfl
   |true=>
    have:=eq_of_beq q
    subst this
    rw[Bool.not_eq_true',←Bool.not_eq_true]at hd1
    exact absurd (List.contains_iff_mem.mpr hn) hd1
  refine(w8 (fun n hn=>?_)).trans (w9 (ps:=ps) (vs:=vs) (by simpa using h) hd2)
  rw[this n hn]
 |[],[],_,_=>rfl
theorem fp{fd:FuncData}{vs:List Value}{ps:List Str}(hps:fd.params.args.map (·.arg)=ps)(h1:fd.params.posonlyargs=[])(h3:fd.params.kwonlyargs=[])(h4:fd.params.vararg=none)(h5:fd.params.kwarg=none)(h6:fd.defaults=.none)(hl:ps.length=vs.length)(hd:ai ps=true):
 bindArgs fd ⟨vs,[]⟩=pure (ps.zip vs):=by
 have n1:((ps.take ps.length).filter (fun n=>((ps.zip vs).lookup n).isNone))=[]:=by
  rw[List.filter_eq_nil_iff]
  intro n hn
  obtain⟨v,hv⟩:=jq hl n (List.mem_of_mem_take hn)
  rw[hv];simp
 have n2:=w9 hl hd
 have n3:decide (vs.length>ps.length)=false:=by rw[hl];exact decide_eq_false (Nat.lt_irrefl _)
 obtain⟨nm,qn,prm,body,scope,glob,clo,dfl,kwd⟩:=fd
 obtain⟨a1,a2,a3,a4,a5,a6,a7⟩:=prm
 dsimp only at hps h1 h3 h4 h5 h6
 subst h1 h3 h4 h5 h6
 subst hps
 have c1:¬((decide (vs.length>(a2.map Arg.arg).length)&&Option.isNone (none:Option Arg))=true):=by rw[n3];decide
 refine(show bindArgs _ _=(if(decide (vs.length>(a2.map Arg.arg).length)&&Option.isNone (none:Option Arg))=true then _ else _)from rfl).trans ((if_neg c1).trans ?_)
 refine(if_neg ?_).trans ?_
 ·show¬((!(List.filter (fun n=>(((a2.map Arg.arg).zip vs).lookup n).isNone) (List.take ((a2.map Arg.arg).length-(List.drop _ ([]:List Value)).length) (a2.map Arg.arg))).isEmpty)=true)
  rw[List.drop_nil]
  show¬((!(List.filter (fun n=>(((a2.map Arg.arg).zip vs).lookup n).isNone) (List.take (a2.map Arg.arg).length (a2.map Arg.arg))).isEmpty)=true)
  rw[n1];decide
 ·show(forIn (List.zip (List.drop _ (a2.map Arg.arg)) (List.drop _ ([]:List Value))) _ _>>=_)=_
  rw[List.drop_nil,List.zip_nil_right]
  show(pure (((a2.map Arg.arg)++[]).filterMap (fun n=>(((a2.map Arg.arg).zip vs).lookup n).map (n,·))):Sem (List (Str×Value)))=_
  rw[List.append_nil,n2]
noncomputable def Og(fd:FuncData):List Str:=fd.params.args.map (·.arg)
noncomputable def Oh(T:qj)(fd:FuncData):Bool:=(fd.scope.names.all fun x=>x.2 !=.cell)||T.any fun q=>fd.code==.ref q.1&&q.2.2==fd.qualname++".<locals>."++"<lambda>"
noncomputable def u6:Option qj→Bool
 |none=>true
 |some _=>false
noncomputable def Rc(K:Frag)(pl:Option qj)(fd:FuncData):Bool:=
 fd.params.posonlyargs.isEmpty&&(fd.params.kwonlyargs.isEmpty&&(fd.params.vararg.isNone&&(fd.params.kwarg.isNone&&(fd.defaults==.none&&(codeIn K fd.code fd.qualname&&(fd.closure.isEmpty&&(fd.globals==mainGlobals&&(fd.builtins==builtinsNs&&(fd.scope.kind==.function&&
 (!fd.scope.isCoroutine&&(!fd.scope.isGenerator&&((fd.scope.names.all fun x=>(!u6 pl||x.2 !=.cell)&&x.2 !=.free)&&(((Og fd).all fun p=>je fd.scope p&&(!u6 pl||fd.scope.names.lookup p==some .local))&&ai (Og fd))))))))))))))
noncomputable def Bk:Data→Option FuncData
 |.func fd=>some fd
 |_=>none
noncomputable def Fu:FuncBody→Option (List Stmt)
 |.stmts b=>some b
 |_=>none
theorem Fv{d:Data}{fd:FuncData}(h:Bk d=some fd):d=.func fd:=by
 have w:∀d:Data,((Bk d).isNone||Nat.beq d.ctorIdx 7)=true:=fun v=>by cases v<;>exact T1
 exact Data.func.elim (motive:=fun d=>Bk d=some fd→d=.func fd) d (nf (w d) h) (fun b h=>congrArg Data.func (Option.some.inj h)) h
theorem Dh{d:FuncBody}{b:List Stmt}(h:Fu d=some b):d=.stmts b:=by
 cases d with
 |stmts c=>cases h;rfl
 |_=>cases h
noncomputable def nr(K:Frag)(pl:Option qj)(a:Addr):Option FnI:=(K.lookup a).bind fun o=>(Bk o.data).bind fun fd=>(Fu fd.body).bind fun b=>if Rc K pl fd&&pl.all (Oh · fd)then some ⟨Og fd,fd.scope,b⟩else none
structure FnIs (K:Frag) (pl:Option qj) (a:Addr) (f:FnI) (fd:FuncData) (o:Obj):Prop where
 at_:K.lookup a=some o
 data:o.data=.func fd
 body:fd.body=.stmts f.body
 ps:fd.params.args.map (·.arg)=f.ps
 sc:fd.scope=f.sc
 h1:fd.params.posonlyargs=[]
 h2:fd.params.kwonlyargs=[]
 h3:fd.params.vararg=none
 h4:fd.params.kwarg=none
 h5:fd.defaults=.none
 code:codeIn K fd.code fd.qualname=true
 clo:fd.closure=[]
 glob:fd.globals=mainGlobals
 bi:fd.builtins=builtinsNs
 kind:fd.scope.kind=.function
 co:fd.scope.isCoroutine=false
 gen:fd.scope.isGenerator=false
 names:∀x∈fd.scope.names,(pl=none→x.2≠.cell)∧x.2≠.free
 loc:∀p∈f.ps,je fd.scope p=true∧(pl=none→fd.scope.names.lookup p=some .local)
 dis:ai f.ps=true
 cd:∀T,pl=some T→(∃x,fd.scope.names.lookup x=some .cell)→∃c P,fd.code=.ref c∧(c,P,fd.qualname++".<locals>."++"<lambda>")∈T
theorem ma{K:Frag}{pl:Option qj}{a:Addr}{f:FnI}(h:nr K pl a=some f):∃fd o,FnIs K pl a f fd o:=by
 refine ao h fun o ho h=>ao h fun fd hd h=>ao h fun b hb h=>gf h fun hok h=>?_
 have hd:=Fv hd
 have hb:=Dh hb
 cases h
 ··· obtain⟨hok,hcd⟩:=zan hok
     unfold Rc at hok
     obtain⟨h1,hok⟩:=zan hok
     obtain⟨h2,hok⟩:=zan hok
     obtain⟨h3,hok⟩:=zan hok
     obtain⟨h4,hok⟩:=zan hok
     obtain⟨h5,hok⟩:=zan hok
     obtain⟨h6,hok⟩:=zan hok
     obtain⟨h7,hok⟩:=zan hok
     obtain⟨h8,hok⟩:=zan hok
     obtain⟨h9,hok⟩:=zan hok
     obtain⟨h10,hok⟩:=zan hok
     obtain⟨h11,hok⟩:=zan hok
     obtain⟨h12,hok⟩:=zan hok
     obtain⟨h13,hok⟩:=zan hok
     obtain⟨h14,h15⟩:=zan hok
     refine⟨fd,_,⟨ho,hd,hb,rfl,rfl,List.isEmpty_iff.mp h1,List.isEmpty_iff.mp h2,Option.isNone_iff_eq_none.mp h3,Option.isNone_iff_eq_none.mp h4,?_,h6,List.isEmpty_iff.mp h7,eq_of_beq h8,eq_of_beq h9,by simpa using h10,by simpa using h11,by simpa using h12,fun x hx=>?_,fun p hp=>?_,h15,fun T e q=>?_⟩⟩
     ·exact eq_of_beq h5
     ·obtain⟨z1,z2⟩:=zan (List.all_eq_true.mp h13 x hx)
      exact⟨fun z=>by rw[z]at z1;simpa[u6]using z1,by simpa using z2⟩
     ·obtain⟨z1,z2⟩:=zan (List.all_eq_true.mp h14 p hp)
      exact⟨z1,fun z=>by rw[z]at z2;simpa[u6]using z2⟩
     ·rw[e]at hcd
      have hcd:Oh T fd=true:=hcd
      obtain⟨x,hx⟩:=q
      unfold Oh at hcd
      rcases Bool.or_eq_true_iff.mp hcd with z|z
      ·have:=List.all_eq_true.mp z _ (mem_of_lookup hx)
       simp at this
      ·obtain⟨⟨c,P,ql⟩,hm,hq⟩:=List.any_eq_true.mp z
       obtain⟨a1,a2⟩:=zan hq
       have a2:ql=_:=eq_of_beq a2
       exact⟨c,P,eq_of_beq a1,a2▸hm⟩
theorem q9{σ:List Addr}{B:Addr→Prop}{h:Heap}:∀{ps:List Str} {vs:List Value} {ds:List D} {x:Str} {d:D},RepDs σ B h vs ds→(ps.zip ds).lookup x=some d→∃v,(ps.zip vs).lookup x=some v∧RepD σ B h v d
 |p::ps,v::vs,e::ds,x,d,r,hl=>by
  rw[List.zip_cons_cons,List.lookup_cons]at hl ⊢
  cases q:x==p with
  |true=>
   rw[q]at hl
   (first|subst hl|contradiction|(injection hl with hl;subst hl)|cases hl)
   exact⟨v,rfl,r.1⟩
  |false=>
   rw[q]at hl
   exact q9 r.2 hl
 |[],_,_,_,_,_,hl=>by simp at hl
 |_::_,_,[],_,_,_,hl=>by simp at hl
 |_::_,[],_::_,_,_,r,_=>r.elim
theorem jr(C:Addr)(vs:List Value):Code.weight (.builtin "type.__call__" ⟨.ref C::vs,[]⟩)=1:=by first|rfl|kernel_rfl
theorem Bl{q:Str}{hs:Int}{k v:Value}:∀{es:List DictEntry} {ds:List Str},gj es ds→ds.contains q=false→putL q hs k v es=es++[⟨hs,k,v⟩]∧es.any (·.key.isStr q)=false
 |[],[],_,_=>⟨rfl,rfl⟩
 |e::es,d::ds,kk,h=>by
  obtain⟨⟨t,he⟩,k'⟩:=kk
  obtain⟨hh,ek,ev⟩:=e
  simp only at he
  subst he
  have h1:(q==d)=false∧ds.contains q=false:=by simpa using h
  have h2:(d==q)=false:=by
   have:=h1.1
   rw[beq_eq_false_iff_ne]at this ⊢
   exact fun z=>this z.symm
  obtain⟨a,b⟩:=Bl (q:=q) (hs:=hs) (k:=k) (v:=v) k' h1.2
  constructor
  ·unfold putL
   have:(Value.str d t).isStr q=(d==q):=rfl
   rw[this,h2,a]
   rfl
  ·rw[List.any_cons,b]
   show((d==q)||false)=false
   rw[h2];rfl
 |[],_::_,k,_=>k.elim
 |_::_,[],k,_=>k.elim
theorem rc{q:Str}{hs:Int}{t:Tok}{v:Value}:∀{es:List DictEntry} {ds:List Str},gj es ds→gj (es++[⟨hs,.str q t,v⟩]) (ds++[q])
 |[],[],_=>⟨⟨t,rfl⟩,trivial⟩
 |_::_,_::_,k=>⟨k.1,rc k.2⟩
 |[],_::_,k=>k.elim
 |_::_,[],k=>k.elim
noncomputable def zn:PySem.Expr→Option (Str×Str)
 |.Attribute o f _=>(c9 o).map fun x=>(x,f)
 |_=>none
noncomputable def Bm:Stmt→Option ((Str×Str)×Str)
 |.Assign ts v _=>((one ts).bind zn).bind fun q=>(c9 v).map fun p=>(q,p)
 |_=>none
theorem Fw{s:Stmt}{x f p:Str}(h:Bm s=some ((x,f),p)):∃p1 p2 p3 pos,s=.Assign [.Attribute (.Name x p1) f p2] (.Name p p3) pos:=by
 have va:∀e:PySem.Expr,((zn e).isNone||Nat.beq e.ctorIdx 20)=true:=fun e=>by
  cases e with
  |Attribute o f p=>exact Bool.or_true _
  |_=>exact T1
 have v:∀e:Stmt,((Bm e).isNone||Nat.beq e.ctorIdx 5)=true:=fun e=>by
  cases e with
  |Assign ts v p=>exact Bool.or_true _
  |_=>exact T1
 refine Stmt.Assign.elim (motive_2:=fun s=>Bm s=some ((x,f),p)→∃p1 p2 p3 pos,s=.Assign [.Attribute (.Name x p1) f p2] (.Name p p3) pos) s (nf (v s) h) (fun ts e pp h=>?_) h
 ·obtain⟨q,hq,h⟩:=zbd h
  obtain⟨t,ht,ha⟩:=zbd hq
  obtain⟨p',hp,e⟩:=zmp h
  cases e
  obtain⟨p3,rfl⟩:=cz hp
  rw[ng ht]
  refine Expr.Attribute.elim (motive_1:=fun t=>zn t=some (x,f)→∃p1 p2 p4 pos,Stmt.Assign [t] (.Name p p3) pp=.Assign [.Attribute (.Name x p1) f p2] (.Name p p4) pos) t (nf (va t) ha) (fun o g p2 ha=>?_) ha
  ·obtain⟨y,hy,e⟩:=zmp ha
   cases e
   obtain⟨p1,rfl⟩:=cz hy
   exact⟨p1,_,p3,_,rfl⟩
noncomputable def im(self:Str):List Stmt→Option (List Str)
 |[]=>some []
 |s::r=>(Bm s).bind fun q=>if q.1.1==self&&(q.1.2==q.2&&(!(q.2==Str.ofString "__debug__")&& !(q.1.1==Str.ofString "__debug__")))then (im self r).map (q.2::·)else none
theorem oh{self:Str}{s:Stmt}{r:List Stmt}{qs:List Str}(h:im self (s::r)=some qs):∃q qs' p1 p2 p3 pos,qs=q::qs'∧s=.Assign [.Attribute (.Name self p1) q p2] (.Name q p3) pos∧im self r=some qs'∧(q==Str.ofString "__debug__")=false∧(self==Str.ofString "__debug__")=false:=by
 refine ao h fun q hq h=>gf h fun hc h=>?_
 obtain⟨⟨x,f⟩,p⟩:=q
 refine nh (Fw hq) fun p1 p2 p3 pos ee4=>?_
 obtain⟨hz,hc⟩:=zan hc
 obtain⟨hf,hc⟩:=zan hc
 obtain⟨hp,hd⟩:=zan hc
 have hz:x=self:=eq_of_beq hz
 have hf:f=p:=eq_of_beq hf
 subst hz hf
 obtain⟨qs',h',e⟩:=zmp h
 exact⟨_,qs',p1,p2,p3,pos,e.symm,ee4,h',(Bool.not_eq_true' _).mp hp,(Bool.not_eq_true' _).mp hd⟩
section
variable {W:Wd} {A:Around} {Λ σ:List Addr} {E:Value→Shared→Prop} {s:Shared} {st:Sto}
theorem j9{env:Env}{sc:Scope}{self:Str}{x dx C:Addr}{ox:Obj}{m:Str→Option Value}(hsc:env.scope=sc)(hk:sc.kind=.function)(hself:sc.names.lookup self=some .local)(hm:m self=some (.ref x))(hc:ClsIs W.K C)
 (o1:ox.cls=.ref C) (o2:ox.dict=some dx) (o3:notCls ox=true) (n1:x≠dx) (n3:env.locals≠dx) (nb:W.base.get? dx=none) {Q:Flow→Shared→Prop}:
 ∀(ss:List Stmt) (qs:List Str) (es:List DictEntry) (n:Nat) (ds:List Str) (s:Shared),im self ss=some qs→(∀q∈qs,sc.names.lookup q=some .local∧(∃v,m q=some v)∧takerIn W.K C q=some none∧ds.contains q=false)→ai qs=true→
  s.heap.Ns env.locals m→(∀b o,W.base.get? b=some o→s.heap.get? b=some o)→s.heap.get? x=some ox→s.heap.get? dx=some (dictOf es n)→gj es ds→es.length+qs.length≤1000→
  (∀h' tk es' n',(∀b,b≠dx→h'.get? b=s.heap.get? b)→h'.get? dx=some (dictOf es' n')→gj es' (ds++qs)→es'.map (·.val)=es.map (·.val)++qs.map (fun q=>(m q).getD .none)→Q .next { s with heap:=h',toks:=tk })→
  wpAny (model W.prog W.w) A (execs ss env) Q E s
 |[],qs,es,n,ds,s,hi,hq,hd,hns,hkeep,ox,od,ky,hlen,q=>by
  (first|subst hi|contradiction|(injection hi with hi;subst hi)|cases hi)
  exact wpAny_execs_nil (q s.heap s.toks es n (fun o_ o_=>rfl) od (by simpa using ky) (by simp))
 |a::r,qs,es,n,ds,s,hi,hq,hd,hns,hkeep,ox,od,ky,hlen,q=>by
  refine Es (oh hi) fun f qs' p1 p2 p3 pos ee6 ee7 hi' hp hzd=>?_
  subst ee6
  subst ee7
  obtain⟨l1,⟨v,l2⟩,l3,l4⟩:=hq f (.head _)
  have hkind:∀y k,sc.names.lookup y=some k→env.kindOf y=some k:=fun y k e=>by unfold Env.kindOf;rw[hsc];exact e
  have hke:env.scope.kind=.function:=by rw[hsc];exact hk
  refine wpAny_execs_cons (plainObj_wpAny_Assign_Attribute (wpAny_Name (wpAny_loadName_local hke (hkind _ _ l1) hns l2 (wpAny_Name (wpAny_loadName_local hke (hkind _ _ hself) hns hm ?_) hzd)) hp) (du rfl))
  obtain⟨pl,pn⟩:=Bl (q:=f) (hs:=PyData.keyHash W.w.params f) (k:=.str f (s.toks+1)) (v:=v) ky l4
  have hlen':es.length+(qs'.length+1)≤1000:=hlen
  refine N8 (W.X.keeps hkeep) ox o1 o2 o3 od hc l3 (by rw[qt ky l4];rfl) (by rw[pl,List.length_append];simp;lia) fun h' hs hD=>?_
  rw[pl]at hD
  obtain⟨hd1,hd2⟩:=zan hd
  have hns':h'.Ns env.locals m:=ko hns fun o e=>.inl ((hs.2 _ n3).trans e)
  refine j9 hsc hk hself hm hc o1 o2 o3 n1 n3 nb r qs' _ _ (ds++[f]) { s with heap:=h',toks:=s.toks+2 } hi' (fun y hy=>?_) hd2 hns' (fun b o e=>(hs.2 b fun q=>by rw[q,nb]at e;(first|subst e|contradiction|(injection e with e;subst e)|cases e)).trans (hkeep b o e)) ((hs.2 x n1).trans ox) hD (rc ky) (by rw[List.length_append];simp;lia) fun h'' tk es' n' x1 x2 x4 x5=>?_
  ·refine fk (hq y (.tail _ hy)) fun y1 y2 y3 y4=>?_
   refine⟨y1,y2,y3,?_⟩
   have hne:y≠f:=fun z=>by
    subst z
    rw[Bool.not_eq_true',←Bool.not_eq_true]at hd1
    exact hd1 (List.contains_iff_mem.mpr hy)
   rw[Bool.eq_false_iff]at y4 ⊢
   intro z
   rw[List.contains_iff_mem,List.mem_append]at z
   rcases z with z|z
   ·exact y4 (List.contains_iff_mem.mpr z)
   ·exact hne (List.mem_singleton.mp z)
  ·refine q h'' tk es' n' (fun b hb=>(x1 b hb).trans (hs.2 b hb)) x2 (by rw[List.append_assoc]at x4;exact x4) ?_
   rw[x5,List.map_append,List.append_assoc,List.map_cons]
   congr 1
   rw[List.map_cons,l2];rfl
end
theorem js{W:Wd}{A:Around}{C:Cx}{J:Js}{Φ:D→List D→Sto→Out D}(hA:AOk A)(hh:C.hand=false→A.handled=none)(hC:CxOk W C)(hΦ:CS W A Φ)(hJ:TS W A C J):∀n,IE W A (XJ C Φ J n)∧IT W A (XJ C Φ J n)
 |0=>⟨fun o_ o_ o_ o_ o_ o_ o_ o_ o_ o_ o_ o_ o_ H=>H.elim,fun o_ o_ o_ o_ o_ o_ o_ o_ o_ o_ o_ o_ o_ H=>H.elim⟩
 |n+1=>by
  obtain⟨a,b⟩:=js hA hh hC hΦ hJ n
  exact⟨Jz hA hh hC a b hΦ hJ,I6 hA a b⟩
theorem rf{W:Wd}{A:Around}{C:Cx}:TS W A C bu:=fun o_ o_ o_ o_ o_ o_ o_ o_ o_ o_ o_ o_ o_ o_ o_ o_ o_ o_ o_ o_ o_ H=>H.elim
theorem xa{W:Wd}{A:Around}:CS W A stuckΦ:=fun o_ o_ o_ o_ o_ o_ o_ o_ o_ o_ o_ o_ H=>H.elim
noncomputable def C0(x:Str)(v:Value):Cx:=⟨fun y=>if y==x then some v else none,fun o_=>false,fun o_ o_=>none,fun o_ o_=>false,fun o_=>false,fun o_=>none,fun o_ o_=>none,true,fun o_=>none⟩
theorem Rf{W:Wd}{x:Str}{v:Value}(h:nsIn W.K mainGlobals x=some (some v)):CxOk W (C0 x v):=by
 refine⟨fun y u e=>?_,fun o_ e=>(nomatch e),fun o_ o_ o_ e=>(nomatch e),fun o_ o_ e=>(nomatch e),fun o_ o_ e=>(nomatch e)⟩
 have e:(if y==x then some v else none)=some u:=e
 refine gf e fun q e=>?_
 cases e
 rw[eq_of_beq q];exact .inl h
theorem Fx{C:Cx}{Φ:D→List D→Sto→Out D}{J:Js}{n:Nat}{sc:Scope}{ρ:En}{st:Sto}:∀(es:List PySem.Expr) {ps:List Str} {ds:List D},bg es=some ps→
 (∀p∈ps,bf p=false∧f0 sc p=true)→ps.map (fun p=>ρ.lookup p)=ds.map some→evs ((XJ C Φ J (n+1)).ex sc ρ) es st=.ok ds st:=by
 intro es
 induction es with
 |nil=>
  intro ps ds h _ hd
  (first|subst h|contradiction|(injection h with h;subst h)|cases h)
  induction ds using List.casesOn with
  |nil=>rfl
  |cons _ _=>contradiction
 |cons e es ih=>
  intro ps ds h hb hd
  refine ao h fun x hx h=>?_
  ·obtain⟨p,rfl⟩:=cz hx
   obtain⟨ps',h',rfl⟩:=zmp h
   induction ds using List.casesOn with
   |nil=>contradiction
   |cons d ds=>
    rw[List.map_cons,List.map_cons]at hd
    injection hd with h1 h2
    obtain⟨b1,b2⟩:=hb x (.head _)
    have:(XJ C Φ J (n+1)).ex sc ρ (.Name x p) st=.ok d st:=by
     show(if bf x then _ else if f0 sc x then ofO st (ρ.lookup x)else _)=_
     rw[b1,b2,h1];rfl
    rw[p8]
    rw[this]
    show Out.bind (evs _ es st) _=_
    rw[ih h' (fun q hq=>hb q (.tail _ hq)) h2]
    rfl
section
variable {W:Wd} {A:Around} {Λ σ:List Addr} {E:Value→Shared→Prop} {s:Shared} {st:Sto}
theorem Fy{env:Env}{sc:Scope}{self:Str}{x C:Addr}{ox:Obj}{m:Str→Option Value}{ss:List Stmt}{q0:Str}{qs:List Str}(hsc:env.scope=sc)(hk:sc.kind=.function)(hself:sc.names.lookup self=some .local)(hm:m self=some (.ref x))(hc:ClsIs W.K C)
 (o1:ox.cls=.ref C) (o2:ox.dict=none) (o3:notCls ox=true) (nb:W.base.get? s.heap.objs.size=none) (xb:W.base.get? x=none) (xL:env.locals≠x) {Q:Flow→Shared→Prop}
 (hi:im self ss=some (q0::qs)) (hq:∀q∈q0::qs,sc.names.lookup q=some .local∧(∃v,m q=some v)∧takerIn W.K C q=some none) (hd:ai (q0::qs)=true) (hns:s.heap.Ns env.locals m)
 (hkeep:∀b o,W.base.get? b=some o→s.heap.get? b=some o) (hox:s.heap.get? x=some ox) (hlen:qs.length≤900)
 (q:∀h' tk es' n',(∀b,b≠x→b≠s.heap.objs.size→h'.get? b=s.heap.get? b)→h'.get? x=some { ox with dict:=some s.heap.objs.size }→h'.get? s.heap.objs.size=some (dictOf es' n')→gj es' (q0::qs)→
   es'.map (·.val)=(q0::qs).map (fun q=>(m q).getD .none)→Q .next { s with heap:=h',toks:=tk }):wpAny (model W.prog W.w) A (execs ss env) Q E s:=by
 obtain⟨a,r,rfl⟩:∃a r,ss=a::r:=by
  induction ss using List.casesOn with
  |nil=>cases hi
  |cons a r=>exact⟨a,r,rfl⟩
 refine Es (oh hi) fun o_ o_ p1 p2 p3 pos e ee7 hi' hp hzd=>?_
 subst ee7
 cases e
 obtain⟨l1,⟨v,l2⟩,l3⟩:=hq q0 (.head _)
 have hkind:∀y k,sc.names.lookup y=some k→env.kindOf y=some k:=fun y k e=>by unfold Env.kindOf;rw[hsc];exact e
 have hke:env.scope.kind=.function:=by rw[hsc];exact hk
 refine wpAny_execs_cons (plainObj_wpAny_Assign_Attribute (wpAny_Name (wpAny_loadName_local hke (hkind _ _ l1) hns l2 (wpAny_Name (wpAny_loadName_local hke (hkind _ _ hself) hns hm ?_) hzd)) hp) (du rfl))
 refine Jm (W.X.keeps hkeep) hox o1 o2 o3 hc l3 fun h' es n k1 k2 k3 k4=>?_
 have hxs:x≠s.heap.objs.size:=Nat.ne_of_lt (Heap.lt_size hox)
 obtain⟨oL,hoL⟩:=dw hns
 have hLs:env.locals≠s.heap.objs.size:=Nat.ne_of_lt (Heap.lt_size hoL)
 have hns':h'.Ns env.locals m:=ko hns fun o e=>.inl ((k1 _ xL hLs).trans e)
 obtain⟨hd1,hd2⟩:=zan hd
 have hn0:∀y∈qs,y≠q0:=fun y hy z=>by
  subst z
  rw[Bool.not_eq_true',←Bool.not_eq_true]at hd1
  exact hd1 (List.contains_iff_mem.mpr hy)
 subst k3
 refine j9 (ox:={ ox with dict:=some s.heap.objs.size }) (dx:=s.heap.objs.size) hsc hk hself hm hc o1 rfl (by obtain⟨_,_,_,_⟩:=ox;exact o3) hxs hLs nb r qs _ n [q0] { s with heap:=h',toks:=s.toks+2 } hi'
  (fun y hy=>⟨(hq y (.tail _ hy)).1,(hq y (.tail _ hy)).2.1,(hq y (.tail _ hy)).2.2,by have:=hn0 y hy;simp[this]⟩) hd2 hns' (fun b o e=>(k1 b (fun z=>by rw[z,xb]at e;cases e) fun z=>by rw[z,nb]at e;cases e).trans (hkeep b o e)) k2 k4 ⟨⟨_,rfl⟩,trivial⟩ (by simp;lia) fun h'' tk es' n' x1 x2 x4 x5=>?_
 refine q h'' tk es' n' (fun b h1 h2=>(x1 b h2).trans (k1 b h1 h2)) ((x1 x hxs).trans k2) x2 x4 ?_
 rw[x5]
 show[v]++_=_
 rw[List.map_cons,l2];rfl
end
noncomputable def Fz(K:Frag)(C:Addr)(p:Str):Bool:=takerIn K C p==some none
noncomputable def tz(K:Frag)(C:Addr):Bool:=findIn K (.ref C) "__setattr__"==some (some (.builtin "object.__setattr__"))
noncomputable def zo(K:Frag)(c:Addr):Option Addr:=((findIn K (.ref c) "__init__").bind id).bind kv
theorem t7{K:Frag}{c fI:Addr}(h:zo K c=some fI):findIn K (.ref c) "__init__"=some (some (.ref fI)):=by
 obtain⟨v,h1,h2⟩:=zbd h
 obtain⟨w,h3,h4⟩:=zbd h1
 rw[h3,show w=some v from h4,j5 h2]
theorem io{K:Frag}{C:Addr}{h:Heap}{M:Model}(X:K.In h)(hc:(clsIn K C).isSome=true):Looks M h (isType (.ref C)) true:=by
 obtain⟨cd,hc⟩:=Option.isSome_iff_exists.mp hc
 generalize ho:K.lookup C=z
 induction z using Option.casesOn with
 |none=>unfold clsIn at hc;rw[ho]at hc;cases hc
 |some o=>
  obtain⟨oc,od,da,os⟩:=o
  have v:∀da,K.lookup C=some ⟨oc,od,da,os⟩→((clsIn K C).isNone||Nat.beq da.ctorIdx 8)=true:=fun da e=>by
   unfold clsIn;rw[e];cases da<;>exact T1
  exact Data.cls.elim (motive:=fun da=>K.lookup C=some ⟨oc,od,da,os⟩→Looks M h (isType (.ref C)) true) da (nf (v da ho) hc) (fun c ho=>(Looks.ld (X _ _ ho)).andThen .now) ho
noncomputable def zq(K:Frag)(c:Addr)(ps:List Str):Bool:=tz K c&&(Jl K c&&(hasDictIn K c&&(ps.all (Fz K c)&&decide (ps.length≤900))))
theorem F1{K:Frag}{c:Addr}{ps:List Str}(h:zq K c ps=true):ClsIs K c∧(∀p∈ps,takerIn K c p=some none)∧ps.length≤900:=by
 unfold zq at h
 obtain⟨h1,h⟩:=zan h
 obtain⟨h2,h⟩:=zan h
 obtain⟨h3,h⟩:=zan h
 obtain⟨h4,h5⟩:=zan h
 refine⟨⟨?_,h2,h3⟩,fun p hp=>?_,of_decide_eq_true h5⟩
 ·exact eq_of_beq h1
 ·exact eq_of_beq (List.all_eq_true.mp h4 p hp)
noncomputable def F2(id:String)(v:Option (Option Value)):Bool:=v==some (some (.builtin id))
noncomputable def jt(b:Bool)(v:Option Bool):Bool:=v==some b
noncomputable def Rg(v:Option Value):Bool:=v==some (.type "type")
theorem ph{id:String}{v:Option (Option Value)}(h:F2 id v=true):v=some (some (.builtin id)):=eq_of_beq h
theorem cq{b:Bool}{v:Option Bool}(h:jt b v=true):v=some b:=eq_of_beq h
theorem J0{v:Option Value}(h:Rg v=true):v=some (.type "type"):=eq_of_beq h
noncomputable def cfV:CFound→Option Addr
 |.val v=>kv v
 |_=>none
noncomputable def rg(K:Frag)(b:Addr):Option Addr:=(typeIn K (.ref b)).bind fun mc=>if readsIn K b mc&&F2 "type.__getattribute__" (specialIn K (.ref b) "__getattribute__")then (findCls K (.ref b) mc "__init__").bind cfV else none
theorem xd{K:Frag}{b f:Addr}(h:rg K b=some f):∃mc,readsIn K b mc=true∧specialIn K (.ref b) "__getattribute__"=some (some (.builtin "type.__getattribute__"))∧findCls K (.ref b) mc "__init__"=some (.val (.ref f)):=by
 refine ao h fun mc hm h=>gf h fun hc h=>ao h fun x hx h=>?_
 obtain⟨h1,h2⟩:=zan hc
 refine⟨mc,h1,ph h2,hx.trans ?_⟩
 cases x with
 |val v=>rw[j5 h]
 |get _ _ _ _=>cases h
noncomputable def ri(f:FnI):Option Str:=match f.body with
 |.Expr (.Call (.Attribute (.Name bn _) _ _) _ _ _) _::_=>if bf bn||f0 f.sc bn||f.sc.names.lookup bn !=some .globalImplicit then none else some bn
 |_=>none
structure CtorIs (xi:XcI) (f g:FnI) (slf s3:Str) (bnE:PySem.Expr) (nm:Str) (ap cp p1 p2 p3 ep:Pos) (ku:Nat) (es:List PySem.Expr) (rest:List Stmt):Prop where
 body:f.body=.Expr (.Call (.Attribute bnE nm ap) [.Name slf p1,.Constant (.str xi.word) ku p2,.List es p3] [] cp) ep::rest
 ps:f.ps=slf::xi.ps
 gps:g.ps=[s3,xi.q1,xi.q2]
 hnm:nm=Str.ofString "__init__"
 pos:(ap.endLine==cp.line)=true
 hes:bg es=some xi.ps
 hrest:im slf rest=some xi.ps
 bad:((slf::xi.ps).all fun p=> !bf p)=true
 star:noStar es=true
 sz:cf es.length=true
 dis:ai xi.ns=true
 gbody:im s3 g.body=some [xi.q1,xi.q2]
theorem CtorIs.nbad{xi:XcI}{f g:FnI}{slf s3:Str}{bnE:PySem.Expr}{nm:Str}{ap cp p1 p2 p3 ep:Pos}{ku:Nat}{es:List PySem.Expr}{rest:List Stmt}(h:CtorIs xi f g slf s3 bnE nm ap cp p1 p2 p3 ep ku es rest):∀p∈slf::xi.ps,bf p=false:=
 fun p hp=>by simpa using List.all_eq_true.mp h.bad p hp
noncomputable def e7(K:Frag)(c:Addr):ClassData:=match K.lookup c with
 |some ⟨_,_,.cls cd,_⟩=>cd
 |_=>default
noncomputable def Rh(K:Frag)(c:Addr):Option Addr:=(K.lookup c).bind (·.dict)
noncomputable def s5(K:Frag)(c:Addr)(i:Nat):Option Value:=(K.lookup c).bind fun o=>(o.slots[i]?).bind id
noncomputable abbrev Oi(K:Frag)(c:Addr):Obj:=excClassObj (e7 K c).name (e7 K c).qualname c (e7 K c).ns (e7 K c).bases (e7 K c).mro.tail (e7 K c).hasDict (e7 K c).slotNames (e7 K c).subclasses (e7 K c).abstract (e7 K c).collection (Rh K c) (s5 K c 0) (s5 K c 1) (s5 K c 2) (s5 K c 3) (s5 K c 5) w6
structure XcIs (K:Frag) (c:Addr) (xi:XcI) (b fI fB:Addr) (bn:Str) (f g:FnI):Prop where
 cls:K.lookup c=some (Oi K c)
 bm1:(e7 K c).mro.tail.contains (.type "Exception")=true
 bm2:(e7 K c).mro.tail.contains (.type "AttributeError")=false
 bm3:(e7 K c).mro.tail.contains (.type "NameError")=false
 bm4:(e7 K c).mro.tail.contains (.type "BaseException")=true
 init:zo K c=some fI
 isf:isFn K (.ref fI)=true
 fn:nr K none fI=some f
 bname:ri f=some bn
 glob:nsIn K mainGlobals bn=some (some (.ref b))
 base:rg K b=some fB
 bfn:nr K none fB=some g
 bkeep:keepIn K (.ref fB)=true
 keep:keepIn K (.ref c)=true
 ok:zq K c xi.ns=true
set_option genCtorIdx false in
structure XcD where
 b:Addr
 fI:Addr
 fB:Addr
 bn:Str
 f:FnI
 g:FnI
 slf:Str
 s3:Str
 bp:Pos
 nm:Str
 ap:Pos
 cp:Pos
 p1:Pos
 p2:Pos
 p3:Pos
 ep:Pos
 ku:Nat
 es:List PySem.Expr
 rest:List Stmt
noncomputable def XcP(K:Frag)(c:Addr)(xi:XcI):Prop:=∃d:XcD,XcIs K c xi d.b d.fI d.fB d.bn d.f d.g∧CtorIs xi d.f d.g d.slf d.s3 (.Name d.bn d.bp) d.nm d.ap d.cp d.p1 d.p2 d.p3 d.ep d.ku d.es d.rest
theorem lg{σ:List Addr}{B:Addr→Prop}{h:Heap}:∀{ds:List D} {vs:List Value} {l:List V},RepDs σ B h vs ds→cj ds=some l→Reps B h vs l
 |[],[],l,_,e=>by(first|subst e|contradiction|(injection e with e;subst e)|cases e);trivial
 |.v x::ds,v::vs,l,r,e=>by
  obtain⟨l',h1,rfl⟩:=zmp e
  exact⟨r.1,lg r.2 h1⟩
 |.m _::_,_::_,_,_,e=>by(first|subst e|contradiction|(injection e with e;subst e)|cases e)
 |[],_::_,_,r,_=>r.elim
 |_::_,[],_,r,_=>r.elim
theorem ip:∀{ps:List Str} {vs:List Value},ai ps=true→ps.length=vs.length→ps.map (fun q=>((ps.zip vs).lookup q).getD .none)=vs
 |[],[],_,_=>rfl
 |p::ps,v::vs,hd,hl=>by
  obtain⟨hd1,hd2⟩:=zan hd
  rw[List.map_cons,List.zip_cons_cons]
  congr 1
  ·rw[List.lookup_cons];simp
  ·refine Eq.trans (List.map_congr_left fun q hq=>?_) (ip (ps:=ps) (vs:=vs) hd2 (by simpa using hl))
   rw[List.lookup_cons]
   cases z:q==p with
   |false=>rfl
   |true=>
    have:=eq_of_beq z
    subst this
    rw[Bool.not_eq_true',←Bool.not_eq_true]at hd1
    exact absurd (List.contains_iff_mem.mpr hq) hd1
 |[],_::_,_,h=>by(first|subst h|contradiction|(injection h with h;subst h)|cases h)
 |_::_,[],_,h=>by(first|subst h|contradiction|(injection h with h;subst h)|cases h)
theorem oj:∀{ps:List Str} {ds:List D},ai ps=true→ps.length=ds.length→ps.map (fun q=>(ps.zip ds).lookup q)=ds.map some
 |[],[],_,_=>rfl
 |p::ps,v::vs,hd,hl=>by
  obtain⟨hd1,hd2⟩:=zan hd
  rw[List.map_cons,List.zip_cons_cons,List.map_cons]
  congr 1
  ·rw[List.lookup_cons];simp
  ·refine Eq.trans (List.map_congr_left fun q hq=>?_) (oj (ps:=ps) (ds:=vs) hd2 (by simpa using hl))
   rw[List.lookup_cons]
   cases z:q==p with
   |false=>rfl
   |true=>
    have:=eq_of_beq z
    subst this
    rw[Bool.not_eq_true',←Bool.not_eq_true]at hd1
    exact absurd (List.contains_iff_mem.mpr hq) hd1
 |[],_::_,_,h=>by(first|subst h|contradiction|(injection h with h;subst h)|cases h)
 |_::_,[],_,h=>by(first|subst h|contradiction|(injection h with h;subst h)|cases h)
section
variable {W:Wd} {A:Around} {Λ σ:List Addr} {E:Value→Shared→Prop} {s:Shared} {st:Sto}
set_option tactic.hygienic true in
theorem xe{b fB:Addr}{bn:Str}{f g:FnI}{xi:XcI}{slf s3:Str}{bp:Pos}{nm:Str}{ap cp p1 p2 p3 ep:Pos}{ku:Nat}{es:List PySem.Expr}{rest:List Stmt}{env:Env}{e C t:Addr}{ds:List D}{l:List V}{Q:Flow→Shared→Prop}
 (hA:AOk A) (hd:A.depth<recursionLimit) (CI:CtorIs xi f g slf s3 (.Name bn bp) nm ap cp p1 p2 p3 ep ku es rest) (hbn:ri f=some bn) (hb:nsIn W.K mainGlobals bn=some (some (.ref b))) (hi:rg W.K b=some fB) (hg:nr W.K none fB=some g) (hk:keepIn W.K (.ref fB)=true)
 (hE:EnvOk W.tabs Λ f.sc env) (hc:ClsIs W.K C) (ht:∀p∈[xi.q1,xi.q2],takerIn W.K C p=some none) (hloc:∀p∈slf::xi.ps,f.sc.names.lookup p=some .local) (hdis:ai (slf::xi.ps)=true) (hlen:xi.ps.length=ds.length) (hl:cj ds=some l)
 (eL:e∈Λ) (he:s.heap.get? e=some (fm C t))
 (iv:Inv W σ Λ s.heap st) (V:Vars Λ f.sc env ((slf,.v (.val (.ref e)))::xi.ps.zip ds) σ s.heap)
 (q:∀σ' h₁ h' tk dx n k1 k2 w1 w2 h1 h2,Fresh σ σ' s.heap→Kp (fun x=>x∈σ∨NoX x) s.heap h₁→Inv W σ' Λ h₁ st→h₁.get? dx=none→(∀a o,a≠e→h₁.get? a=some o→h'.get? a=some o)→h'.get? e=some { fm C t with dict:=some dx }→
   h'.get? dx=some (dictOf [⟨h1,.str xi.q1 k1,w1⟩,⟨h2,.str xi.q2 k2,w2⟩] n)→Rep (Bad σ' Λ) h₁ w1 (.str xi.word)→Rep (Bad σ' Λ) h₁ w2 (.lst l)→Q .next { s with heap:=h',toks:=tk }):
 wpAny (model W.prog W.w) A (exec (.Expr (.Call (.Attribute (.Name bn bp) nm ap) [.Name slf p1,.Constant (.str xi.word) ku p2,.List es p3] [] cp) ep) env) Q E s:=by
 refine bq (xd hi) fun mc b1 b2 b3=>?_
 obtain⟨gd,og,G⟩:=ma hg
 have hsc:f0 f.sc bn=false∧bf bn=false∧f.sc.names.lookup bn=some .globalImplicit:=by
  unfold ri at hbn
  rw[CI.body]at hbn
  dsimp only at hbn
  split at hbn
  ·cases hbn
  ·rename_i z
   simp only[Bool.or_eq_true,not_or,Bool.not_eq_true]at z
   exact⟨z.1.2,z.1.1,by simpa using z.2⟩
 obtain⟨hI,_⟩:=js (W:=W) (A:=A) (C:=C0 bn (.ref b)) (J:=bu) hA (fun z=>nomatch z) (Rf hb) xa rf 3
 refine wpAny_Expr_any ?_ (by unfold interactive;rw[hE.scope,hE.kind];rfl) (du rfl)
 rw[tq,ie rfl]
 have evn:(XJ (C0 bn (.ref b)) stuckΦ bu 3).ex f.sc ((slf,.v (.val (.ref e)))::xi.ps.zip ds) (.Name bn bp) st=.ok (.v (.val (.ref b))) st:=by
  show(if bf bn then _ else if f0 f.sc bn then _ else if f.sc.names.lookup bn==some .globalImplicit then ofO st (((if bn==bn then some (Value.ref b)else none):Option Value).map fun v=>D.v (gV v))else _)=_
  rw[hsc.2.1,hsc.1,hsc.2.2]
  simp
  rfl
 refine wpAny_bind (hI Λ f.sc env _ (.Name bn bp) hE E σ s st _ iv V ?_)
 rw[evn]
 intro σ₁ h₁ tk₁ v f₁ k₁ i₁ r₁
 have r₁:v=.ref b:=r₁
 subst r₁
 refine wpAny_bind (wpAny_standAt ?_)
 have V₁:=V.step (iv.sigma hE.loc) f₁ k₁
 have X₁:=ak i₁
 have nst:noStar [.Name slf p1,.Constant (.str xi.word) ku p2,.List es p3]=true:=rfl
 refine br (s':={ s with heap:=h₁,toks:=tk₁+1 }) (f:=.ref fB) (first:=[]) nst (show 3<20 by decide) CI.pos (fun pl Q' q'=>method_cls X₁ b2 (by rw[CI.hnm];exact cls_value X₁ b1 b3 rfl q')) ?_
 refine cg hE hI nst (fun h X=>keeps_K hk h X) (s:={ s with heap:=h₁,toks:=tk₁+1 }) i₁ V₁ ?_
 have hdd:=hdis
 obtain⟨hd1,hd2⟩:=zan hdd
 have hns:∀p∈xi.ps,(p==slf)=false:=fun p hp=>by
  rw[Bool.not_eq_true',←Bool.not_eq_true]at hd1
  exact beq_eq_false_iff_ne.mpr fun z=>hd1 (List.contains_iff_mem.mpr (z▸hp))
 have lcl:∀p∈slf::xi.ps,f0 f.sc p=true:=fun p hp=>by unfold f0;rw[hloc p hp];rfl
 have ev:evs ((XJ (C0 bn (.ref b)) stuckΦ bu 3).ex f.sc ((slf,.v (.val (.ref e)))::xi.ps.zip ds)) [.Name slf p1,.Constant (.str xi.word) ku p2,.List es p3] st=.ok [.v (.val (.ref e)),.v (.str xi.word),.v (.lst l)] st:=by
  have e1:(XJ (C0 bn (.ref b)) stuckΦ bu 3).ex f.sc ((slf,.v (.val (.ref e)))::xi.ps.zip ds) (.Name slf p1) st=.ok (.v (.val (.ref e))) st:=by
   show(if bf slf then _ else if f0 f.sc slf then ofO st (((slf,D.v (.val (.ref e)))::xi.ps.zip ds).lookup slf)else _)=_
   rw[CI.nbad slf (.head _),lcl slf (.head _),List.lookup_cons,beq_self_eq_true]
   rfl
  have e2:(XJ (C0 bn (.ref b)) stuckΦ bu 3).ex f.sc ((slf,.v (.val (.ref e)))::xi.ps.zip ds) (.List es p3) st=.ok (.v (.lst l)) st:=by
   show(if noStar es&&cf es.length then (evs ((XJ (C0 bn (.ref b)) stuckΦ bu 2).ex f.sc ((slf,.v (.val (.ref e)))::xi.ps.zip ds)) es st).bind fun ds st=>match cj ds with
    |some l=>if(C0 bn (.ref b)).mt p3 then Out.ok (D.m st.length) (st++[l])else .ok (.v (.lst l)) st
    |none=>.stuck
    else .stuck)=_
   rw[CI.star,CI.sz,Fx es (ds:=ds) CI.hes (fun p hp=>⟨CI.nbad p (.tail _ hp),lcl p (.tail _ hp)⟩) (by
    refine Eq.trans (List.map_congr_left fun p hp=>?_) (oj hd2 hlen)
    rw[List.lookup_cons,hns p hp])]
   show(match cj ds with
    |some l=>if(C0 bn (.ref b)).mt p3 then Out.ok (D.m st.length) (st++[l])else .ok (.v (.lst l)) st
    |none=>.stuck)=_
   rw[hl]
   rfl
  rw[p8]
  rw[e1]
  show Out.bind (evs _ [.Constant (.str xi.word) ku p2,.List es p3] st) _=_
  rw[p8]
  show Out.bind (Out.bind (evs _ [.List es p3] st) _) _=_
  rw[p8]
  rw[e2]
  rfl
 rw[ev]
 intro σ₂ h₂ tk₂ ws f₂ k₂ i₂ r₂
 obtain⟨w0,ws,rfl⟩:∃w0 ws',ws=w0::ws':=by induction ws using List.casesOn with|nil=>exact r₂.elim|cons a b=>exact⟨a,b,rfl⟩
 obtain⟨w1,ws,rfl⟩:∃w0 ws',ws=w0::ws':=by induction ws using List.casesOn with|nil=>exact r₂.2.elim|cons a b=>exact⟨a,b,rfl⟩
 obtain⟨w2,ws,rfl⟩:∃w0 ws',ws=w0::ws':=by induction ws using List.casesOn with|nil=>exact r₂.2.2.elim|cons a b=>exact⟨a,b,rfl⟩
 refine fk r₂ fun r0 r1 r2 r3=>?_
 have hws:=Bi r3
 subst hws
 have r0:w0=.ref e:=r0
 subst r0
 refine⟨ak i₂,?_⟩
 have hlv:g.ps.length=([]++[Value.ref e,w1,w2]).length:=by rw[CI.gps];rfl
 have gdis:=G.dis
 have gloc:∀p∈g.ps,gd.scope.names.lookup p=some .local:=fun p hp=>(G.loc p hp).2 rfl
 rw[CI.gps]at gdis gloc
 refine wpAny_call (codeAny_call_def (s:={ s with heap:=h₂,toks:=tk₂ }) (binds:=g.ps.zip ([]++[Value.ref e,w1,w2])) hd (ak i₂ _ _ G.at_) G.data (W.T.nolimit.keeps i₂.keep) (codeRec_of (ak i₂) G.code) G.body (BindsTo.of_eq (fp G.ps G.h1 G.h2 G.h3 G.h4 G.h5 hlv G.dis))
  (fun x hx=>(G.names x hx).1 rfl) (fun x hx=>(G.loc _ (List.of_mem_zip (a:=x.1) (b:=x.2) hx).1).2 rfl) (fun h₄ hns₄ hk₄=>?_) G.co G.gen G.kind)
 have n2:h₂.get? h₂.objs.size=none:=an
 obtain⟨oL,hoL⟩:=dw hns₄
 have i₄:Inv W σ₂ (h₂.objs.size::Λ) h₄ st:=i₂.lam n2 hk₄ hoL i₂.size
 have ee:h₂.get? e=some (fm C t):=by
  have k1:=(k₁.at he fun z=>z.elim (iv.sigma eL) fun z=>z.elim).ndb rfl
  exact(k₂.at k1 fun z=>z.elim (i₁.sigma eL) fun z=>z.elim).ndb rfl
 have e₄:=hk₄ _ _ ee
 have lowN:=i₄.size
 have hml:∀y,(g.ps.zip ([]++[Value.ref e,w1,w2])).reverse.lookup y=(g.ps.zip ([]++[Value.ref e,w1,w2])).lookup y:=fun y=>cu y G.dis hlv
 have d3:ai [xi.q1,xi.q2]=true:=by
  exact(zan gdis).2
 have hm0:(g.ps.zip ([]++[Value.ref e,w1,w2])).reverse.lookup s3=some (.ref e):=by rw[hml,CI.gps];show List.lookup s3 ((s3,Value.ref e)::_)=_;rw[List.lookup_cons,beq_self_eq_true]
 have xb:W.base.get? e=none:=jo (h:=W.base) (Nat.le_refl _) (iv.new e (.inr eL)).1
 have xL:(callEnv gd h₂.objs.size fB).locals≠e:=fun z=>by
  have z:h₂.objs.size=e:=z
  rw[←z,n2]at ee;cases ee
 refine Fy (s:={ s with heap:=h₄,toks:=tk₂+(g.ps.zip ([]++[Value.ref e,w1,w2])).length }) (env:=callEnv gd h₂.objs.size fB) (sc:=g.sc) (self:=s3) (x:=e) (C:=C) (m:=fun y=>(g.ps.zip ([]++[Value.ref e,w1,w2])).reverse.lookup y) G.sc (G.sc▸G.kind) (G.sc▸gloc s3 (.head _)) hm0 hc rfl rfl rfl (jo lowN (Nat.le_refl _)) xb xL
  CI.gbody (fun p hp=>⟨G.sc▸gloc p (.tail _ hp),?_,ht p hp⟩) d3 hns₄ i₄.keep e₄ (show 1≤900 by decide) fun h' tk es' n' x1 x2 x3 x4 x5=>?_
 ·rw[hml]
  exact jq hlv p (by rw[CI.gps];exact .tail _ hp)
 ·have mv:([xi.q1,xi.q2].map fun y=>((g.ps.zip ([]++[Value.ref e,w1,w2])).reverse.lookup y).getD .none)=[w1,w2]:=by
   have z:=ip (ps:=[s3,xi.q1,xi.q2]) (vs:=[Value.ref e,w1,w2]) gdis rfl
   rw[List.map_cons]at z
   injection z with z1 z2
   refine Eq.trans (List.map_congr_left fun y hy=>?_) z2
   rw[hml,CI.gps];rfl
  rw[mv]at x5
  obtain⟨⟨g1,ky1,v1⟩,es',rfl⟩:∃a b,es'=a::b:=by induction es' using List.casesOn with|nil=>cases x5|cons a b=>exact⟨a,b,rfl⟩
  obtain⟨⟨g2,ky2,v2⟩,es',rfl⟩:∃a b,es'=a::b:=by induction es' using List.casesOn with|nil=>cases x5|cons a b=>exact⟨a,b,rfl⟩
  obtain rfl:es'=[]:=by induction es' using List.casesOn with|nil=>rfl|cons a b=>cases x5
  obtain⟨⟨k1,hk1⟩,⟨k2,hk2⟩,_⟩:=x4
  dsimp only at hk1 hk2
  subst hk1 hk2
  injection x5 with y1 y2
  injection y2 with y2 _
  dsimp only at y1 y2
  subst y1 y2
  have n4:h₂.get? h₄.objs.size=none:=by
   generalize z:h₂.get? h₄.objs.size=zz
   induction zz using Option.casesOn with
   |none=>rfl
   |some o=>rw[an]at*;exact absurd (hk₄ _ _ z) (by rw[an];intro q;cases q)
  have hle:e≠h₄.objs.size:=fun z=>by rw[z,an]at e₄;cases e₄
  refine q σ₂ h₂ h' tk h₄.objs.size n' k1 k2 v1 v2 g1 g2 (f₁.trans f₂ k₁) (k₁.trans k₂ fun a al z=>z.elim (fun z=>.inl (al.elim fun o_ ea=>f₁.low ea z)) .inr) i₂ n4 (fun a o ha ho=>(x1 a ha fun z=>by rw[z,n4]at ho;cases ho).trans (hk₄ _ _ ho)) x2 x3 r1 r2
theorem J1{c:Addr}{xi:XcI}{ds:List D}{vs:List Value}{l:List V}{Q:Value→Shared→Prop}(hd:A.depth+4<recursionLimit)(hu:A.units+90<cLine)(hx:XcP W.K c xi)(iv:Inv W σ Λ s.heap st)(hr:RepDs σ (Bad σ Λ) s.heap vs ds)(hl:cj ds=some l)(hn:xi.ps.length=ds.length)
 (q:∀σ' h' tk e,Fresh σ σ' s.heap→Kp (fun x=>x∈σ∨NoX x) s.heap h'→Inv W σ' (e::Λ) h' st→s.heap.get? e=none→Flown W (Bad σ' Λ) h' h' e c xi.ns (xi.vs l)→Q (.ref e) { s with heap:=h',toks:=tk }):
 wpAny (model W.prog W.w) A (call (.ref c) vs) Q E s:=by
 obtain⟨⟨b,fI,fB,bn,f,g,slf,s3,bp,nm,ap,cp,p1,p2,p3,ep,ku,es,rest⟩,X,CI⟩:=hx
 replace X:XcIs W.K c xi b fI fB bn f g:=X
 replace CI:CtorIs xi f g slf s3 (.Name bn bp) nm ap cp p1 p2 p3 ep ku es rest:=CI
 obtain⟨fd,o,F⟩:=ma X.fn
 obtain⟨cok,ctk,clen⟩:=F1 X.ok
 have hK:=ak iv
 have hreps:=lg hr hl
 have hvs:vs.length=xi.ps.length:=by rw[hn,RepDs.length hr]
 have hsmall:xi.ps.length≤900:=by
  have:xi.ps.length+2≤900:=clen
  exact Nat.le_of_add_right_le this
 obtain⟨hh,ge,dr,t,os⟩:=s
 refine Fn ⟨X.bm1,X.bm2,X.bm3⟩ (hK _ _ X.cls) (looks_findIn hK (t7 X.init)) (fun self=>bind_fn hK self (eq_of_beq X.isf)) (by rw[hvs,sizeLine_eq];lia) ?_
 have nt:hh.get? hh.objs.size=none:=an
 have sz1:(hh.push { cls:=.type "tuple",data:=.seq vs.toArray }).objs.size=hh.objs.size+1:=Heap.size_push ..
 have ne:(hh.push { cls:=.type "tuple",data:=.seq vs.toArray }).get? (hh.objs.size+1)=none:=by rw[←sz1];exact an
 have i0:Inv W σ Λ (hh.push { cls:=.type "tuple",data:=.seq vs.toArray }) st:=iv.push _
 have ke:∀b o,(hh.push { cls:=.type "tuple",data:=.seq vs.toArray }).get? b=some o→(ca hh c vs).get? b=some o:=fun b o e=>Heap.get?_push_of_some _ e
 have he:(ca hh c vs).get? (hh.objs.size+1)=some (fm c hh.objs.size):=by
  have:=Heap.get?_push_size (hh.push { cls:=.type "tuple",data:=.seq vs.toArray }) (o:=fm c hh.objs.size) rfl
  rw[sz1]at this;exact this
 have i1:Inv W σ ((hh.objs.size+1)::Λ) (ca hh c vs) st:=i0.lam ne ke he (Nat.le_trans iv.size (Nat.le_succ _))
 have k1:∀b o,hh.get? b=some o→(ca hh c vs).get? b=some o:=fun b o e=>ke _ _ (Heap.get?_push_of_some _ e)
 have he0:hh.get? (hh.objs.size+1)=none:=by
  cases z:hh.get? (hh.objs.size+1)with
  |none=>rfl
  |some o=>exact absurd (Heap.lt_size z) (Nat.not_lt.mpr (Nat.le_succ _))
 have hlv:f.ps.length=(Value.ref (hh.objs.size+1)::vs).length:=by rw[CI.ps,List.length_cons,List.length_cons,hvs]
 refine codeAny_call_def (s:=⟨ca hh c vs,ge,dr,t,os⟩) (binds:=f.ps.zip (Value.ref (hh.objs.size+1)::vs)) (by show A.depth+Code.weight _<_;rw[jr];lia) (ak i1 _ _ F.at_) F.data (W.T.nolimit.keeps i1.keep) (codeRec_of (ak i1) F.code) F.body (BindsTo.of_eq (fp F.ps F.h1 F.h2 F.h3 F.h4 F.h5 hlv F.dis))
  (fun x hx=>(F.names x hx).1 rfl) (fun x hx=>(F.loc _ (List.of_mem_zip (a:=x.1) (b:=x.2) hx).1).2 rfl) (fun h₀ hns hk=>?_) F.co F.gen F.kind
 have sz2:(ca hh c vs).objs.size=hh.objs.size+2:=by
  show((hh.push _).push _).objs.size=_
  rw[Heap.size_push,Heap.size_push]
 dsimp only at hns hk ⊢
 rw[sz2]at hns ⊢
 obtain⟨oL,hoL⟩:=dw hns
 have Ln:(ca hh c vs).get? (hh.objs.size+2)=none:=by rw[←sz2];exact an
 have i2:Inv W σ ((hh.objs.size+2)::(hh.objs.size+1)::Λ) h₀ st:=i1.lam Ln hk hoL (Nat.le_trans iv.size (Nat.le_add_right _ _))
 have noc:∀x k,f.sc.names.lookup x=some k→k≠.cell∧k≠.free:=fun x k e=>⟨(F.names (x,k) (F.sc▸mem_of_lookup e)).1 rfl,(F.names (x,k) (F.sc▸mem_of_lookup e)).2⟩
 have hE:EnvOk W.tabs ((hh.objs.size+2)::(hh.objs.size+1)::Λ) f.sc (callEnv fd (hh.objs.size+2) fI):=by
  refine⟨F.sc▸F.kind,F.sc,F.glob,F.bi,.head _,fun x c e=>?_,fun x q=>?_,fun x y c e o_=>nk F.clo e,fun q=>absurd rfl (noc _ _ q.choose_spec).1⟩
  ·have e:fd.closure.lookup x=some c:=e
   rw[F.clo]at e;(first|subst e|contradiction|(injection e with e;subst e)|cases e)
  ·rcases q with q|q
   ·exact absurd rfl (noc x _ q).1
   ·exact absurd rfl (noc x _ q).2
 have hdis:=F.dis
 rw[CI.ps]at hdis
 have hloc:∀p∈slf::xi.ps,f.sc.names.lookup p=some .local:=fun p hp=>F.sc▸(F.loc p (CI.ps▸hp)).2 rfl
 have hml:∀y,(f.ps.zip (Value.ref (hh.objs.size+1)::vs)).reverse.lookup y=(f.ps.zip (Value.ref (hh.objs.size+1)::vs)).lookup y:=fun y=>cu y F.dis hlv
 have mv1:∀b o,hh.get? b=some o→¬Bad σ Λ b→At h₀ b o∧¬Bad σ ((hh.objs.size+2)::(hh.objs.size+1)::Λ) b:=fun b o e nb=>⟨.inl (hk _ _ (k1 _ _ e)),fun z=>by
  have hlt:=Heap.lt_size e
  rcases z with z|z
  ·exact nb (.inl z)
  ·rcases List.mem_cons.mp z with z|z
   ·exact absurd hlt (by rw[z];exact Nat.not_lt.mpr (Nat.le_add_right _ _))
   ·rcases List.mem_cons.mp z with z|z
    ·exact absurd hlt (by rw[z];exact Nat.not_lt.mpr (Nat.le_succ _))
    ·exact nb (.inr z)⟩
 have hV:Vars ((hh.objs.size+2)::(hh.objs.size+1)::Λ) f.sc (callEnv fd (hh.objs.size+2) fI) ((slf,.v (.val (.ref (hh.objs.size+1))))::xi.ps.zip ds) σ h₀:=by
  refine⟨_,hns,fun x c e=>nk F.clo e,fun x d e=>⟨fun q=>?_,fun q=>?_⟩⟩
  ·rw[hml,CI.ps,List.zip_cons_cons]
   rw[List.lookup_cons]at e ⊢
   cases z:x==slf with
   |true=>
    rw[z]at e
    (first|subst e|contradiction|(injection e with e;subst e)|cases e)
    exact⟨_,rfl,rfl⟩
   |false=>
    rw[z]at e
    obtain⟨v,h1,h2⟩:=q9 hr e
    exact⟨v,h1,h2.mono mv1⟩
  ·rcases q with q|q
   ·exact absurd rfl (noc x _ q).1
   ·exact absurd rfl (noc x _ q).2
 rw[CI.body]
 refine wpAny_execs_cons (xe (s:=⟨h₀,ge,dr,_,os⟩) (W:=W) (σ:=σ) (st:=st) (e:=hh.objs.size+1) (C:=c) (t:=hh.objs.size) (Λ:=(hh.objs.size+2)::(hh.objs.size+1)::Λ) ⟨?_⟩ ?_ CI X.bname X.glob X.base X.bfn X.bkeep hE cok (fun p hp=>ctk p ?_) hloc hdis hn hl (by simp) (hk _ _ he) i2 hV ?_)
 ·show A.units+1+3+64<cLine;lia
 ·show A.depth+Code.weight _+1<_;rw[jr];lia
 ·rcases List.mem_cons.mp hp with rfl|hp
  ·exact .head _
  ·rcases List.mem_cons.mp hp with rfl|hp
   ·exact .tail _ (.head _)
   ·(first|subst hp|contradiction|(injection hp with hp;subst hp)|cases hp)
 intro σ' h₁ h' tk dx n j1 j2 w1 w2 g1 g2 f₁ kk i₁ ndx keep' e' d' r1 r2
 have ee1:h₁.get? (hh.objs.size+1)=some (fm c hh.objs.size):=(kk.at (hk _ _ he) fun z=>z.elim (i2.sigma (by simp)) fun z=>z.elim).ndb rfl
 have ndx':dx≠hh.objs.size+1:=fun z=>by rw[z,ee1]at ndx;(first|subst ndx|contradiction|(injection ndx with ndx;subst ndx)|cases ndx)
 have xb:W.base.get? (hh.objs.size+1)=none:=jo iv.size (Nat.le_succ _)
 have db:W.base.get? dx=none:=by
  cases z:W.base.get? dx with
  |none=>rfl
  |some o=>rw[i₁.keep _ _ z]at ndx;(first|subst ndx|contradiction|(injection ndx with ndx;subst ndx)|cases ndx)
 obtain⟨m₁,hn₁⟩:=n8 ⟨_,hns⟩ fun o e=>kk.at e fun z=>z.elim (i2.sigma (.head _)) fun z=>z.elim
 have hns₁:=ko hns fun o e=>kk.at e fun z=>z.elim (i2.sigma (.head _)) fun z=>z.elim
 have LneE:hh.objs.size+2≠hh.objs.size+1:=by exact Z.off_ne hh.objs.size 2 1 rfl
 have hns':h'.Ns (hh.objs.size+2) (fun y=>(f.ps.zip (Value.ref (hh.objs.size+1)::vs)).reverse.lookup y):=ko hns₁ fun o e=>.inl (keep' _ _ LneE e)
 have Ldx:hh.objs.size+2≠dx:=fun z=>by
  obtain⟨o,ho⟩:=dw hns₁
  rw[z,ndx]at ho;(first|subst ho|contradiction|(injection ho with ho;subst ho)|cases ho)
 have hdn:=CI.dis
 have hd2:ai xi.ps=true:=by
  exact(zan hdis).2
 have q12:∀p∈xi.ps,([xi.q1,xi.q2]:List Str).contains p=false:=fun p hp=>by
  obtain⟨a1,a2⟩:=zan hdn
  obtain⟨a2,a3⟩:=zan a2
  rw[Bool.not_eq_true',←Bool.not_eq_true]at a1 a2
  have n1:p≠xi.q1:=fun z=>a1 (List.contains_iff_mem.mpr (.tail _ (z▸hp)))
  have n2:p≠xi.q2:=fun z=>a2 (List.contains_iff_mem.mpr (z▸hp))
  simp[n1,n2]
 refine j9 (env:=callEnv fd (hh.objs.size+2) fI) (sc:=f.sc) (self:=slf) (x:=hh.objs.size+1) (dx:=dx) (C:=c) (ox:={ fm c hh.objs.size with dict:=some dx }) (m:=fun y=>(f.ps.zip (Value.ref (hh.objs.size+1)::vs)).reverse.lookup y) F.sc (F.sc▸F.kind) (hloc slf (.head _)) ?_ cok
  rfl rfl rfl (Ne.symm ndx') Ldx db rest xi.ps _ n [xi.q1,xi.q2] ⟨h',ge,dr,tk,os⟩ CI.hrest (fun p hp=>⟨hloc p (.tail _ hp),?_,ctk p (.tail _ (.tail _ hp)),q12 p hp⟩) hd2 hns' (fun b o e=>keep' b o (fun z=>by rw[z,xb]at e;(first|subst e|contradiction|(injection e with e;subst e)|cases e)) (i₁.keep b o e)) e' d' ⟨⟨_,rfl⟩,⟨_,rfl⟩,trivial⟩ (by simp;lia) fun h₆ tk₆ es' n' x1 x2 x4 x5=>?_
 ·rw[hml,CI.ps,List.zip_cons_cons,List.lookup_cons,beq_self_eq_true]
 ·rw[hml]
  exact jq hlv p (by rw[CI.ps];exact .tail _ hp)
 have kk6:Kp (fun a=>a=hh.objs.size+1) h₁ h₆:=fun a o ho=>by
  have hadx:a≠dx:=fun z=>by rw[z,ndx]at ho;(first|subst ho|contradiction|(injection ho with ho;subst ho)|cases ho)
  by_cases hae:a=hh.objs.size+1
  ·subst hae
   exact⟨fun z=>absurd rfl z,_,(x1 _ hadx).trans e'⟩
  ·exact⟨fun o_=>.inl ((x1 _ hadx).trans (keep' _ _ hae ho)),o,(x1 _ hadx).trans (keep' _ _ hae ho)⟩
 have eF:hh.objs.size+1∉W.fr:=i0.nfr ne
 have i6:Inv W σ' ((hh.objs.size+2)::(hh.objs.size+1)::Λ) h₆ st:=i₁.turn (kk6.weak fun a z=>by rw[z];simp) (fun b o e=>(x1 b fun z=>by rw[z,db]at e;(first|subst e|contradiction|(injection e with e;subst e)|cases e)).trans (keep' _ _ (fun z=>by rw[z,xb]at e;(first|subst e|contradiction|(injection e with e;subst e)|cases e)) (i₁.keep b o e))) (fun a ha o e=>kk6.at e fun z=>eF (z▸ha)) fun b o ho nb=>(x1 b fun z=>by rw[z,ndx]at ho;contradiction).trans (keep' _ _ (fun z=>nb (.inr (by rw[z];simp))) ho)
 have i7:Inv W σ' ((hh.objs.size+1)::Λ) h₆ st:=i6.unlam (i1.nfr Ln)
 have fr:Fresh σ σ' hh:=Fresh.refl.trans f₁ (Kp.all (W:=NoX) fun b o e=>hk _ _ (k1 _ _ e))
 have kp:Kp (fun x=>x∈σ∨NoX x) hh h₆:=((Kp.all (W:=fun x=>x∈σ∨NoX x) fun b o e=>hk _ _ (k1 _ _ e)).trans kk fun o_ o_ z=>z).trans kk6 fun a al z=>by
  obtain⟨o,e⟩:=al
  rw[z,he0]at e;(first|subst e|contradiction|(injection e with e;subst e)|cases e)
 have eB:¬Bad σ' Λ (hh.objs.size+1):=fun z=>z.elim (i₁.sigma (.tail _ (.head _))) fun z=>by
  obtain⟨o,e⟩:=(iv.new _ (.inr z)).2
  rw[he0]at e;(first|subst e|contradiction|(injection e with e;subst e)|cases e)
 have dB:¬Bad σ' Λ dx:=fun z=>by
  obtain⟨o,e⟩:=(i₁.new _ (z.elim .inl fun z=>.inr (.tail _ (.tail _ z)))).2
  rw[ndx]at e;(first|subst e|contradiction|(injection e with e;subst e)|cases e)
 have ee6:h₆.get? (hh.objs.size+1)=some { fm c hh.objs.size with dict:=some dx }:=(x1 _ (Ne.symm ndx')).trans e'
 have mvw:∀a o,h₁.get? a=some o→¬Bad σ' ((hh.objs.size+2)::(hh.objs.size+1)::Λ) a→At h₆ a o∧¬(Bad σ' Λ a∨a=hh.objs.size+1):=fun a o ho nb=>by
  have hae:a≠hh.objs.size+1:=fun z=>nb (.inr (by rw[z];simp))
  exact⟨kk6.at ho hae,fun z=>z.elim (fun z=>nb (z.elim .inl fun z=>.inr (.tail _ (.tail _ z)))) hae⟩
 have mvv:∀a o,hh.get? a=some o→¬Bad σ Λ a→At h₆ a o∧¬(Bad σ' Λ a∨a=hh.objs.size+1):=fun a o ho nb=>by
  have hae:a≠hh.objs.size+1:=fun z=>by rw[z,he0]at ho;(first|subst ho|contradiction|(injection ho with ho;subst ho)|cases ho)
  exact⟨kp.at ho fun z=>z.elim (fun z=>nb (.inl z)) fun z=>z.elim,fun z=>z.elim (fun z=>nb (z.elim (fun z=>.inl (fr.low ho z)) .inr)) hae⟩
 refine⟨rfl,q σ' h₆ tk₆ (hh.objs.size+1) fr kp i7 he0 ⟨⟨fun b o e o_=>.inl e,i7.keep,fun o_ o_ e o_ o_=>e⟩,⟨⟨_,ee6⟩,eB,eF,xb⟩,dx,_,_,_,ee6,rfl,rfl,rfl,rfl,.inl rfl,es',n',ndx',dB,.inl x2,x4,?_⟩⟩
 rw[x5]
 have hvals:(xi.ps.map fun y=>((f.ps.zip (Value.ref (hh.objs.size+1)::vs)).reverse.lookup y).getD .none)=vs:=by
  have z:=ip (ps:=slf::xi.ps) (vs:=Value.ref (hh.objs.size+1)::vs) hdis (by simp[hvs])
  rw[List.map_cons]at z
  injection z with z1 z2
  refine Eq.trans (List.map_congr_left fun y hy=>?_) z2
  rw[hml,CI.ps]
 rw[hvals]
 exact⟨r1.mono mvw,r2.mono mvw,hreps.mono mvv⟩
end
structure ExOk (W:Wd) (C:Cx):Prop where
 xc:∀c xi,C.xc c=some xi→XcP W.K c xi
 sub:∀c hc b,C.esub c hc=some b→subIn W.K (.ref c) (.ref hc)=some b∧subIn W.K (.ref hc) (.type "BaseException")=some true∧instIn W.K (.ref hc) (.type "tuple")=some false∧(clsIn W.K hc).isSome=true
section
variable {M:Model} {A:Around} {E:Value→Shared→Prop} {s:Shared} {env:Env}
theorem zr{nm q:Str}{C N:Addr}{bs bm:List Value}{hdct:Bool}{sn:List Str}{sub:List Value}{ab:Bool}{col:Option Bool}{dd:Option Addr}{k0 k1 k2 k3 k5:Option Value}
 {x:Sem Value} (hh:A.handled=none) (hb:bm.contains (.type "BaseException")=true) {Q:Flow→Shared→Prop}
 (h:wpAny M A x (fun v s₁=>∃e oe vs,v=.ref e∧s₁.heap.get? C=some (excClassObj nm q C N bs bm hdct sn sub ab col dd k0 k1 k2 k3 k5 w6)∧s₁.heap.get? e=some oe∧oe.cls=.ref C∧oe.data=.fields vs∧vs[1]? =some .none∧E (.ref e) s₁) E s):
 wpAny M A (raiseStmt env (some x) none) Q E s:=by
 have hcB:(Value.ref C::bm).contains (.type "BaseException")=true:=by rw[List.contains_cons,hb,Bool.or_true]
 unfold raiseStmt
 refine wpAny_bind (wpAny_mono h (fun v s₁ h₁=>?_) fun o_ o_ x=>x)
 refine Nq h₁ fun e oe vs ee3 hC he hc hd hv hE=>?_
 subst ee3
 obtain⟨hp,g,d,tk,os⟩:=s₁
 obtain⟨oc,od,oda,osl⟩:=oe
 dsimp only at hc hd
 subst hc hd
 repeat (first|with_reducible refine wpAny_loadPart_at he ?_|with_reducible refine wpAny_loadPart_at hC ?_|(with_reducible refine wpAny_isSubtype_exc hC ?_;rw[hcB])|wp_step)
 rw[hv]
 refine wpAny_pure ?_
 rw[if_neg (by decide)]
 exact wpAny_pure (wpAny_raiseNew_none hh hE)
theorem md{K:Frag}{e c hc:Addr}{oe:Obj}{b:Bool}{Q:Bool→Shared→Prop}(X:K.In s.heap)(he:s.heap.get? e=some oe)(hcl:oe.cls=.ref c)(h1:subIn K (.ref c) (.ref hc)=some b)(h2:subIn K (.ref hc) (.type "BaseException")=some true)
 (h3:instIn K (.ref hc) (.type "tuple")=some false) (h4:(clsIn K hc).isSome=true) (h:Q b s):wpAny M A (excMatches (.ref e) (.ref hc)) Q E s:=by
 obtain⟨mt,t1,t2⟩:=zbd h3
 have L0:=looks_typeIn (M:=M) X t1
 have L1:=looks_subIn (M:=M) X t2
 have L2:Looks M s.heap (isType (.ref hc)) true:=io X h4
 have L3:=looks_subIn (M:=M) X h2
 have L4:Looks M s.heap (typeOf (.ref e)) (.ref c):=by
  have:=(Looks.ld (M:=M) (part:=some headPart) he).andThen (f:=fun o=>pure o.cls) (b:=oe.cls) .now
  rw[hcl]at this
  exact this
 have L5:=looks_subIn (M:=M) X h1
 have LX:Looks M s.heap (isExcClass (.ref hc)) true:=L2.andThen L3
 unfold excMatches
 refine wpAny_bind (wpAny_bind (L0.here (L1.here ?_)))
 dsimp only
 rw[if_neg (by decide)]
 refine wpAny_bind (wpAny_pure ?_)
 refine wpAny_bind ?_
 rw[List.forIn_cons]
 refine wpAny_bind (wpAny_bind (LX.here ?_))
 rw[if_neg (by decide)]
 refine wpAny_pure ?_
 dsimp only
 rw[List.forIn_nil]
 refine wpAny_pure (wpAny_bind (L4.here (wpAny_bind ?_)))
 rw[List.forIn_cons]
 refine wpAny_bind (wpAny_bind (L5.here ?_))
 induction b using Bool.casesOn with
 |true=>
  rw[if_pos rfl]
  exact wpAny_pure (wpAny_pure (wpAny_pure h))
 |false=>
  rw[if_neg (by decide)]
  refine wpAny_pure ?_
  dsimp only
  rw[List.forIn_nil]
  exact wpAny_pure (wpAny_pure h)
end
section
variable {W:Wd} {A:Around} {Λ σ:List Addr} {E:Value→Shared→Prop} {s:Shared} {st:Sto} {sc:Scope} {env:Env} {ρ:En}
theorem F3{ds:List D}{l:List V}(h:cj ds=some l):ds.length=l.length:=by
 induction ds generalizing l with
 |nil=>(first|subst h|contradiction|(injection h with h;subst h)|cases h);rfl
 |cons d ds ih=>
  induction d using D.casesOn with
  |v x=>
   obtain⟨l',h1,rfl⟩:=zmp h
   exact congrArg (· +1) (ih h1)
  |m i=>contradiction
theorem xf{C:Cx}{I:In}(hh:A.handled=none)(hd:A.depth+4<recursionLimit)(hu:A.units+90<cLine)(hC:CxOk W C)(hX:ExOk W C)(hE:EnvOk W.tabs Λ sc env)(hI:IE W A I){x:Str}{np cp pos:Pos}{args:List PySem.Expr}{c:Addr}{xi:XcI}{Q:Flow→Shared→Prop}
 (hg:dh C sc x=some (.ref c)) (hx:C.xc c=some xi) (hns:noStar args=true) (iv:Inv W σ Λ s.heap st) (V:Vars Λ sc env ρ σ s.heap)
 (H:Po W Λ (XL env) (ck Λ sc env) E σ s ((evs (I.ex sc ρ) args st).bind fun ds st=>(match cj ds with
   |some l=>if l.length==xi.ps.length then .exc (.inst c xi.ns (xi.vs l)) st else .stuck
   |Option.none=>.stuck)) Q):
 wpAny (model W.prog W.w) A (exec (.Raise (some (.Call (.Name x np) args [] cp)) none pos) env) Q E s:=by
 have xp:=hX.xc c xi hx
 obtain⟨y,X,_⟩:=hX.xc c xi hx
 have nx:∀a,NoX a→XL env a:=fun a q=>q.elim
 rw[arm_exec_Raise]
 show wpAny _ A (do standAt pos;raiseStmt env (some (do let v ←eval (.Call (.Name x np) args [] cp) env;standAt pos;pure v)) none) Q E s
 refine wpAny_bind (wpAny_standAt (zr (C:=c) (nm:=(e7 W.K c).name) (q:=(e7 W.K c).qualname) (N:=(e7 W.K c).ns) (bs:=(e7 W.K c).bases) (bm:=(e7 W.K c).mro.tail) (hdct:=(e7 W.K c).hasDict) (sn:=(e7 W.K c).slotNames) (sub:=(e7 W.K c).subclasses) (ab:=(e7 W.K c).abstract) (col:=(e7 W.K c).collection)
  (dd:=Rh W.K c) (k0:=s5 W.K c 0) (k1:=s5 W.K c 1) (k2:=s5 W.K c 2) (k3:=s5 W.K c 3) (k5:=s5 W.K c 5) hh X.bm4 (wpAny_bind ?_)))
 rw[fe rfl]
 refine wpAny_bind (c6 hC hE hg iv.keep ?_)
 refine cg hE hI hns (fun h X'=>keeps_K X.keep h X') iv V (Po.seq nx H fun ds st₂ σ₂ h₂ tk₂ ws f₂ k₂ i₂ r₂ H₂=>⟨ak i₂,?_⟩)
 generalize hl:cj ds=zz at H₂
 induction zz using Option.casesOn with
 |none=>exact H₂.elim
 |some l=>
  refine Po.ifS H₂ fun hln H₂=>?_
  ·have hnl:xi.ps.length=ds.length:=by rw[F3 hl];exact(eq_of_beq hln).symm
   refine J1 hd hu xp i₂ r₂ hl hnl fun σ' h' tk e fr kp i' ne F=>?_
   refine wpAny_bind (wpAny_standAt (wpAny_pure ?_))
   obtain⟨kk,he,dx,oe,vs,a0,o1,o2,o3,o4,o5,o6,rst⟩:=id F
   refine⟨e,oe,vs,rfl,ak i' _ _ X.cls,o1,o2,o4,?_,H₂ σ' h' h' tk e fr (kp.weak fun a z=>z.elim .inl fun z=>z.elim) i' ne F⟩
   rcases o6 with o6|⟨T,oT,ts,t1,t2,t3,_⟩
   ·exact o6
   ·rw[t2]at t3;contradiction
end
section
variable {W:Wd} {A:Around} {Λ σ:List Addr} {E:Value→Shared→Prop} {s:Shared} {st:Sto} {sc:Scope} {env:Env} {ρ:En}
theorem F4{b:Stmt}{q:PySem.Expr×PySem.Expr}(h:kl b=some q):∃p p',b=.If q.1 [.Return (some q.2) p] [] p':=by
 have v:∀e:Stmt,((kl e).isNone||Nat.beq e.ctorIdx 12)=true:=fun e=>by
  cases e with
  |If a b c p=>exact Bool.or_true _
  |_=>exact T1
 refine Stmt.If.elim (motive_2:=fun b=>kl b=some q→∃p p',b=.If q.1 [.Return (some q.2) p] [] p') b (nf (v b) h) (fun c a b' pp h=>?_) h
 ·by_cases hb:b'.isEmpty=true
  ·replace h:=(if_pos hb).symm.trans h
   obtain⟨e,he,rfl⟩:=zmp h
   obtain⟨s,hs,hr⟩:=zbd he
   obtain⟨p,rfl⟩:=qg hr
   rw[ng hs,List.isEmpty_iff.mp hb]
   exact⟨p,_,rfl⟩
  ·exact nomatch (if_neg hb).symm.trans h
theorem Di{h:ExceptHandler}{q:Str×Str×PySem.Expr}(e:jg h=some q):∃p rp pos,h=.ExceptHandler (some (.Name q.1 p)) (some q.2.1) [.Return (some q.2.2) rp] pos:=by
 obtain⟨t,n,body,pos⟩:=h
 refine ao e fun x hx e=>ao hx fun t' h1 ht=>ao e fun n h2 e=>?_
 obtain⟨ex,he,e⟩:=zmp e
 refine ao he fun s hs hr=>?_
 obtain⟨p,e1⟩:=cz ht
 obtain⟨rp,e2⟩:=qg hr
 rw[h1,h2,ng hs,e1,e2,←e]
 exact⟨p,rp,pos,rfl⟩
theorem zt{I:In}(hE:EnvOk W.tabs Λ sc env)(hI:IE W A I)(hT:IT W A I):∀(body:List Stmt) (E:Value→Shared→Prop) (σ:List Addr) (s:Shared) (st:Sto) (Q:Flow→Shared→Prop),Inv W σ Λ s.heap st→Vars Λ sc env ρ σ s.heap→
 Po W Λ NoX (au Λ) E σ s (o7 (I.ex sc ρ) (I.tt sc ρ) body st) (fun v s'=>Q (.ret v) s')→wpAny (model W.prog W.w) A (execs body env) Q E s:=by
 intro body
 induction body with
 |nil=>intro E σ s st Q iv V H;exact H.elim
 |cons b r ih=>
  intro E σ s st Q iv V H
  rw[Nh]at H
  generalize he:i8 b=zz at H
  induction zz using Option.casesOn with
  |some e=>
   dsimp only at H
   refine Po.ifS H fun o_ H=>?_
   obtain⟨p,rfl⟩:=qg he
   exact wpAny_execs_cons (wpAny_Return_some (hI Λ sc env ρ e hE E σ s _ _ iv V H))
  |none=>
   dsimp only at H
   generalize hq:kl b=zz at H
   induction zz using Option.casesOn with
   |none=>exact H.elim
   |some q=>
    obtain⟨p,p',rfl⟩:=F4 hq
    refine wpAny_execs_cons (wpAny_If (hT Λ sc env ρ q.1 hE E σ s _ _ iv V (Po.seq0 H fun t st₁ σ₁ h₁ tk₁ v f₁ k₁ i₁ r₁ H₁=>?_)))
    have r₁:v=t:=r₁
    subst r₁
    have V₁:=V.step (iv.sigma hE.loc) f₁ k₁
    induction v using Bool.casesOn with
    |true=>exact wpAny_execs_cons (wpAny_Return_some (hI Λ sc env ρ q.2 hE E σ₁ _ st₁ _ i₁ V₁ H₁))
    |false=>exact wpAny_execs_nil (ih E σ₁ _ st₁ Q i₁ V₁ H₁)
theorem Inv.fly{hr h':Heap}{e c:Addr}{ns:List Str}{l:List V}(I:Inv W σ (e::Λ) hr st)(F:Flown W (Bad σ Λ) hr h' e c ns l):Inv W σ Λ h' st∧(∀b o,hr.get? b=some o→b≠e→At h' b o)∧Rep (Bad σ Λ) h' (.ref e) (.inst c ns l)∧∃o,h'.get? e=some o∧o.cls=.ref c:=by
 obtain⟨⟨k1,k2,k3⟩,⟨h1,h2,h3,h4⟩,dx,oe,vs,a0,g1,g2,g3,g4,g5,g6,es,n,g7,g8,g9,g10,g11⟩:=F
 have ne:∀a,Bad σ Λ a→a≠e:=fun a q z=>h2 (z▸q)
 refine⟨⟨k2,fun a q=>?_,⟨I.store.1,I.store.2.1,fun i a x e1 e2=>?_⟩,fun a ha q=>I.apart a ha (.tail _ q),fun a q=>?_,fun q hq=>(I.tab q hq).move (fun b o e nb=>⟨k1 b o e fun z=>nb (.inr (z▸.head _)),fun z=>nb (z.elim .inl fun z=>.inr (.tail _ z))⟩) fun b o e nb t=>k3 b o e t fun z=>nb (.inr (z▸.head _))⟩,k1,?_,oe,g1,g2⟩
 ·obtain⟨w,o,ho⟩:=I.new a (q.elim .inl fun z=>.inr (.tail _ z))
  obtain⟨o',z⟩:=(k1 a o ho (ne a q)).any
  exact⟨w,_,z⟩
 ·obtain⟨us,⟨m,q⟩,r,z⟩:=I.store.2.2 i a x e1 e2
  refine⟨us,⟨m,(k1 a _ q (ne a (.inl (List.mem_of_getElem? e1)))).ndb rfl⟩,r.mono fun b o ho nb=>⟨k1 b o ho fun z=>nb (.inr (z▸.head _)),fun z=>nb (z.elim .inl fun z=>.inr (.tail _ z))⟩,z⟩
 ·have hae:a≠e:=fun z=>h3 (z▸q)
  exact⟨(List.mem_cons.mp (I.dic a q).1).resolve_left hae,n8 (I.dic a q).2 fun o ho=>k1 a o ho hae⟩
 ·exact⟨e,dx,es,n,rfl,h2,g8,⟨oe,g1,g2,g3,by unfold notCls;rw[g4],fun o_ o_ q=>by rw[g4]at q;(first|subst q|contradiction|(injection q with q;subst q)|cases q)⟩,g9.trans fun o' q=>k1 dx o' q g7,g10,g11.mono fun b o ho nb=>⟨k1 b o ho fun z=>nb (.inr z),fun z=>nb (.inl z)⟩⟩
theorem F5{C:Cx}(hC:CxOk W C){A':Around}(hA:AOk A'):∀Λ sc env ρ e,EnvOk W.tabs Λ sc env→SX W A' Λ NoX (au Λ) (Vars Λ sc env ρ) (XH C sc ρ e) (eval e env):=
 (js (C:={ C with hand:=true }) (J:=bu) (Φ:=stuckΦ) hA (fun z=>nomatch z) ⟨hC.G,hC.able,hC.meth,hC.attr,hC.tk⟩ xa rf 16).1
theorem s6{C:Cx}(hu:A.units+90<cLine)(hC:CxOk W C)(hX:ExOk W C)(hE:EnvOk W.tabs Λ sc env)(hloc:env.locals∉σ){c e:Addr}{ns:List Str}{l:List V}{σ₁:List Addr}{hr:Heap}{Q:Flow→Shared→Prop}(f₁:Fresh σ σ₁ s.heap)(k₁:Kp (fun x=>x∈σ∨NoX x) s.heap hr)
 (i₁:Inv W σ₁ (e::Λ) hr st) (V:Vars Λ sc env ρ σ s.heap) (ne:s.heap.get? e=none):
 ∀(hs:List ExceptHandler) (h:Heap) (tk:Nat),Flown W (Bad σ₁ Λ) hr h e c ns l→Po W Λ (XL env) (ck Λ sc env) E σ s (cr C (XH C) sc ρ c ns l hs st) Q→wpAny (model W.prog W.w) A (handleBy (.ref e) env hs) Q E { s with heap:=h,toks:=tk }:=by
 intro hs
 induction hs with
 |nil=>intro h tk F H;exact H.elim
 |cons hd r ih=>
  intro h tk F H
  rw[nc]at H
  generalize hq:jg hd=zz at H
  induction zz using Option.casesOn with
  |none=>exact H.elim
  |some q=>
   refine gz (Di hq) fun p rp pos ee3=>?_
   subst ee3
   obtain⟨x,n,ex⟩:=q
   dsimp only at H
   generalize hg:kz C sc x=zz at H
   induction zz using Option.casesOn with
   |none=>exact H.elim
   |some hc=>
    have hg:=A2 hg
    obtain⟨i₂,kk,r₂,oe,he,hcl⟩:=i₁.fly F
    have X₂:=ak i₂
    dsimp only at H
    generalize hsub:C.esub c hc=zz at H
    induction zz using Option.casesOn with
    |none=>exact H.elim
    |some tf=>
    induction tf using Bool.casesOn with
    |true=>
     refine fk (hX.sub c hc true hsub) fun m1 m2 m3 m4=>Po.ifS H fun hn H=>?_
     ·have hn:sc.names.lookup n=some .local:=by simpa using hn
      refine wpAny_handleBy_cons (codeAny_handlers_test (c6 (s:={ s with heap:=h,toks:=tk }) hC hE hg i₂.keep (md (s:={ s with heap:=h,toks:=tk }) X₂ he hcl m1 m2 m3 m4 ?_))) (by intro q;(first|subst q|contradiction|(injection q with q;subst q)|cases q))
      refine codeAny_handlers_suite_as (eq (s:={ s with heap:=h,toks:=tk }) i₁.keep F fun h₂ F₂=>?_)
      obtain⟨i₃,kk₃,r₃,_⟩:=i₁.fly F₂
      have k₃:Kp (fun x=>x∈σ∨NoX x) s.heap h₂:=fun b o ho=>by
       have hbe:b≠e:=fun z=>by rw[z,ne]at ho;(first|subst ho|contradiction|(injection ho with ho;subst ho)|cases ho)
       refine⟨fun nb=>(k₁.at ho nb).trans fun o' q=>kk₃ b o' q hbe,?_⟩
       obtain⟨o',q⟩:=(k₁ b o ho).2
       obtain⟨o2,z⟩:=(kk₃ b o' q hbe).any
       exact⟨_,z⟩
      have V₃:=V.step hloc f₁ k₃
      refine gq (s:={ s with heap:=h₂,toks:=tk }) hE i₃ V₃ (by unfold je;rw[hn];rfl) (d:=.v (.inst c ns l)) r₃ fun h₄ tk₄ i₄ k₄ V₄=>?_
      have k04:Kp (fun x=>x∈σ∨XL env x) s.heap h₄:=(k₃.weak fun a z=>z.elim .inl fun z=>z.elim).trans k₄ fun a o_ z=>.inr z.xl
      have H₄:=Po.shift (tk:=tk₄) H f₁ k04
      refine wpAny_execs_cons (wpAny_Return_some (F5 hC ⟨?_⟩ Λ sc env _ ex hE _ σ₁ { s with heap:=h₄,toks:=tk₄ } _ _ i₄ V₄ (Po.quiet (fun o_ z=>z.elim) H₄ fun d st₅ σ₅ h₅ tk₅ v f₅ k₅ i₅ r₅ H₅=>?_)))
      ·show A.units+64<cLine;lia
      ·have V₅:=V₄.step (i₄.sigma hE.loc) f₅ k₅
       obtain⟨m,hm,_⟩:=id V₅
       refine wpAny_nameGoes_keeps (s:={ s with heap:=h₅,toks:=tk₅ }) (by unfold Env.kindOf;rw[hE.scope];exact hn) hm (qx hE) fun h₆ v₆ hn₆ hs₆=>?_
       obtain⟨o₆,ho₆⟩:=dw hn₆
       have kb:Kp (Bad σ₅ Λ) h₅ h₆:=Kp.same hs₆ (.inr hE.loc) ho₆
       refine H₅ σ₅ h₆ _ (.ret v) Fresh.refl (Kp.same hs₆ (.inr (.inl rfl)) ho₆) (i₅.touch hs₆ hE.loc ho₆ fun o_=>⟨_,hn₆⟩) ⟨r₅.step Fresh.refl kb,V₅.turn Fresh.refl hn₆ (fun y cc o e ho=>.inl ((hs₆.2 cc (lz (V₅.cells y cc e).2.choose_spec hm)).trans ho)) (fun v d r=>r.step Fresh.refl kb) fun m₂ hm₂ y d' e'=>?_⟩
       obtain⟨y1,y2⟩:=dc e'
       exact⟨by rw[d8,if_neg (by simpa using y2)];exact y1,by rw[k7 hm₂ hm];exact if_neg y2⟩
    |false=>
     refine fk (hX.sub c hc false hsub) fun m1 m2 m3 m4=>?_
     refine wpAny_handleBy_cons (codeAny_handlers_test (c6 (s:={ s with heap:=h,toks:=tk }) hC hE hg i₂.keep (md (s:={ s with heap:=h,toks:=tk }) X₂ he hcl m1 m2 m3 m4 ?_))) (by intro q;(first|subst q|contradiction|(injection q with q;subst q)|cases q))
     exact ih h tk F H
theorem xg{C:Cx}(hu:A.units+90<cLine)(hC:CxOk W C)(hX:ExOk W C)(hE:EnvOk W.tabs Λ sc env)(hTop:ji A W env){body:List Stmt}{h₀:ExceptHandler}{hs:List ExceptHandler}{pos:Pos}{r:Out D}{Q:Flow→Shared→Prop}(V:Vars Λ sc env ρ σ s.heap)
 (H:Po W Λ (XL env) (ck Λ sc env) E σ s (match r with
   |.ok d st=>.ok (.ret d,ρ) st
   |.exc (.inst c ns l) st=>cr C (XH C) sc ρ c ns l (h₀::hs) st
   |_=>.stuck) Q) (hl:env.locals∉σ)
 (hB:∀E Q,Po W Λ NoX (au Λ) E σ s r (fun v s'=>Q (.ret v) s')→wpAny (model W.prog W.w) A (execs body env) Q E s):wpAny (model W.prog W.w) A (exec (.Try body (h₀::hs) [] [] pos) env) Q E s:=by
 refine wpAny_Try_except (hB _ _ ?_)
 clear hB
 induction r using Out.casesOn with
 |stuck=>exact H.elim
 |ok d st'=>
  intro σ' h' tk b f k i r
  exact H σ' h' tk (.ret b) f (k.weak fun a z=>z.elim .inl fun z=>z.elim) i ⟨r,V.step hl f k⟩
 |exc x st'=>
  intro σ' hr h' tk e f k i ne x'
  induction x using Mine.V.casesOn with
  |inst c ns l=>
   refine em hTop fun outer L t1 t2 t3=>?_
   exact jn (s:={ s with heap:=h',toks:=tk }) t1 t2 t3 i x' fun h'' F=>s6 hu hC hX hE hl f k i V ne (h₀::hs) h'' tk F H
  |_=>exact x'.elim
theorem Dj{C:Cx}{I:In}(hu:A.units+90<cLine)(hC:CxOk W C)(hX:ExOk W C)(hE:EnvOk W.tabs Λ sc env)(hTop:ji A W env)(hI:IE W A I)(hT:IT W A I){body:List Stmt}{h₀:ExceptHandler}{hs:List ExceptHandler}{pos:Pos}{Q:Flow→Shared→Prop}(iv:Inv W σ Λ s.heap st)(V:Vars Λ sc env ρ σ s.heap)
 (H:Po W Λ (XL env) (ck Λ sc env) E σ s (match o7 (I.ex sc ρ) (I.tt sc ρ) body st with
   |.ok d st=>.ok (.ret d,ρ) st
   |.exc (.inst c ns l) st=>cr C (XH C) sc ρ c ns l (h₀::hs) st
   |_=>.stuck) Q):wpAny (model W.prog W.w) A (exec (.Try body (h₀::hs) [] [] pos) env) Q E s:=
 xg hu hC hX hE hTop V H (iv.sigma hE.loc) fun E Q=>zt hE hI hT body E σ s _ Q iv V
theorem rj{C:Cx}{J:Scope→En→PySem.Expr→Sto→Out D}{c:Addr}{ns:List Str}{l:List V}:∀{hs:List ExceptHandler} {st st':Sto} {x:V},cr C J sc ρ c ns l hs st≠.exc x st'
 |[],_,_,_,h=>nomatch h
 |hd::r,st,st',x,h=>by
  rw[nc]at h
  generalize jg hd=q at h
  induction q using Option.casesOn with
  |none=>exact nomatch h
  |some p=>
   dsimp only at h
   generalize kz C sc p.1=g at h
   induction g using Option.casesOn with
   |none=>exact nomatch h
   |some hc=>
    dsimp only at h
    generalize C.esub c hc=g at h
    induction g using Option.casesOn with
    |none=>exact nomatch h
    |some b=>
     induction b using Bool.casesOn with
     |false=>exact rj h
     |true=>
      dsimp only at h
      generalize (sc.names.lookup p.2.1==some .local)=b at h
      induction b using Bool.casesOn with
      |false=>exact nomatch h
      |true=>
       have h:(J sc (dg p.2.1 (.v (.inst c ns l)) ρ) p.2.2 st).quiet.bind (fun d st=>.ok (Fl.ret d,jh p.2.1 ρ) st)=Out.exc x st':=h
       generalize J sc (dg p.2.1 (.v (.inst c ns l)) ρ) p.2.2 st=r at h
       induction r using Out.casesOn with
       |_=>exact nomatch h
end
theorem xh{B:Addr→Prop}{h:Heap}:∀{l:List V} {vs:List Value},Reps B h vs l→gx l=true→∃ns,IntsAre vs ns∧ns.length=l.length
 |[],[],_,_=>⟨[],.nil,rfl⟩
 |.int i::l,v::vs,r,e=>by
  obtain⟨t,rfl⟩:=r.1
  obtain⟨ns,a,b⟩:=xh r.2 e
  exact⟨i::ns,.cons i t a,congrArg (· +1) b⟩
 |[],_::_,r,_=>r.elim
 |_::_,[],r,_=>r.elim
 |.none::_,_::_,_,e=>by contradiction
 |.bool _::_,_::_,_,e=>by contradiction
 |.str _::_,_::_,_,e=>by contradiction
 |.tup _::_,_::_,_,e=>by contradiction
 |.lst _::_,_::_,_,e=>by contradiction
 |.inst _ _ _::_,_::_,_,e=>by contradiction
 |.rng _ _::_,_::_,_,e=>by contradiction
 |.val _::_,_::_,_,e=>by contradiction
section
variable {W:Wd} {A:Around} {Λ σ:List Addr} {E:Value→Shared→Prop} {s:Shared} {st:Sto} {sc:Scope} {env:Env} {ρ:En}
theorem s7(hE:EnvOk W.tabs Λ sc env){j:Nat}{l:List V}{z x:Int}{t u:Tok}{a:Addr}{Q:Flow→Shared→Prop}(iv:Inv W σ Λ s.heap st)(V:Vars Λ sc env ρ σ s.heap)
 (ha:σ[j]? =some a) (hl:st[j]? =some l) (hi:gx l=true) (h0:0≤z) (h1:z<l.length) (h2:z<2^63)
 (H:Po W Λ (XL env) (ck Λ sc env) E σ s (.ok (.next,ρ) (st.set j (l.set z.toNat (.int x)))) Q):wpAny (model W.prog W.w) A (setItem (.ref a) (.int z t) (.int x u)) (fun o_=>Q .next) E s:=by
 obtain⟨vs,⟨n,ho⟩,hr,hln⟩:=iv.store.2.2 j a l ha hl
 obtain⟨ns,hns,hnl⟩:=xh hr hi
 obtain⟨m,F⟩:=qu iv hE V
 have hσ:a∈σ:=List.mem_of_getElem? ha
 have haL:a≠env.locals:=fun q=>iv.sigma hE.loc (q▸hσ)
 have hab:W.base.get? a=none:=by
  generalize q:W.base.get? a=zz
  induction zz using Option.casesOn with
  |none=>rfl
  |some o=>exact absurd (Heap.lt_size q) (Nat.not_lt.mpr (iv.new a (.inl hσ)).1)
 let rest:=(I4 W.base env.locals s.heap).filter fun p=>p.1 !=a
 have N:News W.base env.locals s.heap ((a,PySem.W.listOf vs.toArray n)::rest):=fun p hp=>by
  rcases List.mem_cons.mp hp with rfl|hp
  ·exact⟨ho,haL,hab⟩
  ·exact Cz p (List.mem_filter.mp hp).1
 have hne:∀p∈rest,p.1≠a:=fun p hp=>by
  have:=(List.mem_filter.mp hp).2
  simpa using this
 refine ksa_set F N (Upd.head hne) hns h0 (by rw[hnl];exact h1) h2 fun h' F' N' o_ o_ o_=>?_
 have ho':h'.get? a=some { cls:=.type "list",data:=.seq (vs.set z.toNat (.int x u)).toArray n }:=(N' _ (.head _)).1
 have keep:∀b o,s.heap.get? b=some o→b≠a→b≠env.locals→h'.get? b=some o:=fun b o e q1 q2=>by
  generalize q:W.base.get? b=zz
  induction zz using Option.casesOn with
  |some o'=>
   have:=iv.keep b o' q
   rw[e]at this
   (first|subst this|contradiction|(injection this with this;subst this)|cases this)
   exact F'.keep b o q
  |none=>exact(N' (b,o) (.tail _ (List.mem_filter.mpr ⟨mem_alls.mpr ⟨e,q,q2⟩,by simpa using q1⟩))).1
 obtain⟨oL,hoL⟩:=dw F'.ns
 have kp:Kp (fun b=>b=a∨b=env.locals) s.heap h':=fun b o e=>by
  by_cases q1:b=a
  ·exact⟨fun q=>absurd (.inl q1) q,_,q1▸ho'⟩
  ·by_cases q2:b=env.locals
   ·exact⟨fun q=>absurd (.inr q2) q,_,q2▸hoL⟩
   ·exact⟨fun o_=>.inl (keep b o e q1 q2),o,keep b o e q1 q2⟩
 have kb:Kp (Bad σ Λ) s.heap h':=kp.weak fun b q=>q.elim (fun q=>.inl (q▸hσ)) fun q=>.inr (q▸hE.loc)
 have hbase:∀b o,W.base.get? b=some o→h'.get? b=some o:=F'.keep
 have iv':Inv W σ Λ h' (st.set j (l.set z.toNat (.int x))):=by
  refine⟨hbase,fun b q=>⟨(iv.new b q).1,?_⟩,⟨by rw[List.length_set];exact iv.store.1,iv.store.2.1,fun i b m e1 e2=>?_⟩,iv.apart,fun b q=>⟨(iv.dic b q).1,?_⟩,fun q hq=>(iv.tab q hq).move (fun b o e nb=>⟨kb.at e nb,nb⟩) fun b o e nb o_=>keep b o e (fun z=>nb (.inl (z▸hσ))) fun z=>nb (.inr (z▸hE.loc))⟩
  ·obtain⟨o,e⟩:=(iv.new b q).2
   exact(kp b o e).2
  ·by_cases hj:i=j
   ·subst hj
    rw[ha]at e1;(first|subst e1|contradiction|(injection e1 with e1;subst e1)|cases e1)
    rw[List.getElem?_set_self (by have:=(List.getElem?_eq_some_iff.mp e2).1;simpa using this)]at e2
    (first|subst e2|contradiction|(injection e2 with e2;subst e2)|cases e2)
    exact⟨_,⟨n,ho'⟩,(Reps.set z.toNat hr (show Rep (Bad σ Λ) s.heap (.int x u) (.int x)from⟨u,rfl⟩)).step Fresh.refl kb,by rw[List.length_set];exact hln⟩
   ·rw[List.getElem?_set_ne (Ne.symm hj)]at e2
    refine bq (iv.store.2.2 i b m e1 e2) fun ws q r' hz=>?_
    have hb:b≠a:=fun e=>by
     subst e
     exact hj ((List.getElem?_inj (List.getElem?_eq_some_iff.mp e1).1 iv.store.2.1).mp (e1.trans ha.symm))
    have hb2:b≠env.locals:=fun e=>iv.sigma hE.loc (e▸List.mem_of_getElem? e1)
    exact⟨ws,q.at fun o' e=>keep b o' e hb hb2,r'.step Fresh.refl kb,hz⟩
  ·by_cases hb:b=env.locals
   ·subst hb;exact⟨_,F'.ns⟩
   ·exact n8 (iv.dic b q).2 fun o e=>.inl (keep b o e (fun z=>iv.apart a hσ (z▸(iv.dic b q).1)) hb)
 obtain⟨m₀,hn,Vc,_⟩:=id V
 exact H σ h' s.toks .next Fresh.refl (kp.weak fun b q=>q.elim (fun q=>.inl (q▸hσ)) fun q=>.inr (.inl q)) iv' ⟨trivial,V.turn Fresh.refl F'.ns (fun y c o e ho=>.inl (keep c o ho (fun q=>(Vc y c e).1 (q▸hσ)) (lz (Vc y c e).2.choose_spec hn))) (fun v d r=>r.step Fresh.refl kb) fun m₂ hn₂ y d e=>⟨e,by rw[k7 hn₂ F.ns]⟩⟩
section
variable {C:Cx} {I:In} {Φ:D→List D→Sto→Out D} {Q:Flow→Shared→Prop}
theorem nx_(a:Addr)(q:NoX a):XL env a:=q.elim
theorem Oj{e:PySem.Expr}{pos:Pos}(hI:IE W A I)(hE:EnvOk W.tabs Λ sc env)(iv:Inv W σ Λ s.heap st)(V:Vars Λ sc env ρ σ s.heap)
 (H:Po W Λ (XL env) (ck Λ sc env) E σ s ((I.ex sc ρ e st).bind fun d st=>.ok (.ret d,ρ) st) Q):wpAny (model W.prog W.w) A (exec (.Return (some e) pos) env) Q E s:=
 wpAny_Return_some (hI Λ sc env ρ e hE E σ s st _ iv V (Po.seq nx_ H fun d st₁ σ₁ h₁ tk₁ v f₁ k₁ i₁ r₁ H₁=>Po.now (tk:=tk₁) (b:=Flow.ret v) H₁ i₁ ⟨r₁,V.step (iv.sigma hE.loc) f₁ k₁⟩))
theorem J2{e:PySem.Expr}{pos:Pos}(hI:IE W A I)(hE:EnvOk W.tabs Λ sc env)(iv:Inv W σ Λ s.heap st)(V:Vars Λ sc env ρ σ s.heap)
 (H:Po W Λ (XL env) (ck Λ sc env) E σ s (if bj e then .stuck else (I.ex sc ρ e st).bind fun o_ st=>.ok (.next,ρ) st) Q):wpAny (model W.prog W.w) A (exec (.Expr e pos) env) Q E s:=by
 generalize hc:bj e=zz at H
 induction zz using Bool.casesOn with
 |true=>exact H.elim
 |false=>
  exact wpAny_Expr_any (hI Λ sc env ρ e hE E σ s st _ iv V (Po.seq nx_ H fun d st₁ σ₁ h₁ tk₁ v f₁ k₁ i₁ r₁ H₁=>Po.now (tk:=tk₁) (b:=Flow.next) H₁ i₁ ⟨trivial,V.step (iv.sigma hE.loc) f₁ k₁⟩)) (by unfold interactive;rw[hE.scope,hE.kind];rfl) (du hc)
theorem J3{C:Cx}{x:Str}{e:PySem.Expr}{p pos:Pos}(hC:CxOk W C)(hh:A.handled=none)(hI:IE W A I)(hT:IT W A I)(hE:EnvOk W.tabs Λ sc env)(iv:Inv W σ Λ s.heap st)(V:Vars Λ sc env ρ σ s.heap)
 (H:Po W Λ (XL env) (ck Λ sc env) E σ s (if bj e then Nk C I sc ρ x p e st else (I.ex sc ρ e st).bind fun d st=>if je sc x then .ok (.next,dg x d ρ) st else .stuck) Q):wpAny (model W.prog W.w) A (exec (.Assign [.Name x p] e pos) env) Q E s:=by
 generalize hc:bj e=zz at H
 induction zz using Bool.casesOn with
 |true=>
  induction e using PySem.Expr.casesOn with
  |ListComp elt gens scope cp=>exact Fm hC (fun o_=>hh) hE hI hT iv V H
  |_=>exact H.elim
 |false=>
  refine wpAny_Assign_Name (hI Λ sc env ρ e hE E σ s st _ iv V (Po.seq nx_ H fun d st₁ σ₁ h₁ tk₁ v f₁ k₁ i₁ r₁ H₁=>?_)) (du hc)
  cases hx:je sc x with
  |false=>rw[hx]at H₁;exact H₁.elim
  |true=>
   rw[hx]at H₁
   exact gq hE i₁ (V.step (iv.sigma hE.loc) f₁ k₁) hx r₁ fun h' tk iv' kp V'=>H₁ σ₁ h' tk .next Fresh.refl (kp.weak fun o_ q=>.inr q.xl) iv' ⟨trivial,V'⟩
theorem Ol{es:List PySem.Expr}{e:PySem.Expr}{k:Nat}{tp pos:Pos}(hh:A.handled=none)(hI:IE W A I)(hE:EnvOk W.tabs Λ sc env)(iv:Inv W σ Λ s.heap st)(V:Vars Λ sc env ρ σ s.heap)
 (H:Po W Λ (XL env) (ck Λ sc env) E σ s (if bj e then .stuck else match bg es with
   |some xs=>if ai xs&&Cu sc es k tp e xs then (I.ex sc ρ e st).bind fun d st=>match d with
     |.v (.tup l)=>(match cm sc xs l ρ with
      |some ρ'=>.ok (.next,ρ') st
      |Option.none=>.stuck)
     |_=>.stuck
    else .stuck
   |Option.none=>.stuck) Q):wpAny (model W.prog W.w) A (exec (.Assign [.Tuple es k tp] e pos) env) Q E s:=by
 cases hc:bj e with
 |true=>rw[hc]at H;exact H.elim
 |false=>
  rw[hc]at H
  cases hxs:bg es with
  |none=>rw[hxs]at H;exact H.elim
  |some xs=>
   rw[hxs]at H
   have H:Po W Λ (XL env) (ck Λ sc env) E σ s (if ai xs&&Cu sc es k tp e xs then (I.ex sc ρ e st).bind fun d st=>match d with
    |.v (.tup l)=>(match cm sc xs l ρ with
     |some ρ'=>.ok (.next,ρ') st
     |Option.none=>.stuck)
    |_=>.stuck
    else .stuck) Q:=H
   cases hd:ai xs&&Cu sc es k tp e xs with
   |false=>rw[hd]at H;exact H.elim
   |true=>
    rw[hd]at H
    obtain⟨h1,h2⟩:=zan hd
    exact u4 hh hE hI hc hxs h1 h2 iv V H
theorem J4{o i e:PySem.Expr}{sp pos:Pos}(hI:IE W A I)(hE:EnvOk W.tabs Λ sc env)(iv:Inv W σ Λ s.heap st)(V:Vars Λ sc env ρ σ s.heap)
 (H:Po W Λ (XL env) (ck Λ sc env) E σ s (if bj e||dj i then .stuck else (I.ex sc ρ e st).bind fun d st=>(I.ex sc ρ o st).bind fun a st=>(I.ex sc ρ i st).bind fun k st=>ti ρ d a k st) Q):wpAny (model W.prog W.w) A (exec (.Assign [.Subscript o i sp] e pos) env) Q E s:=by
 cases hc:bj e||dj i with
 |true=>rw[hc]at H;exact H.elim
 |false=>
  rw[hc]at H
  refine wpAny_Assign_Subscript (hI Λ sc env ρ e hE E σ s st _ iv V (Po.seq nx_ H fun d st₁ σ₁ h₁ tk₁ v f₁ k₁ i₁ r₁ H₁=>?_)) (du (Bool.or_eq_false_iff.mp hc).1)
  have V₁:=V.step (iv.sigma hE.loc) f₁ k₁
  refine hI Λ sc env ρ o hE E σ₁ _ st₁ _ i₁ V₁ (Po.seq nx_ H₁ fun a st₂ σ₂ h₂ tk₂ va f₂ k₂ i₂ r₂ H₂=>?_)
  have V₂:=V₁.step (i₁.sigma hE.loc) f₂ k₂
  refine hI Λ sc env ρ i hE E σ₂ _ st₂ _ i₂ V₂ (Po.seq nx_ H₂ fun k st₃ σ₃ h₃ tk₃ vk f₃ k₃ i₃ r₃ H₃=>?_)
  obtain⟨x,j,z,l,rfl,rfl,rfl,hl,hh,e⟩:=Ei (ρ:=ρ) (d:=d) (a:=a) (k:=k) (st:=st₃) fun q=>by rw[q]at H₃;exact H₃.elim
  rw[e]at H₃
  obtain⟨u,rfl⟩:=r₁
  obtain⟨t,rfl⟩:=r₃
  obtain⟨ad,had,rfl⟩:=r₂
  exact s7 hE i₃ (V₂.step (i₂.sigma hE.loc) f₃ k₃) (f₃.get had) hl hh.1 hh.2.1 hh.2.2.1 hh.2.2.2 H₃
theorem Ri{c:PySem.Expr}{a b:List Stmt}{pos:Pos}(hT:IT W A I)(hS:IS W A I)(hcl:ji A W env)(hE:EnvOk W.tabs Λ sc env)(iv:Inv W σ Λ s.heap st)(V:Vars Λ sc env ρ σ s.heap)
 (H:Po W Λ (XL env) (ck Λ sc env) E σ s ((I.tt sc ρ c st).bind fun t st=>if t then exs (fun ρ=>I.st sc ρ) a ρ st else exs (fun ρ=>I.st sc ρ) b ρ st) Q):wpAny (model W.prog W.w) A (exec (.If c a b pos) env) Q E s:=by
 refine wpAny_If (hT Λ sc env ρ c hE E σ s st _ iv V (Po.seq nx_ H fun t st₁ σ₁ h₁ tk₁ v f₁ k₁ i₁ r₁ H₁=>?_))
 have r₁:v=t:=r₁
 subst r₁
 have V₁:=V.step (iv.sigma hE.loc) f₁ k₁
 induction v using Bool.casesOn with
 |true=>exact ff hE hcl hS a ρ E σ₁ _ st₁ _ i₁ V₁ H₁
 |false=>exact ff hE hcl hS b ρ E σ₁ _ st₁ _ i₁ V₁ H₁
theorem Om{t it:PySem.Expr}{b:List Stmt}{pos:Pos}(hh:A.handled=none)(hC:CxOk W C)(hI:IE W A I)(hS:IS W A I)(hcl:ji A W env)(hE:EnvOk W.tabs Λ sc env)(iv:Inv W σ Λ s.heap st)(V:Vars Λ sc env ρ σ s.heap)
 (H:Po W Λ (XL env) (ck Λ sc env) E σ s (if ct it then .stuck else (f6 (I.ex sc ρ) (cn C sc it) st).bind fun l st=>fz (m9 (cn C sc it).1 sc t) (fun ρ st=>exs (I.st sc) b ρ st) l ρ st) Q):wpAny (model W.prog W.w) A (exec (.For t it b [] pos) env) Q E s:=by
 generalize hd:ct it=zz at H
 induction zz using Bool.casesOn with
 |true=>exact H.elim
 |false=>exact Db hC hh hE hcl hI hS hd iv V H
theorem Dk{x:Str}{np cp pos:Pos}{args:List PySem.Expr}(hh:A.handled=none)(hd:A.depth+4<recursionLimit)(hu:A.units+90<cLine)(hC:CxOk W C)(hX:ExOk W C)(hI:IE W A I)(hE:EnvOk W.tabs Λ sc env)(iv:Inv W σ Λ s.heap st)(V:Vars Λ sc env ρ σ s.heap)
 (H:Po W Λ (XL env) (ck Λ sc env) E σ s (match kz C sc x with
   |some c=>(match C.xc c with
    |some xi=>if noStar args then (evs (I.ex sc ρ) args st).bind fun ds st=>(match cj ds with
      |some l=>if l.length==xi.ps.length then .exc (.inst c xi.ns (xi.vs l)) st else .stuck
      |Option.none=>.stuck)else .stuck
    |Option.none=>.stuck)
   |Option.none=>.stuck) Q):wpAny (model W.prog W.w) A (exec (.Raise (some (.Call (.Name x np) args [] cp)) none pos) env) Q E s:=by
 generalize hg:kz C sc x=zz at H
 induction zz using Option.casesOn with
 |none=>exact H.elim
 |some c=>
   have H:Po W Λ (XL env) (ck Λ sc env) E σ s (match C.xc c with
    |some xi=>if noStar args then (evs (I.ex sc ρ) args st).bind fun ds st=>(match cj ds with
      |some l=>if l.length==xi.ps.length then .exc (.inst c xi.ns (xi.vs l)) st else .stuck
      |Option.none=>.stuck)else .stuck
    |Option.none=>.stuck) Q:=H
   generalize hx:C.xc c=zz at H
   induction zz using Option.casesOn with
   |none=>exact H.elim
   |some xi=>
    have H:Po W Λ (XL env) (ck Λ sc env) E σ s (if noStar args then (evs (I.ex sc ρ) args st).bind fun ds st=>(match cj ds with
     |some l=>if l.length==xi.ps.length then .exc (.inst c xi.ns (xi.vs l)) st else .stuck
     |Option.none=>.stuck)else .stuck) Q:=H
    generalize hns:noStar args=zz at H
    induction zz using Bool.casesOn with
    |false=>exact H.elim
    |true=>
     exact xf hh hd hu hC hX hE hI (A2 hg) hx hns iv V H
end
section
variable {C:Cx} {J:Js} {I:In} {Φ:D→List D→Sto→Out D}
noncomputable def F6(exc cause:Option PySem.Expr):Prop:=∃x np args cp,exc=some (.Call (.Name x np) args [] cp)∧cause=none
theorem xj{e:PySem.Expr}{cause:Option PySem.Expr}{pos:Pos}:((step C Φ J I).st sc ρ (.Raise (some e) cause pos) st≠.stuck)→F6 (some e) cause:=by
 induction e using PySem.Expr.casesOn with
 |Call f args kws cp=>
  induction f using PySem.Expr.casesOn with
  |Name x np=>
   induction kws using List.casesOn with
   |cons _ _=>exact fun h=>(h (Eq.refl (Out.stuck:Out (Fl×En)))).elim
   |nil=>
    induction cause using Option.casesOn with
    |some _=>exact fun h=>(h (Eq.refl (Out.stuck:Out (Fl×En)))).elim
    |none=>exact fun o_=>⟨x,np,args,cp,rfl,rfl⟩
  |_=>exact fun h=>(h (Eq.refl (Out.stuck:Out (Fl×En)))).elim
 |_=>exact fun h=>(h (Eq.refl (Out.stuck:Out (Fl×En)))).elim
theorem zu{exc cause:Option PySem.Expr}{pos:Pos}(h:(step C Φ J I).st sc ρ (.Raise exc cause pos) st≠.stuck):F6 exc cause:=by
 induction exc using Option.casesOn with
 |none=>exact(h (Eq.refl (Out.stuck:Out (Fl×En)))).elim
 |some e=>exact xj h
noncomputable def Rj(ts:List PySem.Expr):Prop:=(∃x p,ts=[.Name x p])∨(∃es k tp,ts=[.Tuple es k tp])∨∃o i sp,ts=[.Subscript o i sp]
theorem Dl{t e:PySem.Expr}{pos:Pos}:((step C Φ J I).st sc ρ (.Assign [t] e pos) st≠.stuck)→Rj [t]:=by
 induction t using PySem.Expr.casesOn with
 |Name x p=>exact fun o_=>.inl ⟨x,p,rfl⟩
 |Tuple es k tp=>exact fun o_=>.inr (.inl ⟨es,k,tp,rfl⟩)
 |Subscript o i sp=>exact fun o_=>.inr (.inr ⟨o,i,sp,rfl⟩)
 |_=>exact fun h=>(h (Eq.refl (Out.stuck:Out (Fl×En)))).elim
theorem Dm{t t' e:PySem.Expr}{r:List PySem.Expr}{pos:Pos}:(step C Φ J I).st sc ρ (.Assign (t::t'::r) e pos) st=.stuck:=by
 cases t<;>exact Eq.refl (Out.stuck:Out (Fl×En))
theorem F7{ts:List PySem.Expr}{e:PySem.Expr}{pos:Pos}(h:(step C Φ J I).st sc ρ (.Assign ts e pos) st≠.stuck):Rj ts:=by
 induction ts using List.casesOn with
 |nil=>exact(h (Eq.refl (Out.stuck:Out (Fl×En)))).elim
 |cons t r=>
  induction r using List.casesOn with
  |cons t' r'=>exact(h Dm).elim
  |nil=>exact Dl h
theorem F8{body orelse final:List Stmt}{hs:List ExceptHandler}{pos:Pos}(h:(step C Φ J I).st sc ρ (.Try body hs orelse final pos) st≠.stuck):∃h₀ hs',hs=h₀::hs'∧orelse=[]∧final=[]:=by
 induction hs using List.casesOn with
 |nil=>exact absurd rfl h
 |cons h₀ hs=>
  induction orelse using List.casesOn with
  |cons _ _=>exact absurd rfl h
  |nil=>
   induction final using List.casesOn with
   |cons _ _=>exact absurd rfl h
   |nil=>exact⟨h₀,hs,rfl,rfl,rfl⟩
theorem F9{α β:Type}{W:Wd}{Λ:List Addr}{X:Addr→Prop}{Rel:List Addr→Heap→β→α→Prop}{E:Value→Shared→Prop}{σ:List Addr}{s:Shared}{r:Out α}{Q:β→Shared→Prop}(H:Po W Λ X Rel E σ s r Q):r≠.stuck:=fun e=>by rw[e]at H;exact H
end
theorem J5{C:Cx}{I:In}{Φ:D→List D→Sto→Out D}(hh:A.handled=none)(hd:A.depth+4<recursionLimit)(hu:A.units+90<cLine)(hC:CxOk W C)(hX:ExOk W C)(hI:IE W A I)(hT:IT W A I)(hS:IS W A I):IS W A (step C Φ (XT C Φ) I):=by
 intro Λ sc env ρ b hE hcl E σ s st Q iv V
 induction b using PySem.Stmt.casesOn with
 |Pass pos=>exact fun H=>wpAny_Pass (Po.now (tk:=s.toks) (b:=Flow.next) (a:=(Fl.next,ρ)) (st:=st) H iv ⟨trivial,V⟩)
 |Break pos=>exact fun H=>wpAny_Break (Po.now (tk:=s.toks) (b:=Flow.brk) (a:=(Fl.brk,ρ)) (st:=st) H iv ⟨trivial,V⟩)
 |Continue pos=>exact fun H=>wpAny_Continue (Po.now (tk:=s.toks) (b:=Flow.cont) (a:=(Fl.cont,ρ)) (st:=st) H iv ⟨trivial,V⟩)
 |Return e pos=>
  induction e using Option.casesOn with
  |none=>exact False.elim
  |some e=>exact Oj hI hE iv V
 |Expr e pos=>exact J2 hI hE iv V
 |Assign ts e pos=>
  intro H
  rcases F7 (F9 H)with⟨x,p,rfl⟩|⟨es,k,tp,rfl⟩|⟨o,i,sp,rfl⟩
  ·exact J3 hC hh hI hT hE iv V H
  ·exact Ol hh hI hE iv V H
  ·exact J4 hI hE iv V H
 |If c a b pos=>exact Ri hT hS hcl hE iv V
 |While c b orelse pos=>
  induction orelse using List.casesOn with
  |cons x r=>exact False.elim
  |nil=>exact fun H=>wpAny_While (wz hE hcl hT hS iv V H)
 |For t it b orelse pos=>
  induction orelse using List.casesOn with
  |cons x r=>exact False.elim
  |nil=>exact Om hh hC hI hS hcl hE iv V
 |Raise exc cause pos=>
  intro H
  refine Nr (zu (F9 H)) fun x np args cp ee4 ee5=>?_
  subst ee4
  subst ee5
  exact Dk hh hd hu hC hX hI hE iv V H
 |Try body hs orelse final pos=>
  intro H
  refine em (F8 (F9 H)) fun h₀ hs ee2 ee3 ee4=>?_
  subst ee2
  subst ee3
  subst ee4
  exact Dj hu hC hX hE hcl hI hT iv V H
 |_=>exact False.elim
end
end Mine
end
section
set_option backward.match.sparseCases true
open PySem PySem.W PySem.Spec PySem.Calls PyProof.Rows
namespace Mine
theorem Bn{W:Wd}{A:Around}{C:Cx}{Φ:D→List D→Sto→Out D}(hh:A.handled=none)(hd:A.depth+4<recursionLimit)(hu:A.units+90<cLine)(hC:CxOk W C)(hX:ExOk W C)(hΦ:CS W A Φ)(hJ:TS W A C (XT C Φ))(n:Nat):IE W A (X C Φ n)∧IT W A (X C Φ n)∧IS W A (X C Φ n):=by
 have hE:∀m,IE W A (X C Φ m)∧IT W A (X C Φ m):=js (J:=XT C Φ) ⟨by lia⟩ (fun o_=>hh) hC hΦ hJ
 refine⟨(hE n).1,(hE n).2,?_⟩
 induction n with
 |zero=>exact fun o_ o_ o_ o_ o_ o_ o_ o_ o_ o_ o_ o_ o_ o_ H=>H.elim
 |succ n ih=>exact J5 hh hd hu hC hX (hE n).1 (hE n).2 ih
section
variable {W:Wd} {A:Around} {Λ σ:List Addr} {E:Value→Shared→Prop} {s:Shared} {st:Sto}
theorem u7{h:Heap}{e N:List Addr}:∀b o,h.get? b=some o→¬Bad (σ++e) (N++Λ) b→At h b o∧¬Bad σ Λ b:=fun b o q n=>⟨.inl q,fun z=>n (z.elim (fun z=>.inl (List.mem_append_left _ z)) fun z=>.inr (List.mem_append_right _ z))⟩
theorem rk{h:Heap}{N:List Addr}:∀b o,h.get? b=some o→¬Bad σ (N++Λ) b→At h b o∧¬Bad σ Λ b:=fun b o q n=>⟨.inl q,fun z=>n (z.elim .inl fun z=>.inr (List.mem_append_right _ z))⟩
noncomputable abbrev Wd.push(W:Wd)(L:Addr):Wd:={ W with fr:=L::W.fr }
theorem Bo{h:Heap}{L:Addr}{N:List Addr}(D:∀a∈(W.push L).fr,a∈N++Λ∧∃m,h.Ns a m)(hN:∀a∈N,a∉W.fr):∀a∈W.fr,a∈Λ∧∃m,h.Ns a m:=fun a q=>
 ⟨(List.mem_append.mp (D a (.tail _ q)).1).elim (fun z=>absurd q (hN a z)) id,(D a (.tail _ q)).2⟩
theorem Inv.into{h:Heap}{L:Addr}{m:Str→Option Value}(I:Inv W σ Λ h st)(hL:L∈Λ)(n:h.Ns L m):Inv (W.push L) σ Λ h st:=
 ⟨I.keep,I.new,I.store,I.apart,fun a q=>(List.mem_cons.mp q).elim (fun z=>⟨z▸hL,m,z▸n⟩) fun z=>I.dic a z,I.tab⟩
theorem Inv.out{h:Heap}{L:Addr}{N:List Addr}(I:Inv (W.push L) σ (N++Λ) h st)(hN:∀a∈N,a∉W.fr):Inv W σ Λ h st:=by
 refine⟨I.keep,fun a q=>I.new a (q.elim .inl fun z=>.inr (List.mem_append_right _ z)),⟨I.store.1,I.store.2.1,fun i a l e1 e2=>?_⟩,fun a ha q=>I.apart a ha (List.mem_append_right _ q),Bo I.dic hN,fun q hq=>(I.tab q hq).move rk fun o_ o_ e o_ o_=>e⟩
 refine bq (I.store.2.2 i a l e1 e2) fun vs q r z=>?_
 exact⟨vs,q,r.mono rk,z⟩
theorem Inv.take{h:Heap}{e N:List Addr}{L:Addr}(I:Inv (W.push L) (σ++e) (N++Λ) h st)(hN:∀a∈N,a∉W.fr):Inv W σ Λ h (st.take σ.length):=by
 refine⟨I.keep,fun a q=>I.new a (q.elim (fun z=>.inl (List.mem_append_left _ z)) fun z=>.inr (List.mem_append_right _ z)),⟨?_,?_,fun i a l e1 e2=>?_⟩,fun a ha q=>I.apart a (List.mem_append_left _ ha) (List.mem_append_right _ q),Bo I.dic hN,fun q hq=>(I.tab q hq).move u7 fun o_ o_ e o_ o_=>e⟩
 ·rw[List.length_take,←I.store.1,List.length_append];exact Eq.symm Nat.min_add_right_self
 ·exact(List.nodup_append.mp I.store.2.1).1
 ·have hi:=(List.getElem?_eq_some_iff.mp e1).1
  rw[List.getElem?_take_of_lt hi]at e2
  refine bq (I.store.2.2 i a l (by rw[List.getElem?_append_left hi];exact e1) e2) fun vs q r z=>?_
  exact⟨vs,q,r.mono u7,z⟩
theorem rm{d:D}{v:Value}{σ':List Addr}{h':Heap}{tk:Nat}{st':Sto}{L:Addr}{N:List Addr}{Q:Value→Shared→Prop}(hn:σ.length=st.length)(hN:∀a∈N,a∉W.fr)(f:Fresh σ σ' s.heap)(k:Kp (fun x=>x∈σ∨NoX x) s.heap h')(i:Inv (W.push L) σ' (N++Λ) h' st')(r:RepD σ' (Bad σ' (N++Λ)) h' v d)
 (H:Po W Λ NoX (au Λ) E σ s (I2 st.length d st') Q):Q v { s with heap:=h',toks:=tk }:=by
 obtain⟨e,rfl,he⟩:=f
 induction d using D.casesOn with
 |v x=>
  unfold I2 at H
  rw[←hn]at H
  exact H σ h' tk v Fresh.refl k (i.take hN) (Rep.mono u7 r)
 |m j=>
  have H:Po W Λ NoX (au Λ) E σ s (if j<st.length then .ok (.m j) (st'.take st.length)else .ok (.m j) st') Q:=H
  by_cases hj:j<st.length
  ·rw[if_pos hj,←hn]at H
   obtain⟨a,ha,hv⟩:=r
   rw[←hn]at hj
   rw[List.getElem?_append_left hj]at ha
   exact H σ h' tk v Fresh.refl k (i.take hN) ⟨a,ha,hv⟩
  ·rw[if_neg hj]at H
   exact H _ h' tk v ⟨e,rfl,he⟩ k (i.out hN) (r.mono rk)
theorem Inv.swap{h:Heap}{N:List Addr}{e:Addr}(I:Inv W σ (e::(N++Λ)) h st):Inv W σ (N++(e::Λ)) h st:=I.perm fun a=>by
 simp only[List.mem_cons,List.mem_append]
 exact⟨fun z=>z.elim (fun z=>.inr (.inl z)) fun z=>z.elim .inl fun z=>.inr (.inr z),fun z=>z.elim (fun z=>.inr (.inl z)) fun z=>z.elim .inl fun z=>.inr (.inr z)⟩
theorem Flown.out{B B':Addr→Prop}{h h':Heap}{e c L:Addr}{ns:List Str}{l:List V}(F:Flown (W.push L) B h h' e c ns l)(hB:∀a,B' a→B a):Flown W B' h h' e c ns l:=by
 obtain⟨k,⟨h1,h2,h3,h4⟩,dx,oe,vs,a0,g1,g2,g3,g4,g5,g6,es,n,g7,g8,g9,g10,g11⟩:=F
 exact⟨k,⟨h1,fun q=>h2 (hB _ q),fun q=>h3 (.tail _ q),h4⟩,dx,oe,vs,a0,g1,g2,g3,g4,g5,g6,es,n,g7,fun q=>g8 (hB _ q),g9,g10,g11.mono fun b o e' nb=>⟨.inl e',fun q=>nb (q.elim (fun q=>.inl (hB _ q)) .inr)⟩⟩
/-! a call's names:plain ones and cells -/
theorem xk{kd:Str→Option NameKind}{y:Str}(hy:kd y=some .local):∀(zs:List (Str×Value)) (m:Str→Option Value),bindL kd zs m y=match zs.reverse.lookup y with|some v=>some v|none=>m y
 |[],m=>rfl
 |(n,v)::r,m=>by
  unfold bindL
  rw[xk hy r,List.reverse_cons,List.lookup_append]
  generalize r.reverse.lookup y=zz
  induction zz using Option.casesOn with
  |some v=>rfl
  |none=>
   rw[Option.none_or,List.lookup_cons,List.lookup_nil]
   by_cases hn:y=n
   ·subst hn
    rw[if_pos hy,beq_self_eq_true];exact if_pos rfl
   ·rw[beq_eq_false_iff_ne.mpr hn]
    by_cases hk:kd n=some .local
    ·rw[if_pos hk];exact if_neg hn
    ·rw[if_neg hk]
theorem xm{kd:Str→Option NameKind}{y:Str}(hy:kd y=some .cell):∀(zs:List (Str×Value)) (m:Str→Option Value),bindC kd zs m y=match zs.reverse.lookup y with|some v=>some v|none=>m y
 |[],m=>rfl
 |(n,v)::r,m=>by
  unfold bindC
  rw[xm hy r,List.reverse_cons,List.lookup_append]
  generalize r.reverse.lookup y=zz
  induction zz using Option.casesOn with
  |some v=>rfl
  |none=>
   rw[Option.none_or,List.lookup_cons,List.lookup_nil]
   by_cases hn:y=n
   ·subst hn
    rw[if_neg (by rw[hy];decide),beq_self_eq_true];exact if_pos rfl
   ·rw[beq_eq_false_iff_ne.mpr hn]
    by_cases hk:kd n=some .local
    ·rw[if_pos hk]
    ·rw[if_neg hk];exact if_neg hn
noncomputable def ju(fd:FuncData)(L:Addr):List Addr:=L::(cellsFrom (L+1) fd.scope.names []).filterMap fun p=>(cellsFrom (L+1) fd.scope.names []).lookup p.1
theorem zv{fd:FuncData}{L y:Addr}(h:y∈ju fd L):y=L∨∃n,(cellsFrom (L+1) fd.scope.names []).lookup n=some y:=by
 rcases List.mem_cons.mp h with h|h
 ·exact .inl h
 ·obtain⟨p,_,e⟩:=List.mem_filterMap.mp h
  exact .inr ⟨p.1,e⟩
theorem iq{fd:FuncData}{L c:Addr}{n:Str}(h:(cellsFrom (L+1) fd.scope.names []).lookup n=some c):c∈ju fd L:=.tail _ (List.mem_filterMap.mpr ⟨(n,c),Mine.mem_of_lookup h,h⟩)
structure Entry (W:Wd) (σ Λ:List Addr) (s:Shared) (st:Sto) (fd:FuncData) (a:Addr) (f:FnI) (ds:List D) (s₁:Shared):Prop where
 same:∃h tk,s₁={ s with heap:=h,toks:=tk }
 keep:∀b o,s.heap.get? b=some o→s₁.heap.get? b=some o
 none:∀x∈ju fd s.heap.objs.size,s.heap.get? x=none
 iv:Inv (W.push s.heap.objs.size) σ (ju fd s.heap.objs.size++Λ) s₁.heap st
 env:EnvOk W.tabs (ju fd s.heap.objs.size++Λ) f.sc (callEnvC fd s.heap.objs.size a)
 vars:Vars (ju fd s.heap.objs.size++Λ) f.sc (callEnvC fd s.heap.objs.size a) (f.ps.zip ds) σ s₁.heap
theorem Ga{fd:FuncData}{a:Addr}{f:FnI}{o:Obj}{ds:List D}{vs:List Value}{s₁:Shared}(F:FnIs W.K (some W.tabs) a f fd o)(hlv:f.ps.length=vs.length)(iv:Inv W σ Λ s.heap st)(hr:RepDs σ (Bad σ Λ) s.heap vs ds)
 (x:InCallC s (callEnvC fd s.heap.objs.size a).locals (bindL (callEnvC fd s.heap.objs.size a).kindOf (f.ps.zip vs) fun o_=>none) (callEnvC fd s.heap.objs.size a).cells (bindC (callEnvC fd s.heap.objs.size a).kindOf (f.ps.zip vs) fun o_=>none) s₁):Entry W σ Λ s st fd a f ds s₁:=by
 have hno:∀y∈ju fd s.heap.objs.size,s.heap.objs.size≤y∧∃o,s₁.heap.get? y=some o:=fun y hy=>by
  rcases zv hy with rfl|⟨n,hc⟩
  ·exact⟨Nat.le_refl _,dw x.toInCall.ns⟩
  ·exact⟨Nat.le_of_lt (x.above n y (Mine.mem_of_lookup hc)),(x.cell n y hc).imp fun o z=>z.1⟩
 have hnone:∀y∈ju fd s.heap.objs.size,s.heap.get? y=none:=fun y hy=>by
  generalize q:s.heap.get? y=zz
  induction zz using Option.casesOn with
  |none=>rfl
  |some o=>exact absurd (Heap.lt_size q) (Nat.not_lt.mpr (hno y hy).1)
 have iv₁:=iv.lams x.toInCall.keep fun y hy=>⟨hnone y hy,Nat.le_trans iv.size (hno y hy).1,(hno y hy).2⟩
 have hE:EnvOk W.tabs (ju fd s.heap.objs.size++Λ) f.sc (callEnvC fd s.heap.objs.size a):=by
  refine⟨F.sc▸F.kind,F.sc,F.glob,F.bi,.head _,fun y c e=>List.mem_append_left _ (iq e),fun y q=>?_,fun y z c e e'=>name_of_addr x.apart (Mine.mem_of_lookup e) (Mine.mem_of_lookup e'),fun q=>F.cd _ rfl (q.imp fun y z=>F.sc▸z)⟩
  rcases q with q|q
  ·exact Option.isSome_iff_exists.mp (cellsFrom_some fd.scope.names (s.heap.objs.size+1) [] (.inl (F.sc▸q)))
  ·exact absurd rfl (F.names (y,_) (F.sc▸Mine.mem_of_lookup q)).2
 have mv:∀b o,s.heap.get? b=some o→¬Bad σ Λ b→At s₁.heap b o∧¬Bad σ (ju fd s.heap.objs.size++Λ) b:=fun b o e nb=>⟨.inl (x.toInCall.keep b o e),fun q=>q.elim (fun q=>nb (.inl q)) fun q=>(List.mem_append.mp q).elim (fun z=>by
  rw[hnone b z]at e;contradiction) fun z=>nb (.inr z)⟩
 refine⟨x.toInCall.same,x.toInCall.keep,hnone,iv₁.into (.head _) x.toInCall.ns,hE,_,x.toInCall.ns,fun y c e=>⟨fun q=>?_,_,x.cell y c e⟩,fun y d e=>?_⟩
 ·obtain⟨o,e'⟩:=(iv.new c (.inl q)).2
  rw[hnone c (iq e)]at e';contradiction
 ·obtain⟨v,h1,h2⟩:=q9 hr e
  have hkd:∀k,f.sc.names.lookup y=some k→(callEnvC fd s.heap.objs.size a).kindOf y=some k:=fun k q=>by
   show fd.scope.names.lookup y=some k
   rw[F.sc];exact q
  refine⟨fun q=>⟨v,?_,h2.mono mv⟩,fun q=>?_⟩
  ·rw[xk (hkd _ q),cu y F.dis hlv,h1]
  ·rcases q with q|q
   ·obtain⟨c,hc⟩:=hE.cells y (.inl q)
    obtain⟨o,e1,e2⟩:=x.cell y c hc
    refine⟨c,o,v,hc,e1,?_,fun z=>?_,h2.mono mv⟩
    ·rw[e2,xm (hkd _ q),cu y F.dis hlv,h1]
    ·obtain⟨o,e'⟩:=(iv.new c (.inl z)).2
     rw[hnone c (iq hc)]at e';contradiction
   ·exact absurd rfl (F.names (y,_) (F.sc▸Mine.mem_of_lookup q)).2
set_option tactic.hygienic true in
theorem me{C:Cx}{Φ:D→List D→Sto→Out D}{a:Addr}{f:FnI}(hdp:A.depth<recursionLimit)(hK:Stk A W)(hf:nr W.K (some W.tabs) a=some f)(hS:∀env L,Stk (A.deeper env) (W.push L)→IS (W.push L) (A.deeper env) (X C Φ 64)){ds:List D}{vs:List Value}{Q:Value→Shared→Prop}
 (iv:Inv W σ Λ s.heap st) (hr:RepDs σ (Bad σ Λ) s.heap vs ds) (H:Po W Λ NoX (au Λ) E σ s (f3 C Φ f ds st) Q):codeAny (model W.prog W.w) A (.call (.ref a) ⟨vs,[]⟩) (fun r s'=>match r with|.ok (.ret v)=>Q v s'|.ok _=>False|.error e=>E e s') s:=by
 obtain⟨fd,o,F⟩:=ma hf
 unfold f3 at H
 split at H
 ·rename_i hlen
  have hlv:f.ps.length=vs.length:=by rw[hlen,RepDs.length hr]
  refine codeAny_call_cells (binds:=f.ps.zip vs) hdp (ak iv _ _ F.at_) F.data (W.T.nolimit.keeps iv.keep) (codeRec_of (ak iv) F.code) F.body (fp F.ps F.h1 F.h2 F.h3 F.h4 F.h5 hlv F.dis) F.clo
   (fun x hx=>?_) (fun s₁ x=>?_) F.co F.gen F.kind
  ·have z:=(F.loc _ (List.of_mem_zip (a:=x.1) (b:=x.2) hx).1).1
   unfold je at z
   simp only[Bool.or_eq_true,beq_iff_eq]at z
   exact z.imp id fun z=>⟨z,cellsFrom_some _ _ _ (.inl z)⟩
  have en:=Ga F hlv iv hr x
  have hN:∀y∈ju fd s.heap.objs.size,y∉W.fr:=fun y hy=>iv.nfr (en.none y hy)
  obtain⟨outer,hfr,hout⟩:=hK
  have hfr':(A.deeper (callEnvC fd s.heap.objs.size a)).frames=some (callEnvC fd s.heap.objs.size a::outer):=Around.frames_deeper hfr
  have hfo:qk (W.push s.heap.objs.size) (callEnvC fd s.heap.objs.size a::outer):=fun env' hm=>by
   rcases List.mem_cons.mp hm with rfl|hm
   ·exact⟨by show fd.scope.kind≠.module;rw[F.kind];decide,_,rfl,.head _⟩
   ·obtain⟨g1,L,g2,g3⟩:=hout env' hm
    exact⟨g1,L,g2,.tail _ g3⟩
  have kps:∀{h':Heap},Kp (fun x=>x∈σ∨XL (callEnvC fd s.heap.objs.size a) x) s₁.heap h'→Kp (fun x=>x∈σ∨NoX x) s.heap h':=fun k₁=>by
   refine(Kp.all (W:=fun x=>x∈σ∨NoX x) en.keep).trans k₁ fun x al q=>?_
   obtain⟨o',e⟩:=al
   rcases q with q|q|⟨y,q⟩
   ·exact .inl q
   ·have q:x=s.heap.objs.size:=q
    rw[q,an]at e;contradiction
   ·rw[en.none x (iq q)]at e;contradiction
  refine ff (W:=W.push s.heap.objs.size) en.env ⟨_,_,hfr',hfo,rfl⟩ (hS _ _ ⟨_,hfr',hfo⟩) f.body (f.ps.zip ds) _ σ _ st _ en.iv en.vars ?_
  obtain⟨h₀,tk₀,rfl⟩:=en.same
  have hk:=en.keep
  revert H
  generalize exs ((X C Φ 64).st f.sc) f.body (f.ps.zip ds) st=r
  intro H
  cases r with
  |stuck=>exact H.elim
  |exc x st'=>
   intro σ' hr h' tk e f₁ k₁ i₂ ne x'
   have fr:Fresh σ σ' s.heap:=Fresh.refl.trans f₁ (Kp.all (W:=NoX) hk)
   have ne':s.heap.get? e=none:=(Kp.all (W:=NoX) hk).none ne
   show wpAny _ _ (leaving _ _) _ _ _
   unfold leaving
   refine wpAny_bind ?_
   cases x with
   |inst c ns l=>exact jn (s:={ s with heap:=h',toks:=tk }) hfr' hfo rfl i₂ x' fun h'' F'=>H σ' hr h'' tk e fr (kps k₁) (i₂.swap.out hN) ne' (F'.out fun b q=>q.elim .inl fun q=>.inr (List.mem_append_right _ q))
   |_=>exact x'.elim
  |ok p st'=>
   intro σ' h' tk b f₁ k₁ i₂ r₂
   have H₂:=H
   obtain⟨fl,ρ'⟩:=p
   obtain⟨r₂,_⟩:=r₂
   have fr:Fresh σ σ' s.heap:=Fresh.refl.trans f₁ (Kp.all (W:=NoX) hk)
   have kp:=kps k₁
   cases fl with
   |next=>
    cases b with
    |next=>exact rm (s:=s) (tk:=tk) iv.store.1 hN fr kp i₂ (d:=.v .none) (v:=.none) rfl H₂
    |_=>exact r₂.elim
   |ret d=>
    cases b with
    |ret v=>exact rm (s:=s) (tk:=tk) iv.store.1 hN fr kp i₂ r₂ H₂
    |_=>exact r₂.elim
   |_=>exact H₂.elim
 ·exact H.elim
theorem s8{C:Cx}{Φ:D→List D→Sto→Out D}{a:Addr}{f:FnI}(hdp:A.depth<recursionLimit)(hK:Stk A W)(hf:nr W.K (some W.tabs) a=some f)(hS:∀env L,Stk (A.deeper env) (W.push L)→IS (W.push L) (A.deeper env) (X C Φ 64)){ds:List D}{vs:List Value}{Q:Value→Shared→Prop}
 (iv:Inv W σ Λ s.heap st) (hr:RepDs σ (Bad σ Λ) s.heap vs ds) (H:Po W Λ NoX (au Λ) E σ s (f3 C Φ f ds st) Q):wpAny (model W.prog W.w) A (call (.ref a) vs) Q E s:=wpAny_call (me hdp hK hf hS iv hr H)
end
end Mine
end
section
open PySem PySem.W PySem.Spec PySem.Calls PyProof.Rows
namespace Mine
structure ToldIs (K:Frag) (a:Addr) (td:TdI) (f:FnI) (e0:PySem.Expr):Prop where
 fn:nr K none a=some f
 ps:f.ps=[td.p]
 sc:f.sc=td.sc
 nb:bf td.p=false
 body:∃rp tp,f.body=[.Try [.Return (some e0) rp] (td.hd::td.hs) [] [] tp]
 form:match td.wrap with
  |none=>∃np cp,e0=.Call (.Name td.p np) [] [] cp
  |some g=>∃gp np cp cp',e0=.Call (.Name g gp) [.Call (.Name td.p np) [] [] cp] [] cp'
noncomputable def TdOk(W:Wd)(C:Cx):Prop:=∀a td,C.told a=some td→∃f e0,ToldIs W.K a td f e0
section
variable {W:Wd} {A:Around} {Λ σ:List Addr} {E:Value→Shared→Prop} {s:Shared} {st:Sto} {sc:Scope} {env:Env} {ρ:En}
theorem Po.frame{rr:Out D}{L:Addr}{N:List Addr}{env₂:Env}{outer:List Env}{h₂:Heap}{tk₂:Nat}{A₂:Around}{E' Q:Value→Shared→Prop}(hfr:A₂.frames=some (env₂::outer))(hfo:qk (W.push L) (env₂::outer))(hf:env₂.frame=some L)
 (hk:∀b o,s.heap.get? b=some o→h₂.get? b=some o) (hN:∀a∈N,a∉W.fr) (H:Po W Λ NoX (au Λ) E σ s rr Q):
 Po (W.push L) (N++Λ) NoX (au (N++Λ)) (fun e s'=>wpAny (model W.prog W.w) A₂ (leaving env₂ e) (fun o_ s''=>E e s'') E' s') σ { s with heap:=h₂,toks:=tk₂ } rr Q:=by
 induction rr using Out.casesOn with
 |stuck=>exact H.elim
 |ok d st'=>exact fun σ' h' tk b f k i r=>H σ' h' tk b (Fresh.refl.trans f (Kp.all (W:=NoX) hk)) ((Kp.all hk).trans k fun o_ o_ z=>z) (i.out hN) (RepD.mono rk r)
 |exc x st'=>
  intro σ' hr h' tk e f k i ne x'
  show wpAny _ _ (leaving _ _) _ _ _
  unfold leaving
  refine wpAny_bind ?_
  induction x using Mine.V.casesOn with
  |inst c ns l=>exact jn (s:={ s with heap:=h',toks:=tk }) hfr hfo hf i x' fun h'' F'=>H σ' hr h'' tk e (Fresh.refl.trans f (Kp.all (W:=NoX) hk)) ((Kp.all hk).trans k fun o_ o_ z=>z) (i.swap.out hN) ((Kp.all (W:=NoX) hk).none ne) (F'.out fun b q=>q.elim .inl fun q=>.inr (List.mem_append_right _ q))
  |_=>exact x'.elim
theorem xo{C:Cx}{Φ:D→List D→Sto→Out D}{body:PySem.Expr}{lsc:Scope}{cl:List (Str×Addr)}{fL:Addr}{qual p:Str}{np cp:Pos}{env₁:Env}{m:Str→Option Value}{Q:Value→Shared→Prop}
 (hh:A.handled=none) (hd:A.depth<recursionLimit) (hu:A.units+67<cLine) (hK:Stk A W) (hC:∀L,CxOk (W.push L) C) (hΦ:∀env L,Stk (A.deeper env) (W.push L)→CS (W.push L) (A.deeper env) Φ)
 (hk1:env₁.scope.kind=.function) (hk2:env₁.kindOf p=some .local) (hn:s.heap.Ns env₁.locals m) (hm:m p=some (.ref fL)) (hp:bf p=false)
 (iv:Inv W σ Λ s.heap st) (la:Bj (Bad σ Λ) s.heap fL body lsc cl qual) (hE:EnvOk W.tabs Λ sc env) (V:Vars Λ sc env ρ σ s.heap) (ok:LamOk lsc sc) (cap:Capt lsc env cl)
 (H:Po W Λ NoX (au Λ) E σ s ((XJ C Φ bu 64).ex lsc (az lsc ρ) body st) Q):wpAny (model W.prog W.w) A (eval (.Call (.Name p np) [] [] cp) env₁) Q E s:=by
 rw[fe rfl]
 have hp':(p==("__debug__":Str))=false:=by
  unfold bf at hp
  exact(Bool.or_eq_false_iff.mp hp).1
 refine wpAny_bind (wpAny_Name (wpAny_loadName_local hk1 hk2 hn hm ?_) hp')
 obtain⟨c',pm,ctv,ho,nb,hcr⟩:=la
 refine callWith_F0 ⟨_,_,_,_,ho⟩ (wpAny_call (kla_callFunE hd ho rfl ok.co ok.gen rfl hcr ?_))
 have hb:bindArgs (kla_fn "<lambda>" qual et body lsc cl pm (.ref c') ctv) ⟨[]++[],[]⟩=pure []:=rfl
 rw[hb]
 refine wpAny_pure (wpAny_newFunctionEnv ok.cell (fun x hx=>nomatch hx) (fun h₁ hns hsb=>⟨(W.T.nolimit.keeps iv.keep).fresh _ hsb,?_⟩) ok.kind)
 show codeAny _ _ (.expr body (envX qual lsc s.heap.objs.size fL (.ref c') cl)) _ _
 have hk:∀b o,s.heap.get? b=some o→h₁.get? b=some o:=fun b o e=>hsb.extBut b o (Nat.ne_of_lt (Heap.lt_size e)) (Heap.get?_push_of_some _ e)
 have n0:s.heap.get? s.heap.objs.size=none:=an
 obtain⟨oL,hoL⟩:=dw hns
 have i₂:Inv (W.push s.heap.objs.size) σ (s.heap.objs.size::Λ) h₁ st:=(iv.lam n0 hk hoL iv.size).into (.head _) hns
 obtain⟨outer,hfr,hout⟩:=hK
 have hfr':(A.deeper (envX qual lsc s.heap.objs.size fL (.ref c') cl)).frames=some (envX qual lsc s.heap.objs.size fL (.ref c') cl::outer):=Around.frames_deeper hfr
 have hfo:qk (W.push s.heap.objs.size) (envX qual lsc s.heap.objs.size fL (.ref c') cl::outer):=fun env' hm=>by
  rcases List.mem_cons.mp hm with rfl|hm
  ·exact⟨by show lsc.kind≠.module;rw[ok.kind];decide,_,rfl,.head _⟩
  ·obtain⟨g1,L,g2,g3⟩:=hout env' hm
   exact⟨g1,L,g2,.tail _ g3⟩
 have hE₂:EnvOk (W.push s.heap.objs.size).tabs (s.heap.objs.size::Λ) lsc (envX qual lsc s.heap.objs.size fL (.ref c') cl):=by
  refine⟨ok.kind,rfl,rfl,rfl,.head _,fun x c e=>.tail _ (hE.cin x c (cap.up x c e)),fun x q=>?_,fun x y c e e'=>hE.inj x y c (cap.up x c e) (cap.up y c e'),fun q=>?_⟩
  ·rcases q with q|q
   ·exact absurd rfl (ok.cell _ (mem_of_lookup q))
   ·exact cap.all _ (mem_of_lookup q) rfl
  ·obtain⟨x,q⟩:=q
   exact absurd rfl (ok.cell _ (mem_of_lookup q))
 have V₂:Vars (s.heap.objs.size::Λ) lsc (envX qual lsc s.heap.objs.size fL (.ref c') cl) (az lsc ρ) σ h₁:=by
  refine⟨_,hns,fun x c e=>⟨(V.cells x c (cap.up x c e)).1,(V.cells x c (cap.up x c e)).2.imp fun w z=>pe z fun o e=>.inl (hk _ _ e)⟩,fun x d e=>?_⟩
  obtain⟨e1,e2⟩:=d5 e
  have e3:lsc.names.lookup x=some .free:=e2.resolve_left fun q=>absurd rfl (ok.cell _ (mem_of_lookup q))
  refine⟨fun q=>by rw[q]at e3;contradiction,fun o_=>?_⟩
  obtain⟨c₂,hc₂⟩:=cap.all _ (mem_of_lookup e3) rfl
  obtain⟨m₀,_,_,Vm⟩:=V
  refine ni ((Vm x d e1).2 (ok.free _ (mem_of_lookup e3) rfl).2) fun c ob w' hcl hob hod hcs rr=>?_
  have:=cap.up x c₂ hc₂
  rw[hcl]at this
  injection this with this
  subst this
  exact⟨c,ob,w',hc₂,hk _ _ hob,hod,hcs,rr.mono (ze n0 hk)⟩
 exact kla_codeExpr ((js (W:=W.push s.heap.objs.size) (A:=A.deeper (envX qual lsc s.heap.objs.size fL (.ref c') cl)) (J:=bu) ⟨by show A.units+3+64<cLine;exact Nat.lt_of_succ_le hu⟩ (fun o_=>hh) (hC _) (hΦ _ _ ⟨_,hfr',hfo⟩) rf 64).1 (s.heap.objs.size::Λ) lsc _ (az lsc ρ) body hE₂ _ σ _ st _ i₂ V₂
  (Po.frame (N:=[s.heap.objs.size]) hfr' hfo rfl hk (fun a ha=>by rw[List.mem_singleton.mp ha];exact iv.nfr n0) H))
theorem rn{C:Cx}{Φ:D→List D→Sto→Out D}(hh:A.handled=none)(hd:A.depth+3<recursionLimit)(hu:A.units+100<cLine)(hK:Stk A W)(hC:CxOk W C)(hX:ExOk W C)(hC1:∀L,CxOk (W.push L) C)(hX1:∀L,ExOk (W.push L) C)(hC2:∀L L',CxOk ((W.push L).push L') C)(hT:TdOk W C)
 (hΦ1:∀env L,Stk (A.deeper env) (W.push L)→CS (W.push L) (A.deeper env) Φ)
 (hΦ2:∀env L env' L',Stk ((A.deeper env).deeper env') ((W.push L).push L')→CS ((W.push L).push L') ((A.deeper env).deeper env') Φ):TS W A C (XT C Φ):=by
 intro Λ sc env ρ E σ s st Q a body lsc cl fL hE iv V ht hok cap la H
 change Po W Λ NoX (au Λ) E σ s (wi C Φ a body lsc (az lsc ρ) st) Q at H
 unfold wi at H
 generalize htd:C.told a=zz at H
 induction zz using Option.casesOn with
 |none=>exact H.elim
 |some td=>
  dsimp only at H
  obtain⟨f,e0,T⟩:=hT a td htd
  obtain⟨fd,o,F⟩:=ma T.fn
  obtain⟨rp,tp,hbody⟩:=T.body
  have ok:=w7 hok
  have hlv:f.ps.length=[Value.ref fL].length:=by rw[T.ps];rfl
  refine wpAny_call (codeAny_call_def (binds:=f.ps.zip [Value.ref fL]) (by exact Nat.lt_of_add_right_lt hd) (ak iv _ _ F.at_) F.data (W.T.nolimit.keeps iv.keep) (codeRec_of (ak iv) F.code) F.body (BindsTo.of_eq (fp F.ps F.h1 F.h2 F.h3 F.h4 F.h5 hlv F.dis)) (fun x hx=>(F.names x hx).1 rfl)
   (fun x hx=>(F.loc _ (List.of_mem_zip (a:=x.1) (b:=x.2) hx).1).2 rfl) (fun h₀ hns hk=>?_) F.co F.gen F.kind)
  obtain⟨oL,hoL⟩:=dw hns
  have n0:s.heap.get? s.heap.objs.size=none:=an
  have i₁:Inv (W.push s.heap.objs.size) σ (s.heap.objs.size::Λ) h₀ st:=(iv.lam n0 hk hoL iv.size).into (.head _) hns
  have noc:∀x k,f.sc.names.lookup x=some k→k≠.cell∧k≠.free:=fun x k e=>⟨(F.names (x,k) (F.sc▸mem_of_lookup e)).1 rfl,(F.names (x,k) (F.sc▸mem_of_lookup e)).2⟩
  have hE1:EnvOk (W.push s.heap.objs.size).tabs (s.heap.objs.size::Λ) f.sc (callEnv fd s.heap.objs.size a):=by
   refine⟨F.sc▸F.kind,F.sc,F.glob,F.bi,.head _,fun x c e=>nk F.clo e,fun x q=>?_,fun x y c e o_=>nk F.clo e,fun q=>absurd rfl (noc _ _ q.choose_spec).1⟩
   rcases q with q|q
   ·exact absurd rfl (noc x _ q).1
   ·exact absurd rfl (noc x _ q).2
  have V1:Vars (s.heap.objs.size::Λ) f.sc (callEnv fd s.heap.objs.size a) [] σ h₀:=⟨_,hns,fun x c e=>nk F.clo e,fun x d e=>nomatch e⟩
  obtain⟨outer,hfr,hout⟩:=id hK
  have hfr':(A.deeper (callEnv fd s.heap.objs.size a)).frames=some (callEnv fd s.heap.objs.size a::outer):=Around.frames_deeper hfr
  have hfo:qk (W.push s.heap.objs.size) (callEnv fd s.heap.objs.size a::outer):=fun env' hm=>by
   rcases List.mem_cons.mp hm with rfl|hm
   ·exact⟨by show fd.scope.kind≠.module;rw[F.kind];decide,_,rfl,.head _⟩
   ·obtain⟨g1,L,g2,g3⟩:=hout env' hm
    exact⟨g1,L,g2,.tail _ g3⟩
  have mv:∀b o,s.heap.get? b=some o→¬Bad σ Λ b→At h₀ b o∧¬Bad σ (s.heap.objs.size::Λ) b:=ze n0 hk
  have V':Vars (s.heap.objs.size::Λ) sc env ρ σ h₀:=V.mono mv fun b o e o_=>.inl (hk b o e)
  have la':Bj (Bad σ (s.heap.objs.size::Λ)) h₀ fL body lsc cl (env.qual++"<lambda>"):=by
   obtain⟨c',pm,ctv,ho,nb,c₂,oc,vs,t,e1,e2,e3,e4⟩:=la
   exact⟨c',pm,ctv,hk _ _ ho,(mv _ _ ho nb).2,c₂,oc,vs,t,e1,hk _ _ e2,e3,e4⟩
  have hm1:(f.ps.zip [Value.ref fL]).reverse.lookup td.p=some (.ref fL):=by
   rw[T.ps]
   show List.lookup td.p [(td.p,Value.ref fL)]=_
   rw[List.lookup_cons,beq_self_eq_true]
  have hk2:(callEnv fd s.heap.objs.size a).kindOf td.p=some .local:=(F.loc td.p (by rw[T.ps];exact .head _)).2 rfl
  have kps:∀{h':Heap},Kp (fun x=>x∈σ∨XL (callEnv fd s.heap.objs.size a) x) h₀ h'→Kp (fun x=>x∈σ∨NoX x) s.heap h':=fun k₁=>by
   refine(Kp.all (W:=fun x=>x∈σ∨NoX x) hk).trans k₁ fun x al q=>?_
   obtain⟨o',e⟩:=al
   rcases q with q|q|⟨y,q⟩
   ·exact .inl q
   ·have q:x=s.heap.objs.size:=q
    rw[q,n0]at e;contradiction
   ·exact nk F.clo q
  rw[hbody]
  refine wpAny_execs_cons (xg (W:=W.push s.heap.objs.size) (A:=A.deeper (callEnv fd s.heap.objs.size a)) (s:={ s with heap:=h₀,toks:=_ }) (r:=qf C Φ td ((XJ C Φ bu 64).ex lsc (az lsc ρ) body st)) (show A.units+93<cLine from bd1 hu (by decide)) (hC1 _) (hX1 _) hE1 ⟨_,_,hfr',hfo,rfl⟩ V1 ?_ (i₁.sigma (.head _)) ?_)
  ·have hN:∀y∈[s.heap.objs.size],y∉W.fr:=fun y hy=>by rw[List.mem_singleton.mp hy];exact iv.nfr n0
   have fin:∀{d:D} {ρ':En} {st':Sto} {E':Value→Shared→Prop} {tk₀:Nat} {Q':Flow→Shared→Prop},(∀v s',Q v s'→Q' (.ret v) s')→Po W Λ NoX (au Λ) E σ s (.ok d st') Q→Po (W.push s.heap.objs.size) (s.heap.objs.size::Λ) (XL (callEnv fd s.heap.objs.size a)) (ck (s.heap.objs.size::Λ) f.sc (callEnv fd s.heap.objs.size a)) E' σ { s with heap:=h₀,toks:=tk₀ } (.ok (.ret d,ρ') st') Q':=by
    intro d ρ' st' E' tk₀ Q' hq H σ' h' tk b f₁ k₁ i₂ r₂
    obtain⟨r₂,_⟩:=r₂
    induction b using Flow.casesOn with
    |ret v=>exact hq _ _ (H σ' h' tk v (Fresh.refl.trans f₁ (Kp.all (W:=NoX) hk)) (kps k₁) (Inv.out (N:=[s.heap.objs.size]) i₂ hN) (RepD.mono (rk (N:=[s.heap.objs.size])) r₂))
    |_=>exact r₂.elim
   revert H
   generalize qf C Φ td ((XJ C Φ bu 64).ex lsc (az lsc ρ) body st)=rr
   intro H
   induction rr using Out.casesOn with
   |stuck=>exact H.elim
   |ok d st'=>exact fin (fun o_ o_ z=>z) H
   |exc x st'=>
    induction x using Mine.V.casesOn with
    |inst c ns l=>
     dsimp only at H ⊢
     rw[T.sc]
     generalize hq:cr C (XH C) td.sc [] c ns l (td.hd::td.hs) st'=q at H ⊢
     induction q using Out.casesOn with
     |stuck=>exact H.elim
     |exc _ _=>exact absurd hq rj
     |ok p st₂=>
      obtain⟨fl,ρ'⟩:=p
      induction fl using Fl.casesOn with
      |ret d=>rw[←T.sc];exact fin (fun o_ o_ z=>z) H
      |_=>exact H.elim
    |_=>exact H.elim
  ·intro E' Q' H'
   refine wpAny_execs_cons (wpAny_Return_some ?_)
   have as:=@xo (W.push s.heap.objs.size) (A.deeper (callEnv fd s.heap.objs.size a)) (s.heap.objs.size::Λ) σ E' { s with heap:=h₀,toks:=s.toks+(f.ps.zip [Value.ref fL]).length } st sc env ρ C Φ body lsc cl fL (env.qual++"<lambda>") td.p
   have form:=T.form
   unfold qf at H'
   generalize td.wrap=w at form H'
   induction w using Option.casesOn with
   |none=>
    obtain⟨np,cp,rfl⟩:=form
    exact as hh (show A.depth+1<_ from bd1 hd (by decide)) (show A.units+70<cLine from bd1 hu (by decide)) ⟨_,hfr',hfo⟩ (hC2 _) (hΦ2 _ _) F.kind hk2 hns hm1 T.nb i₁ la' (hE.lam _) V' ok cap H'
   |some g=>
    obtain⟨gp,np,cp,cp',rfl⟩:=form
    dsimp only at H'
    generalize hg:dh C td.sc g=gv at H'
    induction gv using Option.casesOn with
    |none=>exact H'.elim
    |some gv=>
     dsimp only at H'
     generalize hab:C.able gv=ab at H'
     induction ab using Bool.casesOn with
     |false=>exact H'.elim
     |true=>
      rw[fe rfl]
      refine wpAny_bind (c6 (W:=W.push s.heap.objs.size) (hC1 _) hE1 (T.sc▸hg) i₁.keep ?_)
      refine callWith_of (P:=W.K.In) rfl (fun h X=>hC.able gv hab _ h X) ?_
      have e1:starEach [PySem.Expr.Call (.Name td.p np) [] [] cp] (callEnv fd s.heap.objs.size a)=(false,eval (.Call (.Name td.p np) [] [] cp) (callEnv fd s.heap.objs.size a))::starEach [] (callEnv fd s.heap.objs.size a):=rfl
      have q:wpAny (model W.prog W.w) (A.deeper (callEnv fd s.heap.objs.size a)) (spliced (backTo cp' (starEach [PySem.Expr.Call (.Name td.p np) [] [] cp] (callEnv fd s.heap.objs.size a)))) (fun vs s₁=>W.K.In s₁.heap∧wpAny (model W.prog W.w) (A.deeper (callEnv fd s.heap.objs.size a)) (call gv ([]++vs)) (fun v s'=>Q' (.ret v) s') E' s₁) E' { s with heap:=h₀,toks:=s.toks+(f.ps.zip [Value.ref fL]).length }:=by
       rw[e1]
       refine spliced_cons (as hh (show A.depth+1<_ from bd1 hd (by decide)) (show A.units+70<cLine from bd1 hu (by decide)) ⟨_,hfr',hfo⟩ (hC2 _) (hΦ2 _ _) F.kind hk2 hns hm1 T.nb i₁ la' (hE.lam _) V' ok cap (Po.seq0 H' fun d st₁ σ₁ h₁ tk₁ v f₁ k₁ i₂ r₁ H₁=>wpAny_pure ⟨ak (W:=W.push s.heap.objs.size) i₂,?_⟩))
       exact hΦ1 _ _ ⟨_,hfr',hfo⟩ (s.heap.objs.size::Λ) (.v (.val gv)) [d] gv [v] _ σ₁ _ st₁ _ i₂ ⟨Vars.fr hE1 (V1.step (i₁.sigma (.head _)) f₁ k₁),rfl,r₁,trivial⟩ H₁
      rw[e1]at q ⊢
      exact evalArgs_plain q
end
noncomputable def Tw(f:FnI):Option (List Str):=f.ps.head?.bind fun self=>if im self f.body==some f.ps.tail then some f.ps.tail else none
noncomputable def pi(K:Frag)(c:Addr):Option (List Str):=
 if makesIn K c then (zo K c).bind fun fI=>if isFn K (.ref fI)then (nr K none fI).bind fun f=>(Tw f).bind fun ps=>if tz K c&&(Jl K c&&(hasDictIn K c&&(ps.all (Fz K c)&&decide (ps.length≤1000))))then some ps else none else none else none
structure ClsI (K:Frag) (c:Addr) (ns:List Str) (fI:Addr) (f:FnI) (slf:Str):Prop where
 makes:makesIn K c=true
 init:findIn K (.ref c) "__init__"=some (some (.ref fI))
 isf:isFn K (.ref fI)=true
 fn:nr K none fI=some f
 ps:f.ps=slf::ns
 body:im slf f.body=some ns
 is:ClsIs K c
 take:∀p∈ns,takerIn K c p=some none
 len:ns.length≤1000
theorem zx{K:Frag}{c:Addr}{ns:List Str}(h:pi K c=some ns):∃fI f self,ClsI K c ns fI f self:=by
 refine gf h fun hm h=>ao h fun fI hi h=>gf h fun hf h=>ao h fun f hfn h=>ao h fun ps hps h=>gf h fun hc h=>ao hps fun self hs hps=>gf hps fun hb hps=>?_
 cases h
 obtain⟨c1,hc⟩:=zan hc
 obtain⟨c2,hc⟩:=zan hc
 obtain⟨c3,hc⟩:=zan hc
 obtain⟨c4,c5⟩:=zan hc
 have hps:=Option.some.inj hps
 have hfs:f.ps=self::f.ps.tail:=by
  generalize f.ps=q at hs ⊢
  cases q with
  |nil=>cases hs
  |cons a b=>cases hs;rfl
 rw[hps]at hfs hb
 exact⟨fI,f,self,⟨hm,t7 hi,hf,hfn,hfs,eq_of_beq hb,⟨eq_of_beq c1,c2,c3⟩,fun p hp=>eq_of_beq (List.all_eq_true.mp c4 p hp),of_decide_eq_true c5⟩⟩
section
variable {W:Wd} {A:Around} {Λ σ:List Addr} {E:Value→Shared→Prop} {s:Shared} {st:Sto}
theorem Gb{c:Addr}{ns:List Str}{ds:List D}{vs:List Value}{Q:Value→Shared→Prop}(hdp:A.depth+1<recursionLimit)(hc:pi W.K c=some ns)(hl:ns.length=ds.length)(iv:Inv W σ Λ s.heap st)(hr:RepDs σ (Bad σ Λ) s.heap vs ds)
 (H:Po W Λ NoX (au Λ) E σ s (ofO st ((cj ds).map fun l=>D.v (.inst c ns l))) Q):wpAny (model W.prog W.w) A (call (.ref c) vs) Q E s:=by
 refine gz (zx hc) fun fI f self CI=>?_
 obtain⟨fd,o,F⟩:=ma CI.fn
 refine Po.ofS H fun dm e H=>?_
 obtain⟨l,hv,rfl⟩:=zmp e
 ·have hreps:=lg hr hv
  have X:=ak iv
  obtain⟨hh,g,d,t,os⟩:=s
  refine wpAny_call (make_core (makes_of X CI.makes) (looks_findIn X CI.init) (fun self=>bind_fn X self (eq_of_beq CI.isf)) (.inl rfl) ?_)
  have hlv:f.ps.length=(Value.ref (hh.objs.size+1)::vs).length:=by rw[CI.ps,List.length_cons,List.length_cons,hl,RepDs.length hr]
  have dn:hh.get? hh.objs.size=none:=an
  have k1:∀b o,hh.get? b=some o→(hh.push emptyDict).get? b=some o:=fun b o e=>Heap.get?_push_of_some _ e
  have i1:Inv W σ (hh.objs.size::Λ) (hh.push emptyDict) st:=iv.lam dn k1 (Heap.get?_push_size _ rfl) iv.size
  have xn:(hh.push emptyDict).get? (hh.objs.size+1)=none:=by
   have:(hh.push emptyDict).get? (hh.push emptyDict).objs.size=none:=an
   rw[Heap.size_push]at this;exact this
  have k2:∀b o,(hh.push emptyDict).get? b=some o→((hh.push emptyDict).push (instObj c hh.objs.size)).get? b=some o:=fun b o e=>Heap.get?_push_of_some _ e
  have ox:((hh.push emptyDict).push (instObj c hh.objs.size)).get? (hh.objs.size+1)=some (instObj c hh.objs.size):=by
   have:((hh.push emptyDict).push (instObj c hh.objs.size)).get? (hh.push emptyDict).objs.size=some (instObj c hh.objs.size):=Heap.get?_push_size _ rfl
   rw[Heap.size_push]at this;exact this
  have od:((hh.push emptyDict).push (instObj c hh.objs.size)).get? hh.objs.size=some emptyDict:=k2 _ _ (Heap.get?_push_size _ rfl)
  have i2:Inv W σ ((hh.objs.size+1)::hh.objs.size::Λ) ((hh.push emptyDict).push (instObj c hh.objs.size)) st:=i1.lam xn k2 ox (by have:=i1.size;rw[Heap.size_push]at this;exact this)
  have nxΛ:¬Bad σ (hh.objs.size::Λ) (hh.objs.size+1):=by
   have:=i1.newAddr
   rw[Heap.size_push]at this;exact this
  have ndΛ:¬Bad σ Λ hh.objs.size:=iv.newAddr
  have hsz:((hh.push emptyDict).push (instObj c hh.objs.size)).objs.size=hh.objs.size+2:=by rw[Heap.size_push,Heap.size_push]
  refine codeAny_call_def (s:=⟨(hh.push emptyDict).push (instObj c hh.objs.size),g,d,t,os⟩) (binds:=f.ps.zip (Value.ref (hh.objs.size+1)::vs)) (by show A.depth+Code.weight _<_;rw[jr];exact hdp) (ak i2 _ _ F.at_) F.data (W.T.nolimit.keeps i2.keep) (codeRec_of (ak i2) F.code) F.body (BindsTo.of_eq (fp F.ps F.h1 F.h2 F.h3 F.h4 F.h5 hlv F.dis))
   (fun x hx=>(F.names x hx).1 rfl) (fun x hx=>(F.loc _ (List.of_mem_zip (a:=x.1) (b:=x.2) hx).1).2 rfl) (fun h₀ hns hk=>?_) F.co F.gen F.kind
  dsimp only at hns hk ⊢
  rw[hsz]at hns ⊢
  obtain⟨oL,hoL⟩:=dw hns
  have Ln:((hh.push emptyDict).push (instObj c hh.objs.size)).get? (hh.objs.size+2)=none:=by
   have:((hh.push emptyDict).push (instObj c hh.objs.size)).get? ((hh.push emptyDict).push (instObj c hh.objs.size)).objs.size=none:=an
   rw[hsz]at this;exact this
  have i3:Inv W σ ((hh.objs.size+2)::(hh.objs.size+1)::hh.objs.size::Λ) h₀ st:=i2.lam Ln hk hoL (by have:=i2.size;rw[hsz]at this;exact this)
  have lowN:∀a,W.base.objs.size≤a→W.base.get? a=none:=fun a ha=>by
   generalize q:W.base.get? a=zz
   induction zz using Option.casesOn with
   |none=>rfl
   |some o=>exact absurd (Heap.lt_size q) (Nat.not_lt.mpr ha)
  have hml:∀y,(f.ps.zip (Value.ref (hh.objs.size+1)::vs)).reverse.lookup y=(f.ps.zip (Value.ref (hh.objs.size+1)::vs)).lookup y:=fun y=>cu y F.dis hlv
  have hdis:=F.dis
  rw[CI.ps]at hdis
  have hdis':=hdis
  obtain⟨hd1,hd2⟩:=zan hdis'
  have hself:self∉ns:=fun q=>by
   rw[Bool.not_eq_true',←Bool.not_eq_true]at hd1
   exact hd1 (List.contains_iff_mem.mpr q)
  have hlv':ns.length=vs.length:=hl.trans (RepDs.length hr).symm
  have Lx:hh.objs.size+2≠hh.objs.size:=by exact ne_of_none_some Ln od
  refine j9 (env:=callEnv fd (hh.objs.size+2) fI) (sc:=f.sc) (self:=self) (x:=hh.objs.size+1) (dx:=hh.objs.size) (C:=c) (m:=fun y=>(f.ps.zip (Value.ref (hh.objs.size+1)::vs)).reverse.lookup y) F.sc (F.sc▸F.kind) (F.sc▸(F.loc self (by rw[CI.ps];exact .head _)).2 rfl) ?_ CI.is
   rfl rfl rfl (Nat.succ_ne_self _) Lx (lowN _ (i3.new _ (.inr (.tail _ (.tail _ (.head _))))).1)
   f.body ns [] 0 [] _ CI.body (fun q hq=>⟨F.sc▸(F.loc q (by rw[CI.ps];exact .tail _ hq)).2 rfl,?_,CI.take q hq,rfl⟩) hd2 hns i3.keep (hk _ _ ox) (hk _ _ od) trivial (by have:=CI.len;simpa using this) fun h' tk es' n' x1 x2 x4 x5=>?_
  ·rw[hml,CI.ps,List.zip_cons_cons,List.lookup_cons];simp
  ·rw[hml]
   exact jq hlv q (by rw[CI.ps];exact .tail _ hq)
  ·have x6:Kp (fun a=>a=hh.objs.size) h₀ h':=fun b o e=>by
    by_cases hb:b=hh.objs.size
    ·subst hb;exact⟨fun q=>absurd rfl q,_,x2⟩
    ·exact⟨fun o_=>.inl ((x1 b hb).trans e),o,(x1 b hb).trans e⟩
   have nb:=lowN _ (i3.new _ (.inr (.tail _ (.tail _ (.head _))))).1
   have i4:Inv W σ ((hh.objs.size+2)::(hh.objs.size+1)::hh.objs.size::Λ) h' st:=i3.turn (x6.weak fun a q=>by rw[q];simp) (fun b o e=>(x1 b fun q=>by rw[q,nb]at e;(first|subst e|contradiction|(injection e with e;subst e)|cases e)).trans (i3.keep b o e)) (fun a q o e=>x6.at e fun z=>iv.nfr dn (z▸q)) (fun b o e n=>(x1 b fun q=>n (.inr (.tail _ (.tail _ (q▸.head _))))).trans e)
   have kp:Kp (fun x=>x∈σ∨NoX x) hh h':=by
    refine(Kp.all (W:=fun x=>x∈σ∨NoX x) fun b o e=>hk _ _ (k2 _ _ (k1 _ _ e))).trans x6 fun a al q=>?_
    obtain⟨o,e⟩:=al
    rw[q,dn]at e;(first|subst e|contradiction|(injection e with e;subst e)|cases e)
   refine⟨rfl,H σ h' tk _ Fresh.refl kp (((i4.unlam (i2.nfr Ln)).unlam (i1.nfr xn)).unlam (iv.nfr dn)) ?_⟩
   refine⟨hh.objs.size+1,hh.objs.size,es',n',rfl,fun q=>nxΛ (q.elim .inl fun q=>.inr (.tail _ q)),ndΛ,⟨_,(x1 _ (Nat.succ_ne_self _)).trans (hk _ _ ox),rfl,rfl,rfl,fun o_ o_ q=>nomatch q⟩,.inl x2,x4,?_⟩
   have:es'.map (·.val)=vs:=by
    rw[x5]
    show ns.map _=vs
    have z:=ip (ps:=self::ns) (vs:=Value.ref (hh.objs.size+1)::vs) hdis (by simp[hlv'])
    rw[List.map_cons]at z
    injection z with z1 z2
    refine Eq.trans (List.map_congr_left fun q hq=>?_) z2
    rw[hml,CI.ps]
   rw[this]
   exact hreps.step Fresh.refl (kp.weak fun a q=>q.elim .inl fun q=>q.elim)
end
noncomputable def Gc(K:Frag)(C:Addr):Bool:=
 plainGet K C "__class__"&&(hasDictIn K C&&(F2 "object.__class__" (findIn K (.ref C) "__class__")&&(F2 "getset_descriptor.__get__" (specialIn K (.builtin "object.__class__") "__get__")&&(jt true (takesIn K (.builtin "object.__class__"))&&(jt true (mroIn K C (.type "object"))&&
 ((clsIn K C).isSome&&jt true (instIn K (.ref C) (.type "type"))))))))
structure Shows (K:Frag) (C:Addr):Prop where
 h1:plainGet K C "__class__"=true
 h2:hasDictIn K C=true
 h3:findIn K (.ref C) "__class__"=some (some (.builtin "object.__class__"))
 h4:specialIn K (.builtin "object.__class__") "__get__"=some (some (.builtin "getset_descriptor.__get__"))
 h5:takesIn K (.builtin "object.__class__")=some true
 h6:mroIn K C (.type "object")=some true
 h7:(clsIn K C).isSome=true
 h8:instIn K (.ref C) (.type "type")=some true
theorem Ge{K:Frag}{C:Addr}(h:Gc K C=true):Shows K C:=by
 unfold Gc at h
 obtain⟨h1,h⟩:=zan h
 obtain⟨h2,h⟩:=zan h
 obtain⟨h3,h⟩:=zan h
 obtain⟨h4,h⟩:=zan h
 obtain⟨h5,h⟩:=zan h
 obtain⟨h6,h⟩:=zan h
 obtain⟨h7,h8⟩:=zan h
 exact⟨h1,h2,ph h3,ph h4,cq h5,cq h6,h7,cq h8⟩
section
variable {prog:Program} {w:World} {A:Around} {E:Value→Shared→Prop} {s:Shared} {K:Frag} {x C:Addr} {ox:Obj} {od:Obj}
theorem Gf{Q:Option Value→Shared→Prop}(X:K.In s.heap)(I:InstAt s.heap x ox C (some od))(S:Shows K C)(h:Q (some (.ref C)) { s with toks:=s.toks+1 }):wpAny (model prog w) A (getAttr? (.ref x) "__class__") Q E s:=by
 obtain⟨hga,hk⟩:=plainGet_of S.h1
 have hf:=findObj_data (od:=od) S.h7 S.h3 S.h4 S.h5
 obtain⟨hh,g,d,t,os⟩:=s
 have L0:=I.type (M:=model prog w)
 have L1:=looks_findIn (M:=model prog w) X hga
 unfold getAttr? getAttrBy?
 refine wpAny_bind (wpAny_mkText (wpAny_bind (wpAny_attempt ?_)))
 unfold getAttrBy
 refine wpAny_holding (wpAny_bind (L0.at (wpAny_bind (L1.at ?_))))
 show wpAny _ _ (getAttrEveryday _ _ _) _ _ _
 refine wpAny_bind (wpAny_onRaise (wpAny_runValue (codeAny_builtin F.plainObj_entry_getattr_hooked ?_)))
 have L2:=looks_find (M:=model prog w) X I hf
 have L3:=looks_findIn (M:=model prog w) X hk
 refine wpAny_bind (wpAny_pure (wpAny_bind (L0.at (wpAny_bind (L2.at (wpAny_bind (L3.at ?_)))))))
 show wpAny _ _ (holding [Value.builtin "object.__class__"] (call (.builtin "getset_descriptor.__get__") [Value.builtin "object.__class__",.ref x,.ref C])>>=ret) _ _ _
 refine wpAny_bind (wpAny_holding (wpAny_call (class_get (s:=⟨hh,g,d,t+1,os⟩) (ox:=ox) (od:=some od) X I S.h6 ?_)))
 exact wpAny_pure (handed_on rfl (wpAny_pure h))
theorem ro{cls:Value}{Q:Value→Shared→Prop}(X:K.In s.heap)(I:InstAt s.heap x ox C (some od))(S:Shows K C)(hne:(Value.ref C==cls)=false)(hT:∀M,Looks M s.heap (typeOf cls) (.type "type"))(hC:∀M,Looks M s.heap (isType cls) true)
 (hs:subIn K (.ref C) cls=some false) (h:Q (.bool false) { s with toks:=s.toks+1 }):wpAny (model prog w) A (call (.builtin "isinstance") [.ref x,cls]) Q E s:=by
 refine call_isinstance_of ?_ (by intro e;(first|subst e|contradiction|(injection e with e;subst e)|cases e))
 unfold Builtin.«isinstance.nested»
 obtain⟨hh,g,d,t,os⟩:=s
 have L0:=I.type (M:=model prog w)
 have L4:Looks (model prog w) hh (isSubtype (.ref C) cls) false:=looks_subIn X hs
 have L3:Looks (model prog w) hh (isInstance (.ref x) cls) false:=L0.andThen L4
 have LT:=hT (model prog w)
 have LC:=hC (model prog w)
 refine wpAny_bind (L0.at ?_)
 rw[if_neg (by rw[hne];decide)]
 refine wpAny_bind (LT.at ?_)
 rw[if_pos (by decide)]
 k_delta "plainIsInstance"
 refine wpAny_bind (wpAny_bind (LC.at ?_))
 simp only[Bool.not_true,Bool.false_eq_true,if_false]
 refine wpAny_bind (L3.at ?_)
 simp only[Bool.false_eq_true,if_false]
 refine wpAny_bind (Gf X I S ?_)
 refine wpAny_bind ((io X S.h7).at ?_)
 simp only[Bool.not_true,Bool.false_eq_true,if_false]
 refine wpAny_bind (wpAny_rule (L4.at ?_))
 exact wpAny_pure h
end
noncomputable def pj(K:Frag)(c:Addr):Bool:=Gc K c&&(isNotIn K "int" c&&(isIn K (.ref c) c&&(jt false (subIn K (.ref c) (.type "int"))&&(jt false (subIn K (.ref c) (.type "bool"))&&Rg (typeIn K (.ref c))))))
structure TabOk (W:Wd) (T:Tab):Prop where
 fn:∀a f,T.fn a=some f→nr W.K (some W.tabs) a=some f
 cls:∀c ns,T.cls c=some ns→pi W.K c=some ns∧pj W.K c=true
 rel:∀c c',(T.cls c).isSome=true→(T.cls c').isSome=true→c≠c'→subIn W.K (.ref c) (.ref c')=some false
theorem Dn{σ:List Addr}{B:Addr→Prop}{h:Heap}{vs:List Value}(r:RepDs σ B h vs []):vs=[]:=by
 induction vs using List.casesOn with
 |nil=>rfl
 |cons _ _=>exact r.elim
theorem rq{σ:List Addr}{B:Addr→Prop}{h:Heap}{vs:List Value}{d:D}{ds:List D}(r:RepDs σ B h vs (d::ds)):∃v vs',vs=v::vs'∧RepD σ B h v d∧RepDs σ B h vs' ds:=by
 induction vs using List.casesOn with
 |nil=>exact r.elim
 |cons v vs'=>exact⟨v,vs',rfl,r.1,r.2⟩
theorem u8{σ:List Addr}{B:Addr→Prop}{h:Heap}{vs:List Value}{d:D}(r:RepDs σ B h vs [d]):∃v,vs=[v]∧RepD σ B h v d:=by
 refine em (rq r) fun v vs' ee2 r1 r2=>?_
 subst ee2
 exact⟨v,by rw[Dn r2],r1⟩
theorem rt{σ:List Addr}{B:Addr→Prop}{h:Heap}{vs:List Value}{d e:D}(r:RepDs σ B h vs [d,e]):∃v u,vs=[v,u]∧RepD σ B h v d∧RepD σ B h u e:=by
 refine em (rq r) fun v vs' ee2 r1 r2=>?_
 subst ee2
 obtain⟨u,rfl,r3⟩:=u8 r2
 exact⟨v,u,rfl,r1,r3⟩
section
variable {W:Wd} {A:Around} {Λ σ:List Addr} {E:Value→Shared→Prop} {s:Shared} {st:Sto} {ds:List D} {vs:List Value} {Q:Value→Shared→Prop}
theorem ir{α β:Type}{Λ:List Addr}{X:Addr→Prop}{Rel:List Addr→Heap→β→α→Prop}{E:Value→Shared→Prop}{σ:List Addr}{s:Shared}{o:Option α}{Q:β→Shared→Prop}(H:Po W Λ X Rel E σ s (ofO st o) Q):∃a,o=some a∧Po W Λ X Rel E σ s (.ok a st) Q:=by
 induction o using Option.casesOn with
 |none=>exact H.elim
 |some a=>exact⟨a,rfl,H⟩
theorem Do(iv:Inv W σ Λ s.heap st)(hr:RepDs σ (Bad σ Λ) s.heap vs ds)(H:Po W Λ NoX (au Λ) E σ s (Q5 ds st) Q):wpAny (model W.prog W.w) A (call (.builtin "abs") vs) Q E s:=by
 replace H:=ir H
 obtain⟨a,e,H⟩:=H
 obtain⟨i,hi,rfl⟩:=zmp e
 cases A5 hi
 obtain⟨v,rfl,t,rfl⟩:=u8 hr
 exact call_abs_int fun u tk=>Po.now H iv ⟨u,rfl⟩
theorem Gg{B:Addr→Prop}{h:Heap}{p:Prop}[Decidable p]{a b:Int}{t t':Tok}:Rep B h (if p then Value.int a t else Value.int b t') (.int (if p then a else b)):=by
 split<;>exact⟨_,rfl⟩
theorem Dp(hh:A.handled=none)(iv:Inv W σ Λ s.heap st)(hr:RepDs σ (Bad σ Λ) s.heap vs ds)(H:Po W Λ NoX (au Λ) E σ s (Q6 ds st) Q):wpAny (model W.prog W.w) A (call (.builtin "min") vs) Q E s:=by
 replace H:=ir H
 obtain⟨d,e,H⟩:=H
 refine f7 (pd e) fun a b ee2 e=>?_
 subst ee2
 (first|subst e|contradiction|(injection e with e;subst e)|cases e)
 obtain⟨v,u,rfl,⟨t,rfl⟩,t',rfl⟩:=rt hr
 exact min_two_ints hh fun h' tk hk=>H σ h' tk _ Fresh.refl (Kp.all hk) (iv.grow hk) (show Rep _ _ _ _ from Gg)
theorem Dq(hh:A.handled=none)(iv:Inv W σ Λ s.heap st)(hr:RepDs σ (Bad σ Λ) s.heap vs ds)(H:Po W Λ NoX (au Λ) E σ s (Q7 ds st) Q):wpAny (model W.prog W.w) A (call (.builtin "max") vs) Q E s:=by
 replace H:=ir H
 obtain⟨d,e,H⟩:=H
 refine f7 (pd e) fun a b ee2 e=>?_
 subst ee2
 (first|subst e|contradiction|(injection e with e;subst e)|cases e)
 obtain⟨v,u,rfl,⟨t,rfl⟩,t',rfl⟩:=rt hr
 exact max_two_ints hh fun h' tk hk=>H σ h' tk _ Fresh.refl (Kp.all hk) (iv.grow hk) (show Rep _ _ _ _ from Gg)
theorem fq{α:Type}{b:Bool}{x y:α}(h:(if b then some x else Option.none)=some y):b=true∧x=y:=by
 induction b using Bool.casesOn with
 |false=>(first|subst h|contradiction|(injection h with h;subst h)|cases h)
 |true=>(first|subst h|contradiction|(injection h with h;subst h)|cases h);exact⟨rfl,rfl⟩
theorem xq{α:Type}{p:Prop}[Decidable p]{x y:α}(h:(if p then some x else Option.none)=some y):p∧x=y:=by
 by_cases q:p
 ·rw[if_pos q]at h;(first|subst h|contradiction|(injection h with h;subst h)|cases h);exact⟨q,rfl⟩
 ·rw[if_neg q]at h;(first|subst h|contradiction|(injection h with h;subst h)|cases h)
theorem u9(iv:Inv W σ Λ s.heap st)(hr:RepDs σ (Bad σ Λ) s.heap vs ds)(H:Po W Λ NoX (au Λ) E σ s (Az ds st) Q):wpAny (model W.prog W.w) A (call (.builtin "divmod") vs) Q E s:=by
 replace H:=ir H
 obtain⟨d,e,H⟩:=H
 refine f7 (pd e) fun a b ee2 e=>?_
 subst ee2
 obtain⟨hd,rfl⟩:=fq e
 obtain⟨h1,h2⟩:=zan hd
 obtain⟨v,u,rfl,⟨t,rfl⟩,t',rfl⟩:=rt hr
 refine divmod_int (of_decide_eq_true h1) (H σ _ _ _ Fresh.refl (Kp.push _) (iv.push _) ?_) (.inl (PyProof.noPylong_of_log2 (of_decide_eq_true h2)))
 exact⟨_,_,0,rfl,iv.newAddr,Heap.get?_push_size _ rfl,⟨_,rfl⟩,⟨_,rfl⟩,trivial⟩
theorem Dr(iv:Inv W σ Λ s.heap st)(hr:RepDs σ (Bad σ Λ) s.heap vs ds)(H:Po W Λ NoX (au Λ) E σ s (Q8 ds st) Q):wpAny (model W.prog W.w) A (call (.builtin "len") vs) Q E s:=by
 replace H:=ir H
 obtain⟨x,e,H⟩:=H
 obtain⟨d,h1,e⟩:=zbd e
 obtain⟨l,hl,e⟩:=zbd e
 obtain⟨hz,hx⟩:=fq e
 subst hx
 cases A3 h1
 obtain⟨v,rfl,r⟩:=u8 hr
 have fin:∀(us:List Value),Reps (Bad σ Λ) s.heap us l→us.toArray.size≤2^20∧Q (.int us.toArray.size (s.toks+1)) { s with toks:=s.toks+1+1 }:=fun us rr=>by
  rw[List.size_toArray,rr.length]
  exact⟨of_decide_eq_true hz,Po.now (tk:=s.toks+1+1) H iv ⟨_,rfl⟩⟩
 have big:∀{n:Nat},n≤2^20→(n:Int)<2^63:=fun h=>by lia
 rcases wg hl with rfl|rfl|⟨j,rfl,hl⟩
 ·have r:Rep (Bad σ Λ) s.heap v (.lst l):=r
  refine ia (Rep.l r) fun a o us n ee4 hb ho hc hd rr=>?_
  subst ee4
  exact Calls.call_len_list ⟨o,ho,hc,n,hd⟩ (big (fin us rr).1) (fin us rr).2
 ·have r:Rep (Bad σ Λ) s.heap v (.tup l):=r
  refine eo (Rep.t r) fun a us n ee3 hb ho rr=>?_
  subst ee3
  exact len_tuple ⟨_,ho,rfl,n,rfl⟩ (big (fin us rr).1) (fin us rr).2
 ·obtain⟨a,ha,rfl⟩:=r
  refine bq (iv.store.2.2 _ a l ha hl) fun us pl rr o_=>?_
  exact Calls.call_len_list pl.isList (big (fin us rr).1) (fin us rr).2
theorem xr(iv:Inv W σ Λ s.heap st)(hfr:∃L m,L∈Λ∧s.heap.Ns L m)(hr:RepDs σ (Bad σ Λ) s.heap vs ds)(H:Po W Λ NoX (au Λ) E σ s (uo ds st) Q):wpAny (model W.prog W.w) A (call (.type "range") vs) Q E s:=by
 obtain⟨L,m,hL,hn⟩:=hfr
 have fr:Fr W.base L s.heap m:=⟨hn,iv.keep,(iv.new _ (.inr hL)).1⟩
 replace H:=ir H
 obtain⟨x,e,H⟩:=H
 generalize hi:Cw ds=zz at e
 induction zz using Option.casesOn with
 |some b=>
  obtain⟨hb,rfl⟩:=xq e
  cases A5 hi
  obtain⟨v,rfl,t,rfl⟩:=u8 hr
  exact range1_rows (news:=[]) fr (fun p hp=>nomatch hp) fun h' tk t1 u1 v1 hR o_ o_ hk=>H σ h' tk _ Fresh.refl (Kp.all hk) (iv.grow hk) (show Rep _ _ _ _ from⟨_,t1,u1,v1,rfl,iv.newAddr,hR⟩)
 |none=>
  refine f7 (pd e) fun a b ee2 e=>?_
  subst ee2
  obtain⟨hb,rfl⟩:=xq e
  obtain⟨v,u,rfl,⟨t,rfl⟩,t',rfl⟩:=rt hr
  exact range2_rows (news:=[]) fr (fun p hp=>nomatch hp) fun h' tk t1 u1 v1 hR o_ o_ hk=>H σ h' tk _ Fresh.refl (Kp.all hk) (iv.grow hk) (show Rep _ _ _ _ from⟨_,t1,u1,v1,rfl,iv.newAddr,hR⟩)
theorem zy{K:Frag}{c:Addr}(h:pj K c=true):Shows K c∧isNotIn K "int" c=true∧isIn K (.ref c) c=true∧subIn K (.ref c) (.type "int")=some false∧subIn K (.ref c) (.type "bool")=some false∧typeIn K (.ref c)=some (.type "type"):=by
 unfold pj at h
 obtain⟨h1,h⟩:=zan h
 obtain⟨h2,h⟩:=zan h
 obtain⟨h3,h⟩:=zan h
 obtain⟨h4,h⟩:=zan h
 obtain⟨h5,h6⟩:=zan h
 exact⟨Ge h1,h2,h3,cq h4,cq h5,J0 h6⟩
theorem TabOk.good{T:Tab}(hT:TabOk W T){c:Addr}(h:(T.cls c).isSome=true):Shows W.K c∧isNotIn W.K "int" c=true∧isIn W.K (.ref c) c=true∧subIn W.K (.ref c) (.type "int")=some false∧subIn W.K (.ref c) (.type "bool")=some false∧typeIn W.K (.ref c)=some (.type "type"):=by
 obtain⟨ns,hns⟩:=Option.isSome_iff_exists.mp h
 exact zy (hT.cls c ns hns).2
theorem xt{v:Value}{c':Addr}{ns:List Str}{l:List V}(r:Rep (Bad σ Λ) s.heap v (.inst c' ns l)):∃x ox od,v=.ref x∧PySem.W.InstAt s.heap x ox c' (some od):=by
 refine uv (Rep.i r) fun x dx es n ee4 nx nd ox od ky rr=>?_
 subst ee4
 obtain⟨oi,sl,I⟩:=uz ox od
 exact⟨x,oi,_,rfl,I⟩
theorem z0{T:Tab}{x:V}{t:String}{b:Bool}{v:Value}(hT:TabOk W T)(iv:Inv W σ Λ s.heap st)(r1:Rep (Bad σ Λ) s.heap v x)(hb:Q2 T x t=some b)(q:∀tk,Q (.bool b) { s with toks:=tk }):wpAny (model W.prog W.w) A (call (.builtin "isinstance") [v,.type t]) Q E s:=by
 have X:=ak iv
 induction x using Mine.V.casesOn with
 |int i=>
  obtain⟨u,rfl⟩:=r1
  by_cases h1:(t=="int")=true
  ·have hb:(if t=="int"then some true else if t=="bool"then some false else Option.none)=some b:=hb
   rw[if_pos h1]at hb;(first|subst hb|contradiction|(injection hb with hb;subst hb)|cases hb)
   rw[eq_of_beq h1];exact IsiPair.int_int (q s.toks)
  ·have hb:(if t=="int"then some true else if t=="bool"then some false else Option.none)=some b:=hb
   rw[if_neg h1]at hb
   obtain⟨h2,rfl⟩:=fq hb
   rw[eq_of_beq h2];exact IsiPair.int_bool (q _)
 |bool i=>
  have r1:v=.bool i:=r1
  subst r1
  obtain⟨ht,rfl⟩:=fq hb
  rcases Bool.or_eq_true_iff.mp ht with ht|ht
  ·rw[eq_of_beq ht];exact IsiPair.bool_int (q s.toks)
  ·rw[eq_of_beq ht];exact IsiPair.bool_bool (q s.toks)
 |inst c ns l=>
  obtain⟨ht,rfl⟩:=fq hb
  obtain⟨ht,hc⟩:=zan ht
  refine ut (hT.good hc) fun g1 o_ o_ g4 g5 o_=>?_
  refine qi (xt r1) fun x ox od ee3 I=>?_
  subst ee3
  rcases Bool.or_eq_true_iff.mp ht with ht|ht
  ·rw[eq_of_beq ht];exact ro X I g1 rfl (fun M=>Looks.of_pure (by kernel_rfl)) (fun M=>Looks.of_pure rfl) g4 (q _)
  ·rw[eq_of_beq ht];exact ro X I g1 rfl (fun M=>Looks.of_pure (by kernel_rfl)) (fun M=>Looks.of_pure rfl) g5 (q _)
 |_=>(first|subst hb|contradiction|(injection hb with hb;subst hb)|cases hb)
theorem z5{T:Tab}{x:V}{c:Addr}{b:Bool}{v:Value}(hT:TabOk W T)(iv:Inv W σ Λ s.heap st)(r1:Rep (Bad σ Λ) s.heap v x)(hb:Q3 T x c=some b)(q:∀tk,Q (.bool b) { s with toks:=tk }):wpAny (model W.prog W.w) A (call (.builtin "isinstance") [v,.ref c]) Q E s:=by
 have X:=ak iv
 induction x using Mine.V.casesOn with
 |int i=>
  obtain⟨u,rfl⟩:=r1
  obtain⟨hc,rfl⟩:=fq hb
  exact isn_call (P:=fun o_=>True) X (fun M=>Looks.of_pure rfl) (hT.good hc).2.1 (by intro e;(first|subst e|contradiction|(injection e with e;subst e)|cases e)) trivial int_cls (q _)
 |inst c' ns l=>
  obtain⟨hc,rfl⟩:=fq hb
  obtain⟨h1,h2⟩:=zan hc
  refine qi (xt r1) fun x ox od ee3 I=>?_
  subst ee3
  refine ut (hT.good h1) fun g1 g2 g3 g4 g5 g6=>?_
  by_cases hcc:c=c'
  ·subst hcc
   rw[beq_self_eq_true]at q
   exact isi_call X (fun M=>I.type) g3 (by intro e;(first|subst e|contradiction|(injection e with e;subst e)|cases e)) (q s.toks)
  ·rw[beq_eq_false_iff_ne.mpr hcc]at q
   exact ro X I (hT.good h2).1 (beq_eq_false_iff_ne.mpr fun e=>hcc (by(first|subst e|contradiction|(injection e with e;subst e)|cases e);rfl)) (fun M=>looks_typeIn X g6) (fun M=>io X g1.h7) (hT.rel c' c h2 h1 fun e=>hcc e.symm) (q _)
 |_=>(first|subst hb|contradiction|(injection hb with hb;subst hb)|cases hb)
theorem Ds{T:Tab}(hT:TabOk W T)(iv:Inv W σ Λ s.heap st)(hr:RepDs σ (Bad σ Λ) s.heap vs ds)(H:Po W Λ NoX (au Λ) E σ s (Q4 T ds st) Q):wpAny (model W.prog W.w) A (call (.builtin "isinstance") vs) Q E s:=by
 replace H:=ir H
 obtain⟨y,e,H⟩:=H
 obtain⟨d,h1,e⟩:=zbd e
 obtain⟨d',h2,e⟩:=zbd e
 obtain⟨x,h3,e⟩:=zbd e
 obtain⟨c,h4,e⟩:=zbd e
 obtain⟨b,hb,rfl⟩:=zmp e
 cases A4 h1 h2
 cases Tt h3
 cases Ek h4
 refine em (rt hr) fun v u ee2 r1 hu=>?_
 subst ee2
 have hu:u=c:=hu
 subst hu
 have q:∀tk,Q (.bool b) { s with toks:=tk }:=fun tk=>Po.now (tk:=tk) H iv rfl
 cases u with
 |type t=>exact z0 hT iv r1 hb q
 |ref c=>exact z5 hT iv r1 hb q
 |_=>(first|subst hb|contradiction|(injection hb with hb;subst hb)|cases hb)
theorem z6{T:Tab}{v:Value}(hA:A.handled=none)(hT:TabOk W T)(iv:Inv W σ Λ s.heap st)(hfr:∃L m,L∈Λ∧s.heap.Ns L m)(hr:RepDs σ (Bad σ Λ) s.heap vs ds)
 (H:Po W Λ NoX (au Λ) E σ s (Cy T v ds st) Q):wpAny (model W.prog W.w) A (call v vs) Q E s:=by
 cases v with
 |builtin b=>
  exact Po.alt H (fun q H=>eq_of_beq q▸Ds hT iv hr H) fun H=>Po.alt H (fun q H=>eq_of_beq q▸Do iv hr H) fun H=>Po.alt H (fun q H=>eq_of_beq q▸Dp hA iv hr H) fun H=>
   Po.alt H (fun q H=>eq_of_beq q▸Dq hA iv hr H) fun H=>Po.alt H (fun q H=>eq_of_beq q▸Dr iv hr H) fun H=>Po.ifS H fun q H=>eq_of_beq q▸u9 iv hr H
 |type t=>exact Po.ifS H fun q H=>eq_of_beq q▸xr iv hfr hr H
 |_=>exact H.elim
end
theorem CxOk.push{W:Wd}{C:Cx}(h:CxOk W C)(L:Addr):CxOk (W.push L) C:=⟨h.G,h.able,h.meth,h.attr,h.tk⟩
theorem ExOk.push{W:Wd}{C:Cx}(h:ExOk W C)(L:Addr):ExOk (W.push L) C:=⟨h.xc,h.sub⟩
theorem TabOk.push{W:Wd}{T:Tab}(h:TabOk W T)(L:Addr):TabOk (W.push L) T:=⟨h.fn,h.cls,h.rel⟩
theorem TdOk.push{W:Wd}{C:Cx}(h:TdOk W C)(L:Addr):TdOk (W.push L) C:=fun a td e=>(h a td e).imp fun o_ h=>h.imp fun o_ h=>⟨h.fn,h.ps,h.sc,h.nb,h.body,h.form⟩
theorem kc{C:Cx}{T:Tab}:∀(n:Nat) (W:Wd) (A:Around),CxOk W C→ExOk W C→TdOk W C→TabOk W T→Stk A W→A.handled=none→A.depth+4*n+12<recursionLimit→A.units+12*n+150<cLine→CS W A (R C T n)
 |0,_,_,_,_,_,_,_,_,_,_=>fun o_ o_ o_ o_ o_ o_ o_ o_ o_ o_ o_ o_ H=>H.elim
 |n+1,W,A,hC,hX,hD,hT,hK,h1,h2,h3=>fun Λ d ds v vs E σ s st Q iv pre H=>by
  obtain⟨hfr,rd,rds⟩:=pre
  have h2':A.depth+4*n+16<recursionLimit:=h2
  have h3':A.units+12*n+162<cLine:=h3
  have ih:=fun env L hK'=>kc n (W.push L) (A.deeper env) (hC.push L) (hX.push L) (hD.push L) (hT.push L) hK' h1 (show A.depth+1+4*n+12<_ from bd h2' (by decide)) (show A.units+3+12*n+150<_ from bd h3' (by decide))
  have ih2:=fun env L env1 L1 hK'=>kc n ((W.push L).push L1) ((A.deeper env).deeper env1) ((hC.push L).push L1) ((hX.push L).push L1) ((hD.push L).push L1) ((hT.push L).push L1) hK' h1 (show A.depth+2+4*n+12<_ from bd h2' (by decide)) (show A.units+6+12*n+150<_ from bd h3' (by decide))
  have ih3:=fun env L env1 L1 env2 L2 hK'=>kc n (((W.push L).push L1).push L2) (((A.deeper env).deeper env1).deeper env2) (((hC.push L).push L1).push L2) (((hX.push L).push L1).push L2) (((hD.push L).push L1).push L2) (((hT.push L).push L1).push L2) hK' h1 (show A.depth+3+4*n+12<_ from bd h2' (by decide)) (show A.units+9+12*n+150<_ from bd h3' (by decide))
  change Po W Λ NoX (au Λ) E σ s (Em C T (R C T n) d ds st) Q at H
  unfold Em at H
  generalize hv:wl d=z at H
  induction z using Option.casesOn with
  |none=>exact H.elim
  |some w=>
  have hv:=Ek hv
  subst hv
  have rd:v=w:=rd
  subst rd
  dsimp only at H
  generalize ha:kv v=z at H
  induction z using Option.casesOn with
  |some a=>
   have ha:=j5 ha
   subst ha
   dsimp only at H
   generalize hf:T.fn a=zz at H
   induction zz using Option.casesOn with
   |some f=>
    exact s8 (bd0 (k:=0) h2' (by decide)) hK (hT.fn a f hf) (fun env L hK'=>(Bn (A:=A.deeper env) h1 (show A.depth+5<_ from bd0 h2' (by decide)) (show A.units+93<_ from bd0 h3' (by decide)) (hC.push L) (hX.push L) (ih env L hK') (rn (A:=A.deeper env) h1 (show A.depth+4<_ from bd0 h2' (by decide)) (show A.units+103<_ from bd0 h3' (by decide)) hK' (hC.push L) (hX.push L) (fun o_=>(hC.push L).push _) (fun o_=>(hX.push L).push _) (fun o_ o_=>((hC.push L).push _).push _) (hD.push L) (fun env1 L1 q=>ih2 env L env1 L1 q) (fun env1 L1 env2 L2 q=>ih3 env L env1 L1 env2 L2 q)) 64).2.2) iv rds H
   |none=>
    dsimp only at H
    generalize hns:T.cls a=zz at H
    induction zz using Option.casesOn with
    |some ns=>exact Po.ifP H fun hl H=>Gb (bd0 h2' (by decide)) (hT.cls a ns hns).1 hl iv rds H
    |none=>exact H.elim
  |none=>exact z6 h1 hT iv hfr rds H
end Mine
end
section
open PySem PySem.W
namespace Mine
noncomputable def Ok{α:Type}(r:Out α)(Q:α→Sto→Prop)(E:V→Sto→Prop):Prop:=
 match r with
 |.ok a st=>Q a st
 |.exc x st=>E x st
 |.stuck=>False
section
variable {α β:Type} {E:V→Sto→Prop} {st:Sto}
theorem Ok.bind{r:Out α}{f:α→Sto→Out β}{Q:β→Sto→Prop}(h:Ok r (fun a st=>Ok (f a st) Q E) E):Ok (r.bind f) Q E:=by
 induction r using Out.casesOn with
 |ok a st=>exact h
 |exc x st=>exact h
 |stuck=>exact h
theorem Ok.mono{r:Out α}{Q Q':α→Sto→Prop}(h:Ok r Q E)(k:∀a st,Q a st→Q' a st):Ok r Q' E:=by
 induction r using Out.casesOn with
 |ok a st=>exact k _ _ h
 |exc x st=>exact h
 |stuck=>exact h
noncomputable abbrev NoE:V→Sto→Prop:=fun o_ o_=>False
theorem Ok.noE{r:Out α}{Q:α→Sto→Prop}(h:Ok r Q NoE):Ok r Q E:=by
 induction r using Out.casesOn with
 |ok a st=>exact h
 |exc x st=>exact(h:False).elim
 |stuck=>exact h
theorem Ok.quiet{r:Out α}{Q:α→Sto→Prop}(h:Ok r Q NoE):Ok r.quiet Q E:=by
 induction r using Out.casesOn with
 |ok a st=>exact h
 |exc x st=>exact h
 |stuck=>exact h
end
section
variable {C:Cx} {Φ:D→List D→Sto→Out D} {n:Nat} {sc:Scope} {ρ:En} {st:Sto} {E:V→Sto→Prop}
noncomputable def Bp(C:Cx)(sc:Scope)(ρ:En)(x:Str):Option D:=
 if bf x then none else if f0 sc x then ρ.lookup x else if sc.names.lookup x==some .globalImplicit then (C.G x).map fun v=>D.v (gV v)else none
theorem Rk{α:Type}{r:Out Bool}{a b:Sto→Out α}{Q:α→Sto→Prop}(h:Ok r (fun t st=>(t=true→Ok (a st) Q E)∧(t=false→Ok (b st) Q E)) E):Ok (r.bind fun t st=>if t then a st else b st) Q E:=
 Ok.bind (h.mono fun t st h=>by
  induction t using Bool.casesOn with
  |true=>exact h.1 rfl
  |false=>exact h.2 rfl)
theorem vc{f:PySem.Expr→Sto→Out D}{e e':PySem.Expr}{es:List PySem.Expr}{Q:D→Sto→Prop}(h:Ok (f e st) (fun d st₁=>∃t,c8 d=some t∧(t=false→Q d st₁)∧(t=true→Ok (boolV f .And (e'::es) st₁) Q E)) E):Ok (boolV f .And (e::e'::es) st) Q E:=by
 rw[uw]
 refine Ok.bind (h.mono fun d st₁ h=>?_)
 obtain⟨t,e,q⟩:=h
 rw[e]
 induction t using Bool.casesOn with
 |true=>exact q.2 rfl
 |false=>exact q.1 rfl
theorem xu{f:PySem.Expr→Sto→Out D}{e e':PySem.Expr}{es:List PySem.Expr}{Q:D→Sto→Prop}(h:Ok (f e st) (fun d st₁=>∃t,c8 d=some t∧(t=true→Q d st₁)∧(t=false→Ok (boolV f .Or (e'::es) st₁) Q E)) E):Ok (boolV f .Or (e::e'::es) st) Q E:=by
 rw[uw]
 refine Ok.bind (h.mono fun d st₁ h=>?_)
 obtain⟨t,e,q⟩:=h
 rw[e]
 induction t using Bool.casesOn with
 |true=>exact q.1 rfl
 |false=>exact q.2 rfl
theorem vd{put:V→En→Option En}{test:En→Sto→Out Bool}{elt:En→Sto→Out D}{acc:List V}{Q:List V→Sto→Prop}(q:Q acc st):Ok (a8 put test elt [] ρ acc st) Q E:=q
theorem s9{put:V→En→Option En}{test:En→Sto→Out Bool}{elt:En→Sto→Out D}{x:V}{r acc:List V}{ρ₁:En}{Q:List V→Sto→Prop}(hp:put x ρ=some ρ₁)
 (h:Ok (test ρ₁ st) (fun b st₁=>(b=true→Ok (elt ρ₁ st₁) (fun d st₂=>∃y,d=.v y∧cf acc.length=true∧Ok (a8 put test elt r ρ₁ (acc++[y]) st₂) Q E) NoE)∧(b=false→Ok (a8 put test elt r ρ₁ acc st₁) Q E)) NoE):Ok (a8 put test elt (x::r) ρ acc st) Q E:=by
 rw[Ax]
 rw[hp]
 refine Ok.bind (Ok.quiet h|>.mono fun b st₁ h=>?_)
 induction b using Bool.casesOn with
 |true=>
  refine Ok.bind (Ok.quiet (h.1 rfl)|>.mono fun d st₂ h=>?_)
  obtain⟨y,rfl,h1,h2⟩:=h
  dsimp only
  rw[if_pos h1]
  exact h2
 |false=>exact h.2 rfl
theorem xv{f:PySem.Expr→Sto→Out Bool}{e:PySem.Expr}{es:List PySem.Expr}{Q:Bool→Sto→Prop}(h:Ok (f e st) (fun b st₁=>(b=true→Ok (allT f .And es st₁) Q E)∧(b=false→Q false st₁)) E):Ok (allT f .And (e::es) st) Q E:=by
 rw[Ed]
 exact Ok.bind (h.mono fun b st₁ h=>by cases b with
  |true=>exact h.1 rfl
  |false=>exact h.2 rfl)
theorem z7{f:PySem.Expr→Sto→Out Bool}{e:PySem.Expr}{es:List PySem.Expr}{Q:Bool→Sto→Prop}(h:Ok (f e st) (fun b st₁=>(b=true→Q true st₁)∧(b=false→Ok (allT f .Or es st₁) Q E)) E):Ok (allT f .Or (e::es) st) Q E:=by
 rw[Ee]
 exact Ok.bind (h.mono fun b st₁ h=>by cases b with
  |true=>exact h.1 rfl
  |false=>exact h.2 rfl)
noncomputable def Rl(f:En→Stmt→Sto→Out (Fl×En))(r:List Stmt)(Q:Fl×En→Sto→Prop)(E:V→Sto→Prop)(p:Fl×En)(st:Sto):Prop:=
 match p.1 with
 |.next=>Ok (exs f r p.2 st) Q E
 |fl=>Q (fl,p.2) st
theorem xw{f:En→Stmt→Sto→Out (Fl×En)}{s:Stmt}{r:List Stmt}{Q:Fl×En→Sto→Prop}(h:Ok (f ρ s st) (Rl f r Q E) E):Ok (exs f (s::r) ρ st) Q E:=by
 rw[L7]
 refine Ok.bind (h.mono fun p st₁ h=>?_)
 obtain⟨fl,ρ₁⟩:=p
 cases fl<;>exact h
noncomputable def again(I:En→Sto→Prop)(Q:Fl×En→Sto→Prop)(p:Fl×En)(st:Sto):Prop:=
 match p.1 with
 |.next=>I p.2 st
 |.cont=>I p.2 st
 |.brk=>Q (.next,p.2) st
 |.ret d=>Q (.ret d,p.2) st
theorem Gh{tst:En→Sto→Out Bool}{body:En→Sto→Out (Fl×En)}{Q:Fl×En→Sto→Prop}(I:Nat→En→Sto→Prop)
 (h:∀k ρ st,I k ρ st→Ok (tst ρ st) (fun t st₁=>(t=true→Ok (body ρ st₁) (again (fun ρ st=>∃k',k'<k∧I k' ρ st) Q) NoE)∧(t=false→Q (.next,ρ) st₁)) NoE):
 ∀(k N:Nat) (ρ:En) (st:Sto),k<N→I k ρ st→Ok (fj tst body N ρ st) Q E:=by
 intro k
 induction k using Nat.strongRecOn with
 |ind k ih=>
  intro N ρ st hk hI
  obtain⟨N,rfl⟩:∃M,N=M+1:=⟨N-1,by lia⟩
  rw[wf]
  refine Rk (Ok.quiet (h k ρ st hI)|>.mono fun t st₁ h=>⟨fun e=>?_,fun e=>h.2 e⟩)
  refine Ok.bind (Ok.quiet (h.1 e)|>.mono fun p st₂ h=>?_)
  obtain⟨fl,ρ₂⟩:=p
  induction fl using Fl.casesOn with
  |next=>
   obtain⟨k',hk',h⟩:=h
   exact ih k' hk' N ρ₂ st₂ (by lia) h
  |cont=>
   obtain⟨k',hk',h⟩:=h
   exact ih k' hk' N ρ₂ st₂ (by lia) h
  |brk=>exact h
  |ret d=>exact h
theorem ve{put:V→En→Option En}{body:En→Sto→Out (Fl×En)}{Q:Fl×En→Sto→Prop}(I:List V→En→Sto→Prop)
 (h0:∀ρ st,I [] ρ st→Q (.next,ρ) st)
 (h:∀x r ρ st,I (x::r) ρ st→∃ρ₁,put x ρ=some ρ₁∧Ok (body ρ₁ st) (again (I r) Q) E):
 ∀(l:List V) (ρ:En) (st:Sto),I l ρ st→Ok (fz put body l ρ st) Q E
 |[],ρ,st,hI=>h0 ρ st hI
 |x::r,ρ,st,hI=>by
  rw[Eg]
  obtain⟨ρ₁,h1,h2⟩:=h x r ρ st hI
  rw[h1]
  refine Ok.bind (h2.mono fun p st₂ h'=>?_)
  obtain⟨fl,ρ₂⟩:=p
  induction fl using Fl.casesOn with
  |next=>exact ve I h0 h r ρ₂ st₂ h'
  |cont=>exact ve I h0 h r ρ₂ st₂ h'
  |brk=>exact h'
  |ret d=>exact h'
end
theorem Rm{C:Cx}{T:Tab}{n:Nat}{a:Addr}{f:FnI}{ds:List D}{st:Sto}{Q:D→Sto→Prop}{E:V→Sto→Prop}(h0:T.fn a=some f)(h:Ok (f3 C (R C T n) f ds st) Q E):Ok (R C T (n+1) (.v (.val (.ref a))) ds st) Q E:=by
 show Ok (match T.fn a with|some f=>_|none=>_) Q E
 rw[h0]
 exact h
theorem On{C:Cx}{T:Tab}{n:Nat}{a:Addr}{ns:List Str}{ds:List D}{l:List V}{st:Sto}{Q:D→Sto→Prop}{E:V→Sto→Prop}(h0:T.fn a=none)(h1:T.cls a=some ns)(h2:ns.length=ds.length)(h3:cj ds=some l)(q:Q (.v (.inst a ns l)) st):Ok (R C T (n+1) (.v (.val (.ref a))) ds st) Q E:=by
 show Ok (match T.fn a with|some f=>_|none=>_) Q E
 rw[h0,h1]
 dsimp only
 rw[if_pos h2,h3]
 exact q
/-! what must hold,reckoned by the kernel -/
noncomputable abbrev KD:=D→Sto→Prop
noncomputable abbrev KV:=V→Sto→Prop
structure CallK (r:Out D) (K:KD) (E:KV):Prop where of::
 ok:Ok r K E
structure LoopK {α:Type} (r:Out α) (K:α→Sto→Prop) (E:KV):Prop where of::
 ok:Ok r K E
structure Side (p:Prop):Prop where of::
 get:p
noncomputable def optK{α:Type}(o:Option α)(k:α→Prop):Prop:=
 match o with
 |some a=>k a
 |none=>False
theorem optK.get{α:Type}{o:Option α}{k:α→Prop}(h:optK o k):∃a,o=some a∧k a:=by
 induction o using Option.casesOn with
 |none=>exact h.elim
 |some a=>exact⟨a,rfl,h⟩
theorem optK.of{α:Type}{o:Option α}{k:α→Prop}{a:α}(h:o=some a)(q:k a):optK o k:=by rw[h];exact q
noncomputable def brK(t:Bool)(p q:Prop):Prop:=@Bool.rec (fun o_=>Prop) q p t
noncomputable def binIK(op:Operator)(x y:Int)(k:V→Prop):Prop:=
 match op with
 |.Add=>k (.int (x+y))
 |.Sub=>k (.int (x-y))
 |.Mult=>Side (p7 x y=true)∧k (.int (x*y))
 |.FloorDiv=>Side (wd y=true)∧k (.int (x.fdiv y))
 |.Mod=>Side (y≠0)∧k (.int (x.fmod y))
 |.Pow=>Side (0≤y∧(Builtin.Int.intBits x:Int)*y≤2^27)∧k (.int (x^y.toNat))
 |.LShift=>Side (0≤y∧(Builtin.Int.intBits x:Int)+y≤2^27)∧k (.int (x*2^y.toNat))
 |.RShift=>Side (0≤y)∧k (.int (x.fdiv (2^y.toNat)))
 |.BitAnd=>k (.int (Builtin.bitAnd x y))
 |_=>False
theorem binIK.get{op:Operator}{x y:Int}{k:V→Prop}(h:binIK op x y k):∃z,Nd op x y=some z∧k (.int z):=by
 cases op with
 |Add=>exact⟨_,rfl,h⟩
 |Sub=>exact⟨_,rfl,h⟩
 |Mult=>exact⟨_,if_pos h.1.get,h.2⟩
 |FloorDiv=>exact⟨_,if_pos h.1.get,h.2⟩
 |Mod=>exact⟨_,if_neg h.1.get,h.2⟩
 |Pow=>exact⟨_,if_pos h.1.get,h.2⟩
 |LShift=>exact⟨_,if_pos h.1.get,h.2⟩
 |RShift=>exact⟨_,if_pos h.1.get,h.2⟩
 |BitAnd=>exact⟨_,rfl,h⟩
 |_=>exact h.elim
noncomputable def binK(op:Operator)(a b:D)(k:V→Prop):Prop:=
 match bw a with
 |some x=>(match bw b with
  |some y=>binIK op x y k
  |none=>optK (Ea op a b) k)
 |none=>optK (Ea op a b) k
theorem binK.get{op:Operator}{a b:D}{k:V→Prop}(h:binK op a b k):∃v,lu op a b=some v∧k v:=by
 unfold binK at h
 unfold lu
 generalize ha:bw a=zz
 induction zz using Option.casesOn with
 |none=>rw[ha]at h;exact h.get
 |some x=>
  rw[ha]at h
  generalize hb:bw b=zz
  induction zz using Option.casesOn with
  |none=>rw[hb]at h;exact h.get
  |some y=>
   rw[hb]at h
   obtain⟨z,h1,h2⟩:=binIK.get h
   exact⟨.int z,by dsimp only;rw[h1];rfl,h2⟩
noncomputable def z8:D→Option Str
 |.v (.str x)=>some x
 |_=>none
noncomputable def nu(x y:Str):Bool:=SeqAt.shaped (.str x)&&SeqAt.shaped (.str y)
noncomputable def Gi(op:CmpOp)(a b:D)(st:Sto)(k:Bool→Prop):Prop:=∃c,d7 op a b st=some c∧k c
noncomputable def cmpK(op:CmpOp)(a b:D)(st:Sto)(k:Bool→Prop):Prop:=
 match bw a with
 |some x=>(match bw b with
  |some y=>optK (Nc op x y) k
  |none=>Gi op a b st k)
 |none=>(match z8 a with
  |some x=>(match z8 b with
   |some y=>(match op with
    |.Eq=>Side (nu x y=true)∧k (x==y)
    |.NotEq=>Side (nu x y=true)∧k (!(x==y))
    |_=>False)
   |none=>Gi op a b st k)
  |none=>Gi op a b st k)
theorem Gj{d:D}{i:Str}(h:z8 d=some i):d=.v (.str i):=by
 obtain⟨y,rfl,hy⟩:=onV (f:=z8) (k:=3) (fun o_=>rfl) (fun x=>by cases x<;>exact T1) h
 exact V.str.elim (motive_1:=fun y=>z8 (.v y)=some i→D.v y=.v (.str i)) y hy (fun j h=>by cases h;rfl) h
theorem Bq{x y:Str}{st:Sto}(h:nu x y=true):eqD (.v (.str x)) (.v (.str y)) st=some (x==y):=by
 show Option.or (if nu x y then some (PyData.eqv (.str x) (.str y))else none) _=_
 rw[if_pos h]
 unfold PyData.eqv;rfl
theorem cmpK.get{op:CmpOp}{a b:D}{st:Sto}{k:Bool→Prop}(h:cmpK op a b st k):∃c,cmp op a b st=some c∧k c:=by
 unfold cmpK at h
 unfold cmp
 generalize ha:bw a=zz
 induction zz using Option.casesOn with
 |some x=>
  rw[ha]at h
  generalize hb:bw b=zz
  induction zz using Option.casesOn with
  |none=>rw[hb]at h;exact h
  |some y=>rw[hb]at h;exact h.get
 |none=>
  rw[ha]at h
  generalize ha':z8 a=zz
  induction zz using Option.casesOn with
  |none=>rw[ha']at h;exact h
  |some x=>
   rw[ha']at h
   generalize hb':z8 b=zz
   induction zz using Option.casesOn with
   |none=>rw[hb']at h;exact h
   |some y=>
    rw[hb']at h
    rw[Gj ha',Gj hb']
    cases op with
    |Eq=>exact⟨_,Bq (st:=st) h.1.get,h.2⟩
    |NotEq=>exact⟨_,by show(eqD _ _ st).map not=_;rw[Bq h.1.get];rfl,h.2⟩
    |_=>exact h.elim
noncomputable def eu(p:Fl×En)(st:Sto)(k:En→Sto→Prop)(K:Fl×En→Sto→Prop):Prop:=
 match p.1 with
 |.next=>k p.2 st
 |fl=>K (fl,p.2) st
noncomputable def outK{α:Type}(r:Out α)(K:α→Sto→Prop):Prop:=
 match r with
 |.ok a st=>K a st
 |_=>False
theorem outK.ok{α:Type}{r:Out α}{K:α→Sto→Prop}{E:KV}(h:outK r K):Ok r K E:=by
 induction r using Out.casesOn with
 |ok a st=>exact h
 |exc _ _=>exact h.elim
 |stuck=>exact h.elim
noncomputable def forceK(K:KD)(d:D)(st:Sto):Prop:=
 match bw d with
 |some i=>K (.v (.int i)) st
 |none=>K d st
theorem forceK.get{K:KD}{d:D}{st:Sto}(h:forceK K d st):K d st:=by
 unfold forceK at h
 generalize e:bw d=zz
 induction zz using Option.casesOn with
 |none=>rw[e]at h;exact h
 |some i=>rw[e]at h;rw[ej e];exact h
noncomputable def Tx(T:Tab)(ds:List D)(st:Sto)(K:KD):Prop:=optK (wj ds) fun d=>optK (wk ds) fun e=>optK (vD d) fun x=>optK (wl e) fun c=>optK (Ej T x c) fun b=>K (.v (.bool b)) st
noncomputable def int2K(ds:List D)(k:Int→Int→Prop):Prop:=optK (wj ds) fun d=>optK (wk ds) fun e=>optK (bw d) fun a=>optK (bw e) fun b=>k a b
noncomputable def bin1K(T:Tab)(v:Value)(ds:List D)(st:Sto)(K:KD):Prop:=
 match v with
 |.builtin b=>
  if b=="isinstance"then Tx T ds st K
  else if b=="divmod"then int2K ds fun a b=>Side (wd b=true)∧K (.v (.tup [.int (a.fdiv b),.int (a.fmod b)])) st
  else if b=="len"then optK (Iz ds) fun d=>optK (we d st) fun l=>Side (cf l.length=true)∧K (.v (.int l.length)) st
  else outK (Cy T v ds st) (forceK K)
 |.type t=>if t=="range"then (match Cw ds with
   |some b=>Side (b.natAbs<2^20)∧K (.v (.rng 0 b)) st
   |none=>int2K ds fun a b=>Side (a.natAbs<2^20∧b.natAbs<2^20)∧K (.v (.rng a b)) st)
  else outK (Cy T v ds st) (forceK K)
 |_=>False
theorem xx{α:Type}{o:Option α}{st:Sto}{K:α→Sto→Prop}{E:KV}(a:α)(e:o=some a)(q:K a st):Ok (ofO st o) K E:=by rw[e];exact q
theorem int2K.get{α:Type}{ds:List D}{k:Int→Int→Prop}(f:Int→Int→Option α)(h:int2K ds k):∃a b,yx ds f=f a b∧k a b:=by
 obtain⟨d,h1,h⟩:=optK.get h
 obtain⟨e,h2,h⟩:=optK.get h
 obtain⟨a,h3,h⟩:=optK.get h
 obtain⟨b,h4,h⟩:=optK.get h
 refine⟨a,b,?_,h⟩
 unfold yx
 rw[h1,h2]
 show(bw d).bind (fun a=>(bw e).bind fun b=>f a b)=_
 rw[h3,h4];rfl
theorem bin1K.ok{T:Tab}{v:Value}{ds:List D}{st:Sto}{K:KD}{E:KV}(h:bin1K T v ds st K):Ok (Cy T v ds st) K E:=by
 cases v with
 |builtin b=>
  change (if b=="isinstance"then _ else _)at h
  by_cases q:(b=="isinstance")=true
  ·rw[if_pos q]at h
   rw[eq_of_beq q]
   obtain⟨d,h1,h⟩:=optK.get h
   obtain⟨e,h2,h⟩:=h.get
   obtain⟨x,h3,h⟩:=h.get
   obtain⟨c,h4,h⟩:=h.get
   obtain⟨b,h5,h⟩:=h.get
   refine xx _ ?_ h
   rw[h1,h2]
   show(vD d).bind (fun x=>(wl e).bind fun c=>(Ej T x c).map fun b=>D.v (.bool b))=_
   rw[h3,h4]
   show(Ej T x c).map _=_
   rw[h5];rfl
  rw[if_neg q]at h
  by_cases q2:(b=="divmod")=true
  ·rw[if_pos q2]at h
   rw[eq_of_beq q2]
   obtain⟨x,y,e,h1,h2⟩:=int2K.get (fun a b=>if wd b then some (D.v (.tup [.int (a.fdiv b),.int (a.fmod b)]))else Option.none) h
   exact xx _ (e.trans (if_pos h1.get)) h2
  rw[if_neg q2]at h
  by_cases q3:(b=="len")=true
  ·rw[if_pos q3]at h
   rw[eq_of_beq q3]
   obtain⟨d,h1,h⟩:=optK.get h
   obtain⟨l,h2,h3,h4⟩:=h.get
   refine xx _ ?_ h4
   rw[h1]
   show(we d st).bind _=_
   rw[h2]
   exact if_pos h3.get
  rw[if_neg q3]at h
  exact h.ok.mono fun o_ o_=>forceK.get
 |type t=>
  change (if t=="range"then _ else _)at h
  by_cases q:(t=="range")=true
  ·rw[if_pos q]at h
   rw[eq_of_beq q]
   show Ok (uo ds st) K E
   unfold uo
   generalize hi:Cw ds=zz
   induction zz using Option.casesOn with
   |some b=>rw[hi]at h;exact xx _ (if_pos h.1.get) h.2
   |none=>
    rw[hi]at h
    obtain⟨x,y,e,h1,h2⟩:=int2K.get (fun a b=>if a.natAbs<2^20∧b.natAbs<2^20 then some (D.v (.rng a b))else Option.none) h
    exact xx _ (e.trans (if_pos h1.get)) h2
  rw[if_neg q]at h
  exact h.ok.mono fun o_ o_=>forceK.get
 |_=>exact h.elim
noncomputable def callK(C:Cx)(T:Tab)(m:Nat)(v:Value)(ds:List D)(st:Sto)(K:KD)(E:KV):Prop:=
 match kv v with
 |some a=>(match T.fn a with
  |some _=>CallK (R C T (m+1) (.v (.val v)) ds st) K E
  |none=>optK (T.cls a) fun ns=>if ns.length=ds.length then optK (cj ds) fun l=>K (.v (.inst a ns l)) st else False)
 |none=>bin1K T v ds st K
theorem callK.ok{C:Cx}{T:Tab}{m:Nat}{v:Value}{ds:List D}{st:Sto}{K:KD}{E:KV}(h:callK C T m v ds st K E):Ok (R C T (m+1) (.v (.val v)) ds st) K E:=by
 unfold callK at h
 generalize ha:kv v=z at h
 induction z using Option.casesOn with
 |some a=>
  dsimp only at h
  generalize hf:T.fn a=z at h
  induction z using Option.casesOn with
  |some f=>exact h.ok
  |none=>
   obtain⟨ns,h1,h⟩:=h.get
   by_cases hl:ns.length=ds.length
   ·rw[if_pos hl]at h
    obtain⟨l,h2,h⟩:=h.get
    rw[j5 ha]
    exact On hf h1 hl h2 h
   ·rw[if_neg hl]at h;exact h.elim
 |none=>
  show Ok (match kv v with
   |Option.none=>Cy T v ds st
   |some a=>_) K E
  rw[ha]
  exact h.ok
noncomputable def gr(C:Cx)(J:Scope→En→PySem.Expr→Sto→Out D)(sc:Scope)(ρ:En)(c:Addr)(ns:List Str)(l:List V):List ExceptHandler→Sto→(Fl×En→Sto→Prop)→Prop
 |[],_,_=>False
 |h::r,st,K=>(match jg h with
  |none=>False
  |some p=>(match kz C sc p.1 with
   |some hc=>(match C.esub c hc with
    |some true=>if sc.names.lookup p.2.1==some .local then LoopK (J sc (dg p.2.1 (.v (.inst c ns l)) ρ) p.2.2 st) (fun d st=>K (.ret d,jh p.2.1 ρ) st) NoE else False
    |some false=>gr C J sc ρ c ns l r st K
    |none=>False)
   |Option.none=>False))
theorem z9{C:Cx}{J:Scope→En→PySem.Expr→Sto→Out D}{sc:Scope}{ρ:En}{c:Addr}{ns:List Str}{l:List V}{h:ExceptHandler}{r:List ExceptHandler}{st:Sto}{K:Fl×En→Sto→Prop}:gr C J sc ρ c ns l (h::r) st K=(match jg h with
 |none=>False
 |some p=>(match kz C sc p.1 with
  |some hc=>(match C.esub c hc with
   |some true=>if sc.names.lookup p.2.1==some .local then LoopK (J sc (dg p.2.1 (.v (.inst c ns l)) ρ) p.2.2 st) (fun d st=>K (.ret d,jh p.2.1 ρ) st) NoE else False
   |some false=>gr C J sc ρ c ns l r st K
   |none=>False)
  |Option.none=>False)):=rfl
/-! what must hold,reckoned on a stack:no lambda stands in what is recorded -/
set_option genCtorIdx false in
inductive Ctl where
 |ex (k:Nat) (e:PySem.Expr)
 |tt (k:Nat) (e:PySem.Expr)
 |sts (k:Nat) (ss:List Stmt)
 |retb (k:Nat) (ss:List Stmt)
 |bin (op:Operator)
 |cmp (op:CmpOp)
 |chain (k:Nat) (ops:List CmpOp) (rs:List PySem.Expr)
 |cmpC (k:Nat) (op:CmpOp) (ops:List CmpOp) (rs:List PySem.Expr)
 |notV|notB|truthB|negV
 |ifx (k:Nat) (a b:PySem.Expr)
 |ift (k:Nat) (a b:PySem.Expr)
 |ifs (k:Nat) (a b:List Stmt)
 |retI (k:Nat) (e:PySem.Expr) (r:List Stmt)
 |boolV (k:Nat) (op:BoolOp) (es:List PySem.Expr)
 |allT (k:Nat) (op:BoolOp) (es:List PySem.Expr)
 |tup (n:Nat)
 |lst (n:Nat) (pos:Pos)
 |slice (lo hi:Option PySem.Expr)
 |sub
 |attr (a:Str)
 |meth (k:Nat) (name:Str) (args:List PySem.Expr)
 |callee (k:Nat) (args:List PySem.Expr)
 |call (n:Nat) (v:Value)
 |listM (name:Str) (i n:Nat)
 |comp (k:Nat) (pr:Src) (n:Nat) (elt target:PySem.Expr) (ifs:List PySem.Expr) (scope:Scope) (pos:Pos)
 |ret|pop
 |sto (x:Str)
 |stoT (xs:List Str)
 |setI
 |raise (c:Addr) (xi:XcI) (n:Nat)
 |forE (k:Nat) (pr:Src) (n:Nat) (t:PySem.Expr) (b:List Stmt)
 |loop (k:Nat) (b:List Stmt)
 |restE (E:KV)
noncomputable abbrev o9:=List Ctl→List D→En→Sto→KV→Prop
noncomputable abbrev KF:=Fl×En→Sto→Prop
noncomputable abbrev XI(C:Cx)(T:Tab)(m:Nat)(J:Js)(k:Nat):In:=XJ C (R C T (m+1)) J k
noncomputable abbrev JT(C:Cx)(T:Tab)(m:Nat):Js:=XT C (R C T (m+1))
noncomputable def dy(k:Nat):List PySem.Expr→List Ctl→List Ctl
 |[],cs=>cs
 |e::es,cs=>.ex k e::dy k es cs
noncomputable def jv(n:Nat)(stk:List D):List D:=(stk.take n).reverse
noncomputable def popK:Nat→List D→List D→(List D→List D→Prop)→Prop
 |0,stk,acc,k=>k acc stk
 |n+1,d::stk,acc,k=>popK n stk (d::acc) k
 |_+1,[],_,_=>False
noncomputable def jw(n:Nat)(stk:List D):List D:=stk.drop n
section
variable (S:o9) (cs:List Ctl) (stk:List D) (ρ:En)
noncomputable def ru(E:KV)(d:D)(st:Sto):Prop:=S cs (d::stk) ρ st E
noncomputable def Gk(E:KV)(Kf:KF)(p:Fl×En)(st:Sto):Prop:=eu p st (fun ρ st=>S cs stk ρ st E) Kf
noncomputable def Gl(E:KV)(mt:Bool)(acc:List V)(st:Sto):Prop:=
 match mt with
 |true=>S cs (.m st.length::stk) ρ (st++[acc]) E
 |false=>S cs (.v (.lst acc)::stk) ρ st E
variable (st:Sto) (E:KV)
noncomputable def Rn(d:D):Prop:=S cs (d::stk) ρ st E
noncomputable def Mf(v:V):Prop:=S cs (.v v::stk) ρ st E
noncomputable def Gm(b:Bool):Prop:=S cs (.v (.bool b)::stk) ρ st E
noncomputable def Gn(b:Bool):Prop:=S cs (.v (.bool (!b))::stk) ρ st E
noncomputable def Ro(l:List V):Prop:=S cs (.v (.tup l)::stk) ρ st E
noncomputable def Mg(mt:Bool)(l:List V):Prop:=
 match mt with
 |true=>S cs (.m st.length::stk) ρ (st++[l]) E
 |false=>S cs (.v (.lst l)::stk) ρ st E
noncomputable def Mh(x:V):Prop:=
 match jd x with
 |true=>False
 |false=>S cs (.v x::stk) ρ st E
noncomputable def Ty(k:Nat)(ops:List CmpOp)(rs:List PySem.Expr)(b:D)(c:Bool):Prop:=brK c (S (.chain k ops rs::cs) (b::stk) ρ st E) (S cs (.v (.bool false)::stk) ρ st E)
noncomputable def Rp(k:Nat)(op:BoolOp)(e:PySem.Expr)(es:List PySem.Expr)(d:D)(t:Bool):Prop:=
 match op with
 |.And=>brK t (S (.ex k e::.boolV k op es::cs) stk ρ st E) (S cs (d::stk) ρ st E)
 |.Or=>brK t (S cs (d::stk) ρ st E) (S (.ex k e::.boolV k op es::cs) stk ρ st E)
noncomputable def Oo(l:List V)(a b:Option Nat):Prop:=Side (cf l.length=true)∧optK (Eb l a b) fun m=>S cs (.v (.lst m)::stk) ρ st E
end
noncomputable def onK(b:Bool)(p:Prop):Prop:=
 match b with
 |true=>p
 |false=>False
noncomputable def offK(b:Bool)(p:Prop):Prop:=
 match b with
 |true=>False
 |false=>p
noncomputable def Op(p:Src×List PySem.Expr)(f:Src→List PySem.Expr→Prop):Prop:=
 match p with
 |(pr,es)=>f pr es
noncomputable def ar(stk:List D)(f:D→List D→Prop):Prop:=
 match stk with
 |d::r=>f d r
 |[]=>False
noncomputable def e6(d:D)(f:Bool→Prop):Prop:=optK (te d) f
section
variable (C:Cx) (T:Tab) (m:Nat) (J:Js) (sc:Scope) (Kf:KF)
noncomputable def Mi(ρ:En)(hs:List ExceptHandler)(x:V)(st:Sto):Prop:=
 match x with
 |.inst c ns l=>gr C J.h sc ρ c ns l hs st Kf
 |_=>False
noncomputable def Dv(S:o9)(k:Nat)(e:PySem.Expr)(cs:List Ctl)(stk:List D)(ρ:En)(st:Sto)(E:KV):Prop:=
 match e with
 |.Constant (.int i) _ _=>S cs (.v (.int i)::stk) ρ st E
 |.Constant (.bool b) _ _=>S cs (.v (.bool b)::stk) ρ st E
 |.Constant (.str s) _ _=>S cs (.v (.str s)::stk) ρ st E
 |.Constant .none _ _=>S cs (.v .none::stk) ρ st E
 |.Name x _=>optK (Bp C sc ρ x) (Rn S cs stk ρ st E)
 |.BinOp l op r _=>offK (C.hand&&tg op) (S (.ex k l::.ex k r::.bin op::cs) stk ρ st E)
 |.UnaryOp .Not x _=>S (.ex k x::.notV::cs) stk ρ st E
 |.UnaryOp .USub x _=>S (.ex k x::.negV::cs) stk ρ st E
 |.IfExp c a b _=>S (.tt k c::.ifx k a b::cs) stk ρ st E
 |.BoolOp op (e::es) _=>S (.ex k e::.boolV k op es::cs) stk ρ st E
 |.Compare l ops rs _=>onK (dk rs&&ops.length==rs.length) (S (.ex k l::.chain k ops rs::cs) stk ρ st E)
 |.Tuple es _ _=>onK (noStar es&&cf es.length) (S (dy k es (.tup es.length::cs)) stk ρ st E)
 |.List es pos=>onK (noStar es&&cf es.length) (S (dy k es (.lst es.length pos::cs)) stk ρ st E)
 |.Subscript o (.Slice lo hi none _) _=>S (.ex k o::.slice lo hi::cs) stk ρ st E
 |.Subscript o i _=>offK (dj i) (S (.ex k o::.ex k i::.sub::cs) stk ρ st E)
 |.Attribute o a _=>offK (gw o) (S (.ex k o::.attr a::cs) stk ρ st E)
 |.Call (.Attribute o name ap) args [] pos=>onK (!gw o&&noStar args&&decide (args.length<20)&&ap.endLine==pos.line) (S (.ex k o::.meth k name args::cs) stk ρ st E)
 |.Call f args [] _=>(match lx args with
  |some l=>LoopK (kn C J sc ρ f l st) (ru S cs stk ρ E) E
  |none=>offK (fh f|| !noStar args) (S (.ex k f::.callee k args::cs) stk ρ st E))
 |.ListComp elt gens scope pos=>(match gy gens with
  |some g=>onK (((jf scope sc&& !ct g.2.1)&&un (aq scope sc) g.1)&& !C.hand) (Op (cn C sc g.2.1) fun pr es=>S (dy k es (.comp k pr es.length elt g.1 g.2.2 scope pos::cs)) stk ρ st E)
  |none=>False)
 |_=>False
noncomputable def Mj(S:o9)(k:Nat)(x:Str)(xp:Pos)(e:PySem.Expr)(cs:List Ctl)(stk:List D)(ρ:En)(st:Sto)(E:KV):Prop:=
 match e with
 |.ListComp elt gens scope cp=>onK (wh sc x xp scope cp) (Dv C J sc S k (.ListComp elt gens scope cp) (.sto x::cs) stk ρ st E)
 |_=>False
noncomputable def Rq(S:o9)(k:Nat)(e:PySem.Expr)(cs:List Ctl)(stk:List D)(ρ:En)(st:Sto)(E:KV):Prop:=
 match e with
 |.UnaryOp .Not x _=>S (.tt k x::.notB::cs) stk ρ st E
 |.BoolOp op es _=>(match es with
  |[]=>False
  |e::es=>S (.tt k e::.allT k op es::cs) stk ρ st E)
 |.IfExp c a b _=>S (.tt k c::.ift k a b::cs) stk ρ st E
 |.Compare l ops rs _=>onK (dk rs&&ops.length==rs.length) (S (.ex k l::.chain k ops rs::cs) stk ρ st E)
 |e=>S (.ex k e::.truthB::cs) stk ρ st E
noncomputable def xy(S:o9)(k:Nat)(s:Stmt)(cs:List Ctl)(stk:List D)(ρ:En)(st:Sto)(E:KV):Prop:=
 match s with
 |.Pass _=>S cs stk ρ st E
 |.Break _=>Kf (.brk,ρ) st
 |.Continue _=>Kf (.cont,ρ) st
 |.Return (some e) _=>S [.ex k e,.ret] stk ρ st E
 |.Expr e _=>offK (bj e) (S (.ex k e::.pop::cs) stk ρ st E)
 |.Assign [.Name x xp] e _=>(match bj e with
  |true=>Mj C J sc S k x xp e cs stk ρ st E
  |false=>S (.ex k e::.sto x::cs) stk ρ st E)
 |.Assign [.Tuple ts kk tp] e _=>offK (bj e) (optK (bg ts) fun xs=>onK (ai xs&&Cu sc ts kk tp e xs) (S (.ex k e::.stoT xs::cs) stk ρ st E))
 |.Assign [.Subscript o i _] e _=>offK (bj e||dj i) (S (.ex k e::.ex k o::.ex k i::.setI::cs) stk ρ st E)
 |.If c a b _=>S (.tt k c::.ifs k a b::cs) stk ρ st E
 |.While c b [] _=>LoopK (fj (fun ρ st=>(XI C T m J k).tt sc ρ c st) (fun ρ st=>exs ((XI C T m J k).st sc) b ρ st) LIM ρ st) (Gk S cs stk E Kf) E
 |.For t it b [] _=>offK (ct it) (Op (cn C sc it) fun pr es=>S (dy k es (.forE k pr es.length t b::cs)) stk ρ st E)
 |.Raise (some (.Call (.Name x _) args [] _)) none _=>(match kz C sc x with
  |some c=>optK (C.xc c) fun xi=>onK (noStar args) (S (dy k args [.raise c xi args.length]) stk ρ st E)
  |Option.none=>False)
 |.Try body (h::hs) [] [] _=>S [.retb k body] stk ρ st (Mi C J sc Kf ρ (h::hs))
 |_=>False
noncomputable def goC(S:o9)(c:Ctl)(cs:List Ctl)(stk:List D)(ρ:En)(st:Sto)(E:KV):Prop:=
 match c with
 |.ex k e=>(match k with
  |0=>False
  |k+1=>Dv C J sc S k e cs stk ρ st E)
 |.tt k e=>(match k with
  |0=>False
  |k+1=>Rq S k e cs stk ρ st E)
 |.sts k ss=>(match ss with
  |[]=>S cs stk ρ st E
  |s::r=>(match k with
   |0=>False
   |k+1=>xy C T m J sc Kf S k s (.sts (k+1) r::cs) stk ρ st E))
 |.retb k ss=>(match ss with
  |[]=>False
  |s::r=>(match i8 s with
   |some e=>onK (r.isEmpty) (S [.ex k e,.ret] stk ρ st E)
   |none=>(match kl s with
    |some p=>S [.tt k p.1,.retI k p.2 r] stk ρ st E
    |none=>False)))
 |.retI k e r=>ar stk fun d stk=>e6 d fun t=>brK t (S [.ex k e,.ret] stk ρ st E) (S [.retb k r] stk ρ st E)
 |.bin op=>ar stk fun b stk=>ar stk fun a stk=>binK op a b (Mf S cs stk ρ st E)
 |.cmp op=>ar stk fun b stk=>ar stk fun a stk=>cmpK op a b st (Gm S cs stk ρ st E)
 |.chain k ops rs=>ar stk fun a stk=>(match ops,rs with
  |op::ops,r::rs=>(match ops.isEmpty&&rs.isEmpty with
   |true=>S (.ex k r::.cmp op::cs) (a::stk) ρ st E
   |false=>S (.ex k r::.cmpC k op ops rs::cs) (a::stk) ρ st E)
  |_,_=>False)
 |.cmpC k op ops rs=>ar stk fun b stk=>ar stk fun a stk=>cmpK op a b st (Ty S cs stk ρ st E k ops rs b)
 |.notV=>ar stk fun d stk=>optK (c8 d) (Gn S cs stk ρ st E)
 |.negV=>ar stk fun d stk=>optK (bw d) fun i=>S cs (.v (.int (-i))::stk) ρ st E
 |.notB=>ar stk fun d stk=>e6 d (Gn S cs stk ρ st E)
 |.truthB=>ar stk fun d stk=>optK (c8 d) (Gm S cs stk ρ st E)
 |.ifx k a b=>ar stk fun d stk=>e6 d fun t=>brK t (S (.ex k a::cs) stk ρ st E) (S (.ex k b::cs) stk ρ st E)
 |.ift k a b=>ar stk fun d stk=>e6 d fun t=>brK t (S (.tt k a::cs) stk ρ st E) (S (.tt k b::cs) stk ρ st E)
 |.ifs k a b=>ar stk fun d stk=>e6 d fun t=>brK t (S (.sts k a::cs) stk ρ st E) (S (.sts k b::cs) stk ρ st E)
 |.boolV k op es=>ar stk fun d stk=>(match es with
  |[]=>S cs (d::stk) ρ st E
  |e::es=>optK (c8 d) (Rp S cs stk ρ st E k op e es d))
 |.allT k op es=>ar stk fun d stk=>(match es with
  |[]=>e6 d (Gm S cs stk ρ st E)
  |e::es=>e6 d fun t=>(match op with
   |.And=>brK t (S (.tt k e::.allT k op es::cs) stk ρ st E) (S cs (.v (.bool false)::stk) ρ st E)
   |.Or=>brK t (S cs (.v (.bool true)::stk) ρ st E) (S (.tt k e::.allT k op es::cs) stk ρ st E)))
 |.tup n=>popK n stk [] fun ds stk=>optK (cj ds) (Ro S cs stk ρ st E)
 |.lst n pos=>popK n stk [] fun ds stk=>optK (cj ds) (Mg S cs stk ρ st E (C.mt pos))
 |.slice lo hi=>ar stk fun d stk=>optK (fy d) fun l=>optK (gh lo) fun a=>optK (gh hi) fun b=>Oo S cs stk ρ st E l a b
 |.sub=>ar stk fun k stk=>ar stk fun d stk=>optK (kt d k st) (Mf S cs stk ρ st E)
 |.attr a=>ar stk fun d stk=>(match d with
  |.v (.inst c ns vs)=>onK (C.attr c a) (optK ((ns.zip vs).lookup a) (Mh S cs stk ρ st E))
  |_=>False)
 |.meth k name args=>ar stk fun d stk=>(match d with
  |.m i=>S (dy k args (.restE E::.listM name i args.length::cs)) stk ρ st NoE
  |.v (.int i)=>outK (Cv name i args st) (ru S cs stk ρ E)
  |.v (.inst c ns vs)=>optK (C.meth c name) fun f=>offK (ns.contains name) (S (dy k args (.call (args.length+1) (.ref f)::cs)) (.v (.inst c ns vs)::stk) ρ st E)
  |_=>False)
 |.callee k args=>ar stk fun d stk=>(match d with
  |.v (.val v)=>onK (C.able v) (S (dy k args (.call args.length v::cs)) stk ρ st E)
  |_=>False)
 |.call n v=>popK n stk [] fun ds stk=>callK C T m v ds st (ru S cs stk ρ E) E
 |.listM name i n=>popK n stk [] fun ds stk=>LoopK (listM name i ds st) (ru S cs stk ρ E) E
 |.comp k pr n elt t ifs scope pos=>popK n stk [] fun ds stk=>optK (dp pr ds) fun l=>LoopK (a8 (m9 pr (aq scope sc) t) (ey ((XI C T m J k).tt (aq scope sc)) ifs) (fun ρ st=>(XI C T m J k).ex (aq scope sc) ρ elt st) l (az (aq scope sc) ρ) [] st) (Gl S cs stk ρ E (C.mt pos)) E
 |.ret=>ar stk fun d o_=>Kf (.ret d,ρ) st
 |.pop=>ar stk fun o_ stk=>S cs stk ρ st E
 |.sto x=>ar stk fun d stk=>onK (je sc x) (S cs stk (dg x d ρ) st E)
 |.stoT xs=>ar stk fun d stk=>optK (Ct d) fun l=>optK (cm sc xs l ρ) fun ρ'=>S cs stk ρ' st E
 |.setI=>ar stk fun k stk=>ar stk fun a stk=>ar stk fun d stk=>∃x j z l,d=.v (.int x)∧a=.m j∧k=.v (.int z)∧st[j]? =some l∧(gx l=true∧0≤z∧z<l.length∧z<2^63)∧S cs stk ρ (st.set j (l.set z.toNat (.int x))) E
 |.raise c xi n=>popK n stk [] fun ds o_=>optK (cj ds) fun l=>onK (l.length==xi.ps.length) (E (.inst c xi.ns (xi.vs l)) st)
 |.forE k pr n t b=>popK n stk [] fun ds stk=>optK (dp pr ds) fun l=>LoopK (fz (m9 pr sc t) (fun ρ st=>exs ((XI C T m J k).st sc) b ρ st) l ρ st) (Gk S cs stk E Kf) E
 |.loop k b=>ar stk fun d stk=>e6 d fun t=>brK t (S (.sts k b::cs) stk ρ st E) (Kf (.brk,ρ) st)
 |.restE E=>S cs stk ρ st E
noncomputable def go:Nat→o9
 |0,_,_,_,_,_=>False
 |_+1,[],_,ρ,st,_=>Kf (.next,ρ) st
 |N+1,c::cs,stk,ρ,st,E=>goC C T m J sc Kf (go N) c cs stk ρ st E
end
noncomputable abbrev SK:=List D→En→Sto→KV→Prop
section
variable (C:Cx) (T:Tab) (m:Nat) (J:Js) (sc:Scope) (Kf:KF)
noncomputable def Tz(c:Ctl)(K:SK)(stk:List D)(ρ:En)(st:Sto)(E:KV):Prop:=
 let vx:=fun(e:Out D) (stk:List D)=>Ok e (fun d st=>K (d::stk) ρ st E) E
 let vb:=fun(e:Out Bool) (stk:List D)=>Ok e (fun b st=>K (.v (.bool b)::stk) ρ st E) E
 let vs:=fun(e:Out (Fl×En)) (stk:List D)=>Ok e (fun p st=>eu p st (fun ρ st=>K stk ρ st E) Kf) E
 let vr:=fun(e:Out D)=>Ok e (fun d st=>Kf (.ret d,ρ) st) E
 match c with
 |.ex k e=>vx ((XI C T m J k).ex sc ρ e st) stk
 |.tt k e=>vb ((XI C T m J k).tt sc ρ e st) stk
 |.sts k ss=>vs (exs ((XI C T m J k).st sc) ss ρ st) stk
 |.retb k ss=>vr (o7 ((XI C T m J k).ex sc ρ) ((XI C T m J k).tt sc ρ) ss st)
 |.retI k e r=>ar stk fun d o_=>e6 d fun t=>(t=true→vr ((XI C T m J k).ex sc ρ e st))∧(t=false→vr (o7 ((XI C T m J k).ex sc ρ) ((XI C T m J k).tt sc ρ) r st))
 |.bin op=>ar stk fun b stk=>ar stk fun a stk=>optK (lu op a b) fun v=>K (.v v::stk) ρ st E
 |.cmp op=>ar stk fun b stk=>ar stk fun a stk=>optK (Mine.cmp op a b st) fun v=>K (.v (.bool v)::stk) ρ st E
 |.chain k ops rs=>ar stk fun a stk=>vb (Mine.chain ((XI C T m J k).ex sc ρ) a ops rs st) stk
 |.cmpC k op ops rs=>ar stk fun b stk=>ar stk fun a stk=>optK (Mine.cmp op a b st) fun c=>(c=true→vb (Mine.chain ((XI C T m J k).ex sc ρ) b ops rs st) stk)∧(c=false→K (.v (.bool false)::stk) ρ st E)
 |.notV=>ar stk fun d stk=>optK (c8 d) fun b=>K (.v (.bool (!b))::stk) ρ st E
 |.negV=>ar stk fun d stk=>optK (bw d) fun i=>K (.v (.int (-i))::stk) ρ st E
 |.notB=>ar stk fun d stk=>e6 d fun b=>K (.v (.bool (!b))::stk) ρ st E
 |.truthB=>ar stk fun d stk=>optK (c8 d) fun b=>K (.v (.bool b)::stk) ρ st E
 |.ifx k a b=>ar stk fun d stk=>e6 d fun t=>(t=true→vx ((XI C T m J k).ex sc ρ a st) stk)∧(t=false→vx ((XI C T m J k).ex sc ρ b st) stk)
 |.ift k a b=>ar stk fun d stk=>e6 d fun t=>(t=true→vb ((XI C T m J k).tt sc ρ a st) stk)∧(t=false→vb ((XI C T m J k).tt sc ρ b st) stk)
 |.ifs k a b=>ar stk fun d stk=>e6 d fun t=>(t=true→vs (exs ((XI C T m J k).st sc) a ρ st) stk)∧(t=false→vs (exs ((XI C T m J k).st sc) b ρ st) stk)
 |.boolV k op es=>ar stk fun d stk=>(match es with
  |[]=>K (d::stk) ρ st E
  |e::es=>optK (c8 d) fun t=>(t=true→(match op with
   |.And=>vx (Mine.boolV ((XI C T m J k).ex sc ρ) op (e::es) st) stk
   |.Or=>K (d::stk) ρ st E))∧(t=false→(match op with
   |.And=>K (d::stk) ρ st E
   |.Or=>vx (Mine.boolV ((XI C T m J k).ex sc ρ) op (e::es) st) stk)))
 |.allT k op es=>ar stk fun d stk=>e6 d fun t=>(t=true→(match op with
   |.And=>vb (Mine.allT ((XI C T m J k).tt sc ρ) op es st) stk
   |.Or=>K (.v (.bool true)::stk) ρ st E))∧(t=false→(match op with
   |.And=>K (.v (.bool false)::stk) ρ st E
   |.Or=>vb (Mine.allT ((XI C T m J k).tt sc ρ) op es st) stk))
 |.tup n=>optK (cj (jv n stk)) fun l=>K (.v (.tup l)::jw n stk) ρ st E
 |.lst n pos=>optK (cj (jv n stk)) fun l=>(if C.mt pos then K (.m st.length::jw n stk) ρ (st++[l]) E else K (.v (.lst l)::jw n stk) ρ st E)
 |.slice lo hi=>ar stk fun d stk=>∃l a b m,d=.v (.lst l)∧gh lo=some a∧gh hi=some b∧cf l.length=true∧Eb l a b=some m∧K (.v (.lst m)::stk) ρ st E
 |.sub=>ar stk fun k stk=>ar stk fun d stk=>optK (kt d k st) fun v=>K (.v v::stk) ρ st E
 |.attr a=>ar stk fun d stk=>∃c ns vs x,d=.v (.inst c ns vs)∧C.attr c a=true∧(ns.zip vs).lookup a=some x∧jd x=false∧K (.v x::stk) ρ st E
 |.meth k name args=>ar stk fun d stk=>vx (match d with
   |.m i=>(evs ((XI C T m J k).ex sc ρ) args st).quiet.bind fun ds st=>Mine.listM name i ds st
   |.v (.int i)=>Cv name i args st
   |.v (.inst c ns _)=>(match C.meth c name with
    |some f=>if ns.contains name then .stuck else (evs ((XI C T m J k).ex sc ρ) args st).bind fun ds st=>R C T (m+1) (.v (.val (.ref f))) (d::ds) st
    |Option.none=>.stuck)
   |_=>.stuck) stk
 |.callee k args=>ar stk fun d stk=>vx (match d with
   |.v (.val v)=>if C.able v then (evs ((XI C T m J k).ex sc ρ) args st).bind fun ds st=>R C T (m+1) d ds st else .stuck
   |_=>.stuck) stk
 |.call n v=>vx (R C T (m+1) (.v (.val v)) (jv n stk) st) (jw n stk)
 |.listM name i n=>vx (Mine.listM name i (jv n stk) st) (jw n stk)
 |.comp k pr n elt t ifs scope pos=>optK (dp pr (jv n stk)) fun l=>Ok (a8 (m9 pr (aq scope sc) t) (ey ((XI C T m J k).tt (aq scope sc)) ifs) (fun ρ st=>(XI C T m J k).ex (aq scope sc) ρ elt st) l (az (aq scope sc) ρ) [] st)
   (fun acc st=>if C.mt pos then K (.m st.length::jw n stk) ρ (st++[acc]) E else K (.v (.lst acc)::jw n stk) ρ st E) E
 |.ret=>ar stk fun d o_=>Kf (.ret d,ρ) st
 |.pop=>ar stk fun o_ stk=>K stk ρ st E
 |.sto x=>ar stk fun d stk=>je sc x=true∧K stk (dg x d ρ) st E
 |.stoT xs=>ar stk fun d stk=>∃l ρ',d=.v (.tup l)∧cm sc xs l ρ=some ρ'∧K stk ρ' st E
 |.setI=>ar stk fun k stk=>ar stk fun a stk=>ar stk fun d stk=>∃x j z l,d=.v (.int x)∧a=.m j∧k=.v (.int z)∧st[j]? =some l∧(gx l=true∧0≤z∧z<l.length∧z<2^63)∧K stk ρ (st.set j (l.set z.toNat (.int x))) E
 |.raise c xi n=>∃l,cj (jv n stk)=some l∧(l.length==xi.ps.length)=true∧E (.inst c xi.ns (xi.vs l)) st
 |.forE k pr n t b=>optK (dp pr (jv n stk)) fun l=>vs (fz (m9 pr sc t) (fun ρ st=>exs ((XI C T m J k).st sc) b ρ st) l ρ st) (jw n stk)
 |.loop k b=>ar stk fun d stk=>e6 d fun t=>(t=true→vs (exs ((XI C T m J k).st sc) b ρ st) stk)∧(t=false→Kf (.brk,ρ) st)
 |.restE E=>K stk ρ st E
noncomputable def sem:List Ctl→SK
 |[],_,ρ,st,_=>Kf (.next,ρ) st
 |c::cs,stk,ρ,st,E=>Tz C T m J sc Kf c (sem cs) stk ρ st E
end
theorem optK.mono{α:Type}{o:Option α}{k k':α→Prop}(h:optK o k)(i:∀a,k a→k' a):optK o k':=by
 induction o using Option.casesOn with
 |none=>exact h
 |some a=>exact i a h
theorem popK.get0{k:List D→List D→Prop}:∀{n:Nat} {stk acc:List D},popK n stk acc k→k ((stk.take n).reverse++acc) (stk.drop n)
 |0,_,_,h=>h
 |n+1,d::stk,acc,h=>by
  have h:=popK.get0 (n:=n) h
  rw[List.take_succ_cons,List.reverse_cons,List.append_assoc];exact h
 |_+1,[],_,h=>h.elim
theorem popK.get{k:List D→List D→Prop}{n:Nat}{stk:List D}(h:popK n stk [] k):k (jv n stk) (jw n stk):=by
 have h:=popK.get0 h
 rw[List.append_nil]at h;exact h
theorem d9{ds stk:List D}:jv ds.length (ds.reverse++stk)=ds:=by
 unfold jv
 rw[←List.length_reverse,List.take_left,List.reverse_reverse]
theorem fs{ds stk:List D}:jw ds.length (ds.reverse++stk)=stk:=by
 unfold jw
 rw[←List.length_reverse,List.drop_left]
section
variable {C:Cx} {T:Tab} {m:Nat} {J:Js} {sc:Scope} {Kf:KF} {S:o9} {cs:List Ctl} {stk:List D} {ρ:En} {st:Sto} {E:KV} {k:Nat}
noncomputable def Fit(C:Cx)(T:Tab)(m:Nat)(J:Js)(sc:Scope)(Kf:KF)(S:o9):Prop:=∀cs stk ρ st E,S cs stk ρ st E→sem C T m J sc Kf cs stk ρ st E
theorem lh:∀{es:List PySem.Expr} {stk:List D} {st:Sto},sem C T m J sc Kf (dy k es cs) stk ρ st E→Ok (evs ((XI C T m J k).ex sc ρ) es st) (fun ds st=>ds.length=es.length∧sem C T m J sc Kf cs (ds.reverse++stk) ρ st E) E
 |[],_,_,h=>⟨rfl,h⟩
 |e::es,stk,st,h=>by
  rw[p8]
  exact Ok.bind (Ok.mono h fun d st h=>Ok.bind ((lh h).mono fun ds st h=>⟨congrArg (· +1) h.1,by rw[List.reverse_cons,List.append_assoc];exact h.2⟩))
theorem gt{α:Type}{es:List PySem.Expr}{f:List D→Sto→Out α}{Q:α→Sto→Prop}{stk:List D}(h:sem C T m J sc Kf (dy k es cs) stk ρ st E)
 (i:∀ds st,ds.length=es.length→sem C T m J sc Kf cs (ds.reverse++stk) ρ st E→Ok (f ds st) Q E):Ok ((evs ((XI C T m J k).ex sc ρ) es st).bind f) Q E:=
 Ok.bind ((lh h).mono fun ds st h=>i ds st h.1 h.2)
theorem Br{α:Type}{p:Src×List PySem.Expr}{f:List V→Sto→Out α}{Q:α→Sto→Prop}{c:Src→List PySem.Expr→Ctl}(hS:Fit C T m J sc Kf S)(h:Op p fun pr es=>S (dy k es (c pr es::cs)) stk ρ st E)
 (i:∀ds st,ds.length=p.2.length→sem C T m J sc Kf (c p.1 p.2::cs) (ds.reverse++stk) ρ st E→optK (dp p.1 ds) fun l=>Ok (f l st) Q E):Ok ((f6 ((XI C T m J k).ex sc ρ) p st).bind f) Q E:=by
 obtain⟨pr,es⟩:=p
 unfold f6
 rw[Out.bind_assoc]
 refine gt (hS _ _ _ _ _ h) fun ds st hl h=>?_
 have z:=i ds st hl h
 dsimp only at z ⊢
 generalize dp pr ds=o at z ⊢
 induction o using Option.casesOn with
 |none=>exact z.elim
 |some l=>exact z
end
section
variable {α:Type} {b:Bool} {p:Prop} {r r':Out α} {Q:α→Sto→Prop} {E:KV}
theorem onK.get(h:onK b p):b=true∧p:=by
 induction b using Bool.casesOn with
 |true=>exact⟨rfl,h⟩
 |false=>exact h.elim
theorem offK.get(h:offK b p):b=false∧p:=by
 induction b using Bool.casesOn with
 |true=>exact h.elim
 |false=>exact⟨rfl,h⟩
theorem ft(h:onK b p)(i:p→Ok r Q E):Ok (if b then r else .stuck) Q E:=by
 rw[if_pos h.get.1];exact i h.get.2
theorem e8(h:offK b p)(i:p→Ok r Q E):Ok (if b then .stuck else r) Q E:=by
 rw[if_neg (by rw[h.get.1];decide)];exact i h.get.2
theorem Aa{o:Option α}{st:Sto}(h:optK o fun a=>Q a st):Ok (ofO st o) Q E:=by
 induction o using Option.casesOn with
 |none=>exact h.elim
 |some a=>exact h
theorem rx{β:Type}{o:Option β}{f:β→α}{st:Sto}(h:optK o fun a=>Q (f a) st):Ok (ofO st (o.map f)) Q E:=by
 induction o using Option.casesOn with
 |none=>exact h.elim
 |some a=>exact h
theorem brK.mono{t:Bool}{p q p' q':Prop}(h:brK t p q)(i:p→p')(j:q→q'):(t=true→p')∧(t=false→q'):=by
 induction t using Bool.casesOn with
 |true=>exact⟨fun o_=>i h,Bool.noConfusion⟩
 |false=>exact⟨Bool.noConfusion,fun o_=>j h⟩
theorem Mk{mt:Bool}{a b:α}{s₁ s₂:Sto}(h:if mt then Q a s₁ else Q b s₂):Ok (if mt then .ok a s₁ else .ok b s₂) Q E:=by
 cases mt<;>exact h
theorem Bs{a b:Sto→Out α}{t:Bool}{st:Sto}(h:(t=true→Ok (a st) Q E)∧(t=false→Ok (b st) Q E)):Ok (if t then a st else b st) Q E:=by
 induction t using Bool.casesOn with
 |true=>exact h.1 rfl
 |false=>exact h.2 rfl
theorem binK.o{op:Operator}{a b:D}{k:V→Prop}(h:binK op a b k):optK (lu op a b) k:=by
 obtain⟨v,e,h⟩:=h.get
 exact .of e h
theorem cmpK.o{op:CmpOp}{a b:D}{st:Sto}{k:Bool→Prop}(h:cmpK op a b st k):optK (cmp op a b st) k:=by
 obtain⟨v,e,h⟩:=h.get
 exact .of e h
end
section
variable {C:Cx} {T:Tab} {m:Nat} {J:Js} {sc:Scope} {Kf:KF} {S:o9} {cs:List Ctl} {stk:List D} {ρ:En} {st:Sto} {E:KV} {k:Nat}
theorem J6{x:Str}{p:Pos}{K:KD}(h:optK (Bp C sc ρ x) fun d=>K d st):Ok ((XI C T m J (k+1)).ex sc ρ (.Name x p) st) K E:=by
 have:(XI C T m J (k+1)).ex sc ρ (.Name x p) st=ofO st (Bp C sc ρ x):=by
  show(if bf x then Out.stuck else if f0 sc x then ofO st (ρ.lookup x)else if sc.names.lookup x==some .globalImplicit then ofO st ((C.G x).map fun v=>D.v (gV v))else .stuck)=_
  unfold Bp
  split
  ·rfl
  ·split
   ·rfl
   ·split<;>rfl
 rw[this]
 exact Aa h
theorem J7(hS:Fit C T m J sc Kf S){o i:PySem.Expr}(h:offK (dj i) (S (.ex k o::.ex k i::.sub::cs) stk ρ st E)):Ok (if dj i then .stuck else ((XI C T m J k).ex sc ρ o st).bind fun d st=>((XI C T m J k).ex sc ρ i st).bind fun k st=>ofO st ((kt d k st).map D.v)) (fun d st=>sem C T m J sc Kf cs (d::stk) ρ st E) E:=
 e8 h fun h=>Ok.bind (Ok.mono (hS _ _ _ _ _ h) fun o_ o_ h=>Ok.bind (Ok.mono h fun o_ o_ h=>rx h))
theorem Dw(hS:Fit C T m J sc Kf S){o:PySem.Expr}{lo hi:Option PySem.Expr}(h:S (.ex k o::.slice lo hi::cs) stk ρ st E):Ok (((XI C T m J k).ex sc ρ o st).bind fun d st=>yv lo hi d st) (fun d st=>sem C T m J sc Kf cs (d::stk) ρ st E) E:=
 Ok.bind (Ok.mono (hS _ _ _ _ _ h) fun d st h=>by
  obtain⟨l,a,b,mm,rfl,h2,h3,h4,h5,h⟩:=h
  show Ok (ofO st ((some l).bind fun l=>(gh lo).bind fun a=>(gh hi).bind fun b=>if cf l.length then (Eb l a b).map fun m=>D.v (.lst m)else none)) _ E
  rw[h2,h3]
  show Ok (ofO st (if cf l.length then (Eb l a b).map fun m=>D.v (.lst m)else none)) _ E
  rw[if_pos h4,h5]
  exact h)
theorem Go(hS:Fit C T m J sc Kf S){f:PySem.Expr}{args:List PySem.Expr} (h:(match lx args with
 |some l=>LoopK (kn C J sc ρ f l st) (ru S cs stk ρ E) E
 |none=>offK (fh f|| !noStar args) (S (.ex k f::.callee k args::cs) stk ρ st E))):Ok (match lx args with
  |some l=>kn C J sc ρ f l st
  |Option.none=>if fh f|| !noStar args then .stuck else ((XI C T m J k).ex sc ρ f st).bind fun d st=>match d with
   |.v (.val v)=>if C.able v then (evs ((XI C T m J k).ex sc ρ) args st).bind fun ds st=>R C T (m+1) d ds st else .stuck
   |_=>.stuck) (fun d st=>sem C T m J sc Kf cs (d::stk) ρ st E) E:=by
 generalize lx args=l at h
 induction l using Option.casesOn with
 |some l=>exact Ok.mono (LoopK.ok h) fun o_ o_ h=>hS _ _ _ _ _ h
 |none=>exact e8 h fun h=>Ok.bind (hS _ _ _ _ _ h)
theorem Rr{f:PySem.Expr}{args:List PySem.Expr}{kw:Keyword}{kws:List Keyword}{pos:Pos}(h:Dv C J sc S k (.Call f args (kw::kws) pos) cs stk ρ st E):False:=by cases f<;>exact h
theorem J8(hS:Fit C T m J sc Kf S){f:PySem.Expr}{args:List PySem.Expr}{kws:List Keyword}{pos:Pos}(h:Dv C J sc S k (.Call f args kws pos) cs stk ρ st E):sem C T m J sc Kf (.ex (k+1) (.Call f args kws pos)::cs) stk ρ st E:=by
 induction kws using List.casesOn with
 |cons _ _=>exact(Rr h).elim
 |nil=>
  have gen:=@Go C T m J sc Kf S cs stk ρ st E k hS f args
  revert h
  induction f using PySem.Expr.casesOn with
  |Attribute o name ap=>exact fun h=>ft h fun h=>Ok.bind (hS _ _ _ _ _ h)
  |_=>exact gen
theorem Oq(hS:Fit C T m J sc Kf S){o i:PySem.Expr}{pos:Pos}:Dv C J sc S k (.Subscript o i pos) cs stk ρ st E→sem C T m J sc Kf (.ex (k+1) (.Subscript o i pos)::cs) stk ρ st E:=by
 have gen:=@J7 C T m J sc Kf S cs stk ρ st E k hS o i
 induction i using PySem.Expr.casesOn with
 |Slice lo hi stp p=>
  induction stp using Option.casesOn with
  |some z=>exact gen
  |none=>exact Dw hS
 |_=>exact gen
theorem t8{op:BoolOp}{e:PySem.Expr}{es:List PySem.Expr}(h:sem C T m J sc Kf (.ex k e::.boolV k op es::cs) stk ρ st E):Ok (boolV ((XI C T m J k).ex sc ρ) op (e::es) st) (fun d st=>sem C T m J sc Kf cs (d::stk) ρ st E) E:=by
 induction es using List.casesOn with
 |nil=>exact h
 |cons e' es=>
  induction op using PySem.BoolOp.casesOn with
  |And=>
   exact vc (Ok.mono h fun d st h=>by
    obtain⟨t,h1,h2⟩:=optK.get h
    exact⟨t,h1,h2.2,h2.1⟩)
  |Or=>
   exact xu (Ok.mono h fun d st h=>by
    obtain⟨t,h1,h2⟩:=optK.get h
    exact⟨t,h1,h2.1,h2.2⟩)
theorem Bt(hS:Fit C T m J sc Kf S){e:PySem.Expr}(h:Dv C J sc S k e cs stk ρ st E):sem C T m J sc Kf (.ex (k+1) e::cs) stk ρ st E:=by
 induction e using PySem.Expr.casesOn with
 |Constant c kk pos=>cases c<;>first|exact(hS _ _ _ _ _ h:sem C T m J sc Kf cs _ ρ st E)|exact False.elim h
 |Name x pos=>exact J6 (optK.mono h fun d h=>hS _ _ _ _ _ h)
 |BinOp l op r pos=>exact e8 h fun h=>Ok.bind (Ok.mono (hS _ _ _ _ _ h) fun o_ o_ h=>Ok.bind (Ok.mono h fun o_ o_ h=>rx h))
 |UnaryOp op x pos=>
  induction op using PySem.UnaryOp.casesOn with
  |Not=>exact Ok.bind (Ok.mono (hS _ _ _ _ _ h) fun o_ o_ h=>rx h)
  |USub=>exact Ok.bind (Ok.mono (hS _ _ _ _ _ h) fun o_ o_ h=>rx h)
  |_=>exact h.elim
 |IfExp c a b pos=>exact Ok.bind (Ok.mono (hS _ _ _ _ _ h) fun o_ o_ h=>Bs h)
 |BoolOp op vs pos=>
  induction vs using List.casesOn with
  |nil=>exact h.elim
  |cons e es=>exact t8 (hS _ _ _ _ _ h)
 |Compare l ops rs pos=>exact ft h fun h=>Ok.bind (Ok.mono (hS _ _ _ _ _ h) fun o_ o_ h=>Ok.bind h)
 |Tuple es kk pos=>
  exact ft h fun h=>gt (hS _ _ _ _ _ h) fun ds st hl h=>by
   rw[←hl]at h
   have h:optK (cj (jv ds.length (ds.reverse++stk))) fun l=>sem C T m J sc Kf cs (.v (.tup l)::jw ds.length (ds.reverse++stk)) ρ st E:=h
   rw[d9,fs]at h
   exact rx h
 |List es pos=>
  exact ft h fun h=>gt (hS _ _ _ _ _ h) fun ds st hl h=>by
   rw[←hl]at h
   have h:optK (cj (jv ds.length (ds.reverse++stk))) fun l=>(if C.mt pos then sem C T m J sc Kf cs (.m st.length::jw ds.length (ds.reverse++stk)) ρ (st++[l]) E else sem C T m J sc Kf cs (.v (.lst l)::jw ds.length (ds.reverse++stk)) ρ st E):=h
   rw[d9,fs]at h
   obtain⟨l,h1,h⟩:=optK.get h
   rw[h1]
   exact Mk h
 |Attribute o a pos=>
  exact e8 h fun h=>Ok.bind (Ok.mono (hS _ _ _ _ _ h) fun d st h=>by
   obtain⟨c,ns,vs,x,rfl,h1,h2,h3,h⟩:=h
   dsimp only
   rw[if_pos h1,h2]
   dsimp only
   rw[if_neg (by rw[h3];decide)]
   exact h)
 |Subscript o i pos=>exact Oq hS h
 |Call f args kws pos=>exact J8 hS h
 |ListComp elt gens scope pos=>
  change (match gy gens with|some g=>onK _ _|none=>False)at h
  show Ok (match gy gens with|some (target,iter,ifs)=>_|none=>_) _ E
  generalize hg:gy gens=zz
  induction zz using Option.casesOn with
  |none=>rw[hg]at h;exact h.elim
  |some g=>
   rw[hg]at h
   exact ft h fun h=>Br (c:=fun pr es=>.comp k pr es.length elt g.1 g.2.2 scope pos) hS h fun ds st hl h=>by
    have h:optK (dp _ (jv _ (ds.reverse++stk))) _:=h
    rw[←hl,d9]at h
    refine optK.mono h fun l h=>Ok.bind (h.mono fun acc st h=>?_)
    rw[fs]at h
    exact Mk h
 |_=>exact h.elim
end
theorem jx{C:Cx}{J:Scope→En→PySem.Expr→Sto→Out D}{sc:Scope}{ρ:En}{c:Addr}{ns:List Str}{l:List V}{E:KV}:∀{hs:List ExceptHandler} {st:Sto} {K K':Fl×En→Sto→Prop},gr C J sc ρ c ns l hs st K→(∀d ρ st,K (.ret d,ρ) st→K' (.ret d,ρ) st)→Ok (cr C J sc ρ c ns l hs st) K' E
 |[],_,_,_,h,_=>h.elim
 |hd::r,st,K,K',h,i=>by
  rw[z9]at h
  rw[nc]
  generalize h1:jg hd=zz
  induction zz using Option.casesOn with
  |none=>rw[h1]at h;exact h.elim
  |some p=>
   rw[h1]at h
   dsimp only at h ⊢
   generalize kz C sc p.1=z at h ⊢
   induction z using Option.casesOn with
   |none=>exact h.elim
   |some hc=>
    dsimp only at h ⊢
    generalize C.esub c hc=z at h ⊢
    induction z using Option.casesOn with
    |none=>exact h.elim
    |some b=>
     induction b using Bool.casesOn with
     |false=>exact jx h i
     |true=>
      dsimp only at h ⊢
      generalize (sc.names.lookup p.2.1==some .local)=b at h ⊢
      induction b using Bool.casesOn with
      |false=>exact h.elim
      |true=>exact Ok.bind (Ok.quiet (h.ok.mono fun d st h=>i _ _ _ h))
section
variable {C:Cx} {T:Tab} {m:Nat} {J:Js} {sc:Scope} {Kf:KF} {S:o9} {cs:List Ctl} {stk:List D} {ρ:En} {st:Sto} {E:KV} {k:Nat}
theorem Os(hS:Fit C T m J sc Kf S){e:PySem.Expr}(h:S (.ex k e::.truthB::cs) stk ρ st E):Ok (((XI C T m J k).ex sc ρ e st).bind fun d st=>ofO st (c8 d)) (fun b st=>sem C T m J sc Kf cs (.v (.bool b)::stk) ρ st E) E:=
 Ok.bind (Ok.mono (hS _ _ _ _ _ h) fun o_ o_ h=>Aa h)
theorem vf{op:BoolOp}{e:PySem.Expr}{es:List PySem.Expr}(h:sem C T m J sc Kf (.tt k e::.allT k op es::cs) stk ρ st E):Ok (allT ((XI C T m J k).tt sc ρ) op (e::es) st) (fun b st=>sem C T m J sc Kf cs (.v (.bool b)::stk) ρ st E) E:=by
 induction op using PySem.BoolOp.casesOn with
 |And=>exact xv h
 |Or=>exact z7 h
theorem J9(hS:Fit C T m J sc Kf S){e:PySem.Expr}:Rq S k e cs stk ρ st E→sem C T m J sc Kf (.tt (k+1) e::cs) stk ρ st E:=by
 have gen:=@Os C T m J sc Kf S cs stk ρ st E k hS e
 induction e using PySem.Expr.casesOn with
 |UnaryOp op x pos=>
  induction op using PySem.UnaryOp.casesOn with
  |Not=>exact fun h=>Ok.bind (hS _ _ _ _ _ h)
  |_=>exact gen
 |BoolOp op vs pos=>
  induction vs using List.casesOn with
  |nil=>exact False.elim
  |cons e es=>exact fun h=>vf (hS _ _ _ _ _ h)
 |IfExp c a b pos=>exact fun h=>Ok.bind (Ok.mono (hS _ _ _ _ _ h) fun o_ o_ h=>Bs h)
 |Compare l ops rs pos=>exact fun h=>ft h fun h=>Ok.bind (hS _ _ _ _ _ h)
 |_=>exact gen
theorem Ot{s:Stmt}{r:List Stmt}(h:Ok ((XI C T m J (k+1)).st sc ρ s st) (fun p st=>eu p st (fun ρ st=>sem C T m J sc Kf (.sts (k+1) r::cs) stk ρ st E) Kf) E):sem C T m J sc Kf (.sts (k+1) (s::r)::cs) stk ρ st E:=by
 refine xw (h.mono fun p st h=>?_)
 obtain⟨fl,ρ'⟩:=p
 cases fl<;>exact h
theorem Ka(hS:Fit C T m J sc Kf S){x:Str}{p pos:Pos}{e:PySem.Expr}(h:xy C T m J sc Kf S k (.Assign [.Name x p] e pos) cs stk ρ st E):Ok ((XI C T m J (k+1)).st sc ρ (.Assign [.Name x p] e pos) st) (fun p st=>eu p st (fun ρ st=>sem C T m J sc Kf cs stk ρ st E) Kf) E:=by
 change (match bj e with
  |true=>Mj C J sc S k x p e cs stk ρ st E
  |false=>S (.ex k e::.sto x::cs) stk ρ st E)at h
 show Ok (if bj e then Nk C (XI C T m J k) sc ρ x p e st else _) _ E
 generalize bj e=zz at h ⊢
 induction zz using Bool.casesOn with
 |false=>
  exact Ok.bind (Ok.mono (hS _ _ _ _ _ h) fun d st h=>by
   obtain⟨h1,h⟩:=h
   rw[if_pos h1];exact h)
 |true=>
  induction e using PySem.Expr.casesOn with
  |ListComp elt gens scope cp=>
   exact ft h fun h=>Ok.bind (Ok.mono (Bt (e:=.ListComp elt gens scope cp) hS h) fun d st h=>h.2)
  |_=>exact h.elim
theorem Ou(hS:Fit C T m J sc Kf S){ts:List PySem.Expr}{e:PySem.Expr}{pos:Pos}(h:xy C T m J sc Kf S k (.Assign ts e pos) cs stk ρ st E):Ok ((XI C T m J (k+1)).st sc ρ (.Assign ts e pos) st) (fun p st=>eu p st (fun ρ st=>sem C T m J sc Kf cs stk ρ st E) Kf) E:=by
 induction ts using List.casesOn with
 |nil=>exact h.elim
 |cons t r=>
  induction r using List.casesOn with
  |cons t' r'=>cases t<;>exact h.elim
  |nil=>
   induction t using PySem.Expr.casesOn with
   |Name x p=>
    exact Ka hS h
   |Tuple es kk tp=>
    refine e8 h fun h=>?_
    obtain⟨xs,h1,h⟩:=optK.get h
    show Ok (match bg es with|some xs=>_|none=>_) _ E
    rw[h1]
    exact ft h fun h=>Ok.bind (Ok.mono (hS _ _ _ _ _ h) fun d st h=>by
     obtain⟨l,ρ',rfl,h3,h⟩:=h
     dsimp only
     rw[h3];exact h)
   |Subscript o i sp=>
    exact e8 h fun h=>Ok.bind (Ok.mono (hS _ _ _ _ _ h) fun d st₁ h=>Ok.bind (Ok.mono h fun a st₂ h=>Ok.bind (Ok.mono h fun kk st₃ h=>by
     obtain⟨x,j,z,l,rfl,rfl,rfl,h1,h2,h⟩:=h
     show Ok (match st₃[j]? with|some l=>_|none=>_) _ E
     rw[h1]
     dsimp only
     rw[if_pos h2]
     exact h)))
   |_=>exact h.elim
theorem Gp(hS:Fit C T m J sc Kf S){x:Str}{np cp pos:Pos}{args:List PySem.Expr}{Q:Fl×En→Sto→Prop}(h:xy C T m J sc Kf S k (.Raise (some (.Call (.Name x np) args [] cp)) none pos) cs stk ρ st E):Ok ((XI C T m J (k+1)).st sc ρ (.Raise (some (.Call (.Name x np) args [] cp)) none pos) st) Q E:=by
 change (match kz C sc x with
  |some c=>optK (C.xc c) fun xi=>onK (noStar args) (S (dy k args [.raise c xi args.length]) stk ρ st E)
  |Option.none=>False)at h
 show Ok (match kz C sc x with
  |some c=>(match C.xc c with
   |some xi=>if noStar args then (evs ((XI C T m J k).ex sc ρ) args st).bind fun ds st=>(match cj ds with
     |some l=>if l.length==xi.ps.length then .exc (.inst c xi.ns (xi.vs l)) st else .stuck
     |Option.none=>.stuck)else .stuck
   |Option.none=>.stuck)
  |Option.none=>.stuck) _ E
 generalize kz C sc x=z at h ⊢
 induction z using Option.casesOn with
 |none=>exact h.elim
 |some c=>
  obtain⟨xi,h1,h⟩:=h.get
  dsimp only
  rw[h1]
  exact ft h fun h=>gt (hS _ _ _ _ _ h) fun ds st hl h=>by
   rw[←hl]at h
   obtain⟨l,h2,h3,h4⟩:=h
   rw[d9]at h2
   rw[h2]
   dsimp only
   rw[if_pos h3];exact h4
theorem Ov(hS:Fit C T m J sc Kf S){body:List Stmt}{h₀:ExceptHandler}{hs:List ExceptHandler}{pos:Pos}(h:xy C T m J sc Kf S k (.Try body (h₀::hs) [] [] pos) cs stk ρ st E):Ok ((XI C T m J (k+1)).st sc ρ (.Try body (h₀::hs) [] [] pos) st) (fun p st=>eu p st (fun ρ st=>sem C T m J sc Kf cs stk ρ st E) Kf) E:=by
 have h:=hS _ _ _ _ _ h
 have h:Ok (o7 ((XI C T m J k).ex sc ρ) ((XI C T m J k).tt sc ρ) body st) (fun d st=>Kf (.ret d,ρ) st) (Mi C J sc Kf ρ (h₀::hs)):=h
 show Ok (match o7 ((XI C T m J k).ex sc ρ) ((XI C T m J k).tt sc ρ) body st with
  |.ok d st=>.ok (.ret d,ρ) st
  |.exc (.inst c ns l) st=>cr C J.h sc ρ c ns l (h₀::hs) st
  |_=>.stuck) _ E
 revert h
 generalize o7 ((XI C T m J k).ex sc ρ) ((XI C T m J k).tt sc ρ) body st=r
 intro h
 induction r using Out.casesOn with
 |ok d st=>exact h
 |stuck=>exact h.elim
 |exc x st=>
  induction x using Mine.V.casesOn with
  |inst c ns l=>exact jx h fun o_ o_ o_ h=>h
  |_=>exact h.elim
theorem Gq{c:PySem.Expr}{b:List Stmt}{pos:Pos}(hS:Fit C T m J sc Kf S)(h:xy C T m J sc Kf S k (.While c b [] pos) cs stk ρ st E):Ok ((XI C T m J (k+1)).st sc ρ (.While c b [] pos) st) (fun p st=>eu p st (fun ρ st=>sem C T m J sc Kf cs stk ρ st E) Kf) E:=
 Ok.mono (LoopK.ok h) fun p st h=>by
  obtain⟨fl,ρ'⟩:=p
  induction fl using Fl.casesOn with
  |next=>exact hS _ _ _ _ _ h
  |_=>exact h
theorem Kb{t it:PySem.Expr}{b:List Stmt}{pos:Pos}(hS:Fit C T m J sc Kf S)(h:xy C T m J sc Kf S k (.For t it b [] pos) cs stk ρ st E):Ok ((XI C T m J (k+1)).st sc ρ (.For t it b [] pos) st) (fun p st=>eu p st (fun ρ st=>sem C T m J sc Kf cs stk ρ st E) Kf) E:=
 e8 h fun h=>Br (c:=fun pr es=>.forE k pr es.length t b) hS h fun ds st hl h=>by
  have h:optK (dp _ (jv _ (ds.reverse++stk))) _:=h
  rw[←hl,d9]at h
  refine optK.mono h fun l h=>?_
  rw[fs]at h
  exact h
theorem Kc(hS:Fit C T m J sc Kf S){s:Stmt}(h:xy C T m J sc Kf S k s cs stk ρ st E):Ok ((XI C T m J (k+1)).st sc ρ s st) (fun p st=>eu p st (fun ρ st=>sem C T m J sc Kf cs stk ρ st E) Kf) E:=by
 induction s using PySem.Stmt.casesOn with
 |Pass pos=>exact hS _ _ _ _ _ h
 |Break pos=>exact h
 |Continue pos=>exact h
 |Return e pos=>
  induction e using Option.casesOn with
  |none=>exact h.elim
  |some e=>exact Ok.bind (Ok.mono (hS _ _ _ _ _ h) fun o_ o_ h=>h)
 |Expr e pos=>exact e8 h fun h=>Ok.bind (Ok.mono (hS _ _ _ _ _ h) fun o_ o_ h=>h)
 |Assign ts e pos=>exact Ou hS h
 |If c a b pos=>exact Ok.bind (Ok.mono (hS _ _ _ _ _ h) fun o_ o_ h=>Bs h)
 |While c b orelse pos=>
  induction orelse using List.casesOn with
  |cons _ _=>exact h.elim
  |nil=>exact Gq hS h
 |For t it b orelse pos=>
  induction orelse using List.casesOn with
  |cons _ _=>exact h.elim
  |nil=>exact Kb hS h
 |Raise exc cause pos=>
  induction exc using Option.casesOn with
  |none=>exact h.elim
  |some e=>
   induction e using PySem.Expr.casesOn with
   |Call f args kws cp=>
    induction f using PySem.Expr.casesOn with
    |Name x np=>
     induction kws using List.casesOn with
     |cons _ _=>exact h.elim
     |nil=>
      induction cause using Option.casesOn with
      |some _=>exact h.elim
      |none=>exact Gp hS h
    |_=>exact h.elim
   |_=>exact h.elim
 |Try body hs orelse final pos=>
  induction hs using List.casesOn with
  |nil=>exact h.elim
  |cons h₀ hs=>
   induction orelse using List.casesOn with
   |cons _ _=>exact h.elim
   |nil=>
    induction final using List.casesOn with
    |cons _ _=>exact h.elim
    |nil=>exact Ov hS h
 |_=>exact h.elim
end
section
variable {C:Cx} {T:Tab} {m:Nat} {J:Js} {sc:Scope} {Kf:KF} {S:o9} {cs:List Ctl} {stk:List D} {ρ:En} {st:Sto} {E:KV} {k:Nat}
theorem Ox{a:D}{ops:List CmpOp}{rs:List PySem.Expr}{st:Sto}(hS:Fit C T m J sc Kf S)(h:goC C T m J sc Kf S (.chain k ops rs) cs (a::stk) ρ st E):Ok (chain ((XI C T m J k).ex sc ρ) a ops rs st) (fun b st=>sem C T m J sc Kf cs (.v (.bool b)::stk) ρ st E) E:=by
 induction ops using List.casesOn with
 |nil=>exact h.elim
 |cons op ops=>
  induction rs using List.casesOn with
  |nil=>exact h.elim
  |cons r rs=>
   have gen:sem C T m J sc Kf (.ex k r::.cmpC k op ops rs::cs) (a::stk) ρ st E→Ok (((XI C T m J k).ex sc ρ r st).bind fun b st=>match cmp op a b st with
    |some true=>chain ((XI C T m J k).ex sc ρ) b ops rs st
    |some false=>.ok false st
    |Option.none=>.stuck) (fun b st=>sem C T m J sc Kf cs (.v (.bool b)::stk) ρ st E) E:=fun h=>Ok.bind (Ok.mono h fun b st h=>by
    obtain⟨c,h1,h⟩:=optK.get h
    rw[h1]
    induction c using Bool.casesOn with
    |true=>exact h.1 rfl
    |false=>exact h.2 rfl)
   induction ops using List.casesOn with
   |nil=>
    induction rs using List.casesOn with
    |nil=>
     exact Ok.bind (Ok.mono (hS _ _ _ _ _ h) fun b st h=>Aa h)
    |cons _ _=>exact gen (hS _ _ _ _ _ h)
   |cons _ _=>exact gen (hS _ _ _ _ _ h)
theorem Rs{o:D}{name:Str}{args:List PySem.Expr}(hS:Fit C T m J sc Kf S)(h:goC C T m J sc Kf S (.meth k name args) cs (o::stk) ρ st E):sem C T m J sc Kf (.meth k name args::cs) (o::stk) ρ st E:=by
 induction o using D.casesOn with
 |m i=>exact Ok.bind (Ok.quiet ((lh (hS _ _ _ _ _ h)).mono fun ds st h=>by
   have h:=h.2
   have hl:=‹ds.length=args.length∧_›.1
   rw[←hl]at h
   have h:Ok (listM name i (jv ds.length (ds.reverse++stk)) st) (fun d st=>sem C T m J sc Kf cs (d::jw ds.length (ds.reverse++stk)) ρ st E) E:=h
   rw[d9,fs]at h
   exact h))
 |v x=>
  induction x using Mine.V.casesOn with
  |int i=>exact Ok.mono (outK.ok h) fun o_ o_ h=>hS _ _ _ _ _ h
  |inst c ns vs=>
   obtain⟨fa,h1,h⟩:=optK.get h
   show Ok (match C.meth c name with|some f=>_|none=>_) _ E
   rw[h1]
   exact e8 h fun h=>gt (hS _ _ _ _ _ h) fun ds st hl h=>by
    have e:(args.length+1)=((D.v (.inst c ns vs))::ds).length:=by rw[List.length_cons,hl]
    rw[e]at h
    have h:Ok (R C T (m+1) (.v (.val (.ref fa))) (jv ((D.v (.inst c ns vs))::ds).length (ds.reverse++(D.v (.inst c ns vs))::stk)) st) (fun d st=>sem C T m J sc Kf cs (d::jw ((D.v (.inst c ns vs))::ds).length (ds.reverse++(D.v (.inst c ns vs))::stk)) ρ st E) E:=h
    have e2:ds.reverse++(D.v (.inst c ns vs))::stk=((D.v (.inst c ns vs))::ds).reverse++stk:=by rw[List.reverse_cons,List.append_assoc];rfl
    rw[e2,d9,fs]at h
    exact h
  |_=>exact h.elim
theorem Kd{o:D}{args:List PySem.Expr}(hS:Fit C T m J sc Kf S)(h:goC C T m J sc Kf S (.callee k args) cs (o::stk) ρ st E):sem C T m J sc Kf (.callee k args::cs) (o::stk) ρ st E:=by
 induction o using D.casesOn with
 |m i=>exact h.elim
 |v x=>
  induction x using Mine.V.casesOn with
  |val v=>
   exact ft h fun h=>gt (hS _ _ _ _ _ h) fun ds st hl h=>by
    rw[←hl]at h
    have h:Ok (R C T (m+1) (.v (.val v)) (jv ds.length (ds.reverse++stk)) st) (fun d st=>sem C T m J sc Kf cs (d::jw ds.length (ds.reverse++stk)) ρ st E) E:=h
    rw[d9,fs]at h
    exact h
  |_=>exact h.elim
theorem Rt{pr:Src}{n:Nat}{elt t:PySem.Expr}{ifs:List PySem.Expr}{scope:Scope}{pos:Pos}(hS:Fit C T m J sc Kf S)(h:goC C T m J sc Kf S (.comp k pr n elt t ifs scope pos) cs stk ρ st E):sem C T m J sc Kf (.comp k pr n elt t ifs scope pos::cs) stk ρ st E:=
 optK.mono (popK.get h) fun l h=>Ok.mono (LoopK.ok h) fun acc st h=>by
  unfold Gl at h
  by_cases hm:C.mt pos=true
  ·rw[hm]at h
   rw[if_pos hm];exact hS _ _ _ _ _ h
  ·rw[Bool.eq_false_iff.mpr hm]at h
   rw[if_neg hm];exact hS _ _ _ _ _ h
theorem T3{pr:Src}{n:Nat}{t:PySem.Expr}{b:List Stmt}(hS:Fit C T m J sc Kf S)(h:goC C T m J sc Kf S (.forE k pr n t b) cs stk ρ st E):sem C T m J sc Kf (.forE k pr n t b::cs) stk ρ st E:=
 optK.mono (popK.get h) fun l h=>Ok.mono (LoopK.ok h) fun p st h=>by
  obtain⟨fl,ρ'⟩:=p
  induction fl using Fl.casesOn with
  |next=>exact hS _ _ _ _ _ h
  |_=>exact h
theorem Oy{d:D}{lo hi:Option PySem.Expr}(hS:Fit C T m J sc Kf S)(h:goC C T m J sc Kf S (.slice lo hi) cs (d::stk) ρ st E):sem C T m J sc Kf (.slice lo hi::cs) (d::stk) ρ st E:=by
 obtain⟨l,h1,h⟩:=optK.get h
 obtain⟨a,h2,h⟩:=optK.get h
 obtain⟨b,h3,h4,h⟩:=optK.get h
 obtain⟨mm,h5,h⟩:=optK.get h
 have hd:d=.v (.lst l):=k6 h1
 exact⟨l,a,b,mm,hd,h2,h3,h4.get,h5,hS _ _ _ _ _ h⟩
theorem Ru{d:D}{a:Str}(hS:Fit C T m J sc Kf S)(h:goC C T m J sc Kf S (.attr a) cs (d::stk) ρ st E):sem C T m J sc Kf (.attr a::cs) (d::stk) ρ st E:=by
 induction d using D.casesOn with
 |m i=>exact h.elim
 |v x=>
  induction x using Mine.V.casesOn with
  |inst c ns vs=>
   obtain⟨h1,h⟩:=onK.get h
   obtain⟨x,h2,h⟩:=optK.get h
   unfold Mh at h
   generalize h3:jd x=zz
   induction zz using Bool.casesOn with
   |true=>rw[h3]at h;exact h.elim
   |false=>rw[h3]at h;exact⟨c,ns,vs,x,rfl,h1,h2,h3,hS _ _ _ _ _ h⟩
  |_=>exact h.elim
theorem Rv{ss:List Stmt}(hS:Fit C T m J sc Kf S)(h:goC C T m J sc Kf S (.retb k ss) cs stk ρ st E):sem C T m J sc Kf (.retb k ss::cs) stk ρ st E:=by
 induction ss using List.casesOn with
 |nil=>exact h.elim
 |cons s r=>
  change (match i8 s with
   |some e=>onK r.isEmpty (S [.ex k e,.ret] stk ρ st E)
   |none=>(match kl s with
    |some p=>S [.tt k p.1,.retI k p.2 r] stk ρ st E
    |none=>False))at h
  show Ok (match i8 s with
  |some e=>if r.isEmpty then (XI C T m J k).ex sc ρ e st else .stuck
  |Option.none=>(match kl s with
   |some p=>((XI C T m J k).tt sc ρ p.1 st).bind fun b st=>if b then (XI C T m J k).ex sc ρ p.2 st else o7 ((XI C T m J k).ex sc ρ) ((XI C T m J k).tt sc ρ) r st
   |Option.none=>.stuck)) _ E
  generalize h1:i8 s=zz
  induction zz using Option.casesOn with
  |some e=>
   rw[h1]at h
   exact ft h fun h=>Ok.mono (hS _ _ _ _ _ h) fun o_ o_ h=>h
  |none=>
   rw[h1]at h
   dsimp only at h ⊢
   generalize h2:kl s=zz
   induction zz using Option.casesOn with
   |none=>rw[h2]at h;exact h.elim
   |some p=>
    rw[h2]at h
    exact Ok.bind (Ok.mono (hS _ _ _ _ _ h) fun o_ o_ h=>Bs h)
theorem Rx{d:D}{op:BoolOp}{es:List PySem.Expr}(hS:Fit C T m J sc Kf S)(h:goC C T m J sc Kf S (.boolV k op es) cs (d::stk) ρ st E):sem C T m J sc Kf (.boolV k op es::cs) (d::stk) ρ st E:=by
 induction es using List.casesOn with
 |nil=>exact(hS _ _ _ _ _ h:sem C T m J sc Kf cs (d::stk) ρ st E)
 |cons e es=>
  have key:S (.ex k e::.boolV k op es::cs) stk ρ st E→Ok (boolV ((XI C T m J k).ex sc ρ) op (e::es) st) (fun d st=>sem C T m J sc Kf cs (d::stk) ρ st E) E:=fun h=>t8 (hS _ _ _ _ _ h)
  induction op using PySem.BoolOp.casesOn with
  |And=>exact optK.mono h fun t h=>brK.mono h key fun h=>hS _ _ _ _ _ h
  |Or=>exact optK.mono h fun t h=>brK.mono h (fun h=>hS _ _ _ _ _ h) key
theorem T5{d:D}{op:BoolOp}{es:List PySem.Expr}(hS:Fit C T m J sc Kf S)(h:goC C T m J sc Kf S (.allT k op es) cs (d::stk) ρ st E):sem C T m J sc Kf (.allT k op es::cs) (d::stk) ρ st E:=by
 induction es using List.casesOn with
 |nil=>
  exact optK.mono h fun t h=>by
   have h:sem C T m J sc Kf cs (.v (.bool t)::stk) ρ st E:=hS _ _ _ _ _ h
   cases op<;>cases t<;>exact⟨fun e=>(by first|exact h|(first|subst e|contradiction|(injection e with e;subst e)|cases e)),fun e=>(by first|exact h|(first|subst e|contradiction|(injection e with e;subst e)|cases e))⟩
 |cons e es=>
  induction op using PySem.BoolOp.casesOn with
  |And=>exact optK.mono h fun t h=>brK.mono h (fun h=>vf (hS _ _ _ _ _ h)) fun h=>hS _ _ _ _ _ h
  |Or=>exact optK.mono h fun t h=>brK.mono h (fun h=>hS _ _ _ _ _ h) fun h=>vf (hS _ _ _ _ _ h)
noncomputable def T6:Ctl→Bool
 |.ex _ _|.tt _ _|.sts _ _|.retb _ _|.tup _|.lst _ _|.call _ _|.listM _ _ _|.raise _ _ _|.restE _|.comp _ _ _ _ _ _ _ _|.forE _ _ _ _ _=>false
 |_=>true
theorem T7(hS:Fit C T m J sc Kf S){c:Ctl}{d:D}(h1:T6 c=true)(h:goC C T m J sc Kf S c cs (d::stk) ρ st E):sem C T m J sc Kf (c::cs) (d::stk) ρ st E:=by
 induction c using Ctl.casesOn with
 |retI k e r=>exact optK.mono h fun t h=>brK.mono h (fun h=>Ok.mono (hS _ _ _ _ _ h) fun o_ o_ h=>h) fun h=>hS _ _ _ _ _ h
 |bin op=>
  induction stk using List.casesOn with
  |nil=>exact h.elim
  |cons a stk=>exact optK.mono (binK.o h) fun o_ h=>hS _ _ _ _ _ h
 |cmp op=>
  induction stk using List.casesOn with
  |nil=>exact h.elim
  |cons a stk=>exact optK.mono (cmpK.o h) fun o_ h=>hS _ _ _ _ _ h
 |chain k ops rs=>exact Ox hS h
 |cmpC k op ops rs=>
  induction stk using List.casesOn with
  |nil=>exact h.elim
  |cons a stk=>exact optK.mono (cmpK.o h) fun o_ h=>brK.mono h (fun h=>hS _ _ _ _ _ h) fun h=>hS _ _ _ _ _ h
 |notV=>exact optK.mono h fun o_ h=>hS _ _ _ _ _ h
 |negV=>exact optK.mono h fun o_ h=>hS _ _ _ _ _ h
 |notB=>exact optK.mono h fun o_ h=>hS _ _ _ _ _ h
 |truthB=>exact optK.mono h fun o_ h=>hS _ _ _ _ _ h
 |ifx k a b=>exact optK.mono h fun t h=>brK.mono h (fun h=>hS _ _ _ _ _ h) fun h=>hS _ _ _ _ _ h
 |ift k a b=>exact optK.mono h fun t h=>brK.mono h (fun h=>hS _ _ _ _ _ h) fun h=>hS _ _ _ _ _ h
 |ifs k a b=>exact optK.mono h fun t h=>brK.mono h (fun h=>hS _ _ _ _ _ h) fun h=>hS _ _ _ _ _ h
 |boolV k op es=>exact Rx hS h
 |allT k op es=>exact T5 hS h
 |slice lo hi=>exact Oy hS h
 |sub=>
  induction stk using List.casesOn with
  |nil=>exact h.elim
  |cons a stk=>exact optK.mono h fun o_ h=>hS _ _ _ _ _ h
 |attr a=>exact Ru hS h
 |meth k name args=>exact Rs hS h
 |callee k args=>exact Kd hS h
 |ret=>exact h
 |pop=>exact(hS _ _ _ _ _ h:sem C T m J sc Kf cs stk ρ st E)
 |sto x=>exact⟨(onK.get h).1,hS _ _ _ _ _ (onK.get h).2⟩
 |stoT xs=>
  obtain⟨l,h1,h⟩:=optK.get h
  obtain⟨ρ',h2,h⟩:=optK.get h
  have hd:d=.v (.tup l):=yy h1
  exact⟨l,ρ',hd,h2,hS _ _ _ _ _ h⟩
 |setI=>
  induction stk using List.casesOn with
  |nil=>exact h.elim
  |cons a stk=>
   induction stk using List.casesOn with
   |nil=>exact h.elim
   |cons e stk=>
    obtain⟨x,j,z,l,h1,h2,h3,h4,h5,h⟩:=h
    exact⟨x,j,z,l,h1,h2,h3,h4,h5,hS _ _ _ _ _ h⟩
 |loop k b=>exact optK.mono h fun t h=>brK.mono h (fun h=>hS _ _ _ _ _ h) fun h=>h
 |_=>(first|subst h1|contradiction|(injection h1 with h1;subst h1)|cases h1)
theorem Oz(hS:Fit C T m J sc Kf S){c:Ctl}(h:goC C T m J sc Kf S c cs stk ρ st E):sem C T m J sc Kf (c::cs) stk ρ st E:=by
 induction c using Ctl.casesOn with
 |comp k pr n elt t ifs scope pos=>exact Rt hS h
 |forE k pr n t b=>exact T3 hS h
 |ex k e=>
  induction k using Nat.casesOn with
  |zero=>exact h.elim
  |succ k=>exact Bt hS h
 |tt k e=>
  induction k using Nat.casesOn with
  |zero=>exact h.elim
  |succ k=>exact J9 hS h
 |sts k ss=>
  induction ss using List.casesOn with
  |nil=>exact(hS _ _ _ _ _ h:sem C T m J sc Kf cs stk ρ st E)
  |cons s r=>
   induction k using Nat.casesOn with
   |zero=>exact h.elim
   |succ k=>exact Ot (Kc hS h)
 |retb k ss=>exact Rv hS h
 |tup n=>exact optK.mono (popK.get h) fun l h=>hS _ _ _ _ _ h
 |lst n pos=>
  exact optK.mono (popK.get h) fun l h=>by
   unfold Mg at h
   by_cases hm:C.mt pos=true
   ·rw[hm]at h
    rw[if_pos hm];exact hS _ _ _ _ _ h
   ·rw[Bool.eq_false_iff.mpr hm]at h
    rw[if_neg hm];exact hS _ _ _ _ _ h
 |call n v=>exact Ok.mono (callK.ok (popK.get h)) fun o_ o_ h=>hS _ _ _ _ _ h
 |listM name i n=>exact Ok.mono (LoopK.ok (popK.get h)) fun o_ o_ h=>hS _ _ _ _ _ h
 |raise c xi n=>
  obtain⟨l,h1,h⟩:=optK.get (popK.get h)
  obtain⟨h2,h⟩:=onK.get h
  exact⟨l,h1,h2,h⟩
 |restE E=>exact(hS _ _ _ _ _ h:sem C T m J sc Kf cs stk ρ st E)
 |_=>
  induction stk using List.casesOn with
  |nil=>exact h.elim
  |cons d stk=>exact T7 hS rfl h
theorem mf:∀N,Fit C T m J sc Kf (go C T m J sc Kf N)
 |0,_,_,_,_,_,h=>h.elim
 |_+1,[],_,_,_,_,h=>h
 |N+1,_::_,_,_,_,_,h=>Oz (mf N) h
end
noncomputable def bz(n:Nat)(Q:KD)(p:Fl×En)(st:Sto):Prop:=
 match p.1 with
 |.next=>Q (.v .none) (st.take n)
 |.ret d=>(match d with
  |.v x=>Q (.v x) (st.take n)
  |.m i=>if i<n then Q (.m i) (st.take n)else Q (.m i) st)
 |_=>False
noncomputable def O0(Q:V→Sto→Prop)(p:Fl×En)(st:Sto):Prop:=
 match p.1 with
 |.ret d=>(match d with
  |.v x=>Q x st
  |.m _=>False)
 |_=>False
noncomputable abbrev fu:Nat:=100000
section
variable {C:Cx} {T:Tab} {m:Nat} {J:Js}
theorem aa{st:Sto}{Q:KD}{d:D}(q:Q d st):Q d (st.take st.length):=by rw[ztl];exact q
theorem O1{J:Js}{sc:Scope}{Kf:KF}{b:List Stmt}{ρ:En}{st:Sto}{E:KV}{k:Nat}(h:go C T m J sc Kf fu [.sts k b] [] ρ st E):Ok (exs ((XI C T m J k).st sc) b ρ st) (fun p st=>eu p st (fun ρ st=>Kf (.next,ρ) st) Kf) E:=mf fu _ _ _ _ _ h
theorem Ke{sc:Scope}{Kf:KF}{b:List Stmt}{ρ:En}{st:Sto}{E:KV}{k:Nat}(h:go C T m (JT C T m) sc Kf fu [.sts k b] [] ρ st E):Ok (exs ((X C (R C T (m+1)) k).st sc) b ρ st) (fun p st=>eu p st (fun ρ st=>Kf (.next,ρ) st) Kf) E:=O1 h
theorem Gr{f:FnI}{ds:List D}{st:Sto}{Q:KD}{E:KV}(h1:f.ps.length=ds.length)(h:go C T m (JT C T m) f.sc (bz st.length Q) fu [.sts 64 f.body] [] (f.ps.zip ds) st E):Ok (f3 C (R C T (m+1)) f ds st) Q E:=by
 unfold f3
 rw[if_pos h1]
 have h:Ok (exs ((X C (R C T (m+1)) 64).st f.sc) f.body (f.ps.zip ds) st) (fun p st'=>eu p st' (fun ρ st₂=>bz st.length Q (.next,ρ) st₂) (bz st.length Q)) E:=Ke h
 refine Ok.bind (Ok.mono h fun p st' h=>?_)
 obtain⟨fl,ρ⟩:=p
 induction fl using Fl.casesOn with
 |next=>exact h
 |ret d=>
  induction d using D.casesOn with
  |v x=>exact h
  |m i=>
   change (if i<st.length then _ else _)at h
   show Ok (if i<st.length then _ else _) Q E
   by_cases hi:i<st.length
   ·rw[if_pos hi]at h ⊢;exact h
   ·rw[if_neg hi]at h ⊢;exact h
 |_=>exact h.elim
theorem af{a:Addr}{f:FnI}{ds:List D}{st:Sto}{Q:KD}{E:KV}(h0:T.fn a=some f)(h1:f.ps.length=ds.length)(h:go C T m (JT C T m) f.sc (bz st.length Q) fu [.sts 64 f.body] [] (f.ps.zip ds) st E):CallK (R C T (m+2) (.v (.val (.ref a))) ds st) Q E:=CallK.of (Rm h0 (Gr h1 h))
theorem e9{k:Nat}{sc:Scope}{c:PySem.Expr}{b:List Stmt}{ρ₀:En}{st₀:Sto}{Q:Fl×En→Sto→Prop}{E:KV}(I:Nat→En→Sto→Prop){k₀:Nat}(hk:k₀<LIM)(h0:I k₀ ρ₀ st₀)
 (h:∀i ρ st,I i ρ st→go C T m J sc (again (fun ρ st=>∃k',k'<i∧I k' ρ st) Q) fu [.tt k c,.loop k b] [] ρ st NoE):
 LoopK (fj (fun ρ st=>(XI C T m J k).tt sc ρ c st) (fun ρ st=>exs ((XI C T m J k).st sc) b ρ st) LIM ρ₀ st₀) Q E:=
 LoopK.of (Gh I (fun i ρ st hI=>Ok.mono (mf fu _ _ _ _ _ (h i ρ st hI)) fun t st₁ h=>⟨fun e=>Ok.mono (h.1 e) fun p st h=>by
  obtain⟨fl,ρ'⟩:=p
  cases fl<;>exact h,fun e=>h.2 e⟩) k₀ LIM ρ₀ st₀ hk h0)
theorem Ab{k:Nat}{sc:Scope}{put:V→En→Option En}{b:List Stmt}{l₀:List V}{ρ₀:En}{st₀:Sto}{Q:Fl×En→Sto→Prop}{E:KV}(I:List V→En→Sto→Prop)(hI:I l₀ ρ₀ st₀)
 (h0:∀ρ st,I [] ρ st→Q (.next,ρ) st) (h:∀x r ρ st,I (x::r) ρ st→∃ρ₁,put x ρ=some ρ₁∧go C T m J sc (again (I r) Q) fu [.sts k b] [] ρ₁ st E):
 LoopK (fz put (fun ρ st=>exs ((XI C T m J k).st sc) b ρ st) l₀ ρ₀ st₀) Q E:=
 LoopK.of (ve I h0 (fun x r ρ st hI=>by
  obtain⟨ρ₁,h1,h2⟩:=h x r ρ st hI
  exact⟨ρ₁,h1,Ok.mono (mf fu _ _ _ _ _ h2) fun p st h=>by
   obtain⟨fl,ρ'⟩:=p
   cases fl<;>exact h⟩) l₀ ρ₀ st₀ hI)
theorem ja{k:Nat}{sc:Scope}{put:V→En→Option En}{b:List Stmt}{l₀:List V}{ρ₀:En}{st₀:Sto}{Q:Fl×En→Sto→Prop}{E:KV}(I:List V→En→Sto→Prop)(hI:I l₀ ρ₀ st₀)
 (h0:∀ρ st,I [] ρ st→Q (.next,ρ) st) (h:∀x r ρ st,I (x::r) ρ st→∃ρ₁,put x ρ=some ρ₁∧go C T m J sc (again (I r) Q) fu [.sts k b] [] ρ₁ st NoE):
 LoopK (fz put (fun ρ st=>exs ((XI C T m J k).st sc) b ρ st) l₀ ρ₀ st₀) Q E:=
 LoopK.of (ve I h0 (fun x r ρ st hI=>by
  obtain⟨ρ₁,h1,h2⟩:=h x r ρ st hI
  exact⟨ρ₁,h1,Ok.noE ((mf fu _ _ _ _ _ h2).mono fun p st h=>by
   obtain⟨fl,ρ'⟩:=p
   cases fl<;>exact h)⟩) l₀ ρ₀ st₀ hI)
theorem pk{put:V→En→Option En}{test:En→Sto→Out Bool}{elt:En→Sto→Out D}{Q:List V→Sto→Prop}{E:V→Sto→Prop}(I:List V→En→List V→Sto→Prop)
 (h0:∀ρ acc st,I [] ρ acc st→Q acc st)
 (h:∀x r ρ acc st,I (x::r) ρ acc st→∃ρ₁,put x ρ=some ρ₁∧Ok (test ρ₁ st) (fun b st₁=>(b=true→Ok (elt ρ₁ st₁) (fun d st₂=>∃y,d=.v y∧cf acc.length=true∧I r ρ₁ (acc++[y]) st₂) NoE)∧(b=false→I r ρ₁ acc st₁)) NoE):
 ∀(l:List V) (ρ:En) (acc:List V) (st:Sto),I l ρ acc st→Ok (a8 put test elt l ρ acc st) Q E
 |[],ρ,acc,st,hI=>vd (h0 ρ acc st hI)
 |x::r,ρ,acc,st,hI=>by
  obtain⟨ρ₁,h1,h2⟩:=h x r ρ acc st hI
  refine s9 h1 (h2.mono fun b st₁ h3=>⟨fun e=>(h3.1 e).mono fun d st₂ h4=>?_,fun e=>pk I h0 h r ρ₁ acc st₁ (h3.2 e)⟩)
  obtain⟨y,h5,h6,h7⟩:=h4
  exact⟨y,h5,h6,pk I h0 h r ρ₁ (acc++[y]) st₂ h7⟩
theorem ry{k:Nat}{sc:Scope}{put:V→En→Option En}{e:PySem.Expr}{l₀ acc₀:List V}{ρ₀:En}{st₀:Sto}{Q:List V→Sto→Prop}{E:KV}(I:List V→En→List V→Sto→Prop)(hI:I l₀ ρ₀ acc₀ st₀)
 (h0:∀ρ acc st,I [] ρ acc st→Q acc st)
 (h:∀x r ρ acc st,I (x::r) ρ acc st→∃ρ₁,put x ρ=some ρ₁∧go C T m J sc (O0 fun y st₂=>cf acc.length=true∧I r ρ₁ (acc++[y]) st₂) fu [.ex k e,.ret] [] ρ₁ st NoE):
 LoopK (a8 put (ey ((XI C T m J k).tt sc) []) (fun ρ st=>(XI C T m J k).ex sc ρ e st) l₀ ρ₀ acc₀ st₀) Q E:=
 LoopK.of (pk I h0 (fun x r ρ acc st hI=>by
  obtain⟨ρ₁,h1,h2⟩:=h x r ρ acc st hI
  exact⟨ρ₁,h1,⟨fun o_=>Ok.mono (mf fu _ _ _ _ _ h2) fun d st h=>by
   induction d using D.casesOn with
   |v x=>exact⟨x,rfl,h⟩
   |m i=>exact h.elim,fun z=>by(first|subst z|contradiction|(injection z with z;subst z)|cases z)⟩⟩) l₀ ρ₀ acc₀ st₀ hI)
noncomputable def Ac(C:Cx)(td:TdI):Bool:=
 match td.wrap with
 |none=>true
 |some g=>(match dh C td.sc g with
  |some v=>C.able v
  |none=>false)
noncomputable def xz(C:Cx)(T:Tab)(m:Nat)(td:TdI)(Q:KD)(E:KV)(p:Fl×En)(st:Sto):Prop:=
 match p.1 with
 |.ret d=>(match td.wrap with
  |none=>Q d st
  |some g=>optK (dh C td.sc g) fun v=>callK C T m v [d] st Q E)
 |_=>False
noncomputable def Ry(Q:KD)(p:Fl×En)(st:Sto):Prop:=
 match p.1 with
 |.ret d=>Q d st
 |_=>False
noncomputable def ol(C:Cx)(td:TdI)(Q:KD)(x:V)(st:Sto):Prop:=
 match x with
 |.inst c ns l=>gr C (XH C) td.sc [] c ns l (td.hd::td.hs) st (Ry Q)
 |_=>False
theorem Kg{td:TdI}{r:Out D}{Q:KD}{E:KV}{ρ:En}(hw:Ac C td=true)(h:Ok r (fun d st=>xz C T m td Q E (.ret d,ρ) st) E):Ok (qf C (R C T (m+1)) td r) Q E:=by
 unfold qf
 unfold Ac at hw
 unfold xz at h
 dsimp only at h
 generalize td.wrap=w at hw h ⊢
 induction w using Option.casesOn with
 |none=>exact h
 |some g=>
  dsimp only at hw h ⊢
  generalize dh C td.sc g=v at hw h ⊢
  induction v using Option.casesOn with
  |none=>contradiction
  |some v=>
   dsimp only at hw ⊢
   rw[if_pos hw]
   exact Ok.bind (Ok.mono h fun d st h=>callK.ok h)
theorem O2{sc:Scope}{ρ:En}{f:PySem.Expr}{l:PySem.Expr×Scope×Pos}{st:Sto}{Q:KD}{E:KV}{a:Addr}{td:TdI}(h0:((c9 f).bind (dh C sc)).bind kv=some a)(h1:qd l.2.1 sc=true)(h2:C.told a=some td)(h3:Ac C td=true)
 (h:go C T m bu l.2.1 (xz C T m td Q (ol C td Q)) fu [.ex 64 l.1,.ret] [] (az l.2.1 ρ) st (ol C td Q)):LoopK (kn C (JT C T m) sc ρ f l st) Q E:=by
 refine LoopK.of ?_
 have h:Ok ((XJ C (R C T (m+1)) bu 64).ex l.2.1 (az l.2.1 ρ) l.1 st) (fun d st=>xz C T m td Q (ol C td Q) (.ret d,az l.2.1 ρ) st) (ol C td Q):=mf (J:=bu) fu _ _ _ _ _ h
 replace h:=Kg h3 h
 unfold kn
 rw[h0]
 dsimp only
 rw[h1,h2,if_pos (show(true&&Option.isSome (some td))=true from rfl)]
 show Ok (wi C (R C T (m+1)) a l.1 l.2.1 (az l.2.1 ρ) st) Q E
 unfold wi
 rw[h2]
 dsimp only
 revert h
 generalize qf C (R C T (m+1)) td ((XJ C (R C T (m+1)) bu 64).ex l.2.1 (az l.2.1 ρ) l.1 st)=r
 intro h
 induction r using Out.casesOn with
 |ok d st=>exact h
 |stuck=>exact h.elim
 |exc x st=>
  induction x using Mine.V.casesOn with
  |inst c ns l=>exact Ok.bind (jx (K':=fun p st=>Ok (Q1 p st) Q E) h fun d ρ st h=>h)
  |_=>exact h.elim
end
end Mine
end
section
open PySem PySem.W PySem.Spec PySem.Calls PyProof.Rows
namespace Mine
theorem Rz:LeftO PySem.Challenge.pw_nt0210_04 q4 fg XtG (YfG as4) (YaG K4) 10696:=
 wb (boot_open (by kernel_rfl) (by kernel_rfl) (fun s=>by kernel_rfl)) (fun w os=>Ix w os)
theorem hd4{d:DefRec}{kwd:List (Str×PySem.Expr)}(h1:defOf q4 PySem.Challenge.rw_nt0210_04.row.name=some (d,kwd))(h2:PySem.Challenge.rw_nt0210_04.row.prog.theDef PySem.Challenge.rw_nt0210_04.row.name=some (d.params,d.body,d.scope))
 (h3:kwWritten? d.params.kwonlyargs d.params.kw_defaults=some kwd)
 (hc:WalkO q4 fg (fun _ _=>True) (kHook K4 as4 um).says PySem.Challenge.rw_nt0210_04.row.toRowW d kwd fun f vs=>PySem.call f vs):PySem.Challenge.rw_nt0210_04.Holds:=by
 w_on
 refine holds_law (by rw[PySem.W.Fast.mSaid_eq];kernel_rfl) fun said=>?_
 refine PySem.W.holds_open (q:=q4) (loose:=fg) (Xt:=XtG) (XP:=fun _ _=>True) (Yf:=YfG as4) (Ya:=YaG K4) (YP:=(kHook K4 as4 um).says) (N:=10696) Rz (Hook.of (kHook K4 as4 um)) (Hook.keeps (kHook K4 as4 um)) (fun _ _=>trivial) (fun _ _ _ _ _=>trivial) h1 h2 h3 (fun s _=>recFacts_of (s:=s) (by kernel_rfl)) (by rfl) said (by decide+kernel) ⟨rfl,rfl,rfl,rfl,rfl,by decide+kernel⟩ ?hw hc
 case hw=>w_witness2
set_option genCtorIdx false in
structure TbD where
 G:List (Str×Value)
 mt:List (Nat×Nat)
 meth:List (Addr×Str×Addr)
 attr:List (Addr×Str)
 able:List Addr
 bi:List String
 ty:List String
 fn:List (Addr×FnI)
 cls:List (Addr×List Str)
 xc:List (Addr×XcI)
 esub:List ((Addr×Addr)×Bool)
 told:List (Addr×TdI)
noncomputable def Bu:List (Addr×Str×Addr)→Addr→Str→Option Addr
 |[],_,_=>none
 |(c,n,f)::r,c',n'=>if c==c'&&n==n' then some f else Bu r c' n'
noncomputable def TbD.cx(d:TbD):Cx where
 G:=fun x=>d.G.lookup x
 mt:=fun p=>d.mt.any fun q=>q.1==p.line&&q.2==p.col
 meth:=Bu d.meth
 attr:=fun c a=>d.attr.any fun q=>q.1==c&&q.2==a
 able:=fun v=>match v with
  |.ref a=>d.able.contains a
  |.builtin i=>d.bi.contains i
  |.type t=>d.ty.contains t
  |_=>false
 xc:=fun a=>d.xc.lookup a
 esub:=fun a b=>d.esub.lookup (a,b)
 hand:=false
 told:=fun a=>d.told.lookup a
noncomputable def TbD.tab(d:TbD):Tab where
 fn:=fun a=>d.fn.lookup a
 cls:=fun a=>d.cls.lookup a
noncomputable def gB(K:Frag)(p:Str×Value):Bool:=nsIn K mainGlobals p.1==some (some p.2)||(nsIn K mainGlobals p.1==some none&&(bootBuiltins p.1==some p.2&&p.1 !="__name__"))
noncomputable def Ml(K:Frag)(p:Addr×Str×Addr):Bool:=plainGet K p.1 p.2.1&&(findIn K (.ref p.1) p.2.1==some (some (.ref p.2.2))&&(isFn K (.ref p.2.2)&&keepIn K (.ref p.2.2)))
noncomputable def O3(K:Frag)(C:Addr):Bool:=F2 "BaseException.__getattribute__" (findIn K (.ref C) "__getattribute__")&&(findIn K (.ref C) "__getattr__"==some none&&jt true (subIn K (.ref C) (.type "BaseException")))
theorem Kh{K:Frag}{C:Addr}(h:O3 K C=true):ExG K C:=by
 unfold O3 at h
 obtain⟨h1,h⟩:=zan h
 obtain⟨h2,h3⟩:=zan h
 exact⟨ph h1,eq_of_beq h2,cq h3⟩
noncomputable def Mm(K:Frag)(p:Addr×Str):Bool:=(plainGet K p.1 p.2||O3 K p.1)&&(hasDictIn K p.1&&(findIn K (.ref p.1) p.2).any (noGet K))
theorem a9{α β:Type}[BEq α][LawfulBEq α]:∀{l:List (α×β)} {x:α} {b:β},l.lookup x=some b→(x,b)∈l
 |[],_,_,h=>by contradiction
 |(y,b')::r,x,b,h=>by
  rw[List.lookup_cons]at h
  cases q:x==y with
  |true=>
   rw[q]at h
   (first|subst h|contradiction|(injection h with h;subst h)|cases h)
   rw[eq_of_beq q]
   exact .head _
  |false=>
   rw[q]at h
   exact .tail _ (a9 h)
theorem t9:∀{l:List (Addr×Str×Addr)} {c:Addr} {n:Str} {f:Addr},Bu l c n=some f→(c,n,f)∈l
 |[],_,_,_,h=>by cases h
 |(c',n',f')::r,c,n,f,h=>by
  have h:(if c'==c&&n'==n then some f' else Bu r c n)=some f:=h
  cases q:(c'==c&&n'==n)with
  |true=>
   rw[q]at h
   cases h
   obtain⟨q1,q2⟩:=zan q
   rw[eq_of_beq q1,eq_of_beq q2]
   exact .head _
  |false=>
   rw[q]at h
   exact .tail _ (t9 h)
theorem R1{K:Frag}{x:Str}{v:Value}(h:gB K (x,v)=true):nsIn K mainGlobals x=some (some v)∨(nsIn K mainGlobals x=some none∧bootBuiltins x=some v∧x≠"__name__"):=by
 refine(Bool.or_eq_true_iff.mp h).imp eq_of_beq fun h=>?_
 obtain⟨h1,h⟩:=zan h
 obtain⟨h2,h3⟩:=zan h
 exact⟨eq_of_beq h1,eq_of_beq h2,bne_iff_ne.mp h3⟩
theorem TbD.cxOk{W:Wd}(d:TbD)(h1:d.G.all (gB W.K)=true)(h2:d.meth.all (Ml W.K)=true)(h3:d.attr.all (Mm W.K)=true)(h4:(d.able.all fun a=>keepIn W.K (.ref a))=true)(h5:(d.told.all fun p=>keepIn W.K (.ref p.1))=true):CxOk W d.cx:=by
 refine⟨fun x v e=>R1 (List.all_eq_true.mp h1 _ (a9 e)),fun v e M h X=>?_,fun c n f e=>?_,fun c n e=>?_,fun a td e=>List.all_eq_true.mp h5 (a,td) (a9 e)⟩
 ·cases v with
  |ref a=>
   have e:d.able.contains a=true:=e
   exact keeps_K (List.all_eq_true.mp h4 a (List.contains_iff_mem.mp e)) h X
  |builtin i=>exact⟨.machine,.inr (.inl rfl),Looks.of_pure rfl⟩
  |type t=>exact⟨.machine,.inr (.inl rfl),Looks.of_pure rfl⟩
  |_=>contradiction
 ·have:=List.all_eq_true.mp h2 _ (t9 e)
  unfold Ml at this
  obtain⟨q1,this⟩:=zan this
  obtain⟨q2,this⟩:=zan this
  obtain⟨q3,q4⟩:=zan this
  exact⟨q1,eq_of_beq q2,q3,q4⟩
 ·have e:(d.attr.any fun q=>q.1==c&&q.2==n)=true:=e
  obtain⟨q,hq,e⟩:=List.any_eq_true.mp e
  rw[Bool.and_eq_true,beq_iff_eq,beq_iff_eq]at e
  have:=List.all_eq_true.mp h3 q hq
  unfold Mm at this
  rw[e.1,e.2]at this
  obtain⟨q1,this⟩:=zan this
  obtain⟨q2,q3⟩:=zan this
  exact⟨(Bool.or_eq_true_iff.mp q1).imp id Kh,q2,Qv q3 fun a e' q3=>⟨a,e',q3⟩⟩
theorem TbD.tdOk{W:Wd}(d:TbD)(h:∀p∈d.told,∃f e0,ToldIs W.K p.1 p.2 f e0):TdOk W d.cx:=fun a td e=>h (a,td) (a9 e)
noncomputable def Mn(K:Frag)(p:(Addr×Addr)×Bool):Bool:=jt p.2 (subIn K (.ref p.1.1) (.ref p.1.2))&&(jt true (subIn K (.ref p.1.2) (.type "BaseException"))&&(jt false (instIn K (.ref p.1.2) (.type "tuple"))&&(clsIn K p.1.2).isSome))
theorem TbD.exOk{W:Wd}(d:TbD)(h1:∀p∈d.xc,XcP W.K p.1 p.2)(h2:d.esub.all (Mn W.K)=true):ExOk W d.cx:=by
 refine⟨fun c xi e=>h1 (c,xi) (a9 e),fun c hc b e=>?_⟩
 have:=List.all_eq_true.mp h2 _ (a9 e)
 unfold Mn at this
 obtain⟨q1,this⟩:=zan this
 obtain⟨q2,this⟩:=zan this
 obtain⟨q3,q4⟩:=zan this
 exact⟨cq q1,cq q2,cq q3,q4⟩
noncomputable def Mo(K:Frag)(p:Addr×List Str)(q:Addr×List Str):Bool:=p.1==q.1||jt false (subIn K (.ref p.1) (.ref q.1))
theorem TbD.tabOk{W:Wd}(d:TbD)(h1:∀p∈d.fn,nr W.K (some W.tabs) p.1=some p.2)(h2:∀p∈d.cls,pi W.K p.1=some p.2)(h3:(d.cls.all fun p=>pj W.K p.1)=true)(h4:(d.cls.all fun p=>d.cls.all (Mo W.K p))=true):TabOk W d.tab:=by
 refine⟨fun a f e=>h1 (a,f) (a9 e),fun c ns e=>⟨h2 (c,ns) (a9 e),List.all_eq_true.mp h3 (c,ns) (a9 e)⟩,fun c c' e e' hne=>?_⟩
 obtain⟨ns,e⟩:=Option.isSome_iff_exists.mp e
 obtain⟨ns',e'⟩:=Option.isSome_iff_exists.mp e'
 have:=List.all_eq_true.mp (List.all_eq_true.mp h4 _ (a9 e)) _ (a9 e')
 unfold Mo at this
 rcases Bool.or_eq_true_iff.mp this with q|q
 ·exact absurd (eq_of_beq q) hne
 ·exact cq q
set_option tactic.hygienic true in
theorem get?_pop{h:Heap}{k:Nat}(hk:h.objs.size=k+1)(hd:h.get? k=none)(b:Addr):(⟨h.objs.pop,h.life⟩:Heap).get? b=h.get? b:=by
 by_cases q:b=k
 ·subst q
  rw[hd]
  unfold Heap.get?
  have:(⟨h.objs.pop,h.life⟩:Heap).objs[b]? =none:=by
   show h.objs.pop[b]? =none
   rw[Array.getElem?_eq_none_iff,Array.size_pop,hk]
   exact Nat.le_refl _
  rw[this]
 ·unfold Heap.get?
  have:(⟨h.objs.pop,h.life⟩:Heap).objs[b]? =h.objs[b]? :=by
   show h.objs.pop[b]? =h.objs[b]?
   rw[Array.getElem?_pop,hk]
   split
   ·rfl
   ·rename_i hb
    symm
    rw[Array.getElem?_eq_none_iff,hk]
    exact Nat.lt_of_le_of_ne (Nat.not_lt.mp hb) (fun z=>q z.symm)
  rw[this]
theorem R2:∀(k:Nat) (h:Heap),h.objs.size=k→(∃b o,h.get? b=some o)→∃h':Heap,(∀b,h'.get? b=h.get? b)∧(∃o,h'.get? (h'.objs.size-1)=some o)∧h'.objs.size≤h.objs.size
 |0,h,hk,⟨b,o,e⟩=>absurd (Heap.lt_size e) (by rw[hk];exact Nat.not_lt_zero _)
 |k+1,h,hk,he=>by
  generalize hd:h.get? k=zz
  induction zz using Option.casesOn with
  |some o=>exact⟨h,fun o_=>rfl,⟨o,by rw[hk];exact hd⟩,Nat.le_refl _⟩
  |none=>
   have hs:(⟨h.objs.pop,h.life⟩:Heap).objs.size=k:=by
    show h.objs.pop.size=k
    rw[Array.size_pop,hk];rfl
   obtain⟨b,o,e⟩:=he
   obtain⟨h',a1,a2,a3⟩:=R2 k ⟨h.objs.pop,h.life⟩ hs ⟨b,o,by rw[get?_pop hk hd];exact e⟩
   exact⟨h',fun b=>(a1 b).trans (get?_pop hk hd b),a2,Nat.le_trans a3 (by rw[hs,hk];exact Nat.le_succ _)⟩
theorem Dx{B:Addr→Prop}{h:Heap}{vs:List Value}{ns:List Int}(x:IntsAre vs ns):Reps B h vs (ns.map V.int):=by
 induction x with
 |nil=>trivial
 |cons n t _ ih=>exact⟨⟨t,rfl⟩,ih⟩
theorem Ok.po{α β:Type}{W:Wd}{Λ:List Addr}{X:Addr→Prop}{Rel:List Addr→Heap→β→α→Prop}{E:Value→Shared→Prop}{σ:List Addr}{s:Shared}{r:Out α}{P:α→Sto→Prop}{Q:β→Shared→Prop}
 (h:Ok r P (fun o_ o_=>False)) (k:∀a st',P a st'→Po W Λ X Rel E σ s (.ok a st') Q):Po W Λ X Rel E σ s r Q:=by
 induction r using Out.casesOn with
 |ok a st=>exact k a st h
 |exc x st=>exact h.elim
 |stuck=>exact h
theorem T8{prog:Program}{w:World}{K:Frag}{p:Program}{loose:List Str}{mg mb:Str→Option Value}{h₁:Heap}{tabs:qj}{tp:List (Addr×Addr)}{C:Cx}{T:Tab}{f:FnI}{ns:List Int}{fa a:Addr}{vs:List Value}
 {A:Around} {R:Result→Shared→Prop} {s:Shared} {n:Nat}
 (htp:tp=tabs.map fun q=>(q.1,q.2.1)) (hu:∀q∈tabs,∀q'∈tabs,q'.2.1=q.2.1→q'=q)
 (hT:TabsAt tp h₁) (KX:K.In (ghostOf h₁ tp)) (TT:TopRead p loose mg mb (ghostOf h₁ tp))
 (hbm:∃bm o,mg "__builtins__"=some (.ref bm)∧bm≠builtinsNs∧h₁.get? bm=some o∧o.cls=.type "module"∧o.dict=some builtinsNs∧o.data=.plain)
 (hs:s.heap=h₁) (hL:h₁.IsList a vs.toArray) (hI:IntsAre vs ns)
 (hC:∀W:Wd,W.K=K→CxOk W C) (hX:∀W:Wd,W.K=K→ExOk W C) (hD:∀W:Wd,W.K=K→TdOk W C) (hTb:∀W:Wd,W.K=K→W.tabs=tabs→TabOk W T) (hf:nr K (some tabs) fa=some f)
 (hA1:A.handled=none) (hA2:A.depth+4*n+20<recursionLimit) (hA3:A.units+12*n+200<cLine) (hfr:A.frames=some [])
 (hlaw:Ok (f3 C (Mine.R C T n) f [.v (.lst (ns.map V.int))] []) (fun d o_=>d=.v (.bool true)) (fun o_ o_=>False))
 (q:∀h' tk,(∀b o,(ghostOf h₁ tp).get? b=some o→h'.get? b=some o)→(∀q∈tabs,GrownAt q.2.1 h')→R (.ok (.ret (.bool true))) { s with heap:=h',toks:=tk }):
 codeAny (model prog w) A (.call (.ref fa) ⟨[.ref a],[]⟩) R s:=by
 obtain⟨ob,hob,hcls,nn,hdat⟩:=hL
 obtain⟨bm,obm,m1,m2,m3,m4,m5,m6⟩:=hbm
 have mem:∀q∈tabs,(q.1,q.2.1)∈tp:=fun q hq=>by rw[htp];exact List.mem_map.mpr ⟨q,hq,rfl⟩
 have g3:(ghostOf h₁ tp).get? bm=some obm:=ghost_get hT m3 fun z=>by rw[z]at m6;cases m6
 have gl:(ghostOf h₁ tp).get? a=some ob:=ghost_get hT hob fun z=>by rw[z]at hdat;cases hdat
 refine bq (R2 _ (ghostOf h₁ tp) rfl ⟨a,ob,gl⟩) fun base b1 b2 b3=>?_
 have codes:∀{tp':List (Addr×Addr)} {h:Heap},CodeAll tp' h→∀q∈tp',CodeHd h q.1 q.2:=fun {tp'} h c=>by
  induction tp' with
  |nil=>exact fun q hq=>(nomatch hq)
  |cons x r ih=>exact fun q hq=>(List.mem_cons.mp hq).elim (fun e=>e▸c.1) (ih c.2 q)
 have nmg:bm≠mainGlobals:=fun z=>by
  obtain⟨o,es,ep,g1,g2,_⟩:=TT.g
  rw[←z,g3]at g1
  injection g1 with g1
  rw[←g1,m6]at g2;cases g2
 let W:Wd:=⟨prog,w,K,base,p,loose,mg,mb,fun b o e=>(b1 b).trans (KX b o e),TT.keeps fun b o e=>(b1 b).trans e,b2,[],tabs,
  fun q hq=>⟨(codes (ghost_code hT) _ (mem q hq)).keeps fun b o e=>(b1 b).trans e,(b1 _).trans (hideAll_none _ (List.mem_map_of_mem (mem q hq))),hu q hq⟩,
  fun q hq=>⟨bm,obm,m1,m2,nmg,(b1 _).trans g3,m4,m5,m6⟩⟩
 have keep:∀b o,base.get? b=some o→s.heap.get? b=some o:=fun b o e=>by rw[hs];exact of_hideAll _ ((b1 b).symm.trans e)
 have iv:Inv W [] [] s.heap []:=by
  refine⟨keep,fun b q=>q.elim (fun q=>(nomatch q)) fun q=>(nomatch q),⟨rfl,List.nodup_nil,fun i a l e=>(nomatch e)⟩,fun a h=>(nomatch h),fun a q=>(nomatch q),fun q hq=>⟨fun z=>z.elim (fun z=>(nomatch z)) fun z=>(nomatch z),#[],?_,trivial,fun pos cv e=>(nomatch e)⟩⟩
  rw[hs];exact(hT _ (mem q hq)).2
 have rl:RepDs [] (Bad [] []) s.heap [.ref a] [.v (.lst (ns.map V.int))]:=by
  refine⟨?_,trivial⟩
  exact⟨a,ob,vs,nn,rfl,fun z=>z.elim (fun z=>(nomatch z)) fun z=>(nomatch z),by rw[hs];exact hob,hcls,hdat,Dx hI⟩
 have hK:Stk A W:=⟨[],hfr,fun o_ h=>(nomatch h)⟩
 have hC:=hC W rfl
 have hX:=hX W rfl
 have hD:=hD W rfl
 have hTb:=hTb W rfl rfl
 have ih:=fun env L hK'=>kc n (W.push L) (A.deeper env) (hC.push L) (hX.push L) (hD.push L) (hTb.push L) hK' hA1 (show A.depth+1+4*n+12<_ from bd hA2 (by decide)) (show A.units+3+12*n+150<_ from bd hA3 (by decide))
 have ih2:=fun env L env1 L1 hK'=>kc n ((W.push L).push L1) ((A.deeper env).deeper env1) ((hC.push L).push L1) ((hX.push L).push L1) ((hD.push L).push L1) ((hTb.push L).push L1) hK' hA1 (show A.depth+2+4*n+12<_ from bd hA2 (by decide)) (show A.units+6+12*n+150<_ from bd hA3 (by decide))
 have ih3:=fun env L env1 L1 env2 L2 hK'=>kc n (((W.push L).push L1).push L2) (((A.deeper env).deeper env1).deeper env2) (((hC.push L).push L1).push L2) (((hX.push L).push L1).push L2) (((hD.push L).push L1).push L2) (((hTb.push L).push L1).push L2) hK' hA1 (show A.depth+3+4*n+12<_ from bd hA2 (by decide)) (show A.units+9+12*n+150<_ from bd hA3 (by decide))
 refine codeAny_mono (me (W:=W) (Λ:=[]) (σ:=[]) (st:=[]) (Q:=fun v s'=>R (.ok (.ret v)) s') (E:=fun e s'=>R (.error e) s') (bd0 (k:=0) hA2 (by decide)) hK hf (fun env L hK'=>(Bn (A:=A.deeper env) hA1 (show A.depth+5<_ from bd0 hA2 (by decide)) (show A.units+93<_ from bd0 hA3 (by decide)) (hC.push L) (hX.push L) (ih env L hK') (rn (A:=A.deeper env) hA1 (show A.depth+4<_ from bd0 hA2 (by decide)) (show A.units+103<_ from bd0 hA3 (by decide)) hK' (hC.push L) (hX.push L) (fun o_=>(hC.push L).push _) (fun o_=>(hX.push L).push _) (fun o_ o_=>((hC.push L).push _).push _) (hD.push L) (fun env1 L1 q=>ih2 env L env1 L1 q) (fun env1 L1 env2 L2 q=>ih3 env L env1 L1 env2 L2 q)) 64).2.2) iv rl (Ok.po hlaw fun d st' hd=>?_)) fun r s' h=>?_
 ·subst hd
  intro σ' h' tk b f k i r
  have r:b=.bool true:=r
  subst r
  exact q h' tk (fun b o e=>i.keep b o ((b1 b).trans e)) fun q hq=>by
   obtain⟨_,ps,e,_⟩:=i.tab q hq
   exact⟨ps,e⟩
 ·cases r with
  |error e=>exact h
  |ok f=>
   cases f with
   |ret v=>exact h
   |_=>exact h.elim
noncomputable def fnS(s:Stmt):FnI:=match s with
 |.FunctionDef _ a b _ _ _ sc _ _ _=>⟨a.args.map (·.arg),sc,b⟩
 |_=>⟨[],default,[]⟩
noncomputable def fi(i:Nat):FnI:=fnS (yt PySem.Challenge.pw_nt0210_04.main.body i)
noncomputable def mi(i j:Nat):FnI:=fnS (Qo (yt PySem.Challenge.pw_nt0210_04.main.body i) j)
noncomputable def gR(s:String)(a:Addr):Str×Value:=(Str.ofString s,.ref a)
noncomputable def gB1(s:String):Str×Value:=(Str.ofString s,.builtin s)
noncomputable def gT(s:String):Str×Value:=(Str.ofString s,.type s)
noncomputable def gI(s:String)(i:Int)(t:Nat):Str×Value:=(Str.ofString s,.int i t)
noncomputable def fE(a:Addr)(f:FnI):Addr×FnI:=(a,f)
noncomputable def ua:qj:=[(886,882,"_law_are_folds_right.<locals>.<lambda>"),(898,896,"_law_are_ends_right.<locals>.<lambda>"),(910,908,"_law_are_common_right.<locals>.<lambda>"),(922,920,"law.<locals>.<lambda>")]
noncomputable def R3(i:Nat)(p:Str)(w:Option Str):TdI:=match(fi i).body with
 |[.Try _ (h::hs) _ _ _]=>⟨p,(fi i).sc,w,h,hs⟩
 |_=>⟨p,(fi i).sc,w,default,[]⟩
noncomputable def d4:TbD where
 G:=[gB1 "isinstance",gB1 "abs",gB1 "min",gB1 "max",gB1 "len",gB1 "divmod",gT "int",gT "bool",gT "range",gT "enumerate",gT "zip",gR "size_of" 126,gR "sign_of_whole" 133,gR "zeros_below" 140,gR "lean" 147,gR "nearest_shift" 154,gR "shifted_round" 161,gR "with_sticky" 168,gR "rounded" 175,gR "exact_parts" 182,gR "place_of" 189,gR "sign_of" 196,gR "negative" 203,gR "magnitude" 210,gR "compare_magnitudes" 217,gR "compare_reals" 224,gR "far_sum" 231,gR "add_reals" 238,gR "subtract_reals" 245,gR "multiply_reals" 252,gR "divide_reals" 259,gR "is_whole_real" 266,gR "whole_of" 273,gR "is_whole" 301,gR "is_exact" 308,gR "top_of" 315,gR "bottom_of" 322,gR "gcd_of" 329,gR "lcm_of" 336,gR "made" 343,gR "ratio_of" 350,gR "sign_of_exact" 357,gR "negate_exact" 364,gR "magnitude_exact" 371,gR "add_exact" 378,gR "subtract_exact" 385,gR "multiply_exact" 392,gR "reciprocal_exact" 399,gR "divide_exact" 406,gR "compare_exact" 413,gR "is_equal_exact" 420,gR "floor_exact" 427,gR "simplest_above" 441,gR "simplest_between" 448,gR "is_inexact" 455,gR "is_number" 462,gR "is_integer" 469,gR "sign" 476,gR "whole_value" 483,gR "to_exact" 490,gR "to_inexact" 497,gR "has_inexact" 504,gR "as_of" 511,gR "compare" 518,gR "_law_deck" 817,gR "_law_draw" 824,gR "_law_rounded" 831,gR "_law_number" 838,gR "_law_lowest" 845,gR "_law_shown" 852,gR "_law_inexact" 859,gR "_law_step" 866,gR "_law_folded" 873,gR "_law_are_folds_right" 887,gR "_law_compared" 894,gR "_law_are_ends_right" 899,gR "_law_is_one_right" 906,gR "_law_are_common_right" 911,gR "_law_is_simplest" 918,gR "law" 923,gR "_law_told" 880,gR "is_exact_exact" 308,gR "is_inexact_numkinds" 455,gR "is_number_numkinds" 462,gR "is_integer_numkinds" 469,gR "to_exact_numkinds" 490,gR "to_inexact_numkinds" 497,gR "compare_numkinds" 518,gR "Ratio" 290,gR "Real" 115,gR "Tower" 808,gR "WrongKind" 58,gR "DivisionByZero" 96,gR "SchemeError" 38,gI "REACH" 65536 314]
 mt:=[(190,12),(424,11)]
 meth:=[(808,"is_number",539),(808,"is_exact",546),(808,"is_inexact",553),(808,"is_integer",560),(808,"is_zero",567),(808,"is_positive",574),(808,"is_negative",581),(808,"is_odd",588),(808,"is_even",595),(808,"chain",616),(808,"to_inexact",630),(808,"add",637),(808,"subtract",644),(808,"multiply",651),(808,"divide",658),(808,"negate",665),(808,"absolute",672),(808,"sum_of",679),(808,"product_of",686),(808,"difference_of",693),(808,"divided",700),(808,"greatest",707),(808,"least",714),(808,"gcd",749),(808,"lcm",756),(808,"rationalize",805)]
 attr:=[(290,"top"),(290,"bottom"),(115,"mantissa"),(115,"exponent"),(808,"precision"),(58,"irritants"),(96,"irritants")]
 able:=[126,133,140,147,154,161,168,175,182,189,196,203,210,217,224,231,238,245,252,259,266,273,301,308,315,322,329,336,343,350,357,364,371,378,385,392,399,406,413,420,427,441,448,455,462,469,476,483,490,497,504,511,518,817,824,831,838,845,852,859,866,873,887,894,899,906,911,918,923,539,546,553,560,567,574,581,588,595,616,630,637,644,651,658,665,672,679,686,693,700,707,714,749,756,805,290,115,808]
 bi:=["isinstance","abs","min","max","len","divmod"]
 ty:=["int","bool","range","enumerate","zip"]
 fn:=[fE 126 (fi 9),fE 133 (fi 10),fE 140 (fi 11),fE 147 (fi 12),fE 154 (fi 13),fE 161 (fi 14),fE 168 (fi 15),fE 175 (fi 16),fE 182 (fi 17),fE 189 (fi 18),fE 196 (fi 19),fE 203 (fi 20),fE 210 (fi 21),fE 217 (fi 22),fE 224 (fi 23),fE 231 (fi 24),fE 238 (fi 25),fE 245 (fi 26),fE 252 (fi 27),fE 259 (fi 28),fE 266 (fi 29),fE 273 (fi 30),fE 301 (fi 33),fE 308 (fi 34),fE 315 (fi 36),fE 322 (fi 37),fE 329 (fi 38),fE 336 (fi 39),fE 343 (fi 40),fE 350 (fi 41),fE 357 (fi 42),fE 364 (fi 43),fE 371 (fi 44),fE 378 (fi 45),fE 385 (fi 46),fE 392 (fi 47),fE 399 (fi 48),fE 406 (fi 49),fE 413 (fi 50),fE 420 (fi 51),fE 427 (fi 52),fE 441 (fi 54),fE 448 (fi 55),fE 455 (fi 57),fE 462 (fi 59),fE 469 (fi 61),fE 476 (fi 63),fE 483 (fi 64),fE 490 (fi 65),fE 497 (fi 67),fE 504 (fi 69),fE 511 (fi 70),fE 518 (fi 71),fE 817 (fi 76),fE 824 (fi 77),fE 831 (fi 78),fE 838 (fi 79),fE 845 (fi 80),fE 852 (fi 81),fE 859 (fi 82),fE 866 (fi 83),fE 873 (fi 84),fE 887 (fi 86),fE 894 (fi 87),fE 899 (fi 88),fE 906 (fi 89),fE 911 (fi 90),fE 918 (fi 91),fE 923 (fi 92),fE 539 (mi 74 1),fE 546 (mi 74 2),fE 553 (mi 74 3),fE 560 (mi 74 4),fE 567 (mi 74 5),fE 574 (mi 74 6),fE 581 (mi 74 7),fE 588 (mi 74 8),fE 595 (mi 74 9),fE 616 (mi 74 12),fE 630 (mi 74 14),fE 637 (mi 74 15),fE 644 (mi 74 16),fE 651 (mi 74 17),fE 658 (mi 74 18),fE 665 (mi 74 19),fE 672 (mi 74 20),fE 679 (mi 74 21),fE 686 (mi 74 22),fE 693 (mi 74 23),fE 700 (mi 74 24),fE 707 (mi 74 25),fE 714 (mi 74 26),fE 749 (mi 74 31),fE 756 (mi 74 32),fE 805 (mi 74 39)]
 cls:=[(290,["top","bottom"]),(115,["mantissa","exponent"]),(808,["precision"])]
 xc:=[(58,⟨["name","place","datum"],"word","irritants","WrongKind"⟩),(96,⟨["name"],"word","irritants","DivisionByZero"⟩)]
 esub:=[((58,58),true),((58,96),false),((96,58),false),((96,96),true)]
 told:=[(880,R3 85 "asked" (some "_law_shown"))]
noncomputable abbrev C4:Cx:=d4.cx
noncomputable abbrev T4:Tab:=d4.tab
theorem R4{W:Wd}{p:Params}(hK:W.K=K4 p):CxOk W C4:=by
 refine d4.cxOk ?_ ?_ ?_ ?_ ?_<;>rw[hK]<;>kernel_rfl
theorem R5{W:Wd}{p:Params}(hK:W.K=K4 p):ExOk W C4:=by
 refine d4.exOk ?_ ?_<;>rw[hK]
 ·have h:∀q∈d4.xc,XcP (K4 p) q.1 q.2:=by
   unfold d4
   dsimp only
   simp only[List.forall_mem_cons,List.not_mem_nil,false_implies,implies_true,and_true]
   refine⟨?_,?_⟩
   ·exact⟨⟨38,55,35,"SchemeError",(mi 3 0),(mi 2 0),_,_,_,_,_,_,_,_,_,_,_,_,_⟩,⟨by kernel_rfl,by kernel_rfl,by kernel_rfl,by kernel_rfl,by kernel_rfl,by kernel_rfl,by kernel_rfl,by kernel_rfl,by kernel_rfl,by kernel_rfl,by kernel_rfl,by kernel_rfl,by kernel_rfl,by kernel_rfl,by kernel_rfl⟩,⟨rfl,rfl,rfl,rfl,rfl,rfl,rfl,rfl,rfl,rfl,rfl,rfl⟩⟩
   ·exact⟨⟨38,93,35,"SchemeError",(mi 5 0),(mi 2 0),_,_,_,_,_,_,_,_,_,_,_,_,_⟩,⟨by kernel_rfl,by kernel_rfl,by kernel_rfl,by kernel_rfl,by kernel_rfl,by kernel_rfl,by kernel_rfl,by kernel_rfl,by kernel_rfl,by kernel_rfl,by kernel_rfl,by kernel_rfl,by kernel_rfl,by kernel_rfl,by kernel_rfl⟩,⟨rfl,rfl,rfl,rfl,rfl,rfl,rfl,rfl,rfl,rfl,rfl,rfl⟩⟩
  exact h
 ·kernel_rfl
theorem O4{W:Wd}{p:Params}(hK:W.K=K4 p)(hT:W.tabs=ua):TabOk W T4:=by
 refine d4.tabOk ?_ ?_ ?_ ?_<;>rw[hK]
 rw[hT]
 ·have h:∀q∈d4.fn,nr (K4 p) (some ua) q.1=some q.2:=by
   unfold d4
   dsimp only
   simp only[List.forall_mem_cons,List.not_mem_nil,false_implies,implies_true,and_true]
   refine⟨?_,?_,?_,?_,?_,?_,?_,?_,?_,?_,?_,?_,?_,?_,?_,?_,?_,?_,?_,?_,?_,?_,?_,?_,?_,?_,?_,?_,?_,?_,?_,?_,?_,?_,?_,?_,?_,?_,?_,?_,?_,?_,?_,?_,?_,?_,?_,?_,?_,?_,?_,?_,?_,?_,?_,?_,?_,?_,?_,?_,?_,?_,?_,?_,?_,?_,?_,?_,?_,?_,?_,?_,?_,?_,?_,?_,?_,?_,?_,?_,?_,?_,?_,?_,?_,?_,?_,?_,?_,?_,?_,?_,?_,?_,?_⟩<;>kernel_rfl
  exact h
 ·unfold d4
  dsimp only
  simp only[List.forall_mem_cons,List.not_mem_nil,false_implies,implies_true,and_true]
  refine⟨?_,?_,?_⟩<;>kernel_rfl
 ·kernel_rfl
 ·kernel_rfl
theorem R6{W:Wd}{p:Params}(hK:W.K=K4 p):TdOk W C4:=by
 refine d4.tdOk ?_
 rw[hK]
 intro q hq
 rw[List.mem_singleton.mp hq]
 exact⟨fi 85,_,by kernel_rfl,rfl,rfl,by kernel_rfl,⟨_,_,rfl⟩,⟨_,_,_,_,rfl⟩⟩
theorem rz:callerA.frames=some []:=by first|rfl|kernel_rfl
noncomputable abbrev tp4:List (Addr×Addr):=[(886,882),(898,896),(910,908),(922,920)]
theorem R7:∀q∈ua,∀q'∈ua,q'.2.1=q.2.1→q'=q:=by
 unfold ua
 simp
set_option tactic.hygienic true in
theorem H4(hlaw:∀ns:List Int,ns.length≤63→go C4 T4 39 (JT C4 T4 39) (fi 92).sc (bz 0 fun d o_=>d=.v (.bool true)) fu [.sts 64 (fi 92).body] [] [(Str.ofString "script",.v (.lst (ns.map V.int)))] [] NoE):PySem.Challenge.rw_nt0210_04.Holds:=hd4 (by rfl) (by rfl) (by rfl) (by
 k_fill
 intro w s₀ s₁ mg mb G Y fa o pm cd doc dV kV ho hd hcd hD hmg hg args cj as hpre hlay hrd hwl hlo
 have KX:=kIn_of Y
 refine Ground.open G ?_
 intro T B D TE TW
 try(refine guard_noD D (by decide+kernel) ?_;clear D)
 have hT9:TabsAt tp4 s₁.heap:=List.forall_mem_cons.mpr ⟨tab_of (x:=Str.ofString "_law_are_folds_right") (c:=886) (P:=882) T KX rfl (by kernel_rfl),List.forall_mem_cons.mpr ⟨tab_of (x:=Str.ofString "_law_are_ends_right") (c:=898) (P:=896) T KX rfl (by kernel_rfl),List.forall_mem_cons.mpr ⟨tab_of (x:=Str.ofString "_law_are_common_right") (c:=910) (P:=908) T KX rfl (by kernel_rfl),List.forall_mem_cons.mpr ⟨tab_of (x:=Str.ofString "law") (c:=922) (P:=920) T KX rfl (by kernel_rfl),fun o_ h=>nomatch h⟩⟩⟩⟩
 have hfa:mg (Str.ofString "law")=some (.ref 923):=mg_of KX (Top.g T) (by kernel_rfl)
 have hfa:fa=923:=by
  have:=hmg.symm.trans hfa
  injection this with this
  injection this
 subst hfa
 have hbm:=T.bmain
 wrow_args hpre hlay hrd hwl hlo
 all_goals(
  first|refine callC_kw (enter_call ?_)|refine enter_call ?_)
 rename_i a vs _ hL _ _ _ hI _ hc _
 refine kn_post (tabs:=tp4) hT9 (fun o_ o_=>rfl) ?_
 refine T8 (n:=39+1) (C:=C4) (T:=T4) (f:=fi 92) (tabs:=ua) (tp:=tp4) (by rfl) R7 hT9 (ghost_K hT9 KX (by kernel_rfl)) (topRead_of (ghost_top hT9 T)) hbm rfl hL hI (fun W h=>R4 h) (fun W h=>R5 h) (fun W h=>R6 h) (fun W h h'=>O4 h h') (by kernel_rfl) rfl (by decide+kernel) (by decide+kernel) rz ?zzc (fun h' tk hk hgr=>?zzd)
 case zzc=>exact Gr (by rfl) (hlaw _ (by lia))
 refine⟨⟨.inl ⟨.bool true,.bool true,[],rfl,fun o_=>rfl,?_,?_,?_⟩,hk,rfl,?_⟩,?_⟩
 ·constructor
 ·kernel_rfl
 ·exact fun o_=>⟨List.nodup_nil,fun a h=>nomatch h⟩
 ·exact hg
 ·exact⟨hgr _ (.head _),hgr _ (.tail _ (.head _)),hgr _ (.tail _ (.tail _ (.head _))),hgr _ (.tail _ (.tail _ (.tail _ (.head _)))),trivial⟩)
end Mine
end
section
open PySem PySem.W
namespace Mine
section
variable {A B:Prop}
theorem O5{t:Bool}(a:t=true→A)(b:t=false→B):@Bool.rec (fun o_=>Prop) B A t:=by
 induction t using Bool.casesOn with
 |true=>exact a rfl
 |false=>exact b rfl
theorem aj{p:Prop}[Decidable p](a:p→A)(b:¬p→B):@Bool.rec (fun o_=>Prop) B A (decide p):=O5 (fun e=>a (of_decide_eq_true e)) fun e=>b (of_decide_eq_false e)
theorem bt{x y:Int}(a:x=y→A)(b:x≠y→B):@Bool.rec (fun o_=>Prop) B A (x==y):=O5 (fun e=>a (eq_of_beq e)) fun e=>b (ne_of_beq_false e)
theorem jy{x y:Int}(a:x≠y→A)(b:x=y→B):@Bool.rec (fun o_=>Prop) B A (x !=y):=O5 (fun e=>a (bne_iff_ne.mp e)) fun e=>b (by simpa using e)
theorem ae{p:Prop}(k:A)(h:p):Side p∧A:=⟨Side.of h,k⟩
end
noncomputable def nV(t b:Int):V:=if b=1 then .int t else .inst 290 ["top","bottom"] [.int t,.int b]
noncomputable def rV(m e:Int):V:=.inst 115 ["mantissa","exponent"] [.int m,.int e]
theorem nV1{t:Int}:nV t 1=.int t:=if_pos rfl
section
variable {n:Nat} {t b u c:Int} {st:Sto} {E:KV} {Q:KD}
set_option tactic.hygienic true in
theorem li(q:Q (.v (nV t b)) st):CallK (R C4 T4 (n+2) (.v (.val (.ref 343))) [.v (.int t),.v (.int b)] st) Q E:=by
 unfold nV at q
 refine af rfl rfl ?_
 ((conv=>whnf);repeat'((with_reducible apply bt)<;>(intro _;(conv=>whnf))))
 ·rename_i h;rw[if_pos h]at q;rw[ztl];exact q
 ·rename_i h;rw[if_neg h]at q;rw[ztl];exact q
theorem gu(q:Q (.v (.int t)) st):CallK (R C4 T4 (n+2) (.v (.val (.ref 315))) [.v (nV t b)] st) Q E:=by
 unfold nV
 split
 all_goals
  refine af rfl rfl ?_
  conv=>whnf
  rw[ztl];exact q
set_option tactic.hygienic true in
theorem jb(q:Q (.v (.int b)) st):CallK (R C4 T4 (n+2) (.v (.val (.ref 322))) [.v (nV t b)] st) Q E:=by
 unfold nV
 split
 all_goals
  rename_i h
  refine af rfl rfl ?_
  conv=>whnf
  rw[ztl]
  first|exact q|(rw[h]at q;exact q)
set_option tactic.hygienic true in
theorem mh(q:Q (.v (.bool (decide (b=1)))) st):CallK (R C4 T4 (n+2) (.v (.val (.ref 301))) [.v (nV t b)] st) Q E:=by
 unfold nV
 split
 ·rename_i h
  rw[decide_eq_true h]at q
  refine af rfl rfl ?_
  conv=>whnf
  rw[ztl];exact q
 ·rename_i h
  rw[decide_eq_false h]at q
  refine af rfl rfl ?_
  conv=>whnf
  rw[ztl];exact q
theorem r4{m e:Int}(q:Q (.v (.bool false)) st):CallK (R C4 T4 (n+2) (.v (.val (.ref 301))) [.v (rV m e)] st) Q E:=by
 refine af rfl rfl ?_
 conv=>whnf
 rw[ztl];exact q
end
section
variable {n:Nat} {t b u c m e:Int} {st:Sto} {E:KV} {Q:KD}
set_option tactic.hygienic true in
theorem vg(q:Q (.v (.bool true)) st):CallK (R C4 T4 (n+3) (.v (.val (.ref 308))) [.v (nV t b)] st) Q E:=by
 refine af rfl rfl ?_
 ((conv=>whnf);repeat'(first|((with_reducible apply aj)<;>(intro _;(conv=>whnf)))|((with_reducible apply mh);(conv=>whnf))))
 ·rename_i h;rw[ztl,decide_eq_true h];exact q
 ·rename_i h
  have e:nV t b=.inst 290 ["top","bottom"] [.int t,.int b]:=if_neg h
  rw[e]
  conv=>whnf
  rw[ztl];exact q
theorem r5(q:Q (.v (.bool false)) st):CallK (R C4 T4 (n+3) (.v (.val (.ref 308))) [.v (rV m e)] st) Q E:=by
 refine af rfl rfl ?_
 ((conv=>whnf);repeat'((with_reducible apply r4);(conv=>whnf)))
 rw[ztl];exact q
theorem lj(q:Q (.v (.bool false)) st):CallK (R C4 T4 (n+2) (.v (.val (.ref 455))) [.v (nV t b)] st) Q E:=by
 unfold nV
 split
 all_goals
  refine af rfl rfl ?_
  conv=>whnf
  rw[ztl];exact q
theorem f4(q:Q (.v (.bool true)) st):CallK (R C4 T4 (n+2) (.v (.val (.ref 455))) [.v (rV m e)] st) Q E:=by
 refine af rfl rfl ?_
 conv=>whnf
 rw[ztl];exact q
theorem sgn(x:Int):b2i (decide (0<x))-b2i (decide (x<0))=x.sign:=by
 rcases Int.lt_trichotomy x 0 with h|h|h
 ·rw[Int.sign_eq_neg_one_of_neg h,decide_eq_true h,decide_eq_false (by exact Int.lt_asymm h)];rfl
 ·subst h;rfl
 ·rw[Int.sign_eq_one_of_pos h,decide_eq_true h,decide_eq_false (by exact Int.lt_asymm h)];rfl
theorem vh(q:Q (.v (.int t.sign)) st):CallK (R C4 T4 (n+3) (.v (.val (.ref 357))) [.v (nV t b)] st) Q E:=by
 refine af rfl rfl ?_
 ((conv=>whnf);repeat'((with_reducible apply gu);(conv=>whnf)))
 rw[ztl]
 rw[sgn];exact q
theorem x7(q:Q (.v (nV (-t) b)) st):CallK (R C4 T4 (n+3) (.v (.val (.ref 364))) [.v (nV t b)] st) Q E:=by
 refine af rfl rfl ?_
 ((conv=>whnf);repeat'((with_reducible first|apply gu|apply jb|apply li);(conv=>whnf)))
 rw[ztl,Int.zero_sub];exact q
end
noncomputable def mu(x y:Nat):Nat:=if y=0 then 0 else Nat.log2 (x*y)+2+(if x<y then 1 else 0)
theorem Gs{n m:Nat}(hn:0<n)(h:2*n≤m):Nat.log2 n+1≤Nat.log2 m:=by
 have h1:2^(Nat.log2 n)≤n:=Nat.log2_self_le (by exact Nat.ne_zero_of_lt hn)
 have h2:m<2^(Nat.log2 m+1):=Nat.lt_log2_self
 have h3:2^(Nat.log2 n+1)≤m:=by rw[Nat.pow_succ];lia
 exact(Nat.le_log2 (by lia)).mpr h3
theorem pq{x y:Nat}(hy:y≠0):mu y (x%y)<mu x y:=by
 unfold mu
 rw[if_neg hy]
 by_cases hr:x%y=0
 ·rw[if_pos hr];exact Nat.pos_of_neZero ((x*y).log2+2+if x<y then 1 else 0)
 ·rw[if_neg hr]
  have hlt:x%y<y:=Nat.mod_lt _ (by exact Nat.zero_lt_of_ne_zero hy)
  rw[if_neg (by exact Nat.not_lt_of_gt hlt)]
  by_cases hxy:x<y
  ·rw[if_pos hxy,Nat.mod_eq_of_lt hxy,Nat.mul_comm y x];exact Nat.lt_add_one ((x*y).log2+2+0)
  ·rw[if_neg hxy]
   have e:=Nat.div_add_mod x y
   have q:1≤x/y:=(Nat.one_le_div_iff (by exact Nat.zero_lt_of_ne_zero hy)).mpr (by exact Nat.le_of_not_lt hxy)
   have h2:y+x%y≤x:=by
    have:y*1≤y*(x/y):=Nat.mul_le_mul_left y q
    lia
   have h3:2*(y*(x%y))≤x*y:=by
    have:(2*(x%y))*y≤x*y:=Nat.mul_le_mul_right y (by lia)
    calc 2*(y*(x%y))=(2*(x%y))*y:=by rw[Nat.mul_comm y,Nat.mul_assoc]
     _≤x*y:=this
   have h4:=Gs (n:=y*(x%y)) (Nat.mul_pos (by exact Nat.zero_lt_of_ne_zero hy) (by exact Nat.zero_lt_of_ne_zero hr)) h3
   lia
theorem mj{x y:Nat}(hx:x<2^10000)(hy:y<2^10000):mu x y<20010:=by
 unfold mu
 split
 ·exact Nat.zero_lt_succ 20009
 ·have h:x*y<2^20000:=by
   calc x*y<2^10000*2^10000:=Nat.mul_lt_mul'' hx hy
    _=2^20000:=by rw[←Nat.pow_add]
  have:Nat.log2 (x*y)<20000∨x*y=0:=by
   by_cases z:x*y=0
   ·exact .inr z
   ·exact .inl ((Nat.log2_lt z).mpr h)
  rcases this with h|h
  ·split<;>lia
  ·rw[h]
   have:Nat.log2 0=0:=by decide
   rw[this]
   split<;>exact Nat.lt_of_sub_eq_succ rfl
noncomputable def Bg(x:Int):Prop:=x.natAbs<2^10000
noncomputable def Sm(x:Int):Prop:=x.natAbs<2^4000
theorem O6{x k:Nat}(h:x<2^k)(hk:0<k):x.log2<k:=by
 by_cases z:x=0
 ·subst z
  have:Nat.log2 0=0:=by decide
  exact Flt.log2_lt_of hk h
 ·exact(Nat.log2_lt z).mpr h
theorem r6{x:Int}{k:Nat}(h:x.natAbs<2^k)(hk:0<k)(hk':k≤9000):small x=true:=by
 unfold small
 exact decide_eq_true (Nat.lt_of_lt_of_le (O6 h hk) hk')
theorem am{x y:Int}(hx:Sm x)(hy:Sm y):p7 x y=true:=by
 unfold p7
 rw[r6 hx (by decide) (by decide),r6 hy (by decide) (by decide)];rfl
theorem ed{x:Int}(h0:x≠0)(hx:Sm x):wd x=true:=by
 unfold wd
 rw[r6 hx (by decide) (by decide),decide_eq_true h0];rfl
theorem Sm.of_le{x y:Int}(hy:Sm y)(h:x.natAbs≤y.natAbs):Sm x:=Nat.lt_of_le_of_lt h hy
theorem r7{a b:Int}(hb:b≠0):Int.gcd a b≤b.natAbs:=Nat.le_of_dvd (by exact Int.natAbs_pos.mpr hb) (Int.gcd_dvd_natAbs_right a b)
theorem eh{a b:Int}(hb:b≠0):0<Int.gcd a b:=Nat.pos_of_ne_zero fun h=>hb (Int.gcd_eq_zero_iff.mp h).2
theorem Sm.big{x:Int}(h:Sm x):Bg x:=Nat.lt_trans h (Nat.pow_lt_pow_right (by decide) (by decide))
theorem av{a:Int}{g:Nat}:a.fdiv (g:Int)=a/(g:Int):=Int.fdiv_eq_ediv_of_nonneg _ (by exact Int.natCast_nonneg g)
noncomputable def exG(b c:Int):Int:=Int.gcd b c
noncomputable def exT(t b u c:Int):Int:=t*(c/exG b c)+u*(b/exG b c)
noncomputable def exS(t b u c:Int):Int:=Int.gcd (exT t b u c) (exG b c)
theorem ll{b:Int}{g:Nat}(h:0≤b):(b/(g:Int)).natAbs≤b.natAbs:=by
 have h1:=Int.ediv_le_self (g:Int) h
 have h2:=Int.ediv_nonneg h (Int.natCast_nonneg g)
 exact Int.natAbs_ediv_le_natAbs b ↑g
theorem Sm.mul_lt{x y:Int}(hx:Sm x)(hy:Sm y):(x*y).natAbs<2^8000:=by
 unfold Sm at hx hy
 rw[Int.natAbs_mul]
 calc x.natAbs*y.natAbs<2^4000*2^4000:=Nat.mul_lt_mul'' hx hy
  _=2^8000:=by rw[←Nat.pow_add]
theorem O7{x y:Int}(hx:x.natAbs<2^8000)(hy:y.natAbs<2^8000):Bg (x+y):=by
 unfold Bg
 have h1:(x+y).natAbs≤x.natAbs+y.natAbs:=Int.natAbs_add_le x y
 have h2:x.natAbs+y.natAbs<2^8000+2^8000:=Nat.add_lt_add hx hy
 have h3:(2:Nat)^8000+2^8000≤2^10000:=by
  rw[←Nat.two_mul,←Nat.pow_succ']
  exact Nat.pow_le_pow_right (by decide) (by decide)
 exact Nat.lt_of_le_of_lt h1 (Nat.lt_of_lt_of_le h2 h3)
section
variable {n:Nat} {t b u c m e:Int} {st:Sto} {E:KV} {Q:KD}
set_option tactic.hygienic true in
theorem om{a b:Int}(ha:Bg a)(hb:Bg b)(q:Q (.v (.int (Int.gcd a b))) st):CallK (R C4 T4 (n+2) (.v (.val (.ref 329))) [.v (.int a),.v (.int b)] st) Q E:=by
 refine af rfl rfl ?_
 conv=>whnf
 refine e9 (fun k ρ st'=>st'=st∧∃x y:Nat,k=mu x y∧Nat.gcd x y=Int.gcd a b∧ρ=[(Str.ofString "one",.v (.int x)),(Str.ofString "other",.v (.int y))]) (k₀:=mu a.natAbs b.natAbs) ?_ ⟨rfl,a.natAbs,b.natAbs,rfl,rfl,?_⟩ (fun k ρ st' hI=>?_)
 ·have:=mj ha hb
  show _<1000000000
  lia
 ·rw[←df,←df];rfl
 ·obtain⟨rfl,x,y,rfl,hg,rfl⟩:=hI
  ((conv=>whnf);repeat'(first|((with_reducible apply jy)<;>(intro _;(conv=>whnf)))|((with_reducible apply ae);(conv=>whnf))))
  ·rename_i hy
   have hy':y≠0:=fun z=>hy (by rw[z];rfl)
   refine⟨_,pq hy',rfl,y,x%y,rfl,?_,?_⟩
   ·rw[←hg,Nat.gcd_comm x y,Nat.gcd_rec y x,Nat.gcd_comm]
   ·rw[Int.fmod_eq_emod_of_nonneg _ (Int.natCast_nonneg y)];rfl
  ·assumption
  ·rename_i hy
   have hy':y=0:=Int.ofNat_eq_zero.mp hy
   subst hy'
   rw[Nat.gcd_zero_right]at hg
   rw[←hg]at q
   conv=>whnf
   rw[ztl]
   exact q
end
section
variable {n:Nat} {t b u c m e:Int} {st:Sto} {E:KV} {Q:KD}
set_option tactic.hygienic true in
theorem Bv(h0:t≠0)(q:Q (.v (if t<0 then nV (-b) (-t)else nV b t)) st):CallK (R C4 T4 (n+3) (.v (.val (.ref 399))) [.v (nV t b)] st) Q E:=by
 refine af rfl rfl ?_
 ((conv=>whnf);repeat'(first|((with_reducible apply aj)<;>(intro _;(conv=>whnf)))|((with_reducible first|apply gu|apply jb|apply li);(conv=>whnf))))
 ·rename_i h;rw[if_pos h]at q;rw[ztl,Int.zero_sub,Int.zero_sub];exact q
 ·rename_i h;rw[if_neg h]at q;rw[ztl];exact q
set_option tactic.hygienic true in
theorem Bw(ht:Sm t)(hb:Sm b)(hu:Sm u)(hc:Sm c)(h0:0<b)(h1:0<c)(q:Q (.v (nV (exT t b u c/exS t b u c) (b/exG b c*(c/exS t b u c)))) st):
 CallK (R C4 T4 (n+4) (.v (.val (.ref 378))) [.v (nV t b),.v (nV u c)] st) Q E:=by
 have hg:0<Int.gcd b c:=eh (by exact Ne.symm (Int.ne_of_lt h1))
 have Sg:Sm (Int.gcd b c:Int):=hc.of_le (by have:=r7 (a:=b) (b:=c) (by exact Ne.symm (Int.ne_of_lt h1));exact this)
 have Sc:Sm (c.fdiv (Int.gcd b c:Int)):=hc.of_le (by rw[av];exact ll (by exact Int.le_of_lt h1))
 have Sb:Sm (b.fdiv (Int.gcd b c:Int)):=hb.of_le (by rw[av];exact ll (by exact Int.le_of_lt h0))
 have B1:Bg (t*c.fdiv (Int.gcd b c:Int)+u*b.fdiv (Int.gcd b c:Int)):=O7 (ht.mul_lt Sc) (hu.mul_lt Sb)
 have hs:0<Int.gcd (t*c.fdiv (Int.gcd b c:Int)+u*b.fdiv (Int.gcd b c:Int)) (Int.gcd b c:Int):=eh (by exact Int.natCast_ne_zero_iff_pos.mpr hg)
 have Ss:Sm (Int.gcd (t*c.fdiv (Int.gcd b c:Int)+u*b.fdiv (Int.gcd b c:Int)) (Int.gcd b c:Int):Int):=Sg.of_le (by have:=r7 (a:=t*c.fdiv (Int.gcd b c:Int)+u*b.fdiv (Int.gcd b c:Int)) (b:=(Int.gcd b c:Int)) (by exact Int.natCast_ne_zero_iff_pos.mpr hg);exact this)
 have Sc2:Sm (c.fdiv (Int.gcd (t*c.fdiv (Int.gcd b c:Int)+u*b.fdiv (Int.gcd b c:Int)) (Int.gcd b c:Int):Int)):=hc.of_le (by rw[av];exact ll (by exact Int.le_of_lt h1))
 have q':Q (.v (nV ((t*c.fdiv (Int.gcd b c:Int)+u*b.fdiv (Int.gcd b c:Int)).fdiv (Int.gcd (t*c.fdiv (Int.gcd b c:Int)+u*b.fdiv (Int.gcd b c:Int)) (Int.gcd b c:Int):Int)) (b.fdiv (Int.gcd b c:Int)*c.fdiv (Int.gcd (t*c.fdiv (Int.gcd b c:Int)+u*b.fdiv (Int.gcd b c:Int)) (Int.gcd b c:Int):Int)))) st:=by
  have e:exS t b u c=(Int.gcd (exT t b u c) (Int.gcd b c:Int):Int):=rfl
  rw[e]at q
  unfold exT exG at q
  simp only[av]
  exact q
 have hgi:(Int.gcd b c:Int)≠0:=by exact Int.natCast_ne_zero_iff_pos.mpr hg
 have hsi:(Int.gcd (t*c.fdiv (Int.gcd b c:Int)+u*b.fdiv (Int.gcd b c:Int)) (Int.gcd b c:Int):Int)≠0:=by exact Int.natCast_ne_zero_iff_pos.mpr hs
 refine af rfl rfl ?_
 ((conv=>whnf);repeat'(first|((with_reducible apply aj)<;>(intro _;(conv=>whnf)))|((with_reducible first|apply mh|apply jb);(conv=>whnf))))
 ·rename_i hb1 hc1
  subst hb1 hc1
  conv=>whnf
  have e:nV (exT t 1 u 1/exS t 1 u 1) (1/exG 1 1*(1/exS t 1 u 1))=.int (t+u):=by
   have e1:exG 1 1=1:=by decide
   have e2:exT t 1 u 1=t+u:=by unfold exT;rw[e1];simp
   have e3:exS t 1 u 1=1:=by unfold exS;rw[e1,Int.gcd_one];rfl
   rw[e1,e2,e3];simp[nV]
  rw[e]at q
  rw[ztl]
  exact q
 all_goals
  refine om hb.big hc.big ?_
  ((conv=>whnf);repeat'((with_reducible first|apply ae|apply gu);(conv=>whnf)))
  ·refine om B1 Sg.big ?_
   ((conv=>whnf);repeat'((with_reducible first|apply ae|apply li);(conv=>whnf)))
   ·rw[ztl];exact q'
   all_goals first|exact am Sb Sc2|exact ed hsi Ss|exact ed hgi Sg
  all_goals first|exact ed hgi Sg|exact am ht Sc|exact am hu Sb
theorem Gu(ht:Sm t)(hb:Sm b)(hu:Sm u)(hc:Sm c)(h0:0<b)(h1:0<c)(q:Q (.v (nV (exT t b (-u) c/exS t b (-u) c) (b/exG b c*(c/exS t b (-u) c)))) st):
 CallK (R C4 T4 (n+5) (.v (.val (.ref 385))) [.v (nV t b),.v (nV u c)] st) Q E:=by
 refine af rfl rfl ?_
 ((conv=>whnf);repeat'((with_reducible apply x7);(conv=>whnf)))
 refine Bw ht hb (by unfold Sm at hu ⊢;rw[Int.natAbs_neg];exact hu) hc h0 h1 ?_
 conv=>whnf
 rw[ztl];exact q
noncomputable def muX(t c:Int):Int:=Int.gcd t c
set_option tactic.hygienic true in
theorem Gv(ht:Sm t)(hb:Sm b)(hu:Sm u)(hc:Sm c)(h0:0<b)(h1:0<c)(q:Q (.v (nV (t/muX t c*(u/muX u b)) (b/muX u b*(c/muX t c)))) st):
 CallK (R C4 T4 (n+4) (.v (.val (.ref 392))) [.v (nV t b),.v (nV u c)] st) Q E:=by
 have g1:0<Int.gcd t c:=eh (by exact Ne.symm (Int.ne_of_lt h1))
 have g2:0<Int.gcd u b:=eh (by exact Ne.symm (Int.ne_of_lt h0))
 have S1:Sm (Int.gcd t c:Int):=hc.of_le (by have:=r7 (a:=t) (b:=c) (by exact Ne.symm (Int.ne_of_lt h1));exact this)
 have S2:Sm (Int.gcd u b:Int):=hb.of_le (by have:=r7 (a:=u) (b:=b) (by exact Ne.symm (Int.ne_of_lt h0));exact this)
 have n1:(Int.gcd t c:Int)≠0:=by exact Int.natCast_ne_zero_iff_pos.mpr g1
 have n2:(Int.gcd u b:Int)≠0:=by exact Int.natCast_ne_zero_iff_pos.mpr g2
 have D1:Sm (t.fdiv (Int.gcd t c:Int)):=ht.of_le (by rw[av];exact Int.natAbs_ediv_le_natAbs _ _)
 have D2:Sm (u.fdiv (Int.gcd u b:Int)):=hu.of_le (by rw[av];exact Int.natAbs_ediv_le_natAbs _ _)
 have D3:Sm (b.fdiv (Int.gcd u b:Int)):=hb.of_le (by rw[av];exact Int.natAbs_ediv_le_natAbs _ _)
 have D4:Sm (c.fdiv (Int.gcd t c:Int)):=hc.of_le (by rw[av];exact Int.natAbs_ediv_le_natAbs _ _)
 have q':Q (.v (nV (t.fdiv (Int.gcd t c:Int)*u.fdiv (Int.gcd u b:Int)) (b.fdiv (Int.gcd u b:Int)*c.fdiv (Int.gcd t c:Int)))) st:=by
  simp only[av];exact q
 refine af rfl rfl ?_
 ((conv=>whnf);repeat'(first|((with_reducible apply aj)<;>(intro _;(conv=>whnf)))|((with_reducible first|apply mh|apply gu|apply jb);(conv=>whnf))))
 ·rename_i hb1 hc1
  subst hb1 hc1
  ((conv=>whnf);repeat'((with_reducible apply ae);(conv=>whnf)))
  ·have e:nV (t/muX t 1*(u/muX u 1)) (1/muX u 1*(1/muX t 1))=.int (t*u):=by
    unfold muX
    rw[Int.gcd_one,Int.gcd_one];simp[nV]
   rw[e]at q
   rw[ztl]
   exact q
  ·exact am ht hu
 all_goals
  refine om ht.big hc.big ?_
  ((conv=>whnf);repeat'((with_reducible first|apply gu|apply jb);(conv=>whnf)))
  refine om hu.big hb.big ?_
  ((conv=>whnf);repeat'((with_reducible first|apply ae|apply gu|apply jb|apply li);(conv=>whnf)))
  ·rw[ztl];exact q'
  all_goals first|exact ed n1 S1|exact ed n2 S2|exact am D1 D2|exact am D3 D4
theorem R8(ht:Sm t)(hb:Sm b)(hu:Sm u)(hc:Sm c)(h0:0<b)(h1:0<c)(hz:u≠0)(q:∀u' c',(u'=if u<0 then -c else c)→(c'=if u<0 then -u else u)→Q (.v (nV (t/muX t c'*(u'/muX u' b)) (b/muX u' b*(c'/muX t c')))) st):
 CallK (R C4 T4 (n+5) (.v (.val (.ref 406))) [.v (nV t b),.v (nV u c)] st) Q E:=by
 refine af rfl rfl ?_
 conv=>whnf
 refine Bv hz ?_
 by_cases hn:u<0
 ·rw[if_pos hn]
  conv=>whnf
  refine Gv ht hb (by unfold Sm at hc ⊢;rw[Int.natAbs_neg];exact hc) (by unfold Sm at hu ⊢;rw[Int.natAbs_neg];exact hu) h0 (by exact Int.neg_pos_of_neg hn) ?_
  conv=>whnf
  rw[ztl];exact q (-c) (-u) (by rw[if_pos hn]) (by rw[if_pos hn])
 ·rw[if_neg hn]
  conv=>whnf
  refine Gv ht hb hc hu h0 (by lia) ?_
  conv=>whnf
  rw[ztl];exact q c u (by rw[if_neg hn]) (by rw[if_neg hn])
end
noncomputable def rhe(A B:Nat):Nat:=if B<2*(A%B)∨(2*(A%B)=B∧A/B%2=1)then A/B+1 else A/B
theorem nv{A B k:Nat}(hk:0<k):rhe (k*A) (k*B)=rhe A B:=by
 unfold rhe
 rw[Nat.mul_div_mul_left _ _ hk,Nat.mul_mod_mul_left]
 have e1:(k*B<2*(k*(A%B)))↔(B<2*(A%B)):=by
  rw[show 2*(k*(A%B))=k*(2*(A%B))from Nat.mul_left_comm ..]
  exact⟨fun h=>Nat.lt_of_mul_lt_mul_left h,fun h=>Nat.mul_lt_mul_of_pos_left h hk⟩
 have e2:(2*(k*(A%B))=k*B)↔(2*(A%B)=B):=by
  rw[show 2*(k*(A%B))=k*(2*(A%B))from Nat.mul_left_comm ..]
  exact⟨fun h=>Nat.eq_of_mul_eq_mul_left hk h,fun h=>by rw[h]⟩
 simp only[e1,e2]
theorem ub{A B A' B':Nat}(hB:0<B)(hB':0<B')(h:A*B'=A'*B):rhe A B=rhe A' B':=by
 rw[←nv (A:=A) (B:=B) hB',←nv (A:=A') (B:=B') hB,Nat.mul_comm B' A,h,Nat.mul_comm A' B,Nat.mul_comm B' B]
noncomputable def ax(p a b m:Nat)(e:Int):Prop:=∃i j k:Nat,2^(p-1)*(b*2^i)≤a*2^j∧a*2^j<2^p*(b*2^i)∧rhe (a*2^j) (b*2^i)=m*2^k∧m%2=1∧e=(i:Int)-j+k
theorem p2(n:Nat):0<2^n:=Nat.pow_pos (by decide)
theorem Ad{m n k l:Nat}(hm:m%2=1)(hn:n%2=1)(h:m*2^k=n*2^l):m=n∧k=l:=by
 rcases Nat.lt_trichotomy k l with hl|hl|hl
 ·obtain⟨d,rfl⟩:=Nat.exists_eq_add_of_lt hl
  exfalso
  have:m=n*2^(d+1):=Nat.eq_of_mul_eq_mul_right (p2 k) (by rw[h,Nat.mul_assoc,←Nat.pow_add];congr 2;exact Eq.symm (Nat.add_comm (d+1) k))
  rw[this,Nat.pow_succ,←Nat.mul_assoc,Nat.mul_mod_left]at hm
  (first|subst hm|contradiction|(injection hm with hm;subst hm)|cases hm)
 ·subst hl
  exact⟨Nat.eq_of_mul_eq_mul_right (p2 k) h,rfl⟩
 ·obtain⟨d,rfl⟩:=Nat.exists_eq_add_of_lt hl
  exfalso
  have:n=m*2^(d+1):=Nat.eq_of_mul_eq_mul_right (p2 l) (by rw[←h,Nat.mul_assoc,←Nat.pow_add];congr 2;exact Eq.symm (Nat.add_comm (d+1) l))
  rw[this,Nat.pow_succ,←Nat.mul_assoc,Nat.mul_mod_left]at hn
  (first|subst hn|contradiction|(injection hn with hn;subst hn)|cases hn)
theorem T9{p i j i' j':Nat}(hp:0<p)(hn:i+j'<i'+j)(h5:p-1+i'+j<p+i+j'):False:=by
 cases p with
 |zero=>contradiction
 |succ q=>
  rw[Nat.add_sub_cancel,Nat.add_assoc,Nat.add_assoc,Nat.succ_add]at h5
  exact Nat.not_lt.mpr (Nat.add_le_add_left hn q) h5
theorem Ua{i j k t:Nat}:(i:Int)-j+k-t=i-((j+t:Nat):Int)+k:=by lia
theorem Ub{i j k t:Nat}:(i:Int)-j+k+t=((i+t:Nat):Int)-j+k:=by lia
theorem Uc{i j i' j' k k':Nat}(h:i'+j=i+j')(q:k=k'):(i:Int)-j+k=(i':Int)-j'+k':=by lia
theorem R9{X K d:Nat}(h:2*X≤2*K+d)(hd:d≤1):X≤K:=by lia
theorem Sa{K d Y:Nat}(h:2*K+d<2*Y):K<Y:=by lia
theorem Gw{M d Y:Nat}(h:M<Y)(hd:d≤1):2*M+d<2*Y:=by lia
theorem x8{p a b a' b' i j i' j':Nat}(hp:0<p)(hb:0<b)(hb':0<b')(h:a*b'=a'*b)(hi:a*2^j<2^p*(b*2^i))(lo:2^(p-1)*(b'*2^i')≤a'*2^j'):i'+j≤i+j':=by
 apply Classical.byContradiction
 intro hn
 have hn:=Nat.lt_of_not_le hn
 have h1:a*2^j*(b'*2^j')<2^p*(b*2^i)*(b'*2^j'):=Nat.mul_lt_mul_of_pos_right hi (Nat.mul_pos hb' (p2 _))
 have h2:2^(p-1)*(b'*2^i')*(b*2^j)≤a'*2^j'*(b*2^j):=Nat.mul_le_mul_right _ lo
 have e:a'*2^j'*(b*2^j)=a*2^j*(b'*2^j'):=by
  calc a'*2^j'*(b*2^j)=(a'*b)*(2^j*2^j'):=by simp only[Nat.mul_assoc,Nat.mul_comm,Nat.mul_left_comm]
   _=(a*b')*(2^j*2^j'):=by rw[h]
   _=a*2^j*(b'*2^j'):=by simp only[Nat.mul_assoc,Nat.mul_comm,Nat.mul_left_comm]
 rw[e]at h2
 have h3:=Nat.lt_of_le_of_lt h2 h1
 have e1:2^(p-1)*(b'*2^i')*(b*2^j)=(b*b')*2^(p-1+i'+j):=by
  rw[Nat.pow_add,Nat.pow_add];simp only[Nat.mul_assoc,Nat.mul_comm,Nat.mul_left_comm]
 have e2:2^p*(b*2^i)*(b'*2^j')=(b*b')*2^(p+i+j'):=by
  rw[Nat.pow_add,Nat.pow_add];simp only[Nat.mul_assoc,Nat.mul_comm,Nat.mul_left_comm]
 rw[e1,e2]at h3
 have h4:=Nat.lt_of_mul_lt_mul_left h3
 exact T9 hp hn ((Nat.pow_lt_pow_iff_right (by decide:1<2)).mp h4)
theorem x9{p a b a' b' m m':Nat}{e e':Int}(hp:0<p)(hb:0<b)(hb':0<b')(h:a*b'=a'*b)(n:ax p a b m e)(n':ax p a' b' m' e'):m=m'∧e=e':=by
 obtain⟨i,j,k,lo,hi,w,o,rfl⟩:=n
 obtain⟨i',j',k',lo',hi',w',o',rfl⟩:=n'
 have h1:=x8 hp hb hb' h hi lo'
 have h2:=x8 hp hb' hb h.symm hi' lo
 have hw:m*2^k=m'*2^k':=by
  rw[←w,←w']
  refine ub (Nat.mul_pos hb (p2 _)) (Nat.mul_pos hb' (p2 _)) ?_
  calc a*2^j*(b'*2^i')=(a*b')*2^(i'+j):=by rw[Nat.pow_add];simp only[Nat.mul_assoc,Nat.mul_comm,Nat.mul_left_comm]
   _=(a'*b)*2^(i+j'):=by rw[h,Nat.le_antisymm h1 h2]
   _=a'*2^j'*(b*2^i):=by rw[Nat.pow_add];simp only[Nat.mul_assoc,Nat.mul_comm,Nat.mul_left_comm]
 obtain⟨q1,q2⟩:=Ad o o' hw
 exact⟨q1,Uc (Nat.le_antisymm h1 h2) q2⟩
theorem lm{p a b a' b' m:Nat}{e:Int}(hb:0<b)(hb':0<b')(h:a*b'=a'*b)(n:ax p a b m e):ax p a' b' m e:=by
 obtain⟨i,j,k,lo,hi,w,o,rfl⟩:=n
 have t1:a*2^j*b'=a'*2^j*b:=by
  calc a*2^j*b'=(a*b')*2^j:=by simp only[Nat.mul_assoc,Nat.mul_comm,Nat.mul_left_comm]
   _=(a'*b)*2^j:=by rw[h]
   _=_:=by simp only[Nat.mul_assoc,Nat.mul_comm,Nat.mul_left_comm]
 refine⟨i,j,k,?_,?_,?_,o,rfl⟩
 ·refine Nat.le_of_mul_le_mul_right (c:=b) ?_ hb
  rw[←t1]
  calc 2^(p-1)*(b'*2^i)*b=2^(p-1)*(b*2^i)*b':=by simp only[Nat.mul_assoc,Nat.mul_comm,Nat.mul_left_comm]
   _≤_:=Nat.mul_le_mul_right _ lo
 ·refine Nat.lt_of_mul_lt_mul_right (a:=b) ?_
  rw[←t1]
  calc a*2^j*b'<2^p*(b*2^i)*b':=Nat.mul_lt_mul_of_pos_right hi hb'
   _=_:=by simp only[Nat.mul_assoc,Nat.mul_comm,Nat.mul_left_comm]
 ·rw[←w]
  refine(ub (Nat.mul_pos hb (p2 _)) (Nat.mul_pos hb' (p2 _)) ?_).symm
  calc a*2^j*(b'*2^i)=(a*2^j*b')*2^i:=by simp only[Nat.mul_assoc]
   _=_:=by rw[t1,Nat.mul_assoc]
theorem Gx{p a b m t:Nat}{e:Int}(n:ax p (a*2^t) b m e):ax p a b m (e-t):=by
 obtain⟨i,j,k,lo,hi,w,o,rfl⟩:=n
 have q:a*2^t*2^j=a*2^(j+t):=by rw[Nat.pow_add,Nat.mul_assoc,Nat.mul_comm (2^t)]
 rw[q]at lo hi w
 exact⟨i,j+t,k,lo,hi,w,o,Ua⟩
theorem Ae{p a b m t:Nat}{e:Int}(n:ax p a (b*2^t) m e):ax p a b m (e+t):=by
 obtain⟨i,j,k,lo,hi,w,o,rfl⟩:=n
 have q:b*2^t*2^i=b*2^(i+t):=by rw[Nat.pow_add,Nat.mul_assoc,Nat.mul_comm (2^t)]
 rw[q]at lo hi w
 exact⟨i+t,j,k,lo,hi,w,o,Ub⟩
theorem Bx{p a b m t:Nat}{e:Int}(hb:0<b)(n:ax p a b m e):ax p (a*2^t) b m (e+t):=
 Ae (lm hb (Nat.mul_pos hb (p2 t)) (by simp only[Nat.mul_assoc,Nat.mul_comm,Nat.mul_left_comm]) n)
theorem vi{p a b m t:Nat}{e:Int}(hb:0<b)(n:ax p a b m e):ax p a (b*2^t) m (e-t):=
 Gx (lm hb (Nat.mul_pos hb (p2 t)) (by simp only[Nat.mul_assoc,Nat.mul_comm,Nat.mul_left_comm]) n)
theorem Sd{X Y:Nat}(A:X<Y):¬2*Y<2*X:=Nat.not_lt.mpr (Nat.mul_le_mul_left 2 (Nat.le_of_lt A))
theorem Dy{X Y:Nat}(A:X<Y):¬2*X=2*Y:=Nat.ne_of_lt (Nat.mul_lt_mul_of_pos_left A (by decide))
theorem Dz{X Y:Nat}(A:X<Y):2*X<2*Y:=Nat.mul_lt_mul_of_pos_left A (by decide)
theorem Se{X Y U V:Nat}(A:X<Y)(B:U<V):(2*Y<2*X↔2*V<2*U)∧(2*X=2*Y↔2*U=2*V):=
 ⟨⟨fun z=>absurd z (Sd A),fun z=>absurd z (Sd B)⟩,⟨fun z=>absurd z (Dy A),fun z=>absurd z (Dy B)⟩⟩
theorem Sf{X Y U V:Nat}(A:Y<X)(B:V<U):(2*Y<2*X↔2*V<2*U)∧(2*X=2*Y↔2*U=2*V):=
 ⟨⟨fun o_=>Dz B,fun o_=>Dz A⟩,⟨fun z=>absurd z.symm (Dy A),fun z=>absurd z.symm (Dy B)⟩⟩
theorem Sh{X r Y d:Nat}(h:r=0↔d=0):(2*X<2*(X+r)↔2*Y<2*(Y+d))∧(2*(X+r)=2*X↔2*(Y+d)=2*Y):=by
 by_cases z:r=0
 ·rw[z,h.mp z]
  exact⟨⟨fun z=>absurd z (Nat.lt_irrefl _),fun z=>absurd z (Nat.lt_irrefl _)⟩,⟨fun o_=>rfl,fun o_=>rfl⟩⟩
 ·have z1:X<X+r:=Nat.lt_add_of_pos_right (Nat.pos_of_ne_zero z)
  have z2:Y<Y+d:=Nat.lt_add_of_pos_right (Nat.pos_of_ne_zero fun q=>z (h.mpr q))
  exact⟨⟨fun o_=>Dz z2,fun o_=>Dz z1⟩,⟨fun q=>absurd q.symm (Dy z1),fun q=>absurd q.symm (Dy z2)⟩⟩
theorem O8{b h M r δ:Nat}(hr:r<b)(hd:δ≤1)(h0:r=0↔δ=0):(2*(b*h)<2*(b*M+r)↔2*(2*h)<2*(2*M+δ))∧(2*(b*M+r)=2*(b*h)↔2*(2*M+δ)=2*(2*h)):=by
 rcases Nat.lt_trichotomy M h with hm|hm|hm
 ·have:b*M+b≤b*h:=by rw[←Nat.mul_succ];exact Nat.mul_le_mul_left _ hm
  exact Se (Nat.lt_of_lt_of_le (Nat.add_lt_add_left hr _) this) (Gw hm hd)
 ·subst hm
  exact Sh h0
 ·have:b*h+b≤b*M:=by rw[←Nat.mul_succ];exact Nat.mul_le_mul_left _ hm
  exact Sf (Nat.lt_of_lt_of_le (Nat.lt_add_of_pos_right (Nat.lt_of_le_of_lt (Nat.zero_le _) hr)) (Nat.le_trans this (Nat.le_add_right _ _))) (Nat.lt_of_lt_of_le (Dz hm) (Nat.le_add_right _ _))
theorem oo{p a b m:Nat}{e:Int}(hp:0<p)(hb:0<b)(hK:2^p≤a/b)(n:ax p (2*(a/b)+if a%b=0 then 0 else 1) 2 m e):ax p a b m e:=by
 obtain⟨i,j,k,lo,hi,w,o,rfl⟩:=n
 obtain⟨δ,hδ,hδ1,hδ0⟩:∃δ,(if a%b=0 then 0 else 1)=δ∧δ≤1∧(a%b=0↔δ=0):=by
  by_cases z:a%b=0
  ·exact⟨0,if_pos z,Nat.zero_le _,⟨fun o_=>rfl,fun o_=>z⟩⟩
  ·exact⟨1,if_neg z,Nat.le_refl _,⟨fun q=>absurd q z,fun q=>nomatch q⟩⟩
 rw[hδ]at lo hi w
 have hr:=Nat.mod_lt a hb
 have ha:=Nat.div_add_mod a b
 generalize a/b=K at*
 generalize a%b=r at*
 have hij:j<i:=by
  apply Classical.byContradiction
  intro hn
  have h1:2^i≤2^j:=Nat.pow_le_pow_right (by decide) (Nat.not_lt.mp hn)
  have h2:2^p*(2*2^i)≤(2*K+δ)*2^j:=by
   calc 2^p*(2*2^i)≤K*(2*2^j):=Nat.mul_le_mul hK (Nat.mul_le_mul_left 2 h1)
    _=(2*K)*2^j:=by rw[Nat.mul_left_comm,Nat.mul_assoc]
    _≤_:=Nat.mul_le_mul_right _ (Nat.le_add_right _ _)
  exact Nat.lt_irrefl _ (Nat.lt_of_lt_of_le hi h2)
 obtain⟨s,rfl⟩:∃s,i=j+(s+1):=(Nat.exists_eq_add_of_lt hij).imp fun o_ h=>h
 have e1:(2:Nat)*2^(j+(s+1))=(2*2^(s+1))*2^j:=by rw[Nat.pow_add 2 j,Nat.mul_assoc,Nat.mul_comm (2^j)]
 rw[e1]at lo hi w
 have lo1:2^(p-1)*(2*2^(s+1))≤2*K+δ:=Nat.le_of_mul_le_mul_right (by rw[Nat.mul_assoc];exact lo) (p2 j)
 have hi1:2*K+δ<2^p*(2*2^(s+1)):=Nat.lt_of_mul_lt_mul_right (a:=2^j) (by rw[Nat.mul_assoc];exact hi)
 have w1:rhe (2*K+δ) (2*2^(s+1))=m*2^k:=by
  rw[←w,Nat.mul_comm _ (2^j),Nat.mul_comm _ (2^j),nv (p2 j)]
 have lo2:2^(p-1)*2^(s+1)≤K:=R9 (by rw[Nat.mul_left_comm];exact lo1) hδ1
 have hi2:K<2^p*2^(s+1):=Sa (by rw[Nat.mul_left_comm 2];exact hi1)
 refine⟨s+1,0,k,?_,?_,?_,o,by rw[Int.natCast_add j,Int.add_comm (j:Int),Int.add_sub_cancel,Int.natCast_zero,Int.sub_zero]⟩
 ·rw[Nat.pow_zero,Nat.mul_one]
  calc 2^(p-1)*(b*2^(s+1))=b*(2^(p-1)*2^(s+1)):=Nat.mul_left_comm ..
   _≤b*K:=Nat.mul_le_mul_left _ lo2
   _≤a:=by rw[←ha];exact Nat.le_add_right _ _
 ·rw[Nat.pow_zero,Nat.mul_one]
  calc a<b*(K+1):=by rw[Nat.mul_succ,←ha];exact Nat.add_lt_add_left hr _
   _≤b*(2^p*2^(s+1)):=Nat.mul_le_mul_left _ hi2
   _=_:=Nat.mul_left_comm ..
 ·rw[←w1,Nat.pow_zero,Nat.mul_one]
  have hH:(2:Nat)^(s+1)=2*2^s:=by rw[Nat.pow_succ,Nat.mul_comm]
  have hh:=p2 s
  rw[hH]
  generalize (2:Nat)^s=h at*
  have kq:=Nat.div_add_mod K (2*h)
  have km:=Nat.mod_lt K (Nat.mul_pos Nat.two_pos hh)
  generalize K/(2*h)=q at*
  generalize K%(2*h)=M at*
  have bM:b*M+r<b*(2*h):=by
   calc b*M+r<b*M+b:=Nat.add_lt_add_left hr _
    _=b*(M+1):=(Nat.mul_succ ..).symm
    _≤_:=Nat.mul_le_mul_left _ km
  have da:a=(b*M+r)+(b*(2*h))*q:=by
   rw[←ha,←kq,Nat.mul_add,←Nat.mul_assoc,Nat.add_assoc,Nat.add_comm]
  have dN:2*K+δ=(2*M+δ)+(2*(2*h))*q:=by
   rw[←kq,Nat.mul_add,←Nat.mul_assoc,Nat.add_assoc,Nat.add_comm]
  have q1:a/(b*(2*h))=q:=by rw[da,Nat.add_mul_div_left _ _ (Nat.mul_pos hb (Nat.mul_pos Nat.two_pos hh)),Nat.div_eq_of_lt bM,Nat.zero_add]
  have q2:a%(b*(2*h))=b*M+r:=by rw[da,Nat.add_mul_mod_self_left,Nat.mod_eq_of_lt bM]
  have q3:(2*K+δ)/(2*(2*h))=q:=by rw[dN,Nat.add_mul_div_left _ _ (Nat.mul_pos Nat.two_pos (Nat.mul_pos Nat.two_pos hh)),Nat.div_eq_of_lt (Gw km hδ1),Nat.zero_add]
  have q4:(2*K+δ)%(2*(2*h))=2*M+δ:=by rw[dN,Nat.add_mul_mod_self_left,Nat.mod_eq_of_lt (Gw km hδ1)]
  unfold rhe
  rw[q1,q2,q3,q4]
  have bh:b*(2*h)=2*(b*h):=Nat.mul_left_comm ..
  rw[bh]
  obtain⟨c1,c2⟩:=O8 (h:=h) (M:=M) hr hδ1 hδ0
  simp only[c1,c2]
theorem Gy{a b:Nat}:(2*a)&&&(2*b+1)=2*(a&&&b):=by
 refine Nat.eq_of_testBit_eq fun i=>?_
 induction i using Nat.casesOn with
 |zero=>simp[Nat.testBit_zero]
 |succ i=>
  rw[Nat.testBit_and,Nat.testBit_succ,Nat.testBit_succ,Nat.testBit_succ,Nat.mul_div_cancel_left _ (by decide),Nat.mul_div_cancel_left _ (by decide),Nat.testBit_and]
  congr 2
  lia
theorem D0{m:Nat}(hm:m%2=1):(m-1)/2=m/2:=by
 have h:=Nat.div_add_mod m 2
 rw[hm]at h
 calc (m-1)/2=(2*(m/2)+1-1)/2:=by rw[h]
  _=m/2:=by rw[Nat.add_sub_cancel,Nat.mul_div_cancel_left _ Nat.two_pos]
theorem Gz{X:Nat}(h:0<X):2*X-1=2*(X-1)+1:=by
 obtain⟨Y,rfl⟩:=Nat.exists_eq_succ_of_ne_zero (Nat.ne_of_gt h)
 rfl
theorem mn{m:Nat}(hm:m%2=1):0<m:=Nat.pos_of_ne_zero fun q=>by rw[q]at hm;contradiction
theorem By{m:Nat}(hm:m%2=1):∀z,(m*2^z)&&&(m*2^z-1)=(m-1)*2^z
 |0=>by
  rw[Nat.pow_zero,Nat.mul_one,Nat.mul_one]
  refine Nat.eq_of_testBit_eq fun i=>?_
  induction i using Nat.casesOn with
  |zero=>simp[Nat.testBit_zero,hm]
  |succ i=>
   rw[Nat.testBit_and,Nat.testBit_succ,Nat.testBit_succ]
   rw[D0 hm,Bool.and_self]
 |z+1=>by
  have hp:0<m*2^z:=Nat.mul_pos (mn hm) (p2 z)
  have e1:m*2^(z+1)=2*(m*2^z):=by rw[Nat.pow_succ',Nat.mul_left_comm]
  rw[e1,Gz hp,Gy,By hm z,Nat.pow_succ',Nat.mul_left_comm]
theorem G0{X:Nat}(h:0<X):(Builtin.bitNot (0-(X:Int))).toNat=X-1:=by
 show(-(0-(X:Int))-1).toNat=X-1
 rw[Int.zero_sub,Int.neg_neg]
 exact Int.toNat_sub' X 1
theorem Ki{X Y T:Nat}(h:Y+T=X):(X:Int)-(Y:Int)=(T:Int):=by rw[←h,Int.natCast_add,Int.add_comm,Int.add_sub_cancel]
theorem Kj{m z:Nat}{x:Int}(hm:m%2=1)(hx:x.natAbs=m*2^z):Builtin.bitAnd x (0-x)=((2^z:Nat):Int):=by
 have m0:0<m:=Nat.pos_of_ne_zero fun q=>by rw[q]at hm;(first|subst hm|contradiction|(injection hm with hm;subst hm)|cases hm)
 have hp:0<m*2^z:=Nat.mul_pos m0 (p2 z)
 have key:((m*2^z:Nat):Int)-(((m*2^z)&&&(m*2^z-1):Nat):Int)=((2^z:Nat):Int):=by
  rw[By hm z]
  exact Ki (by rw[←Nat.succ_mul,Nat.succ_eq_add_one,Nat.sub_add_cancel m0])
 generalize m*2^z=X at*
 have hn:¬0≤0-(X:Int):=by rw[Int.zero_sub];exact Int.not_le.mpr (Int.neg_neg_of_pos (Int.natCast_pos.mpr hp))
 have b:=G0 hp
 unfold Builtin.bitAnd
 rcases Int.natAbs_eq x with e|e<;>rw[hx]at e<;>rw[e]
 ·rw[decide_eq_true (Int.natCast_nonneg X),decide_eq_false hn]
  show(X:Int)-(((X:Int).toNat&&&(Builtin.bitNot (0-(X:Int))).toNat:Nat):Int)=_
  rw[Int.toNat_natCast,b];exact key
 ·rw[←Int.zero_sub,show 0-(0-(X:Int))=X from Int.sub_sub_self _ _,decide_eq_false hn,decide_eq_true (Int.natCast_nonneg X)]
  show(X:Int)-(((X:Int).toNat&&&(Builtin.bitNot (0-(X:Int))).toNat:Nat):Int)=_
  rw[Int.toNat_natCast,b];exact key
theorem r8:∀{n:Nat},0<n→∃m z,m%2=1∧n=m*2^z:=by
 intro n
 induction n using Nat.strongRecOn with
 |ind n ih=>
  intro hn
  by_cases h:n%2=1
  ·exact⟨n,0,h,by simp⟩
  ·have e:n/2*2=n:=Nat.div_mul_cancel (Nat.dvd_of_mod_eq_zero ((Nat.mod_two_eq_zero_or_one n).resolve_right h))
   obtain⟨m,z,h1,h2⟩:=ih (n/2) (Nat.div_lt_self hn (by decide)) (Nat.pos_of_ne_zero fun z=>Nat.ne_of_gt hn (by rw[←e,z]))
   exact⟨m,z+1,h1,by rw[Nat.pow_succ,←Nat.mul_assoc,←h2];exact e.symm⟩
noncomputable def sz(x:Int):Nat:=Builtin.Int.intBits x
theorem dz{x:Int}(h:x≠0):sz x=x.natAbs.log2+1:=by
 unfold sz Builtin.Int.intBits
 rw[if_neg (by simpa using h)]
theorem r9{x:Int}(h:x≠0):2^(sz x-1)≤x.natAbs:=by
 rw[dz h];exact Nat.log2_self_le (Int.natAbs_ne_zero.mpr h)
theorem oq(x:Int):x.natAbs<2^sz x:=by
 by_cases h:x=0
 ·subst h;exact p2 _
 ·rw[dz h];exact Nat.lt_log2_self
theorem fw{x:Int}{k:Nat}(h:x.natAbs<2^k):sz x≤k:=by
 by_cases z:x=0
 ·subst z;exact Nat.zero_le _
 ·rw[dz z];exact(Nat.log2_lt (Int.natAbs_ne_zero.mpr z)).mpr h
theorem O9{z:Nat}:sz ((2^z:Nat):Int)=z+1:=by
 have hp:=p2 z
 rw[dz (Int.ofNat_ne_zero.mpr (Nat.ne_of_gt hp)),Int.natAbs_natCast,Nat.log2_two_pow]
theorem G3{x:Int}{m z:Nat}(hx:x.natAbs=m*2^z):x.fdiv (2^z:Int)=x.sign*m:=by
 have hp:(0:Int)<2^z:=Int.pow_pos (by decide)
 rw[Int.fdiv_eq_ediv_of_nonneg _ (Int.le_of_lt hp)]
 have e:x=(x.sign*m)*2^z:=by
  rw[Int.mul_assoc]
  have:((m:Int)*2^z)=(x.natAbs:Int):=by rw[hx];simp
  rw[this,Int.sign_mul_natAbs]
 exact Int.ediv_eq_of_eq_mul_left (Int.ne_of_gt hp) e
section
variable {n:Nat} {t b u c m e:Int} {st:Sto} {E:KV} {Q:KD}
theorem nw{x:Int}(q:Q (.v (.int (sz x))) st):CallK (R C4 T4 (n+2) (.v (.val (.ref 126))) [.v (.int x)] st) Q E:=by
 refine af rfl rfl ?_
 conv=>whnf
 rw[ztl,df]
 have:sz (x.natAbs:Int)=sz x:=by
  by_cases z:x=0
  ·subst z;rfl
  ·rw[dz z,dz (Int.ofNat_ne_zero.mpr (Int.natAbs_ne_zero.mpr z)),Int.natAbs_natCast]
 unfold sz at q this
 rw[this];exact q
theorem mo{x:Int}(q:Q (.v (.int x.sign)) st):CallK (R C4 T4 (n+2) (.v (.val (.ref 133))) [.v (.int x)] st) Q E:=by
 refine af rfl rfl ?_
 conv=>whnf
 rw[ztl,sgn];exact q
theorem Kk{x:Int}{m z:Nat}(hm:m%2=1)(hx:x.natAbs=m*2^z)(q:Q (.v (.int z)) st):CallK (R C4 T4 (n+2) (.v (.val (.ref 140))) [.v (.int x)] st) Q E:=by
 refine af rfl rfl ?_
 conv=>whnf
 rw[ztl,Kj hm hx]
 have:=O9 (z:=z)
 unfold sz at this
 rw[this]
 have e:((z+1:Nat):Int)-1=z:=Int.add_sub_cancel (z:Int) 1
 rw[e];exact q
end
section
variable {n:Nat} {t b u c e:Int} {st:Sto} {E:KV} {Q:KD}
set_option tactic.hygienic true in
theorem vj{x:Int}{m z:Nat}(hm:m%2=1)(hx:x.natAbs=m*2^z)(hp:((sz x:Int)+e).natAbs≤65536)(q:Q (.v (rV (x.sign*m) (e+z))) st):CallK (R C4 T4 (n+3) (.v (.val (.ref 147))) [.v (.int x),.v (.int e)] st) Q E:=by
 have h0:x≠0:=fun h=>by
  subst h
  exact Nat.ne_of_gt (Nat.mul_pos (mn hm) (p2 z)) hx.symm
 refine af rfl rfl ?_
 ((conv=>whnf);repeat'((with_reducible apply bt)<;>(intro _;(conv=>whnf))))
 ·rename_i h;exact absurd h h0
 ·refine Kk hm hx ?_
  ((conv=>whnf);repeat'(first|((with_reducible apply aj)<;>(intro _;(conv=>whnf)))|((with_reducible first|apply ae|apply nw);(conv=>whnf))))
  ·rename_i h
   exact absurd h (by rw[df];exact Int.not_lt.mpr (Int.ofNat_le.mpr hp))
  ·rw[ztl]
   have e1:x.fdiv (2^(Int.toNat (z:Int)))=x.sign*m:=by rw[Int.toNat_natCast];exact G3 hx
   rw[e1];exact q
  all_goals exact Int.natCast_nonneg z
theorem vm(q:Q (.v (rV 0 0)) st):CallK (R C4 T4 (n+3) (.v (.val (.ref 147))) [.v (.int 0),.v (.int e)] st) Q E:=by
 refine af rfl rfl ?_
 conv=>whnf
 ·rw[ztl];exact q
end
theorem G4{a g:Nat}:Builtin.bitAnd (a:Int) (1*2^g-1)=((a%2^g:Nat):Int):=by
 have hp:=p2 g
 have e:(1*2^g-1:Int)=((2^g-1:Nat):Int):=by
  rw[Int.one_mul,Int.natCast_sub hp,Int.natCast_pow];rfl
 rw[e]
 unfold Builtin.bitAnd
 rw[decide_eq_true (Int.natCast_nonneg a),decide_eq_true (Int.natCast_nonneg _)]
 show(((a:Int).toNat&&&(((2^g-1:Nat):Int)).toNat:Nat):Int)=_
 rw[Int.toNat_natCast,Int.toNat_natCast,Nat.and_two_pow_sub_one_eq_mod]
theorem Pa{a g:Nat}:(a:Int).fdiv (2^g:Int)=((a/2^g:Nat):Int):=by
 have hp:(0:Int)<2^g:=Int.pow_pos (by decide)
 rw[Int.fdiv_eq_ediv_of_nonneg _ (Int.le_of_lt hp)]
 simp
theorem G5(x:Nat):Builtin.bitAnd (x:Int) 1=((x%2:Nat):Int):=by
 have:=G4 (a:=x) (g:=1)
 simpa using this
section
variable {n:Nat} {t b u c e:Int} {st:Sto} {E:KV} {Q:KD}
theorem G6{a P G:Nat}(hP:P=2*G)(h:G<a%P∨(a%P=G∧a/P%2=1)):rhe a P=a/P+1:=if_pos (h.imp (fun h=>Nat.lt_of_le_of_lt (Nat.le_of_eq hP) (Dz h)) fun h=>⟨(congrArg (2*·) h.1).trans hP.symm,h.2⟩)
theorem G7{a P G:Nat}(hP:P=2*G)(h:¬(G<a%P∨(a%P=G∧a/P%2=1))):rhe a P=a/P:=if_neg fun z=>h (z.imp (fun z=>Nat.lt_of_mul_lt_mul_left (a:=2) (Nat.lt_of_le_of_lt (Nat.le_of_eq hP.symm) z)) fun z=>⟨Nat.eq_of_mul_eq_mul_left Nat.two_pos (z.1.trans hP),z.2⟩)
theorem Si{g:Nat}(h:g≤9000):0≤(g:Int)∧((1:Nat):Int)+(g:Int)≤2^27:=⟨Int.natCast_nonneg g,Int.le_trans (Int.ofNat_le.mpr (Nat.add_le_add_left h 1)) (by decide)⟩
theorem Ud{g:Nat}(h0:0<g)(h:g≤9000):0≤(g:Int)-1∧((1:Nat):Int)+((g:Int)-1)≤2^27:=⟨Int.sub_nonneg_of_le (Int.ofNat_le.mpr h0),Int.le_trans (Int.add_le_add_left (Int.sub_le_self _ (by decide)) _) (Si h).2⟩
set_option tactic.hygienic true in
theorem G8{a g:Nat}(hg:0<g)(hg':g≤9000)(q:Q (.v (.int (rhe a (2^g)))) st):CallK (R C4 T4 (n+2) (.v (.val (.ref 154))) [.v (.int a),.v (.int g)] st) Q E:=by
 have h1:(g:Int).toNat=g:=Int.toNat_natCast g
 have h2:((g:Int)-1).toNat=g-1:=Int.toNat_sub' ..
 have hb:Builtin.Int.intBits 1=1:=by decide
 have E1:Builtin.bitAnd (a:Int) (1*2^(g:Int).toNat-1)=((a%2^g:Nat):Int):=by rw[h1];exact G4
 have E2:(1*2^((g:Int)-1).toNat:Int)=((2^(g-1):Nat):Int):=by rw[h2,Int.one_mul,Int.natCast_pow];rfl
 have E3:(a:Int).fdiv (2^(g:Int).toNat)=((a/2^g:Nat):Int):=by rw[h1];exact Pa
 have E4:Builtin.bitAnd ((a:Int).fdiv (2^(g:Int).toNat)) 1=((a/2^g%2:Nat):Int):=by rw[E3];exact G5 _
 have hG:2^g=2*2^(g-1):=by
  have:=Nat.pow_succ' (n:=g-1) (m:=2)
  rwa [Nat.succ_eq_add_one,Nat.sub_add_cancel hg]at this
 refine af rfl rfl ?_
 ((conv=>whnf);repeat'(first|((with_reducible first|apply aj|apply bt)<;>(intro _;(conv=>whnf)))|((with_reducible apply ae);(conv=>whnf))))
 ·rename_i c1
  rw[E1,E2]at c1
  rw[G6 hG (.inl (Int.ofNat_lt.mp c1))]at q
  rw[ztl,E3];exact q
 ·rename_i c1 c2 c3
  rw[E1,E2]at c2
  rw[E4]at c3
  rw[G6 hG (.inr ⟨Int.ofNat_inj.mp c2,Int.ofNat_inj.mp c3⟩)]at q
  rw[ztl,E3];exact q
 ·rename_i c1 c2 c3
  rw[E1,E2]at c1
  rw[E4]at c3
  rw[G7 hG (fun z=>z.elim (fun z=>c1 (Int.ofNat_lt.mpr z)) fun z=>c3 (Int.ofNat_inj.mpr z.2))]at q
  rw[ztl,E3];exact q
 ·rename_i c1 c2
  rw[E1,E2]at c1 c2
  rw[G7 hG (fun z=>z.elim (fun z=>c1 (Int.ofNat_lt.mpr z)) fun z=>c2 (Int.ofNat_inj.mpr z.1))]at q
  rw[ztl,E3];exact q
 all_goals first|exact Int.natCast_nonneg g|(rw[hb];exact Si hg')|(rw[hb];exact Ud hg hg')
theorem ac{k l x:Nat}(h:x<2^k)(hl:k≤l):x<2^l:=Nat.lt_of_lt_of_le h (Nat.pow_le_pow_right (by decide) hl)
theorem d6{a b:Int}{k l r:Nat}(ha:a.natAbs≤k)(hb:b.natAbs≤l)(h:k+l≤r):(a+b).natAbs≤r:=Nat.le_trans (Int.natAbs_add_le a b) (Nat.le_trans (Nat.add_le_add ha hb) h)
theorem mq{s k:Nat}(h:s≤k):(s:Int).natAbs≤k:=by rw[Int.natAbs_natCast];exact h
theorem Bz{x:Nat}:rhe x 1=x:=by
 unfold rhe
 rw[Nat.mod_one,Nat.div_one,if_neg (fun z=>z.elim (by decide) fun z=>absurd z.1 (by decide))]
theorem zer{d:Nat}:(0:Int)=((0:Nat):Int)-d+d:=by exact Eq.symm (Int.sub_add_cancel ↑0 ↑d)
theorem Ue{d z:Nat}:(z:Int)=((0:Nat):Int)-d+((d+z:Nat):Int):=by lia
theorem Uf{d z:Nat}:(d:Int)+(z:Int)=(d:Int)-((0:Nat):Int)+(z:Int):=by exact(Int.add_left_inj ↑z).mpr rfl
theorem Mp{p s X:Nat}(h:s≤p)(hs:0<s)(z2:2^(s-1)≤X):2^(p-1)≤X*2^(p-s):=by
 obtain⟨d,rfl⟩:=Nat.exists_eq_add_of_le h
 calc 2^(s+d-1)=2^(s-1)*2^(s+d-s):=by rw[←Nat.pow_add,Nat.add_sub_cancel_left,Nat.sub_add_comm hs]
  _≤_:=Nat.mul_le_mul_right _ z2
theorem Mq{p s X:Nat}(h:s≤p)(z3:X<2^s):X*2^(p-s)<2^p:=by
 calc X*2^(p-s)<2^s*2^(p-s):=Nat.mul_lt_mul_of_pos_right z3 (p2 _)
  _=_:=by rw[←Nat.pow_add,Nat.add_sub_of_le h]
theorem ya{x:Int}{w:Nat}(hx:x≠0)(wp:0<w):(x.sign*(w:Int)).natAbs=w∧(x.sign*(w:Int)).sign=x.sign:=by
 refine⟨by rw[Int.natAbs_mul,Int.natAbs_sign_of_ne_zero hx,Int.natAbs_natCast,Nat.one_mul],?_⟩
 rw[Int.sign_mul,Int.sign_sign,Int.sign_natCast_of_ne_zero (Nat.ne_of_gt wp),Int.mul_one]
theorem Pb{a b c:Nat}(h:c≤a/b):c≤rhe a b:=by
 unfold rhe
 split
 ·exact Nat.le_succ_of_le h
 ·exact h
theorem Pc{a b c:Nat}(h:a/b<c):rhe a b≤c:=by
 unfold rhe
 split
 ·exact h
 ·exact Nat.le_of_lt h
theorem Sj{p:Nat}(h:p≤1000):p+1+(30000+4000)≤65536:=by lia
theorem Pd{p s:Nat}(hp:0<p)(h:p<s):p-1+(s-p)≤s-1:=by
 obtain⟨d,rfl⟩:=Nat.exists_eq_add_of_lt h
 rw[Nat.add_assoc,Nat.add_sub_cancel_left,Nat.sub_add_comm hp]
 exact Nat.le_refl _
theorem Pe{p:Nat}(h:p≤1000):p+1≤4000:=by lia
set_option tactic.hygienic true in
theorem yb{p:Nat}{x e:Int}(hp:0<p)(hp':p≤1000)(hx:x≠0)(hs:x.natAbs<2^4000)(he:e.natAbs≤30000)(q:∀(m:Nat) (e':Int),ax p x.natAbs 1 m e'→Q (.v (rV (x.sign*m) (e+e'))) st):
 CallK (R C4 T4 (n+4) (.v (.val (.ref 161))) [.v (.int p),.v (.int x),.v (.int e)] st) Q E:=by
 have z1:sz x≤4000:=fw hs
 have z2:=r9 hx
 have z3:=oq x
 have zp:0<sz x:=by rw[dz hx];exact Nat.succ_pos _
 refine af rfl rfl ?_
 ((conv=>whnf);repeat'(first|((with_reducible apply aj)<;>(intro _;(conv=>whnf)))|((with_reducible first|apply nw|apply mo);(conv=>whnf))))
 ·rename_i hg
  have hsp:sz x≤p:=Int.ofNat_le.mp (Int.le_of_sub_nonpos hg)
  obtain⟨m,z,hm,hz⟩:=r8 (n:=x.natAbs) (Int.natAbs_pos.mpr hx)
  refine vj hm hz (d6 (mq z1) he (by decide)) ?_
  conv=>whnf
  rw[ztl]
  refine q m z ⟨0,p-sz x,(p-sz x)+z,?_,?_,?_,hm,Ue⟩
  ·rw[Nat.pow_zero,Nat.mul_one];exact Mp hsp zp z2
  ·rw[Nat.pow_zero,Nat.mul_one];exact Mq hsp z3
  ·rw[Nat.pow_zero,Nat.mul_one,Bz,hz,Nat.mul_assoc,←Nat.pow_add,Nat.add_comm z]
 ·rename_i hg
  have hsp:p<sz x:=Nat.lt_of_not_le fun z=>hg (Int.sub_nonpos_of_le (Int.ofNat_le.mpr z))
  rw[df,←Int.natCast_sub (Nat.le_of_lt hsp)]
  refine G8 (Nat.sub_pos_of_lt hsp) (Nat.le_trans (Nat.sub_le ..) (Nat.le_trans z1 (by decide))) ?_
  have lo:2^(p-1)*2^(sz x-p)≤x.natAbs:=by
   rw[←Nat.pow_add]
   exact Nat.le_trans (Nat.pow_le_pow_right (by decide) (Pd hp hsp)) z2
  have hi:x.natAbs<2^p*2^(sz x-p):=by
   rw[←Nat.pow_add,Nat.add_sub_of_le (Nat.le_of_lt hsp)];exact z3
  have w1:2^(p-1)≤rhe x.natAbs (2^(sz x-p)):=Pb ((Nat.le_div_iff_mul_le (p2 _)).mpr lo)
  have w2:rhe x.natAbs (2^(sz x-p))≤2^p:=Pc (Nat.div_lt_of_lt_mul (by rw[Nat.mul_comm];exact hi))
  generalize hw:rhe x.natAbs (2^(sz x-p))=w at*
  have wp:0<w:=Nat.lt_of_lt_of_le (p2 _) w1
  obtain⟨m,z,hm,hz⟩:=r8 wp
  have w2':w<2^(p+1):=Nat.lt_of_le_of_lt w2 (Nat.pow_lt_pow_right (by decide) (Nat.lt_succ_self p))
  ((conv=>whnf);repeat'((with_reducible apply ae);(conv=>whnf)))
  ·obtain⟨wx,ws⟩:=ya hx wp
   refine vj hm (wx.trans hz) (d6 (mq (fw (by rw[wx];exact w2'))) (d6 he (mq (Nat.le_trans (Nat.sub_le (sz x) p) z1)) (Nat.le_refl _)) (Sj hp')) ?_
   conv=>whnf
   rw[ztl,ws]
   have:=q m ((sz x-p:Nat)+z) ⟨sz x-p,0,z,by rw[Nat.one_mul,Nat.pow_zero,Nat.mul_one];exact lo,by rw[Nat.one_mul,Nat.pow_zero,Nat.mul_one];exact hi,by rw[Nat.one_mul,Nat.pow_zero,Nat.mul_one,hw,hz],hm,Uf⟩
   rw[←Int.add_assoc]at this
   exact this
  ·exact am (by unfold Sm;rw[Int.natAbs_sign_of_ne_zero hx];exact Nat.one_lt_two_pow (by decide)) (by unfold Sm;rw[Int.natAbs_natCast];exact ac w2' (Pe hp'))
set_option tactic.hygienic true in
theorem D5{p:Nat}{e:Int}(q:Q (.v (rV 0 0)) st):CallK (R C4 T4 (n+4) (.v (.val (.ref 161))) [.v (.int p),.v (.int 0),.v (.int e)] st) Q E:=by
 refine af rfl rfl ?_
 ((conv=>whnf);repeat'(first|((with_reducible apply aj)<;>(intro _;(conv=>whnf)))|((with_reducible first|apply nw|apply mo);(conv=>whnf))))
 ·refine vm ?_
  conv=>whnf
  rw[ztl];exact q
 ·rename_i h
  exact absurd h (by show¬¬((sz 0:Int)-p≤0);have:sz 0=0:=rfl;lia)
end
theorem lq{a b c:Int}(h1:Int.gcd a c=1)(h2:Int.gcd b c=1):Int.gcd (a*b) c=1:=by
 show Nat.gcd (a*b).natAbs c.natAbs=1
 rw[Int.natAbs_mul]
 exact Nat.Coprime.mul_left h1 h2
theorem jz{a k c:Int}(h:a ∣ k)(h1:Int.gcd k c=1):Int.gcd a c=1:=
 Nat.Coprime.coprime_dvd_left (Int.natAbs_dvd_natAbs.mpr h) h1
structure AddR (t b u c p q:Int):Prop where
 q0:0<q
 g:Int.gcd p q=1
 v:p*(b*c)=(t*c+u*b)*q
 qm:q≤b*c
 pm:p.natAbs≤t.natAbs*c.natAbs+u.natAbs*b.natAbs
theorem Af{t b u c:Int}(hb:0<b)(hc:0<c)(g1:Int.gcd t b=1)(g2:Int.gcd u c=1):AddR t b u c (exT t b u c/exS t b u c) (b/exG b c*(c/exS t b u c)):=by
 have hg:0<Int.gcd b c:=Nat.pos_of_ne_zero fun h=>by have:=(Int.gcd_eq_zero_iff.mp h).1;lia
 have hs:0<Int.gcd (exT t b u c) (exG b c):=Nat.pos_of_ne_zero fun h=>by
  have:=(Int.gcd_eq_zero_iff.mp h).2
  unfold exG at this
  lia
 have eb:=Int.ediv_mul_cancel (Int.gcd_dvd_left b c)
 have ec:=Int.ediv_mul_cancel (Int.gcd_dvd_right b c)
 have bc:=Int.gcd_ediv_gcd_ediv_gcd hg
 have eT:=Int.ediv_mul_cancel (Int.gcd_dvd_left (exT t b u c) (exG b c))
 have eg:=Int.ediv_mul_cancel (Int.gcd_dvd_right (exT t b u c) (exG b c))
 have pg:=Int.gcd_ediv_gcd_ediv_gcd hs
 have hT:exT t b u c=t*(c/(Int.gcd b c:Int))+u*(b/(Int.gcd b c:Int)):=rfl
 have hS:exS t b u c=(Int.gcd (exT t b u c) (exG b c):Int):=rfl
 have hG:exG b c=(Int.gcd b c:Int):=rfl
 rw[←hS]at eT eg pg
 have hs:0<exS t b u c:=by rw[hS];exact Int.natCast_pos.mpr hs
 rw[hG]at eg pg ⊢
 generalize hg':(Int.gcd b c:Int)=g at*
 have hg:0<g:=by lia
 generalize exT t b u c=T at*
 generalize exS t b u c=s at*
 generalize hb':b/g=b' at*
 generalize hc':c/g=c' at*
 generalize hp:T/s=p at*
 generalize hk:g/s=k at*
 have hcs:c/s=c'*k:=by
  have:c=(c'*k)*s:=by rw[←ec,←eg,Int.mul_assoc]
  rw[this,Int.mul_ediv_cancel _ (by exact Ne.symm (Int.ne_of_lt hs))]
 rw[hcs]
 have hb0:0<b':=Int.pos_of_mul_pos_left (a:=b') (b:=g) (by exact lt_of_lt_of_eq hb (id (Eq.symm eb))) hg
 have hc0:0<c':=Int.pos_of_mul_pos_left (a:=c') (b:=g) (by exact lt_of_lt_of_eq hc (id (Eq.symm ec))) hg
 have hk0:0<k:=Int.pos_of_mul_pos_left (a:=k) (b:=s) (by exact lt_of_lt_of_eq hg (id (Eq.symm eg))) hs
 have pT:p ∣ T:=⟨s,eT.symm⟩
 have b'b:b' ∣ b:=⟨g,eb.symm⟩
 have c'c:c' ∣ c:=⟨g,ec.symm⟩
 have t1:Int.gcd t b'=1:=by rw[Int.gcd_comm];exact jz b'b (by rw[Int.gcd_comm];exact g1)
 have u1:Int.gcd u c'=1:=by rw[Int.gcd_comm];exact jz c'c (by rw[Int.gcd_comm];exact g2)
 have pb:Int.gcd p b'=1:=by
  refine jz pT ?_
  rw[hT,Int.gcd_add_mul_right_left]
  exact lq t1 (by rw[Int.gcd_comm];exact bc)
 have pc:Int.gcd p c'=1:=by
  refine jz pT ?_
  rw[hT,Int.gcd_mul_right_add_left]
  exact lq u1 bc
 have hT2:T*g=t*c+u*b:=by
  rw[hT,Int.add_mul,Int.mul_assoc,Int.mul_assoc,ec,eb]
 refine⟨Int.mul_pos hb0 (Int.mul_pos hc0 hk0),?_,?_,?_,?_⟩
 ·rw[Int.gcd_comm]
  refine lq (by rw[Int.gcd_comm];exact pb) (lq (by rw[Int.gcd_comm];exact pc) (by rw[Int.gcd_comm];exact pg))
 ·rw[←hT2,←eT]
  have:b*c=b'*(c'*k)*s*g:=by
   have h:b*c=(b'*g)*(c'*(k*s)):=by rw[eb,eg,ec]
   rw[h];simp only[Int.mul_assoc,Int.mul_comm,Int.mul_left_comm]
  rw[this];simp only[Int.mul_assoc,Int.mul_comm,Int.mul_left_comm]
 ·have:b*c=b'*(c'*k)*(s*g):=by
   have h:b*c=(b'*g)*(c'*(k*s)):=by rw[eb,eg,ec]
   rw[h];simp only[Int.mul_assoc,Int.mul_comm,Int.mul_left_comm]
  rw[this]
  have h1:0<b'*(c'*k):=Int.mul_pos hb0 (Int.mul_pos hc0 hk0)
  have h2:0<s*g:=Int.mul_pos hs hg
  have:=Int.mul_le_mul_of_nonneg_left (show(1:Int)≤s*g by exact Int.le_of_sub_one_lt h2) (show 0≤b'*(c'*k)by exact Int.le_of_lt h1)
  lia
 ·have h1:p.natAbs≤T.natAbs:=by
   rw[←eT,Int.natAbs_mul]
   exact Nat.le_mul_of_pos_right _ (by lia)
  have h2:T.natAbs≤t.natAbs*c'.natAbs+u.natAbs*b'.natAbs:=by
   rw[hT,←Int.natAbs_mul,←Int.natAbs_mul]
   exact Int.natAbs_add_le _ _
  have h3:c'.natAbs≤c.natAbs:=by
   rw[←ec,Int.natAbs_mul]
   exact Nat.le_mul_of_pos_right _ (by lia)
  have h4:b'.natAbs≤b.natAbs:=by
   rw[←eb,Int.natAbs_mul]
   exact Nat.le_mul_of_pos_right _ (by lia)
  exact Nat.le_trans h1 (Nat.le_trans h2 (Nat.add_le_add (Nat.mul_le_mul_left _ h3) (Nat.mul_le_mul_left _ h4)))
structure Lw (A B T D:Int):Prop where
 d0:0<D
 g:Int.gcd T D=1
 v:T*B=A*D
theorem Lw.unique{A B T D T' D':Int}(hB:B≠0)(h:Lw A B T D)(h':Lw A B T' D'):T=T'∧D=D':=by
 have hx:T*D'=T'*D:=by
  refine Int.eq_of_mul_eq_mul_right hB ?_
  calc T*D'*B=T*B*D':=by simp only[Int.mul_assoc,Int.mul_comm,Int.mul_left_comm]
   _=A*D*D':=by rw[h.v]
   _=A*D'*D:=by simp only[Int.mul_assoc,Int.mul_comm,Int.mul_left_comm]
   _=T'*B*D:=by rw[h'.v]
   _=T'*D*B:=by simp only[Int.mul_assoc,Int.mul_comm,Int.mul_left_comm]
 have d1:D ∣ D':=by
  have k:Nat.Coprime D.natAbs T.natAbs:=by have:=h.g;rw[Int.gcd_comm]at this;exact this
  exact Int.natAbs_dvd_natAbs.mp (k.dvd_of_dvd_mul_left (by rw[←Int.natAbs_mul,hx,Int.natAbs_mul];exact Nat.dvd_mul_left _ _))
 have d2:D' ∣ D:=by
  have k:Nat.Coprime D'.natAbs T'.natAbs:=by have:=h'.g;rw[Int.gcd_comm]at this;exact this
  exact Int.natAbs_dvd_natAbs.mp (k.dvd_of_dvd_mul_left (by rw[←Int.natAbs_mul,←hx,Int.natAbs_mul];exact Nat.dvd_mul_left _ _))
 have e:D=D':=Int.dvd_antisymm (Int.le_of_lt h.d0) (Int.le_of_lt h'.d0) d1 d2
 subst e
 exact⟨Int.eq_of_mul_eq_mul_right (by have:=h.d0;exact Ne.symm (Int.ne_of_lt this)) hx,rfl⟩
theorem vn{t b u c:Int}(hb:0<b)(hc:0<c)(g1:Int.gcd t b=1)(g2:Int.gcd u c=1):Lw (t*c+u*b) (b*c) (exT t b u c/exS t b u c) (b/exG b c*(c/exS t b u c)):=
 ⟨(Af hb hc g1 g2).q0,(Af hb hc g1 g2).g,(Af hb hc g1 g2).v⟩
theorem G9{t b u c:Int}(hb:0<b)(hc:0<c)(g1:Int.gcd t b=1)(g2:Int.gcd u c=1):Lw (t*u) (b*c) (t/muX t c*(u/muX u b)) (b/muX u b*(c/muX t c)):=by
 have h1:0<Int.gcd t c:=eh (by exact Ne.symm (Int.ne_of_lt hc))
 have h2:0<Int.gcd u b:=eh (by exact Ne.symm (Int.ne_of_lt hb))
 have k1:=Int.gcd_ediv_gcd_ediv_gcd h1
 have k2:=Int.gcd_ediv_gcd_ediv_gcd h2
 have e1:=Int.ediv_mul_cancel (Int.gcd_dvd_left t c)
 have e2:=Int.ediv_mul_cancel (Int.gcd_dvd_right t c)
 have e3:=Int.ediv_mul_cancel (Int.gcd_dvd_left u b)
 have e4:=Int.ediv_mul_cancel (Int.gcd_dvd_right u b)
 unfold muX
 generalize hx:(Int.gcd t c:Int)=x at*
 generalize hy:(Int.gcd u b:Int)=y at*
 generalize t/x=t' at*
 generalize c/x=c' at*
 generalize u/y=u' at*
 generalize b/y=b' at*
 have hb0:0<b':=Int.pos_of_mul_pos_left (a:=b') (b:=y) (by exact lt_of_lt_of_eq hb (id (Eq.symm e4))) (by lia)
 have hc0:0<c':=Int.pos_of_mul_pos_left (a:=c') (b:=x) (by exact lt_of_lt_of_eq hc (id (Eq.symm e2))) (by lia)
 have q1:Int.gcd t' b'=1:=jz ⟨x,e1.symm⟩ (by rw[Int.gcd_comm];exact jz ⟨y,e4.symm⟩ (by rw[Int.gcd_comm];exact g1))
 have q2:Int.gcd u' c'=1:=jz ⟨y,e3.symm⟩ (by rw[Int.gcd_comm];exact jz ⟨x,e2.symm⟩ (by rw[Int.gcd_comm];exact g2))
 refine⟨Int.mul_pos hb0 hc0,?_,?_⟩
 ·refine lq ?_ ?_
  ·rw[Int.gcd_comm];exact lq (by rw[Int.gcd_comm];exact q1) (by rw[Int.gcd_comm];exact k1)
  ·rw[Int.gcd_comm];exact lq (by rw[Int.gcd_comm];exact k2) (by rw[Int.gcd_comm];exact q2)
 ·rw[←e1,←e2,←e3,←e4];simp only[Int.mul_assoc,Int.mul_comm,Int.mul_left_comm]
theorem Ag{x:Int}(h:x≠0):x.sign=1∨x.sign= -1:=by
 rcases Int.lt_trichotomy x 0 with h1|h1|h1
 ·exact .inr (Int.sign_eq_neg_one_of_neg h1)
 ·exact absurd h1 h
 ·exact .inl (Int.sign_eq_one_of_pos h1)
theorem vo{x:Int}{w:Nat}(h:x≠0)(hw:0<w):(x.sign*(w:Int)).natAbs=w∧(x.sign*(w:Int)).sign=x.sign:=ya h hw
theorem iu{w k:Nat}(h:w<2^k)(hk:k≤4000):Sm (w:Int):=by unfold Sm;rw[Int.natAbs_natCast];exact ac h hk
theorem B0{x:Int}:Sm x.sign:=by
 unfold Sm
 have:x.sign.natAbs≤1:=by
  by_cases h:x=0
  ·subst h;decide
  ·rw[Int.natAbs_sign_of_ne_zero h];decide
 exact Nat.lt_of_le_of_lt this (Nat.one_lt_two_pow (by decide))
theorem ch{a b k l:Nat}(ha:a<2^k)(hb:b<2^l):a*b<2^(k+l):=by
 rw[Nat.pow_add];exact Nat.mul_lt_mul'' ha hb
theorem iw{a k:Nat}(s:Nat)(ha:a<2^k):a*2^s<2^(k+s):=by
 rw[Nat.pow_add];exact Nat.mul_lt_mul_of_pos_right ha (p2 s)
section
variable {n:Nat} {t b u c e:Int} {st:Sto} {E:KV} {Q:KD}
theorem yc{k:Int}{r:Bool}(hk:Sm k)(q:Q (.v (.int (2*k+if r then 1 else 0))) st):CallK (R C4 T4 (n+2) (.v (.val (.ref 168))) [.v (.int k),.v (.bool r)] st) Q E:=by
 have h2:p7 2 k=true:=am (by unfold Sm;exact ac (k:=2) (by decide) (by decide)) hk
 (first|subst r|contradiction|(injection r with r;subst r)|cases r)
 all_goals
  refine af rfl rfl ?_
  ((conv=>whnf);repeat'((with_reducible apply ae);(conv=>whnf)))
  ·rw[ztl];exact q
  ·exact h2
theorem Pf{k:Nat}{r:Bool}:(2*(k:Int)+if r=true then 1 else 0)=((2*k+if r=true then 1 else 0:Nat):Int):=by cases r<;>rfl
theorem Mr{k d:Nat}(h:k<2^3000)(hd:d≤1):2*k+d<2^4000:=by
 have h1:2*k+d<2*2^3000+2*1:=Nat.lt_of_lt_of_le (Nat.add_lt_add_of_lt_of_le (Nat.mul_lt_mul_of_pos_left h (by decide)) hd) (Nat.add_le_add_left (by decide) _)
 refine Nat.lt_of_lt_of_le h1 ?_
 calc 2*2^3000+2*1≤2*2^3000+2*2^3000:=Nat.add_le_add_left (Nat.mul_le_mul_left 2 (p2 3000)) _
  _=2^3002:=by rw[←Nat.two_mul,←Nat.pow_succ',←Nat.pow_succ']
  _≤_:=Nat.pow_le_pow_right (by decide) (by decide)
theorem dl1{r:Bool}:(if r=true then 1 else 0:Nat)≤1:=by cases r<;>decide
theorem Ms{k:Nat}{r:Bool}(h:k<2^3000):Sm (2*(k:Int)+if r=true then 1 else 0):=by
 rw[Pf]
 unfold Sm
 rw[Int.natAbs_natCast]
 exact Mr h dl1
theorem pz'{k:Nat}:((2^k:Nat):Int)=2^k:=by simp
theorem Kl{S:Int}(h:¬0≤S):0≤0-S:=Int.sub_nonneg_of_le (Int.le_of_not_le h)
theorem Ug{e S s:Int}(h:0-S=s):e+s=e-S:=by rw[←h,Int.zero_sub,Int.sub_eq_add_neg]
theorem Uh{e s:Int}:0-s-1+e=e-((1:Nat):Int)-s:=by lia
theorem Ui{s:Int}{n k:Nat}(hs:s=(n:Int))(hn:n≤k):(0-s-1).natAbs≤k+1:=by
 subst hs
 rw[Int.zero_sub]
 exact d6 (b:= -1) (by rw[Int.natAbs_neg];exact mq hn) (by decide) (Nat.le_refl _)
theorem Sk{n k:Nat}(hn:n≤k):((n:Int)-1).natAbs≤k+1:=d6 (b:= -1) (mq hn) (by decide) (Nat.le_refl _)
set_option tactic.hygienic true in
theorem uc{p B:Nat}{x:Int}(hp:0<p)(hp':p≤500)(hx:x≠0)(hB:0<B)(bx:x.natAbs<2^500)(bB:B<2^500)(q:∀(m:Nat) (e:Int),ax p x.natAbs B m e→Q (.v (rV (x.sign*m) e)) st):
 CallK (R C4 T4 (n+5) (.v (.val (.ref 175))) [.v (.int p),.v (.int x),.v (.int B)] st) Q E:=by
 have z1:sz x≤500:=fw bx
 have z2:=r9 hx
 have z3:=oq x
 have zp:0<sz x:=by rw[dz hx];exact Nat.succ_pos _
 have y1:sz (B:Int)≤500:=fw (by rw[Int.natAbs_natCast];exact bB)
 have y3:B<2^sz (B:Int):=by have:=oq (B:Int);rw[Int.natAbs_natCast]at this;exact this
 have bB0:(B:Int)≠0:=Int.ofNat_ne_zero.mpr (Nat.ne_of_gt hB)
 have fin:∀(K:KD) (a b:Nat) (s kept rest:Int),kept=((a/b:Nat):Int)→rest=((a%b:Nat):Int)→(∀(m:Nat) (e:Int),ax p x.natAbs B m e→K (.v (rV (x.sign*m) e)) st)→0<b→a<2^3000→(0-s-1).natAbs≤3001→2^p≤a/b→(∀m e,ax p a b m e→ax p x.natAbs B m (e-s))→
  CallK (R C4 T4 (n+4) (.v (.val (.ref 161))) [.v (.int p),.v (.int (x.sign*(2*kept+if rest !=0 then 1 else 0))),.v (.int (0-s-1))] st) K E:=by
  intro K a b s kept rest hkept hrest q hb ha hs hK hN
  subst hkept hrest
  have hd:(if((a%b:Nat):Int) !=0 then (1:Int)else 0)=((if a%b=0 then 0 else 1:Nat):Int):=by
   by_cases z:a%b=0
   ·rw[z];rfl
   ·rw[if_neg z,if_pos (bne_iff_ne.mpr (Int.ofNat_ne_zero.mpr z))];rfl
  rw[hd]
  have hw:(2*((a/b:Nat):Int)+((if a%b=0 then 0 else 1:Nat):Int))=((2*(a/b)+if a%b=0 then 0 else 1:Nat):Int):=rfl
  rw[hw]
  have hle:a/b≤a:=Nat.div_le_self ..
  have hN1:(if a%b=0 then 0 else 1)≤1:=by split<;>decide
  have h0:0<2*(a/b)+if a%b=0 then 0 else 1:=Nat.lt_of_lt_of_le (Nat.lt_of_lt_of_le (p2 p) hK) (Nat.le_trans (Nat.le_mul_of_pos_left _ (by decide)) (Nat.le_add_right ..))
  obtain⟨w1,w2⟩:=vo (x:=x) (w:=2*(a/b)+if a%b=0 then 0 else 1) hx h0
  have hbig:2*(a/b)+(if a%b=0 then 0 else 1)<2^4000:=Mr (Nat.lt_of_le_of_lt hle ha) hN1
  refine yb hp (Nat.le_trans hp' (by decide)) (fun z=>by rw[z]at w1;exact Nat.ne_of_lt h0 w1) (by rw[w1];exact hbig) (Nat.le_trans hs (by decide)) fun m e' h=>?_
  rw[w1]at h
  rw[w2]
  have h1:ax p (2*(a/b)+if a%b=0 then 0 else 1) (1*2^1) m (e'-(1:Nat)):=vi (by decide) h
  have h2:=hN _ _ (oo hp hb hK h1)
  rw[Uh]
  exact q m _ h2
 have bsz:sz (x.natAbs:Int)≤500:=fw (by rw[Int.natAbs_natCast];exact bx)
 refine af rfl rfl ?_
 ((conv=>whnf);repeat'(first|((with_reducible first|apply aj|apply bt)<;>(intro _;(conv=>whnf)))|((with_reducible first|apply ae|apply nw|apply mo);(conv=>whnf))))
 ·rename_i h;exact absurd h hx
 ·rename_i h1 h2
  obtain⟨s,hS⟩:=Int.eq_ofNat_of_zero_le h2
  have hs:=Qr hS
  rw[hS]
  have e0:(if x<0 then -x else x)*2^(s:Int).toNat=((x.natAbs*2^s:Nat):Int):=by rw[df,Int.toNat_natCast,Int.natCast_mul,pz']
  have e1:((if x<0 then -x else x)*2^(s:Int).toNat).fdiv (B:Int)=((x.natAbs*2^s/B:Nat):Int):=by rw[e0,Int.fdiv_eq_ediv_of_nonneg _ (Int.natCast_nonneg B)];rfl
  have e2:((if x<0 then -x else x)*2^(s:Int).toNat).fmod (B:Int)=((x.natAbs*2^s%B:Nat):Int):=by rw[e0,Int.fmod_eq_emod_of_nonneg _ (Int.natCast_nonneg B)];rfl
  have s2:s≤1002:=Nat.le_trans (Nat.le_add_left s (sz x)) (Nat.le_trans (Nat.le_of_eq hs) (Nat.add_le_add (Nat.add_le_add_right hp' 2) y1))
  have ha:x.natAbs*2^s<2^3000:=ac (iw s bx) (Nat.le_trans (Nat.add_le_add_left s2 500) (by decide))
  have hle:x.natAbs*2^s/B≤x.natAbs*2^s:=Nat.div_le_self ..
  refine yc (by rw[e1];exact iu (Nat.lt_of_le_of_lt hle ha) (by decide)) ?_
  ((conv=>whnf);repeat'((with_reducible apply ae);(conv=>whnf)))
  ·refine fin _ (x.natAbs*2^s) B s _ _ e1 e2 (fun m e h=>?_) hB ha (Nat.le_trans (Ui rfl s2) (by decide)) ?_ fun m e h=>Gx h
   ·conv=>whnf
    rw[ztl];exact q m e h
   ·refine(Nat.le_div_iff_mul_le hB).mpr ?_
    calc 2^p*B≤2^p*2^sz (B:Int):=Nat.mul_le_mul_left _ (Nat.le_of_lt y3)
     _≤2^(sz x-1)*2^s:=by rw[←Nat.pow_add,←Nat.pow_add];exact Nat.pow_le_pow_right (by decide) (Tl hs zp)
     _≤_:=Nat.mul_le_mul_right _ z2
  ·refine am B0 ?_
   rw[e1]
   exact Ms (Nat.lt_of_le_of_lt hle ha)
 iterate 2
  ·first|exact ed bB0 (iu bB (by decide))|(refine⟨by assumption,?_⟩;rename_i h1 h2;obtain⟨s,hS⟩:=Int.eq_ofNat_of_zero_le h2;rw[hS,df];exact Tm bsz (Qr hS) hp' y1)
 ·rename_i h1 h2
  obtain⟨s,hs⟩:=Int.eq_ofNat_of_zero_le (Kl h2)
  have hs':=M8 hs
  have e0:(B:Int)*2^(0-((p:Int)+2+sz (B:Int)-sz x)).toNat=((B*2^s:Nat):Int):=by rw[hs,Int.toNat_natCast,Int.natCast_mul,pz']
  have e1:(if x<0 then -x else x).fdiv ((B:Int)*2^(0-((p:Int)+2+sz (B:Int)-sz x)).toNat)=((x.natAbs/(B*2^s):Nat):Int):=by rw[e0,df,Int.fdiv_eq_ediv_of_nonneg _ (Int.natCast_nonneg _)];rfl
  have e2:(if x<0 then -x else x).fmod ((B:Int)*2^(0-((p:Int)+2+sz (B:Int)-sz x)).toNat)=((x.natAbs%(B*2^s):Nat):Int):=by rw[e0,df,Int.fmod_eq_emod_of_nonneg _ (Int.natCast_nonneg _)];rfl
  have ha:x.natAbs<2^3000:=ac bx (by decide)
  have hBs:0<B*2^s:=Nat.mul_pos hB (p2 s)
  have hle:x.natAbs/(B*2^s)≤x.natAbs:=Nat.div_le_self ..
  have s2:s≤500:=Nat.le_trans (Nat.le_trans (Nat.le_add_left s _) (Nat.le_of_eq hs'.symm)) z1
  generalize (p:Int)+2+sz (B:Int)-sz x=S at*
  refine yc (by rw[e1];exact iu (Nat.lt_of_le_of_lt hle ha) (by decide)) ?_
  ((conv=>whnf);repeat'((with_reducible apply ae);(conv=>whnf)))
  ·refine fin _ x.natAbs (B*2^s) S _ _ e1 e2 (fun m e h=>?_) hBs ha (by rw[hs];exact Nat.le_trans (Sk s2) (by decide)) ?_ fun m e h=>?_
   ·conv=>whnf
    rw[ztl];exact q m e h
   ·refine(Nat.le_div_iff_mul_le hBs).mpr ?_
    calc 2^p*(B*2^s)≤2^p*(2^sz (B:Int)*2^s):=Nat.mul_le_mul_left _ (Nat.mul_le_mul_right _ (Nat.le_of_lt y3))
     _≤2^(sz x-1):=by rw[←Nat.mul_assoc,←Nat.pow_add,←Nat.pow_add];exact Nat.pow_le_pow_right (by decide) (Tn hs')
     _≤_:=z2
   ·have:=Ae h
    rwa [Ug hs]at this
  ·refine am B0 ?_
   rw[e1]
   exact Ms (Nat.lt_of_le_of_lt hle ha)
 ·rename_i h1 h2
  obtain⟨s,hs⟩:=Int.eq_ofNat_of_zero_le (Kl h2)
  have hs':=M8 hs
  have e0:(B:Int)*2^(0-((p:Int)+2+sz (B:Int)-sz x)).toNat=((B*2^s:Nat):Int):=by rw[hs,Int.toNat_natCast,Int.natCast_mul,pz']
  have hBs:0<B*2^s:=Nat.mul_pos hB (p2 s)
  have s2:s≤500:=Nat.le_trans (Nat.le_trans (Nat.le_add_left s _) (Nat.le_of_eq hs'.symm)) z1
  rw[e0]
  exact ed (Int.ofNat_ne_zero.mpr (Nat.ne_of_gt hBs)) (iu (iw s bB) (Nat.le_trans (Nat.add_le_add_left s2 500) (by decide)))
 ·rename_i h1 h2
  obtain⟨s,hs⟩:=Int.eq_ofNat_of_zero_le (Kl h2)
  have hs':=M8 hs
  have s2:s≤500:=Nat.le_trans (Nat.le_trans (Nat.le_add_left s _) (Nat.le_of_eq hs'.symm)) z1
  exact⟨Kl h2,by rw[hs];exact Int.ofNat_le.mpr (Nat.le_trans (Nat.add_le_add y1 s2) (by decide))⟩
end
section
variable {n:Nat} {t b u c m e m' e':Int} {st:Sto} {E:KV} {Q:KD}
theorem pt(q:Q (.v (.int (sz m+e))) st):CallK (R C4 T4 (n+3) (.v (.val (.ref 189))) [.v (rV m e)] st) Q E:=by
 refine af rfl rfl ?_
 ((conv=>whnf);repeat'((with_reducible apply nw);(conv=>whnf)))
 rw[ztl];exact q
theorem kf(q:Q (.v (.int m.sign)) st):CallK (R C4 T4 (n+3) (.v (.val (.ref 196))) [.v (rV m e)] st) Q E:=by
 refine af rfl rfl ?_
 ((conv=>whnf);repeat'((with_reducible apply mo);(conv=>whnf)))
 rw[ztl];exact q
theorem Ha(q:Q (.v (rV (-m) e)) st):CallK (R C4 T4 (n+2) (.v (.val (.ref 203))) [.v (rV m e)] st) Q E:=by
 refine af rfl rfl ?_
 conv=>whnf
 rw[ztl,Int.zero_sub];exact q
end
theorem Hb{g D r:Nat}:((g:Int)*(D:Int)+(r:Int))=((r+D*g:Nat):Int):=by
 rw[Int.natCast_add,Int.natCast_mul,Int.mul_comm,Int.add_comm]
theorem Hc{g D r:Nat}(hr:r≤D):(((g+1:Nat):Int)*(D:Int)-(r:Int))=(((D-r)+D*g:Nat):Int):=by
 have e:(((D-r)+D*g:Nat):Int)=(D:Int)-r+D*g:=by rw[Int.natCast_add,Int.natCast_mul,Int.natCast_sub hr]
 rw[e,Int.natCast_succ,Int.add_mul,Int.one_mul,Int.mul_comm (g:Int),Int.add_comm]
 lia
theorem B2{p d w:Nat}{k:Int}{a q r:Nat}(hp:0<p)(ha:a=r+2^d*q)(hr:r<2^d)(h0:r≠0)(hq:2^p≤q)(h:ax p (2*q+1) 1 w k):ax p a 1 w (k-1+d):=by
 have hD:=p2 d
 have e1:a/2^d=q:=by rw[ha,Nat.add_mul_div_left _ _ hD,Nat.div_eq_of_lt hr,Nat.zero_add]
 have e2:a%2^d=r:=by rw[ha,Nat.add_mul_mod_self_left,Nat.mod_eq_of_lt hr]
 have h1:ax p (2*q+1) (1*2^1) w (k-(1:Nat)):=vi (by decide) h
 have:ax p a (1*2^d) w (k-(1:Nat)):=by
  rw[Nat.one_mul]
  refine oo hp hD (by rw[e1];exact hq) ?_
  rw[e1,e2,if_neg h0];exact h1
 exact Ae this
theorem Km{p d w g r:Nat}{k:Int}(hp:0<p)(hr0:r≠0)(hG:2^p≤g)(hd:r<2^d):
 (ax p (2*(((g+1:Nat):Int))+1).natAbs 1 w k→ax p (((g+1:Nat):Int)*((2^d:Nat):Int)+(r:Int)).natAbs 1 w (k-1+d))∧
 (ax p (2*(((g+1:Nat):Int))+ -1).natAbs 1 w k→ax p (((g+1:Nat):Int)*((2^d:Nat):Int)+ -(r:Int)).natAbs 1 w (k-1+d)):=by
 refine⟨fun h=>?_,fun h=>?_⟩
 ·rw[Hb,Int.natAbs_natCast]
  exact B2 hp rfl hd hr0 (Nat.le_succ_of_le hG) h
 ·rw[←Int.sub_eq_add_neg,Hc (Nat.le_of_lt hd),Int.natAbs_natCast]
  rw[Qs]at h
  exact B2 hp rfl (Nat.sub_lt (p2 d) (Nat.pos_of_ne_zero hr0)) (by exact Nat.sub_ne_zero_iff_lt.mpr hd) hG h
theorem B3{G x D:Int}{r:Int}(hx: -1≤x∧x≤1)(hG:0<G)(hr: -D<r∧r<D):(2*G+x).sign=(G*D+r).sign:=by
 have h1:D*1≤D*G:=Int.mul_le_mul_of_nonneg_left hG (by lia)
 rw[Int.mul_comm]at h1
 rw[Int.mul_comm D]at h1
 rw[Int.sign_eq_one_of_pos (by lia),Int.sign_eq_one_of_pos (by lia)]
theorem Kn{m':Int}(h:m'≠0):∃r:Nat,r≠0∧m'.natAbs=r∧((m'.sign=1∧m'=r)∨(m'.sign= -1∧m'= -(r:Int))):=by
 refine⟨m'.natAbs,by exact Int.natAbs_ne_zero.mpr h,rfl,?_⟩
 rcases Ag h with e|e
 ·exact .inl ⟨e,by rw[←Int.sign_mul_natAbs m',e,Int.one_mul];rfl⟩
 ·exact .inr ⟨e,by rw[←Int.sign_mul_natAbs m',e];simp⟩
theorem ud{p d w:Nat}{G m' k:Int}(hp:0<p)(hm':m'≠0)(hG0:0<G)(hG:2^p<G.natAbs)(hd:m'.natAbs<2^d)(h:ax p (2*G+m'.sign).natAbs 1 w k):
 ax p (G*((2^d:Nat):Int)+m').natAbs 1 w (k-1+d)∧(2*G+m'.sign).sign=(G*((2^d:Nat):Int)+m').sign:=by
 obtain⟨r,hr0,hr,hm⟩:=Kn hm'
 obtain⟨g,rfl⟩:∃g:Nat,G=((g+1:Nat):Int):=Int.eq_succ_of_zero_lt hG0
 rw[Int.natAbs_natCast]at hG
 rw[hr]at hd
 have K:=Km (w:=w) (k:=k) hp hr0 (Nat.le_of_lt_succ hG) hd
 have hb: -((2^d:Nat):Int)<(r:Int)∧(r:Int)<((2^d:Nat):Int):=⟨Int.lt_of_lt_of_le (Int.neg_neg_of_pos (Int.ofNat_lt.mpr (p2 d))) (Int.natCast_nonneg r),Int.ofNat_lt.mpr hd⟩
 rcases hm with⟨e1,e2⟩|⟨e1,e2⟩
 ·rw[e1]at h ⊢
  rw[e2]
  exact⟨K.1 h,B3 (by decide) hG0 hb⟩
 ·rw[e1]at h ⊢
  rw[e2]
  exact⟨K.2 h,B3 (by decide) hG0 ⟨Int.neg_lt_neg hb.2,Int.neg_lt_of_neg_lt hb.1⟩⟩
theorem Hd{p s d w:Nat}{m m' k:Int}(hp:0<p)(hm':m'≠0)(hG:2^(p+2)≤(m*2^s).natAbs)(hd:m'.natAbs<2^d)(h:ax p (2*(m*2^s)+m'.sign).natAbs 1 w k):
 ax p (m*2^s*2^d+m').natAbs 1 w (k-1+d)∧(2*(m*2^s)+m'.sign).sign=(m*2^s*2^d+m').sign:=by
 have hDi:(2^d:Int)=((2^d:Nat):Int):=by simp
 have hP:2^p<(m*2^s).natAbs:=Nat.lt_of_lt_of_le (Nat.pow_lt_pow_right (by decide) (Nat.lt_add_of_pos_right (by decide))) hG
 rw[hDi]
 generalize m*2^s=G at*
 rcases Int.lt_trichotomy G 0 with c|c|c
 ·have z:=ud (G:= -G) (m':= -m') (w:=w) (k:=k) hp (by exact Int.neg_ne_zero.mpr hm') (by exact Int.neg_pos_of_neg c) (by rw[Int.natAbs_neg];exact hP) (by rw[Int.natAbs_neg];exact hd) (by rw[Int.sign_neg,Int.mul_neg,←Int.neg_add,Int.natAbs_neg];exact h)
  rw[Int.sign_neg,Int.mul_neg,Int.neg_mul,←Int.neg_add,←Int.neg_add,Int.natAbs_neg,Int.sign_neg,Int.sign_neg]at z
  exact⟨z.1,Int.neg_inj.mp z.2⟩
 ·subst c;exact absurd hP (Nat.not_lt_zero _)
 ·exact ud hp hm' c hP hd h
noncomputable def aw(e e':Int):Int:=if e'<e then e' else e
noncomputable def ei(m e m' e':Int):Int:=m*2^(e-aw e e').toNat+m'*2^(e'-aw e e').toNat
theorem ny{e e':Int}:aw e e'=aw e' e:=by unfold aw;split<;>split<;>lia
theorem ue{m e m' e':Int}:ei m e m' e'=ei m' e' m e:=by unfold ei;rw[ny,Int.add_comm]
theorem Ko{m e m' e':Int}(bm:m.natAbs<2^500)(bm':m'.natAbs<2^500)(be:e.natAbs≤300)(be':e'.natAbs≤300):(ei m e m' e').natAbs<2^4000:=by
 have t:∀{m:Int} {k:Nat},m.natAbs<2^500→k≤600→(m*2^k).natAbs<2^1100:=by
  intro m k h hk
  rw[Int.natAbs_mul,Int.natAbs_pow]
  exact ac (iw k h) (Nat.add_le_add_left hk 500)
 have lw:(aw e e').natAbs≤300:=by unfold aw;split<;>assumption
 have h1:(m*2^(e-aw e e').toNat).natAbs<2^1100:=t bm (D9 be lw)
 have h2:(m'*2^(e'-aw e e').toNat).natAbs<2^1100:=t bm' (D9 be' lw)
 have h4:(2:Nat)^1100+2^1100=2^1101:=by rw[←Nat.two_mul,←Nat.pow_succ']
 exact ac (k:=1101) (nA h1 h2 (Nat.le_of_eq h4)) (by decide)
section
variable {n:Nat} {t b u c m e m' e':Int} {st:Sto} {E:KV} {Q:KD}
theorem kg{p:Nat}{x e:Int}(hp:0<p)(hp':p≤1000)(hs:x.natAbs<2^4000)(he:e.natAbs≤30000)(q0:x=0→Q (.v (rV 0 0)) st)(q:∀(m:Nat) (e':Int),x≠0→ax p x.natAbs 1 m e'→Q (.v (rV (x.sign*m) (e+e'))) st):
 CallK (R C4 T4 (n+4) (.v (.val (.ref 161))) [.v (.int p),.v (.int x),.v (.int e)] st) Q E:=by
 by_cases hx:x=0
 ·subst hx
  exact D5 (q0 rfl)
 ·exact yb hp hp' hx hs he fun m e' h=>q m e' hx h
theorem Sl{p:Nat}(hp:0<p)(hp':p≤500)(hm:m≠0)(hm':m'≠0)(bm:m.natAbs<2^500)(be:e.natAbs≤300)
 (q:∀(w:Nat) (k:Int),ax p (2*(m*2^(p+3-sz m))+m'.sign).natAbs 1 w k→Q (.v (rV ((2*(m*2^(p+3-sz m))+m'.sign).sign*w) (e-(p+3-sz m:Nat)-1+k))) st):
 CallK (R C4 T4 (n+5) (.v (.val (.ref 231))) [.v (.int p),.v (rV m e),.v (rV m' e')] st) Q E:=by
 have hS:(if 0<(p:Int)+3-sz m then (p:Int)+3-sz m else 0)=((p+3-sz m:Nat):Int):=D8
 have k5:p+3-sz m≤503:=Nat.le_trans (Nat.sub_le _ _) (Nat.add_le_add_right hp' 3)
 have z1:sz m≤500:=fw bm
 have b1:(m*2^(p+3-sz m)).natAbs<2^1100:=by
  rw[Int.natAbs_mul,Int.natAbs_pow]
  exact ac (iw _ bm) (Nat.le_trans (Nat.add_le_add_left k5 500) (by decide))
 have s1:=Int.natAbs_sign_of_ne_zero hm'
 refine af rfl rfl ?_
 ((conv=>whnf);repeat'((with_reducible first|apply ae|apply nw|apply kf);(conv=>whnf)))
 ·rw[hS,Int.toNat_natCast]
  refine kg hp (Nat.le_trans hp' (by decide)) ?_ (nSl (nSl be (y:=((p+3-sz m:Nat):Int)) k5 (Nat.le_refl _)) (Nat.le_refl 1) (by decide)) (fun z=>?_) fun w k o_ h=>?_
  ·have hX:(2*(m*2^(p+3-sz m))).natAbs<2^1101:=by
    rw[Int.natAbs_mul,Nat.pow_succ']
    exact Nat.mul_lt_mul_of_pos_left b1 (by decide)
   exact ac (k:=1102) (nA hX (b:=2^1101) (by rw[s1];exact Nat.one_lt_two_pow (by decide)) (by rw[←Nat.two_mul,←Nat.pow_succ'];exact Nat.le_refl _)) (by decide)
  ·have z:=congrArg Int.natAbs (Int.neg_eq_of_add_eq_zero z).symm
   rw[s1,Int.natAbs_neg,Int.natAbs_mul]at z
   exact absurd (congrArg (· %2) z) (by show¬1%2=2*_%2;rw[Nat.mul_mod_right];decide)
  ·conv=>whnf
   rw[ztl];exact q w k h
 ·rw[hS,Int.toNat_natCast]
  exact am (by unfold Sm;exact ac (k:=2) (by decide) (by decide)) (ac b1 (by decide))
 ·have:(Builtin.Int.intBits m:Int)≤500:=Int.ofNat_le.mpr z1
  rw[hS];exact⟨Int.natCast_nonneg _,Int.le_trans (Int.add_le_add this (Int.ofNat_le.mpr k5)) (by decide)⟩
theorem Uj{p s:Nat}(h:0<s):p+2≤s-1+(p+3-s):=by
 cases s with
 |zero=>contradiction
 |succ s=>
  rw[Nat.add_sub_cancel,Nat.add_sub_add_right (p+2) 1 s]
  exact Nat.sub_le_iff_le_add'.mp (Nat.le_refl _)
theorem Pg{e:Int}{p s:Nat}:(if(s:Int)+e-p-3<e then (s:Int)+e-p-3 else e)=e-((p+3-s:Nat):Int):=by
 rw[←D8]
 have k:(s:Int)+e-p-3=e-((p:Int)+3-s):=by
  rw[Int.sub_sub,@Int.sub_eq_add_neg e ((p:Int)+3-s),Int.neg_sub,←Int.add_sub_assoc,Int.add_comm e]
 rw[k]
 by_cases h:0<(p:Int)+3-s
 ·rw[if_pos h,if_pos (Int.sub_lt_self _ h)]
 ·rw[if_neg h,if_neg (Int.not_lt.mpr (Int.le_trans (Int.le_of_eq (Int.sub_zero e).symm) (Int.sub_le_sub_left (Int.not_lt.mp h) e))),Int.sub_zero]
theorem Sn{p:Nat}(hp:0<p)(hm:m≠0)(hm':m'≠0)(hf:(sz m':Int)+e'<if(sz m:Int)+e-p-3<e then (sz m:Int)+e-p-3 else e){w:Nat}{k:Int}
 (h:ax p (2*(m*2^(p+3-sz m))+m'.sign).natAbs 1 w k):
 ∃k',ax p (ei m e m' e').natAbs 1 w k'∧rV ((2*(m*2^(p+3-sz m))+m'.sign).sign*w) (e-(p+3-sz m:Nat)-1+k)=rV ((ei m e m' e').sign*w) (aw e e'+k'):=by
 have z2:=r9 hm
 have z3:=oq m'
 have zp:0<sz m:=by rw[dz hm];exact Nat.zero_lt_succ m.natAbs.log2
 have hl:(sz m':Int)+e'<e-((p+3-sz m:Nat):Int):=by
  rw[Pg]at hf;exact hf
 have le:e'≤(sz m':Int)+e':=Int.le_add_of_nonneg_left (Int.natCast_nonneg _)
 have lt:e'<e-((p+3-sz m:Nat):Int):=Int.lt_of_le_of_lt le hl
 obtain⟨d,hd⟩:∃d:Nat,e-((p+3-sz m:Nat):Int)-e'=d:=Int.eq_ofNat_of_zero_le (Int.sub_nonneg_of_le (Int.le_of_lt lt))
 have hlow:aw e e'=e':=by unfold aw;rw[if_pos (Int.lt_of_lt_of_le lt (Int.sub_le_self _ (Int.natCast_nonneg _)))]
 have ee:e-e'=(((p+3-sz m)+d:Nat):Int):=by
  rw[Int.natCast_add,←hd,Int.sub_sub,Int.add_comm ((p+3-sz m:Nat):Int) e',←Int.sub_sub,←Int.add_sub_assoc,Int.add_comm,Int.add_sub_cancel]
 have hT:ei m e m' e'=m*2^(p+3-sz m)*2^d+m':=by
  unfold ei
  rw[hlow,ee,Int.toNat_natCast,show(e'-e').toNat=0 by rw[Int.sub_self];rfl,Int.pow_add,Int.pow_zero,Int.mul_one,Int.mul_assoc]
 have hG:2^(p+2)≤(m*2^(p+3-sz m)).natAbs:=by
  rw[Int.natAbs_mul,Int.natAbs_pow]
  calc 2^(p+2)≤2^(sz m-1)*2^(p+3-sz m):=by rw[←Nat.pow_add];exact Nat.pow_le_pow_right (by decide) (Uj zp)
   _≤_:=Nat.mul_le_mul_right _ z2
 obtain⟨h1,h2⟩:=Hd hp hm' hG (ac (l:=d) z3 (Int.ofNat_le.mp (hd▸Int.le_of_lt (Int.lt_sub_right_of_add_lt hl)))) h
 refine⟨_,by rw[hT];exact h1,?_⟩
 rw[h2,hT,hlow,show e-((p+3-sz m:Nat):Int)-1+k=e'+(k-1+d)by lia]
theorem B4{x:Int}{k:Nat}(h:x.natAbs<2^k):(Builtin.Int.intBits x:Int)≤k:=Int.ofNat_le.mpr (fw h)
theorem f8{e e':Int}:aw e e'≤e∧aw e e'≤e':=by unfold aw;split<;>lia
theorem B5{k:Nat}(be:e.natAbs≤k)(be':e'.natAbs≤k):(aw e e').natAbs≤k:=by unfold aw;split<;>assumption
theorem Ph{x:Int}(hx:x≤(500:Nat))(be:e.natAbs≤300)(be':(aw e e').natAbs≤300)(h:aw e e'≤e):0≤e-aw e e'∧x+(e-aw e e')≤2^27:=by
 have h1:=(nab be).2
 have h2:=(nab be').1
 clear be be'
 refine⟨Int.sub_nonneg.mpr h,?_⟩
 lia
theorem B6{x:Int}(hx:x≤(500:Nat))(be:e.natAbs≤300)(be':e'.natAbs≤300):0≤e-aw e e'∧x+(e-aw e e')≤2^27:=Ph hx be (B5 be be') f8.1
theorem Kq{x:Int}(hx:x≤(500:Nat))(be:e.natAbs≤300)(be':e'.natAbs≤300):0≤e'-aw e e'∧x+(e'-aw e e')≤2^27:=by
 rw[ny];exact B6 hx be' be
theorem Ah{a b:Int}{k r:Nat}(ha:a.natAbs<2^k)(hb:b.natAbs<2^k)(h:k+1≤r):(a+b).natAbs<2^r:=by
 have:2^k+2^k=2^(k+1):=by rw[←Nat.two_mul,←Nat.pow_succ']
 exact ac (Nat.lt_of_le_of_lt (Int.natAbs_add_le a b) (this▸Nat.add_lt_add ha hb)) h
theorem He(z:m=0→e=0)(z':m'=0→e'=0)(h0:m=0∨m'=0):∃t:Nat,ei m e m' e'=(m+m')*2^t∧e+e'=aw e e'+t:=by
 unfold ei
 rcases h0 with h|h
 ·rw[z h,h,Int.zero_mul,Int.zero_add,Int.zero_add,Int.zero_add]
  refine⟨_,rfl,?_⟩
  have:=(f8 (e:=0) (e':=e')).2
  lia
 ·rw[z' h,h,Int.zero_mul,Int.add_zero,Int.add_zero,Int.add_zero]
  refine⟨_,rfl,?_⟩
  have:=(f8 (e:=e) (e':=0)).1
  lia
theorem B7{p:Nat}(hp:0<p)(hp':p≤500)(z:m=0→e=0)(z':m'=0→e'=0)(bm:m.natAbs<2^500)(bm':m'.natAbs<2^500)(be:e.natAbs≤300)(be':e'.natAbs≤300)(h0:m=0∨m'=0)
 (q0:ei m e m' e'=0→Q (.v (rV 0 0)) st) (q:∀(w:Nat) (k:Int),ax p (ei m e m' e').natAbs 1 w k→Q (.v (rV ((ei m e m' e').sign*w) (aw e e'+k))) st):
 CallK (R C4 T4 (n+4) (.v (.val (.ref 161))) [.v (.int p),.v (.int (m+m')),.v (.int (e+e'))] st) Q E:=by
 obtain⟨t,k1,k2⟩:=He z z' h0
 rw[k1]at q0 q
 have sg:((m+m')*2^t).sign=(m+m').sign:=by rw[Int.sign_mul,Int.sign_eq_one_of_pos (Int.pow_pos (by decide)),Int.mul_one]
 refine kg hp (Nat.le_trans hp' (by decide)) (Ah bm bm' (by decide)) (d6 be be' (by decide)) (fun h=>q0 (by rw[h,Int.zero_mul])) fun w k h0 h=>?_
 have:=q w (k+t) (by rw[Int.natAbs_mul,Int.natAbs_pow];exact Bx (by decide) h)
 rw[sg,←Int.add_assoc,Int.add_right_comm,←k2]at this
 exact this
set_option tactic.hygienic true in
theorem B8{p N:Nat}{v v':D}(hp:0<p)(hp':p≤500)(hm:m≠0)(hm':m'≠0)(bm:m.natAbs<2^500)(bm':m'.natAbs<2^500)(be:e.natAbs≤300)(be':e'.natAbs≤300)
 (q0:ei m e m' e'=0→Q (.v (rV 0 0)) st) (q:∀(w:Nat) (k:Int),ax p (ei m e m' e').natAbs 1 w k→Q (.v (rV ((ei m e m' e').sign*w) (aw e e'+k))) st):
 go C4 T4 (n+4) (JT C4 T4 (n+4)) (fi 25).sc (bz st.length Q) (N+400) [.sts 64 ((fi 25).body.drop 2)] [] [(Str.ofString "precision",.v (.int p)),(Str.ofString "one",v),(Str.ofString "other",v'),(Str.ofString "great",.v (rV m e)),(Str.ofString "small",.v (rV m' e'))] st E:=by
 ((conv=>whnf);repeat'(first|((with_reducible apply aj)<;>(intro _;(conv=>whnf)))|((with_reducible first|apply ae|apply pt);(conv=>whnf))))
 ·rename_i h
  refine Sl hp hp' hm hm' bm be fun w k h=>?_
  obtain⟨k',g1,g2⟩:=Sn hp hm hm' (by assumption) h
  conv=>whnf
  rw[ztl,g2];exact q w k' g1
 ·refine kg (x:=ei m e m' e') (e:=aw e e') hp (Nat.le_trans hp' (by decide)) (Ko bm bm' be be') (Nat.le_trans (B5 be be') (by decide)) (fun h=>?_) fun w k h0 h=>?_
  ·conv=>whnf
   rw[ztl];exact q0 h
  ·conv=>whnf
   rw[ztl];exact q w k h
 ·exact Kq (B4 bm') be be'
 ·exact B6 (B4 bm) be be'
theorem Pi{p:Nat}(hp:0<p)(hp':p≤500)(z:m=0→e=0)(z':m'=0→e'=0)(bm:m.natAbs<2^500)(bm':m'.natAbs<2^500)(be:e.natAbs≤300)(be':e'.natAbs≤300)
 (q0:ei m e m' e'=0→Q (.v (rV 0 0)) st) (q:∀(w:Nat) (k:Int),ax p (ei m e m' e').natAbs 1 w k→Q (.v (rV ((ei m e m' e').sign*w) (aw e e'+k))) st):
 CallK (R C4 T4 (n+6) (.v (.val (.ref 238))) [.v (.int p),.v (rV m e),.v (rV m' e')] st) Q E:=by
 refine af rfl rfl ?_
 conv=>whnf
 refine kf ?_
 conv=>whnf
 refine bt (fun h=>?_) (fun h1=>?_)
 ·conv=>whnf
  refine B7 hp hp' z z' bm bm' be be' (.inl (Int.sign_eq_zero_iff_zero.mp h)) (fun h=>?_) fun w k h=>?_
  ·conv=>whnf
   rw[ztl];exact q0 h
  ·conv=>whnf
   rw[ztl];exact q w k h
 conv=>whnf
 refine kf ?_
 conv=>whnf
 refine bt (fun h=>?_) (fun h2=>?_)
 ·conv=>whnf
  refine B7 hp hp' z z' bm bm' be be' (.inr (Int.sign_eq_zero_iff_zero.mp h)) (fun h=>?_) fun w k h=>?_
  ·conv=>whnf
   rw[ztl];exact q0 h
  ·conv=>whnf
   rw[ztl];exact q w k h
 have hm:m≠0:=fun z=>h1 (by rw[z];rfl)
 have hm':m'≠0:=fun z=>h2 (by rw[z];rfl)
 conv=>whnf
 refine pt ?_
 conv=>whnf
 refine pt ?_
 conv=>whnf
 refine aj (fun o_=>?_) (fun o_=>?_)
 ·conv=>whnf
  exact B8 hp hp' hm hm' bm bm' be be' q0 q
 ·rw[ue,ny]at q
  rw[ue]at q0
  conv=>whnf
  exact B8 hp hp' hm' hm bm' bm be' be q0 q
end
theorem Hf{a b p:Nat}(h:a<2^p*b):rhe a b≤2^p:=by
 have h1:a/b<2^p:=Nat.div_lt_of_lt_mul (by rw[Nat.mul_comm];exact h)
 unfold rhe;split<;>lia
theorem Uk{i j k A p:Nat}(k1:k≤p)(i1:i<A+j)(j1:j<p+(A+i)):((i:Int)-j+k).natAbs<A+p+1:=by
 refine Nat.lt_succ_of_le (px (k:=A+p) (Int.le_trans (b:=(i:Int)-j) ?_ (Int.le_add_of_nonneg_right (Int.natCast_nonneg k))) ?_)
 ·refine Int.neg_le_of_neg_le ?_
  rw[Int.neg_sub]
  exact Int.sub_right_le_of_le_add (b:=((A+p:Nat):Int)) (c:=(i:Int)) (Int.ofNat_le.mpr (by rw[Nat.add_assoc A p i,Nat.add_left_comm A p i];exact Nat.le_of_lt j1))
 ·exact Int.add_le_add (Int.sub_right_le_of_le_add (b:=(A:Int)) (c:=(j:Int)) (Int.ofNat_le.mpr (Nat.le_of_lt i1))) (Int.ofNat_le.mpr k1)
theorem sd{p a b w A:Nat}{k:Int}(hb:0<b)(ba:a<2^A)(bb:b<2^A)(h:ax p a b w k):w≤2^p∧k.natAbs<A+p+1:=by
 obtain⟨i,j,k',lo,hi,ww,o,rfl⟩:=h
 have ha:0<a:=Nat.pos_of_ne_zero fun z=>by
  rw[z,Nat.zero_mul]at lo
  have:=Nat.mul_pos (p2 (p-1)) (Nat.mul_pos hb (p2 i))
  lia
 have r1:w*2^k'≤2^p:=by rw[←ww];exact Hf hi
 have w1:w≤w*2^k':=Nat.le_mul_of_pos_right _ (p2 _)
 have w2:2^k'≤w*2^k':=Nat.le_mul_of_pos_left _ (by exact mn o)
 have k1:k'≤p:=(Nat.pow_le_pow_iff_right (by decide:1<2)).mp (Nat.le_trans w2 r1)
 have i1:i<A+j:=by
  refine(Nat.pow_lt_pow_iff_right (by decide:1<2)).mp ?_
  rw[Nat.pow_add]
  calc 2^i≤b*2^i:=Nat.le_mul_of_pos_left _ hb
   _≤2^(p-1)*(b*2^i):=Nat.le_mul_of_pos_left _ (p2 _)
   _≤a*2^j:=lo
   _<_:=Nat.mul_lt_mul_of_pos_right ba (p2 j)
 have j1:j<p+(A+i):=by
  refine(Nat.pow_lt_pow_iff_right (by decide:1<2)).mp ?_
  rw[Nat.pow_add,Nat.pow_add]
  calc 2^j≤a*2^j:=Nat.le_mul_of_pos_left _ ha
   _<2^p*(b*2^i):=hi
   _≤_:=Nat.mul_le_mul_left _ (Nat.mul_le_mul_right _ (by exact Nat.le_of_succ_le bb))
 exact⟨Nat.le_trans w1 r1,Uk k1 i1 j1⟩
noncomputable def Rd(p:Nat)(a:Int)(b:Nat)(v:V):Prop:=(a=0∧v=rV 0 0)∨(a≠0∧∃(w:Nat) (k:Int),ax p a.natAbs b w k∧v=rV (a.sign*w) k)
noncomputable def frT(m e:Int):Int:=m*2^e.toNat
noncomputable def frB(e:Int):Nat:=2^(-e).toNat
theorem ah{e:Int}:0<frB e:=p2 _
theorem So{a a':Int}{b b':Nat}(hb:0<b)(hb':0<b')(h:a*b'=a'*b):a.natAbs*b'=a'.natAbs*b∧a.sign=a'.sign:=by
 refine⟨?_,?_⟩
 ·have:=congrArg Int.natAbs h
  rwa [Int.natAbs_mul,Int.natAbs_mul,Int.natAbs_natCast,Int.natAbs_natCast]at this
 ·have:=congrArg Int.sign h
  rwa [Int.sign_mul,Int.sign_mul,Int.sign_natCast_of_ne_zero (by exact Nat.ne_zero_of_lt hb'),Int.sign_natCast_of_ne_zero (by exact Nat.ne_zero_of_lt hb),Int.mul_one,Int.mul_one]at this
theorem Rd.congr{p b b':Nat}{a a':Int}{v:V}(hb:0<b)(hb':0<b')(h:a*b'=a'*b)(r:Rd p a b v):Rd p a' b' v:=by
 obtain⟨h1,h2⟩:=So hb hb' h
 rcases r with⟨z,r⟩|⟨z,w,k,n,r⟩
 ·refine .inl ⟨?_,r⟩
  rw[z]at h2
  exact Int.sign_eq_zero_iff_zero.mp h2.symm
 ·refine .inr ⟨fun z'=>z ?_,w,k,lm hb hb' h1 n,by rw[r,h2]⟩
  rw[z']at h2
  exact Int.sign_eq_zero_iff_zero.mp h2
theorem Rd.unique{p b:Nat}{a:Int}{v v':V}(hp:0<p)(hb:0<b)(r:Rd p a b v)(r':Rd p a b v'):v=v':=by
 rcases r with⟨z,r⟩|⟨z,w,k,n,r⟩<;>rcases r' with⟨z',r'⟩|⟨z',w',k',n',r'⟩
 ·rw[r,r']
 ·exact absurd z z'
 ·exact absurd z' z
 ·obtain⟨q1,q2⟩:=x9 hp hb hb rfl n n'
  rw[r,r',q1,q2]
theorem Rd.of0{p b:Nat}{x low:Int}(h:x=0):Rd p (frT x low) b (rV 0 0):=.inl ⟨by rw[h];exact Int.zero_mul _,rfl⟩
theorem fx{x low:Int}:(frT x low).sign=x.sign:=by
 have:((2:Int)^low.toNat).sign=1:=Int.sign_eq_one_of_pos (Int.pow_pos (by decide))
 unfold frT
 rw[Int.sign_mul,this,Int.mul_one]
theorem mr{x low:Int}:(frT x low).natAbs=x.natAbs*2^low.toNat:=by
 unfold frT
 rw[Int.natAbs_mul,Int.natAbs_pow];rfl
theorem yd{x low:Int}(h:frT x low=0):x=0:=by
 have:=congrArg Int.sign h
 rw[fx]at this
 exact Int.sign_eq_zero_iff_zero.mp this
theorem Rd.ofNB{p w b:Nat}{x low k:Int}(hb:0<b)(h0:x≠0)(h:ax p x.natAbs b w k):Rd p (frT x low) (b*frB low) (rV (x.sign*w) (low+k)):=by
 refine .inr ⟨fun z=>h0 (yd z),w,low+k,?_,by rw[fx]⟩
 rw[mr]
 unfold frB
 by_cases hl:0≤low
 ·have e1:(-low).toNat=0:=by lia
  rw[e1,Nat.pow_zero,Nat.mul_one]
  have:=Bx (t:=low.toNat) hb h
  rwa [show k+(low.toNat:Int)=low+k by lia]at this
 ·have e1:low.toNat=0:=by lia
  rw[e1,Nat.pow_zero,Nat.mul_one]
  have:=vi (t:=(-low).toNat) hb h
  rwa [show k-((-low).toNat:Int)=low+k by lia]at this
theorem Rd.ofN{p w:Nat}{x low k:Int}(h0:x≠0)(h:ax p x.natAbs 1 w k):Rd p (frT x low) (frB low) (rV (x.sign*w) (low+k)):=by
 have:=Rd.ofNB (low:=low) (by decide) h0 h
 rwa [Nat.one_mul]at this
theorem Rd.self{p:Nat}{m e:Int}(hm:m.natAbs%2=1)(hb:m.natAbs<2^p):Rd p (frT m e) (frB e) (rV m e):=by
 have h0:m≠0:=by lia
 have z2:=r9 h0
 have z3:=oq m
 have z4:=fw hb
 have zp:0<sz m:=by rw[dz h0];exact Nat.zero_lt_succ m.natAbs.log2
 have h:ax p m.natAbs 1 m.natAbs 0:=by
  refine⟨0,p-sz m,p-sz m,?_,?_,?_,hm,zer⟩
  ·rw[Nat.pow_zero,Nat.mul_one];exact Mp z4 zp z2
  ·rw[Nat.pow_zero,Nat.mul_one];exact Mq z4 z3
  ·rw[Nat.pow_zero,Nat.mul_one,Bz]
 have:=Rd.ofN (low:=e) h0 h
 rwa [Int.sign_mul_natAbs,Int.add_zero]at this
theorem B9{e e':Int}:(e+e').toNat+(-e).toNat+(-e').toNat=e.toNat+e'.toNat+(-(e+e')).toNat:=by
 have a:=tn (x:=e)
 have b:=tn (x:=e')
 have c:=tn (x:=e+e')
 generalize (e+e').toNat=x1 at*
 generalize (-(e+e')).toNat=x2 at*
 generalize e.toNat=x3 at*
 generalize e'.toNat=x4 at*
 generalize (-e).toNat=x5 at*
 generalize (-e').toNat=x6 at*
 lia
theorem Kr{e e':Int}:(e-e').toNat+(-e).toNat+e'.toNat=e.toNat+(-e').toNat+(-(e-e')).toNat:=by
 have:=B9 (e:=e) (e':= -e')
 rwa [Int.neg_neg,←Int.sub_eq_add_neg]at this
theorem Ca{e l:Int}(h:l≤e):(e-l).toNat+l.toNat+(-e).toNat=e.toNat+(-l).toNat:=by
 have a:=tn (x:=e)
 have b:=tn (x:=l)
 have c:=Int.toNat_of_nonneg (Int.sub_nonneg.mpr h)
 generalize (e-l).toNat=x1 at*
 generalize (-l).toNat=x2 at*
 generalize e.toNat=x3 at*
 generalize l.toNat=x4 at*
 generalize (-e).toNat=x5 at*
 lia
theorem ye{e e' l:Int}(h:l≤e):(e-l).toNat+l.toNat+(-e).toNat+(-e').toNat=e.toNat+(-e').toNat+(-l).toNat:=by
 rw[Ca h,Nat.add_right_comm]
theorem yf{e e' l:Int}(h:l≤e'):(e'-l).toNat+l.toNat+(-e).toNat+(-e').toNat=e'.toNat+(-e).toNat+(-l).toNat:=by
 rw[Nat.add_right_comm,Ca h,Nat.add_right_comm]
theorem pz{k:Nat}:((2^k:Nat):Int)=2^k:=by simp
section
variable {n:Nat} {t b u c m e m' e':Int} {st:Sto} {E:KV} {Q:KD}
theorem Cb{p:Nat}(hp:0<p)(hp':p≤500)(z:m=0→e=0)(z':m'=0→e'=0)(bm:m.natAbs<2^500)(bm':m'.natAbs<2^500)(be:e.natAbs≤300)(be':e'.natAbs≤300)
 (q:∀v,Rd p (frT m e*frB e'+frT m' e'*frB e) (frB e*frB e') v→Q (.v v) st):
 CallK (R C4 T4 (n+6) (.v (.val (.ref 238))) [.v (.int p),.v (rV m e),.v (rV m' e')] st) Q E:=by
 have hx:frT (ei m e m' e') (aw e e')*((frB e*frB e':Nat):Int)=(frT m e*frB e'+frT m' e'*frB e)*(frB (aw e e'):Nat):=by
  unfold frT frB ei
  have l1:aw e e'≤e:=f8.1
  have l2:aw e e'≤e':=f8.2
  generalize aw e e'=l at*
  rw[Int.natCast_mul,pz,pz,pz,Int.add_mul,Int.add_mul,Int.add_mul]
  have h1:∀{x:Int} {a1 a2 a3 a4:Nat},x*2^a1*2^a2*(2^a3*2^a4)=x*2^(a1+a2+a3+a4):=by
   intro x a1 a2 a3 a4
   rw[Int.pow_add,Int.pow_add,Int.pow_add];simp only[Int.mul_assoc]
  have h2:∀{x:Int} {a1 a2 a3:Nat},x*2^a1*2^a2*2^a3=x*2^(a1+a2+a3):=by
   intro x a1 a2 a3
   rw[Int.pow_add,Int.pow_add];simp only[Int.mul_assoc]
  rw[h1,h1,h2,h2,ye l1,yf l2]
 refine Pi hp hp' z z' bm bm' be be' (fun h=>?_) fun w k h=>?_
 ·exact q _ (Rd.congr ah (Nat.mul_pos ah ah) hx (Rd.of0 h))
 ·refine q _ (Rd.congr ah (Nat.mul_pos ah ah) hx (Rd.ofN (fun h0=>?_) h))
  obtain⟨i,j,k',lo,_⟩:=h
  rw[h0]at lo
  have:=Nat.mul_pos (p2 (p-1)) (Nat.mul_pos (show 0<1 by decide) (p2 i))
  simp only[Int.natAbs_zero,Nat.zero_mul]at lo
  lia
theorem frT_neg{m e:Int}:frT (-m) e= -frT m e:=by unfold frT;rw[Int.neg_mul]
theorem Pj{p:Nat}(hp:0<p)(hp':p≤500)(z:m=0→e=0)(z':m'=0→e'=0)(bm:m.natAbs<2^500)(bm':m'.natAbs<2^500)(be:e.natAbs≤300)(be':e'.natAbs≤300)
 (q:∀v,Rd p (frT m e*frB e'-frT m' e'*frB e) (frB e*frB e') v→Q (.v v) st):
 CallK (R C4 T4 (n+7) (.v (.val (.ref 245))) [.v (.int p),.v (rV m e),.v (rV m' e')] st) Q E:=by
 refine af rfl rfl ?_
 ((conv=>whnf);repeat'((with_reducible apply Ha);(conv=>whnf)))
 refine Cb hp hp' z (fun h=>z' (by exact Eq.symm ((fun {a b}=>Int.neg_inj.mp) (id (Eq.symm h))))) bm (by rw[Int.natAbs_neg];exact bm') be be' fun v h=>?_
 rw[frT_neg,Int.neg_mul,←Int.sub_eq_add_neg]at h
 conv=>whnf
 rw[ztl];exact q v h
theorem Pk{p:Nat}(hp:0<p)(hp':p≤500)(bm:m.natAbs<2^500)(bm':m'.natAbs<2^500)(be:e.natAbs≤300)(be':e'.natAbs≤300)
 (q:∀v,Rd p (frT m e*frT m' e') (frB e*frB e') v→Q (.v v) st):
 CallK (R C4 T4 (n+5) (.v (.val (.ref 252))) [.v (.int p),.v (rV m e),.v (rV m' e')] st) Q E:=by
 have hx:frT (m*m') (e+e')*((frB e*frB e':Nat):Int)=(frT m e*frT m' e')*(frB (e+e'):Nat):=by
  unfold frT frB
  rw[Int.natCast_mul,pz,pz,pz]
  have h1:m*m'*2^(e+e').toNat*(2^(-e).toNat*2^(-e').toNat)=m*m'*2^((e+e').toNat+(-e).toNat+(-e').toNat):=by
   rw[Int.pow_add,Int.pow_add];simp only[Int.mul_assoc]
  have h2:m*2^e.toNat*(m'*2^e'.toNat)*2^(-(e+e')).toNat=m*m'*2^(e.toNat+e'.toNat+(-(e+e')).toNat):=by
   rw[Int.pow_add,Int.pow_add];simp only[Int.mul_assoc,Int.mul_comm,Int.mul_left_comm]
  rw[h1,h2,B9]
 refine af rfl rfl ?_
 ((conv=>whnf);repeat'((with_reducible apply ae);(conv=>whnf)))
 ·refine kg hp (Nat.le_trans hp' (by decide)) ?_ (d6 be be' (by decide)) (fun h=>?_) fun w k h0 h=>?_
  ·rw[Int.natAbs_mul]
   exact ac (ch bm bm') (by decide)
  ·conv=>whnf
   rw[ztl]
   exact q _ (Rd.congr ah (Nat.mul_pos ah ah) hx (Rd.of0 h))
  ·conv=>whnf
   rw[ztl]
   exact q _ (Rd.congr ah (Nat.mul_pos ah ah) hx (Rd.ofN h0 h))
 ·exact am (ac bm (by decide)) (ac bm' (by decide))
theorem se{p B:Nat}(q:Q (.v (rV 0 0)) st):CallK (R C4 T4 (n+5) (.v (.val (.ref 175))) [.v (.int p),.v (.int 0),.v (.int B)] st) Q E:=by
 refine af rfl rfl ?_
 conv=>whnf
 rw[ztl];exact q
theorem Ai{p B:Nat}{x:Int}(hp:0<p)(hp':p≤500)(hB:0<B)(bx:x.natAbs<2^500)(bB:B<2^500)(q:∀v,Rd p x B v→Q (.v v) st):
 CallK (R C4 T4 (n+5) (.v (.val (.ref 175))) [.v (.int p),.v (.int x),.v (.int B)] st) Q E:=by
 by_cases hx:x=0
 ·subst hx
  exact se (q _ (.inl ⟨rfl,rfl⟩))
 ·exact uc hp hp' hx hB bx bB fun m e' h=>q _ (.inr ⟨hx,m,e',h,rfl⟩)
theorem si{x:Int}{w:Nat}(h:x≠0):(x.sign*(w:Int)).natAbs=w∧(0<w→(x.sign*(w:Int)).sign=x.sign):=by
 by_cases hw:w=0
 ·subst hw;exact⟨by simp,fun z=>absurd z (by decide)⟩
 ·exact⟨(vo h (by exact Nat.zero_lt_of_ne_zero hw)).1,fun o_=>(vo h (by exact Nat.zero_lt_of_ne_zero hw)).2⟩
theorem sj{p a b w:Nat}{k:Int}(h:ax p a b w k):w%2=1:=by
 obtain⟨i,j,k',lo,hi,ww,o,_⟩:=h;exact o
theorem Pl{s p:Nat}{k e e':Int}(hs:s≤p+1)(hp':p≤500)(b2:k.natAbs<500+p+1)(be:e.natAbs≤300)(be':e'.natAbs≤300) :((s:Int)+(k+e-e')).natAbs≤65536:=by
 have h1:(s:Int).natAbs≤501:=by rw[Int.natAbs_natCast];exact Nat.le_trans hs (Nat.succ_le_succ hp')
 have h2:=d6 (Nat.le_trans (Nat.le_of_lt_succ b2) (Nat.add_le_add_left hp' 500)) be (Nat.le_refl _)
 have h3:=d6 h2 (b:= -e') (by rw[Int.natAbs_neg];exact be') (Nat.le_refl _)
 rw[←Int.sub_eq_add_neg]at h3
 exact d6 h1 h3 (by decide)
set_option tactic.hygienic true in
theorem Pm{p:Nat}(hp:0<p)(hp':p≤500)(h0:m'≠0)(bm:m.natAbs<2^500)(bm':m'.natAbs<2^500)(be:e.natAbs≤300)(be':e'.natAbs≤300)
 (q:∀v,Rd p (frT m e*frB e'*m'.sign) (frB e*(frT m' e').natAbs) v→Q (.v v) st):
 CallK (R C4 T4 (n+6) (.v (.val (.ref 259))) [.v (.int p),.v (rV m e),.v (rV m' e')] st) Q E:=by
 have sn:m'.sign.natAbs=1:=Int.natAbs_sign_of_ne_zero h0
 have bx:(m*m'.sign).natAbs<2^500:=by rw[Int.natAbs_mul,sn,Nat.mul_one];exact bm
 have hB:0<m'.natAbs:=by exact Int.natAbs_pos.mpr h0
 have hB2:0<frB e*(frT m' e').natAbs:=Nat.mul_pos ah (by rw[mr];exact Nat.mul_pos hB (p2 _))
 have hx:frT (m*m'.sign) (e-e')*((frB e*(frT m' e').natAbs:Nat):Int)=(frT m e*frB e'*m'.sign)*((m'.natAbs*frB (e-e'):Nat):Int):=by
  rw[mr]
  unfold frT frB
  rw[Int.natCast_mul,Int.natCast_mul,Int.natCast_mul,pz,pz,pz,pz]
  have h1:m*m'.sign*2^(e-e').toNat*(2^(-e).toNat*((m'.natAbs:Int)*2^e'.toNat))=m*m'.sign*m'.natAbs*2^((e-e').toNat+(-e).toNat+e'.toNat):=by
   rw[Int.pow_add,Int.pow_add];simp only[Int.mul_assoc,Int.mul_comm,Int.mul_left_comm]
  have h2:m*2^e.toNat*2^(-e').toNat*m'.sign*((m'.natAbs:Int)*2^(-(e-e')).toNat)=m*m'.sign*m'.natAbs*2^(e.toNat+(-e').toNat+(-(e-e')).toNat):=by
   rw[Int.pow_add,Int.pow_add];simp only[Int.mul_assoc,Int.mul_comm,Int.mul_left_comm]
  rw[h1,h2,Kr]
 refine af rfl rfl ?_
 ((conv=>whnf);repeat'(first|((with_reducible apply bt)<;>(intro _;(conv=>whnf)))|((with_reducible first|apply ae|apply kf);(conv=>whnf))))
 ·rename_i h;exact absurd h h0
 ·rw[df]
  by_cases hX:m*m'.sign=0
  ·rw[hX]
   refine se ?_
   conv=>whnf
   refine vm ?_
   conv=>whnf
   rw[ztl]
   exact q _ (Rd.congr (Nat.mul_pos hB ah) hB2 hx (Rd.of0 hX))
  ·refine uc hp hp' hX hB bx bm' fun w k h=>?_
   obtain⟨b1,b2⟩:=sd hB bx bm' h
   obtain⟨w1,w2⟩:=si (w:=w) hX
   have wo:=sj h
   have zw:sz ((m*m'.sign).sign*(w:Int))≤p+1:=fw (by rw[w1];exact Nat.lt_of_le_of_lt b1 (Nat.pow_lt_pow_right (by decide) (by exact Nat.lt_add_one p)))
   conv=>whnf
   refine vj (m:=w) (z:=0) wo (by rw[w1,Nat.pow_zero,Nat.mul_one]) (Pl zw hp' b2 be be') ?_
   conv=>whnf
   rw[ztl,w2 (by exact mn wo)]
   have:=q _ (Rd.congr (Nat.mul_pos hB ah) hB2 hx (Rd.ofNB hB hX h))
   rw[show e-e'+k=k+e-e'+((0:Nat):Int)by lia]at this
   exact this
 ·exact am (ac bm (by decide)) (by unfold Sm;rw[sn];exact Nat.one_lt_two_pow (by decide))
end
/-! numbers of law 04,with their sizes -/
theorem Ul{x:Int}:x.sign.natAbs≤1:=by
 by_cases h:x=0
 ·subst h;decide
 ·rw[Int.natAbs_sign_of_ne_zero h];decide
theorem Aj{A B:Int}:(A*B.sign).natAbs≤A.natAbs:=by
 rw[Int.natAbs_mul]
 exact Nat.le_trans (Nat.mul_le_mul_left _ Ul) (Nat.le_of_eq (Nat.mul_one _))
theorem Lw.le{A B T D:Int}(hB:0<B)(h:Lw A B T D):T.natAbs≤A.natAbs∧D.natAbs≤B.natAbs:=by
 have d0:0<D.natAbs:=Int.natAbs_pos.mpr (Int.ne_of_gt h.d0)
 have b0:0<B.natAbs:=Int.natAbs_pos.mpr (Int.ne_of_gt hB)
 have k:Nat.Coprime T.natAbs D.natAbs:=h.g
 have e:T.natAbs*B.natAbs=A.natAbs*D.natAbs:=by rw[←Int.natAbs_mul,h.v,Int.natAbs_mul]
 refine⟨?_,Nat.le_of_dvd b0 (k.symm.dvd_of_dvd_mul_left ⟨A.natAbs,by rw[e,Nat.mul_comm]⟩)⟩
 by_cases hA:A.natAbs=0
 ·rw[hA,Nat.zero_mul]at e
  rw[hA]
  exact(Nat.mul_eq_zero.mp e).elim Nat.le_of_eq fun z=>absurd z (Nat.ne_of_gt b0)
 ·exact Nat.le_of_dvd (Nat.pos_of_ne_zero hA) (k.dvd_of_dvd_mul_right ⟨_,e.symm⟩)
structure Re (N p:Nat) (m e:Int):Prop where
 o:m.natAbs%2=1∨(m=0∧e=0)
 lt:m.natAbs<2^p
 el:e.natAbs≤N
inductive Nb (N p:Nat):V→Int→Nat→Bool→Prop
 |ex {t:Int} {b:Nat}:t.natAbs<2^N→0<b→b<2^N→Int.gcd t b=1→Nb N p (nV t b) t b false
 |re {m e:Int}:Re N p m e→Nb N p (rV m e) (frT m e) (frB e) true
theorem Re.z{N p:Nat}{m e:Int}(h:Re N p m e)(z:m=0):e=0:=h.o.elim (fun o=>by rw[z]at o;contradiction) fun h=>h.2
theorem pw2{p:Nat}(hp:0<p):2^p%2=0:=by
 obtain⟨l,rfl⟩:=Nat.exists_eq_succ_of_ne_zero (Nat.ne_of_gt hp)
 rw[Nat.pow_succ,Nat.mul_mod_left]
theorem Hg{x P:Nat}(h:x≤P)(o:x%2=1)(e:P%2=0):x<P:=Nat.lt_of_le_of_ne h fun z=>by rw[z,e]at o;contradiction
theorem Rd.form{X p:Nat}{a:Int}{b:Nat}{v:V}(hp:0<p)(hb:0<b)(ba:a.natAbs<2^X)(bb:b<2^X)(r:Rd p a b v):∃m e,v=rV m e∧Re (X+p) p m e:=by
 rcases r with⟨z,rfl⟩|⟨z,w,k,hn,rfl⟩
 ·exact⟨0,0,rfl,.inr ⟨rfl,rfl⟩,p2 p,Nat.zero_le _⟩
 ·obtain⟨b1,b2⟩:=sd hb ba bb hn
  have ho:=sj hn
  have w1:=(si (w:=w) z).1
  exact⟨_,_,rfl,.inl (by rw[w1];exact ho),by rw[w1];exact Hg b1 ho (pw2 hp),Nat.le_of_lt_succ b2⟩
theorem Re.rd{N p:Nat}{m e:Int}(h:Re N p m e):Rd p (frT m e) (frB e) (rV m e):=by
 rcases h.o with o|⟨rfl,rfl⟩
 ·exact Rd.self o h.lt
 ·exact Rd.of0 rfl
theorem Ak{e:Int}:e.toNat≤e.natAbs:=by cases e<;>first|exact Nat.le_refl _|exact Nat.zero_le _
theorem Re.ltT{N p:Nat}{m e:Int}(h:Re N p m e):(frT m e).natAbs<2^(p+N):=by
 rw[mr];exact ac (iw _ h.lt) (Nat.add_le_add_left (Nat.le_trans Ak h.el) p)
theorem Re.ltB{N p:Nat}{m e:Int}(hp:0<p)(h:Re N p m e):frB e<2^(p+N):=by
 unfold frB
 refine Nat.pow_lt_pow_right (by decide) (Nat.lt_of_le_of_lt (Nat.le_trans Ak (by rw[Int.natAbs_neg];exact h.el)) ?_)
 rw[Nat.add_comm];exact Nat.lt_add_of_pos_right hp
theorem Re.mono{N M p:Nat}{m e:Int}(h:Re N p m e)(hl:N≤M):Re M p m e:=⟨h.o,h.lt,Nat.le_trans h.el hl⟩
theorem cw{m e m' e':Int}(h:rV m e=rV m' e'):m=m'∧e=e':=by
 unfold rV at h
 injection h with _ _ h
 injection h with h1 h
 injection h with h2 _
 injection h1 with h1
 injection h2 with h2
 exact⟨h1,h2⟩
section
variable {n:Nat} {t u c m e m' e':Int} {b b' N M p:Nat} {v v':V} {a a':Int} {k k':Bool} {st:Sto} {E:KV} {Q:KD}
theorem Nb.b0(h:Nb N p v a b k):0<b:=by
 cases h with
 |ex h1 h2 h3 h4=>exact h2
 |re _=>exact ah
theorem Nb.lt(hp:0<p)(h:Nb N p v a b k):a.natAbs<2^(p+N)∧b<2^(p+N):=by
 cases h with
 |ex h1 h2 h3 h4=>exact⟨ac h1 (Nat.le_add_left ..),ac h3 (Nat.le_add_left ..)⟩
 |re h=>exact⟨h.ltT,h.ltB hp⟩
theorem Nb.cop(h:Nb N p v a b k):Int.gcd a b=1:=by
 cases h with
 |ex h1 h2 h3 h4=>exact h4
 |@re m e h=>
  by_cases he:0≤e
  ·have:frB e=1:=by unfold frB;rw[Int.toNat_of_nonpos (Int.neg_nonpos_of_nonneg he),Nat.pow_zero]
   rw[this];exact Int.gcd_one_right _
  ·have:frT m e=m:=by unfold frT;rw[Int.toNat_of_nonpos (Int.le_of_not_le he),Int.pow_zero,Int.mul_one]
   rw[this]
   have o:m.natAbs%2=1:=h.o.elim id fun h=>absurd (Int.le_of_eq h.2.symm) he
   show Nat.gcd m.natAbs ((frB e:Nat):Int).natAbs=1
   rw[Int.natAbs_natCast]
   unfold frB
   refine Nat.Coprime.pow_right _ ?_
   show Nat.gcd m.natAbs 2=1
   rw[Nat.gcd_comm,Nat.gcd_rec,o];rfl
theorem Nb.exact(h:Nb N p v a b false):v=nV a b∧a.natAbs<2^N∧0<b∧b<2^N∧Int.gcd a b=1:=by
 cases h with
 |ex h1 h2 h3 h4=>exact⟨rfl,h1,h2,h3,h4⟩
theorem Nb.mono(h:Nb N p v a b k)(hl:N≤M):Nb M p v a b k:=by
 cases h with
 |ex h1 h2 h3 h4=>exact .ex (ac h1 hl) h2 (ac h3 hl) h4
 |re h=>exact .re (h.mono hl)
theorem ix(h:Nb N p v a b k)(q:Q (.v (.int a.sign)) st):CallK (R C4 T4 (n+4) (.v (.val (.ref 476))) [.v v] st) Q E:=by
 cases h with
 |ex h1 h2 h3 h4=>
  refine af rfl rfl ?_
  ((conv=>whnf);repeat'((with_reducible first|apply lj|apply vh);(conv=>whnf)))
  rw[ztl];exact q
 |re h=>
  rw[fx]at q
  refine af rfl rfl ?_
  ((conv=>whnf);repeat'((with_reducible first|apply f4|apply kf);(conv=>whnf)))
  rw[ztl];exact q
theorem iy(h:Nb N p v a b k)(q:Q (.v (.bool !k)) st):CallK (R C4 T4 (n+3) (.v (.val (.ref 308))) [.v v] st) Q E:=by
 cases h with
 |ex h1 h2 h3 h4=>exact vg q
 |re h=>exact r5 q
theorem vp(h:Nb N p v a b k)(q:Q (.v (.bool k)) st):CallK (R C4 T4 (n+3) (.v (.val (.ref 455))) [.v v] st) Q E:=by
 cases h with
 |ex h1 h2 h3 h4=>exact lj q
 |re h=>exact f4 q
theorem yg(hp:0<p)(hp':p≤6)(hN:N≤400)(h:Nb N p v a b k)(q:∀m e,Rd p a b (rV m e)→Re (N+p) p m e→Q (.v (rV m e)) st):CallK (R C4 T4 (n+6) (.v (.val (.ref 497))) [.v (.int p),.v v] st) Q E:=by
 cases h with
 |ex h1 h2 h3 h4=>
  refine af rfl rfl ?_
  ((conv=>whnf);repeat'((with_reducible first|apply lj|apply gu|apply jb);(conv=>whnf)))
  refine Ai hp (Nat.le_trans hp' (by decide)) h2 (ac h1 (Nat.le_trans hN (by decide))) (ac h3 (Nat.le_trans hN (by decide))) fun v h=>?_
  conv=>whnf
  rw[ztl]
  obtain⟨m,e,rfl,re⟩:=h.form hp h2 h1 h3
  exact q _ _ h re
 |re h=>
  refine af rfl rfl ?_
  ((conv=>whnf);repeat'((with_reducible apply f4);(conv=>whnf)))
  rw[ztl]
  exact q _ _ h.rd (h.mono (Nat.le_add_right ..))
noncomputable def tw(p:Nat):V:=.inst 808 ["precision"] [.int p]
theorem j0(hp:0<p)(hp':p≤6)(hN:N≤400)(h:Nb N p v a b k)(q:∀m e,Rd p a b (rV m e)→Re (N+p) p m e→Q (.v (rV m e)) st):CallK (R C4 T4 (n+7) (.v (.val (.ref 630))) [.v (tw p),.v v] st) Q E:=by
 refine af rfl rfl ?_
 conv=>whnf
 refine yg hp hp' hN h fun m e r r'=>?_
 conv=>whnf
 rw[ztl];exact q m e r r'
end
inductive Op4|add|sub|mul|div
noncomputable def Ar:Op4→Int→Nat→Int→Nat→Int×Int
 |.add,a,b,a',b'=>(a*b'+a'*b,b*b')
 |.sub,a,b,a',b'=>(a*b'-a'*b,b*b')
 |.mul,a,b,a',b'=>(a*a',b*b')
 |.div,a,b,a',b'=>(a*b',b*a')
noncomputable def Lw'(x:Int×Int)(T D:Int):Prop:=Lw (x.1*x.2.sign) x.2.natAbs T D
noncomputable def Rd'(p:Nat)(x:Int×Int)(v:V):Prop:=Rd p (x.1*x.2.sign) x.2.natAbs v
theorem uf{a:Int}{x y:Nat}(hx:0<x)(hy:0<y):a*((x:Int)*y).sign=a∧((x:Int)*y).natAbs=x*y:=by
 rw[←Int.natCast_mul,Int.sign_natCast_of_ne_zero (Nat.ne_of_gt (Nat.mul_pos hx hy)),Int.mul_one,Int.natAbs_natCast];exact⟨rfl,rfl⟩
theorem vq{A T D:Int}{x y:Nat}(hx:0<x)(hy:0<y)(h:Lw A ((x:Int)*y) T D):Lw' (A,(x:Int)*y) T D:=by
 unfold Lw'
 obtain⟨h1,h2⟩:=uf (a:=A) hx hy
 dsimp only
 rw[h1,h2,Int.natCast_mul];exact h
theorem vt{A:Int}{x y:Nat}{w:V}(hx:0<x)(hy:0<y)(h:Rd p A (x*y) w):Rd' p (A,(x:Int)*y) w:=by
 unfold Rd'
 obtain⟨h1,h2⟩:=uf (a:=A) hx hy
 dsimp only
 rw[h1,h2];exact h
theorem ug{a':Int}{b:Nat}(hb:0<b):((b:Int)*a').sign=a'.sign∧((b:Int)*a').natAbs=b*a'.natAbs:=by
 rw[Int.sign_mul,Int.sign_natCast_of_ne_zero (Nat.ne_of_gt hb),Int.one_mul,Int.natAbs_mul,Int.natAbs_natCast];exact⟨rfl,rfl⟩
theorem uh{o:Op4}{a a':Int}{b b':Nat}(hb:0<b)(hb':0<b')(h:o=.div→a'≠0):(Ar o a b a' b').2≠0:=by
 have h1:(b:Int)≠0:=Int.ofNat_ne_zero.mpr (Nat.ne_of_gt hb)
 have h2:(b':Int)≠0:=Int.ofNat_ne_zero.mpr (Nat.ne_of_gt hb')
 cases o
 ·exact Int.mul_ne_zero h1 h2
 ·exact Int.mul_ne_zero h1 h2
 ·exact Int.mul_ne_zero h1 h2
 ·exact Int.mul_ne_zero h1 (h rfl)
theorem iz{x y:Int}{X Y:Nat}(hx:x.natAbs<2^X)(hy:y.natAbs<2^Y):(x*y).natAbs<2^(X+Y):=by
 rw[Int.natAbs_mul];exact ch hx hy
theorem vw{x y:Int}{X:Nat}(hx:x.natAbs<2^X)(hy:y.natAbs<2^X):(x+y).natAbs<2^(X+1):=by
 rw[Nat.pow_succ,Nat.mul_two]
 exact Nat.lt_of_le_of_lt (Int.natAbs_add_le ..) (Nat.add_lt_add hx hy)
theorem Hh{o:Op4}{a a':Int}{b b' X Y:Nat}(h1:a.natAbs<2^X)(h2:b<2^X)(h3:a'.natAbs<2^Y)(h4:b'<2^Y):(Ar o a b a' b').1.natAbs<2^(X+Y+1)∧(Ar o a b a' b').2.natAbs<2^(X+Y+1):=by
 have h2:(b:Int).natAbs<2^X:=h2
 have h4:(b':Int).natAbs<2^Y:=h4
 have up:∀{x:Nat},x<2^(X+Y)→x<2^(X+Y+1):=fun h=>ac h (Nat.le_succ _)
 have c:(a'*(b:Int)).natAbs<2^(X+Y):=by rw[Nat.add_comm];exact iz h3 h2
 cases o
 ·exact⟨vw (iz h1 h4) c,up (iz h2 h4)⟩
 ·refine⟨?_,up (iz h2 h4)⟩
  show(a*b'-a'*b).natAbs<_
  rw[Int.sub_eq_add_neg]
  exact vw (iz h1 h4) (by rw[Int.natAbs_neg];exact c)
 ·exact⟨up (iz h1 h3),up (iz h2 h4)⟩
 ·exact⟨up (iz h1 h4),up (iz h2 h3)⟩
noncomputable def St(p:Nat)(o:Op4)(a:Int)(b:Nat)(a':Int)(b':Nat)(A:Int)(B:Nat):Bool→Prop
 |true=>∃m e m' e' x y,Rd p a b (rV m e)∧Rd p a' b' (rV m' e')∧Rd' p (Ar o (frT m e) (frB e) (frT m' e') (frB e')) (rV x y)∧A=frT x y∧B=frB y
 |false=>Lw' (Ar o a b a' b') A B
theorem Rd.ne{p:Nat}{a:Int}{b:Nat}{m e:Int}(r:Rd p a b (rV m e))(h:a≠0):m≠0:=by
 rcases r with⟨z,_⟩|⟨_,w,k,hn,hv⟩
 ·exact absurd z h
 ·obtain⟨rfl,_⟩:=cw hv
  have:=sj hn
  intro hz
  have e:=(si (w:=w) h).1
  rw[hz]at e
  rw[←e]at this
  contradiction
theorem vy{m e:Int}(h:m≠0):frT m e≠0:=fun z=>h (yd z)
theorem St.unique{p:Nat}{o:Op4}{a a' A A':Int}{b b' B B':Nat}{k:Bool}(hp:0<p)(hb:0<b)(hb':0<b')(h0:o=.div→a'≠0)(s:St p o a b a' b' A B k)(s':St p o a b a' b' A' B' k):A=A'∧B=B':=by
 cases k with
 |false=>
  have hn:=uh (a:=a) hb hb' h0
  obtain⟨h1,h2⟩:=Lw.unique (Int.ofNat_ne_zero.mpr (Int.natAbs_ne_zero.mpr hn)) s s'
  exact⟨h1,Int.ofNat_inj.mp h2⟩
 |true=>
  obtain⟨m,e,m',e',x,y,r1,r2,r3,rfl,rfl⟩:=s
  obtain⟨n,f,n',f',z,w,s1,s2,s3,rfl,rfl⟩:=s'
  obtain⟨rfl,rfl⟩:=cw (Rd.unique hp hb r1 s1)
  obtain⟨rfl,rfl⟩:=cw (Rd.unique hp hb' r2 s2)
  have hn:=uh (o:=o) (a:=frT m e) (b:=frB e) (a':=frT m' e') (b':=frB e') ah ah fun h=>vy (r2.ne (h0 h))
  obtain⟨rfl,rfl⟩:=cw (Rd.unique hp (Int.natAbs_pos.mpr hn) r3 s3)
  exact⟨rfl,rfl⟩
noncomputable def up(N M:Nat):Nat:=N+M+40
section
variable {n:Nat} {t u c m e m' e':Int} {b b' N M p:Nat} {v v':V} {a a':Int} {k k':Bool} {st:Sto} {E:KV} {Q:KD}
theorem sk{o:Op4}{T D:Int}(hb:0<b)(hb':0<b')(h0:o=.div→a'≠0)(l1:a.natAbs<2^N)(l2:b<2^N)(l3:a'.natAbs<2^M)(l4:b'<2^M)(L:Lw' (Ar o a b a' b') T D):∃B:Nat,D=B∧Nb (up N M) p (nV T D) T B false∧St p o a b a' b' T B false:=by
 obtain⟨B,rfl⟩:=Int.eq_ofNat_of_zero_le (Int.le_of_lt L.d0)
 obtain⟨x1,x2⟩:=Hh (o:=o) l1 l2 l3 l4
 obtain⟨y1,y2⟩:=Lw.le (Int.natCast_pos.mpr (Int.natAbs_pos.mpr (uh hb hb' h0))) L
 have hl:N+M+1≤up N M:=Nat.add_le_add_left (by decide) _
 exact⟨B,rfl,.ex (ac (Nat.lt_of_le_of_lt (Nat.le_trans y1 Aj) x1) hl) (Int.natCast_pos.mp L.d0) (ac (Nat.lt_of_le_of_lt y2 x2) hl) L.g,L⟩
theorem so{o:Op4}{w:V}(hp:0<p)(hp':p≤6)(r:Rd p a b (rV m e))(r':Rd p a' b' (rV m' e'))(h:Re (N+p) p m e)(h':Re (M+p) p m' e')(h0:o=.div→a'≠0)(R:Rd' p (Ar o (frT m e) (frB e) (frT m' e') (frB e')) w):∃A B,Nb (up N M) p w A B true∧St p o a b a' b' A B true:=by
 have hn:=uh (o:=o) (a:=frT m e) (b:=frB e) (a':=frT m' e') (b':=frB e') ah ah fun h=>vy (r'.ne (h0 h))
 obtain⟨x1,x2⟩:=Hh (o:=o) h.ltT (h.ltB hp) h'.ltT (h'.ltB hp)
 obtain⟨x,y,rfl,re⟩:=Rd.form hp (Int.natAbs_pos.mpr hn) (Nat.lt_of_le_of_lt Aj x1) x2 R
 refine⟨_,_,.re (re.mono ?_),m,e,m',e',x,y,r,r',R,rfl,rfl⟩
 unfold up;lia
theorem ot{N:Nat}(hN:N≤290)(hp':p≤6)(h:Re (N+p) p m e):e.natAbs≤300:=Nat.le_trans h.el (Nat.le_trans (Nat.add_le_add hN hp') (by decide))
theorem ou(hp':p≤6)(h:Re N p m e):m.natAbs<2^500:=ac h.lt (Nat.le_trans hp' (by decide))
theorem smN{x:Int}(hN:N≤290)(h:x.natAbs<2^N):Sm x:=ac h (Nat.le_trans hN (by decide))
theorem Ks(hp:0<p)(hp':p≤6)(hN:N≤290)(hM:M≤290)(h:Nb N p v a b k)(h':Nb M p v' a' b' k')(q:∀w A B,Nb (up N M) p w A B (k||k')→St p .add a b a' b' A B (k||k')→Q (.v w) st):
 CallK (R C4 T4 (n+8) (.v (.val (.ref 637))) [.v (tw p),.v v,.v v'] st) Q E:=by
 have tail:(k||k')=true→∀F,go C4 T4 (n+6) (JT C4 T4 (n+6)) (mi 74 15).sc (bz st.length Q) (F+400) [.sts 64 ((mi 74 15).body.drop 1)] [] [(Str.ofString "self",.v (tw p)),(Str.ofString "one",.v v),(Str.ofString "other",.v v')] st E:=by
  intro hk F
  rw[hk]at q
  conv=>whnf
  refine j0 hp hp' (Nat.le_trans hN (by decide)) h fun m e r re=>?_
  conv=>whnf
  refine j0 hp hp' (Nat.le_trans hM (by decide)) h' fun m' e' r' re'=>?_
  conv=>whnf
  refine Cb hp (Nat.le_trans hp' (by decide)) re.z re'.z (ou hp' re) (ou hp' re') (ot hN hp' re) (ot hM hp' re') fun w hw=>?_
  obtain⟨A,B,n1,s1⟩:=so (o:=.add) hp hp' r r' re re' (fun z=>nomatch z) (vt ah ah hw)
  conv=>whnf
  rw[ztl];exact q _ _ _ n1 s1
 refine af rfl rfl ?_
 conv=>whnf
 refine iy h ?_
 cases k with
 |true=>
  conv=>whnf
  exact tail rfl _
 |false=>
  conv=>whnf
  refine iy h' ?_
  cases k' with
  |true=>
   conv=>whnf
   exact tail rfl _
  |false=>
   conv=>whnf
   obtain⟨rfl,x1,x2,x3,x4⟩:=h.exact
   obtain⟨rfl,y1,y2,y3,y4⟩:=h'.exact
   refine Bw (smN hN x1) (smN (x:=(b:Int)) hN x3) (smN hM y1) (smN (x:=(b':Int)) hM y3) (Int.natCast_pos.mpr x2) (Int.natCast_pos.mpr y2) ?_
   conv=>whnf
   rw[ztl]
   have L:=vn (t:=a) (u:=a') (b:=b) (c:=b') (Int.natCast_pos.mpr x2) (Int.natCast_pos.mpr y2) x4 y4
   obtain⟨B,e1,n1,s1⟩:=sk (p:=p) (o:=.add) x2 y2 (fun z=>nomatch z) x1 x3 y1 y3 (vq x2 y2 L)
   exact q _ _ _ n1 s1
theorem Ku(hp:0<p)(hp':p≤6)(hN:N≤290)(hM:M≤290)(h:Nb N p v a b k)(h':Nb M p v' a' b' k')(q:∀w A B,Nb (up N M) p w A B (k||k')→St p .sub a b a' b' A B (k||k')→Q (.v w) st):
 CallK (R C4 T4 (n+8) (.v (.val (.ref 644))) [.v (tw p),.v v,.v v'] st) Q E:=by
 have tail:(k||k')=true→∀F,go C4 T4 (n+6) (JT C4 T4 (n+6)) (mi 74 16).sc (bz st.length Q) (F+400) [.sts 64 ((mi 74 16).body.drop 1)] [] [(Str.ofString "self",.v (tw p)),(Str.ofString "one",.v v),(Str.ofString "other",.v v')] st E:=by
  intro hk F
  rw[hk]at q
  conv=>whnf
  refine j0 hp hp' (Nat.le_trans hN (by decide)) h fun m e r re=>?_
  conv=>whnf
  refine j0 hp hp' (Nat.le_trans hM (by decide)) h' fun m' e' r' re'=>?_
  conv=>whnf
  refine Pj hp (Nat.le_trans hp' (by decide)) re.z re'.z (ou hp' re) (ou hp' re') (ot hN hp' re) (ot hM hp' re') fun w hw=>?_
  obtain⟨A,B,n1,s1⟩:=so (o:=.sub) hp hp' r r' re re' (fun z=>nomatch z) (vt ah ah hw)
  conv=>whnf
  rw[ztl];exact q _ _ _ n1 s1
 refine af rfl rfl ?_
 conv=>whnf
 refine iy h ?_
 cases k with
 |true=>
  conv=>whnf
  exact tail rfl _
 |false=>
  conv=>whnf
  refine iy h' ?_
  cases k' with
  |true=>
   conv=>whnf
   exact tail rfl _
  |false=>
   conv=>whnf
   obtain⟨rfl,x1,x2,x3,x4⟩:=h.exact
   obtain⟨rfl,y1,y2,y3,y4⟩:=h'.exact
   refine Gu (smN hN x1) (smN (x:=(b:Int)) hN x3) (smN hM y1) (smN (x:=(b':Int)) hM y3) (Int.natCast_pos.mpr x2) (Int.natCast_pos.mpr y2) ?_
   conv=>whnf
   rw[ztl]
   have L:=vn (t:=a) (u:= -a') (b:=b) (c:=b') (Int.natCast_pos.mpr x2) (Int.natCast_pos.mpr y2) x4 (by rw[Int.neg_gcd];exact y4)
   rw[Int.neg_mul,←Int.sub_eq_add_neg]at L
   obtain⟨B,e1,n1,s1⟩:=sk (p:=p) (o:=.sub) x2 y2 (fun z=>nomatch z) x1 x3 y1 y3 (vq x2 y2 L)
   exact q _ _ _ n1 s1
theorem Kv(hp:0<p)(hp':p≤6)(hN:N≤290)(hM:M≤290)(h:Nb N p v a b k)(h':Nb M p v' a' b' k')(q:∀w A B,Nb (up N M) p w A B (k||k')→St p .mul a b a' b' A B (k||k')→Q (.v w) st):
 CallK (R C4 T4 (n+8) (.v (.val (.ref 651))) [.v (tw p),.v v,.v v'] st) Q E:=by
 have tail:(k||k')=true→∀F,go C4 T4 (n+6) (JT C4 T4 (n+6)) (mi 74 17).sc (bz st.length Q) (F+400) [.sts 64 ((mi 74 17).body.drop 1)] [] [(Str.ofString "self",.v (tw p)),(Str.ofString "one",.v v),(Str.ofString "other",.v v')] st E:=by
  intro hk F
  rw[hk]at q
  conv=>whnf
  refine j0 hp hp' (Nat.le_trans hN (by decide)) h fun m e r re=>?_
  conv=>whnf
  refine j0 hp hp' (Nat.le_trans hM (by decide)) h' fun m' e' r' re'=>?_
  conv=>whnf
  refine Pk hp (Nat.le_trans hp' (by decide)) (ou hp' re) (ou hp' re') (ot hN hp' re) (ot hM hp' re') fun w hw=>?_
  obtain⟨A,B,n1,s1⟩:=so (o:=.mul) hp hp' r r' re re' (fun z=>nomatch z) (vt ah ah hw)
  conv=>whnf
  rw[ztl];exact q _ _ _ n1 s1
 refine af rfl rfl ?_
 conv=>whnf
 refine iy h ?_
 cases k with
 |true=>
  conv=>whnf
  exact tail rfl _
 |false=>
  conv=>whnf
  refine iy h' ?_
  cases k' with
  |true=>
   conv=>whnf
   exact tail rfl _
  |false=>
   conv=>whnf
   obtain⟨rfl,x1,x2,x3,x4⟩:=h.exact
   obtain⟨rfl,y1,y2,y3,y4⟩:=h'.exact
   refine Gv (smN hN x1) (smN (x:=(b:Int)) hN x3) (smN hM y1) (smN (x:=(b':Int)) hM y3) (Int.natCast_pos.mpr x2) (Int.natCast_pos.mpr y2) ?_
   conv=>whnf
   rw[ztl]
   have L:=G9 (t:=a) (u:=a') (b:=b) (c:=b') (Int.natCast_pos.mpr x2) (Int.natCast_pos.mpr y2) x4 y4
   obtain⟨B,e1,n1,s1⟩:=sk (p:=p) (o:=.mul) x2 y2 (fun z=>nomatch z) x1 x3 y1 y3 (vq x2 y2 L)
   exact q _ _ _ n1 s1
end
noncomputable def dzV(s:Str):V:=.inst 96 ["word","irritants","name"] [.str (Str.ofString "DivisionByZero"),.lst [.str s],.str s]
section
variable {n:Nat} {t u c m e m' e':Int} {b b' N M p:Nat} {v v':V} {a a':Int} {k k':Bool} {st:Sto} {E:KV} {Q:KD}
theorem yh{s:Str}(h':Nb M p v' a' b' k')(h0:a'=0)(q:E (dzV s) st):
 CallK (R C4 T4 (n+8) (.v (.val (.ref 658))) [.v (tw p),.v v,.v v',.v (.str s)] st) Q E:=by
 refine af rfl rfl ?_
 conv=>whnf
 refine ix h' ?_
 rw[h0]
 conv=>whnf
 exact q
theorem Cc{s:Str}(hp:0<p)(hp':p≤6)(hN:N≤290)(hM:M≤290)(h:Nb N p v a b k)(h':Nb M p v' a' b' k')(h0:a'≠0)(q:∀w A B,Nb (up N M) p w A B (k||k')→St p .div a b a' b' A B (k||k')→Q (.v w) st):
 CallK (R C4 T4 (n+8) (.v (.val (.ref 658))) [.v (tw p),.v v,.v v',.v (.str s)] st) Q E:=by
 have tail:(k||k')=true→∀F,go C4 T4 (n+6) (JT C4 T4 (n+6)) (mi 74 18).sc (bz st.length Q) (F+400) [.sts 64 ((mi 74 18).body.drop 2)] [] [(Str.ofString "self",.v (tw p)),(Str.ofString "one",.v v),(Str.ofString "other",.v v'),(Str.ofString "who",.v (.str s))] st E:=by
  intro hk F
  rw[hk]at q
  conv=>whnf
  refine j0 hp hp' (Nat.le_trans hN (by decide)) h fun m e r re=>?_
  conv=>whnf
  refine j0 hp hp' (Nat.le_trans hM (by decide)) h' fun m' e' r' re'=>?_
  conv=>whnf
  refine Pm hp (Nat.le_trans hp' (by decide)) (r'.ne h0) (ou hp' re) (ou hp' re') (ot hN hp' re) (ot hM hp' re') fun w hw=>?_
  have R:Rd' p (Ar .div (frT m e) (frB e) (frT m' e') (frB e')) w:=by
   unfold Rd'
   obtain⟨d1,d2⟩:=ug (a':=frT m' e') (ah (e:=e))
   show Rd p (frT m e*frB e'*((frB e:Int)*frT m' e').sign) ((frB e:Int)*frT m' e').natAbs w
   rw[d1,d2,fx]
   exact hw
  obtain⟨A,B,n1,s1⟩:=so (o:=.div) hp hp' r r' re re' (fun o_=>h0) R
  conv=>whnf
  rw[ztl];exact q _ _ _ n1 s1
 refine af rfl rfl ?_
 conv=>whnf
 refine ix h' ?_
 conv=>whnf
 refine bt (fun hs=>absurd (Int.sign_eq_zero_iff_zero.mp hs) h0) (fun o_=>?_)
 conv=>whnf
 refine iy h ?_
 cases k with
 |true=>
  conv=>whnf
  exact tail rfl _
 |false=>
  conv=>whnf
  refine iy h' ?_
  cases k' with
  |true=>
   conv=>whnf
   exact tail rfl _
  |false=>
   conv=>whnf
   obtain⟨rfl,x1,x2,x3,x4⟩:=h.exact
   obtain⟨rfl,y1,y2,y3,y4⟩:=h'.exact
   refine R8 (smN hN x1) (smN (x:=(b:Int)) hN x3) (smN hM y1) (smN (x:=(b':Int)) hM y3) (Int.natCast_pos.mpr x2) (Int.natCast_pos.mpr y2) h0 fun u' c' hu hc=>?_
   conv=>whnf
   rw[ztl]
   have hc0:c'=(a'.natAbs:Int):=by rw[hc,df]
   have hu0:u'=b'*a'.sign:=by
    rw[hu]
    by_cases c:a'<0
    ·rw[if_pos c,Int.sign_eq_neg_one_of_neg c,Int.mul_neg,Int.mul_one]
    ·rw[if_neg c,Int.sign_eq_one_of_pos (Int.lt_iff_le_and_ne.mpr ⟨Int.not_lt.mp c,h0.symm⟩),Int.mul_one]
   have hg:Int.gcd u' c'=1:=by
    rw[hu,hc]
    split
    ·rw[Int.neg_gcd,Int.gcd_neg,Int.gcd_comm];exact y4
    ·rw[Int.gcd_comm];exact y4
   have L:=G9 (t:=a) (u:=u') (b:=b) (c:=c') (Int.natCast_pos.mpr x2) (by rw[hc0];exact Int.natCast_pos.mpr (Int.natAbs_pos.mpr h0)) x4 hg
   have L':Lw' (Ar .div a b a' b') (a/muX a c'*(u'/muX u' b)) (b/muX u' b*(c'/muX a c')):=by
    unfold Lw'
    obtain⟨d1,d2⟩:=ug (a':=a') x2
    show Lw (a*b'*((b:Int)*a').sign) ((b:Int)*a').natAbs _ _
    rw[d1,d2,Int.natCast_mul,Int.mul_assoc,←hu0,←hc0]
    exact L
   obtain⟨B,e1,n1,s1⟩:=sk (p:=p) (o:=.div) x2 y2 (fun o_=>h0) x1 x3 y1 y3 L'
   exact q _ _ _ n1 s1
theorem Cd(h:Nb N p v a b k)(q:∀w,Nb N p w (-a) b k→Q (.v w) st):CallK (R C4 T4 (n+6) (.v (.val (.ref 665))) [.v (tw p),.v v] st) Q E:=by
 cases h with
 |ex h1 h2 h3 h4=>
  refine af rfl rfl ?_
  ((conv=>whnf);repeat'((with_reducible first|apply lj|apply x7);(conv=>whnf)))
  rw[ztl]
  exact q _ (.ex (by rw[Int.natAbs_neg];exact h1) h2 h3 (by rw[Int.neg_gcd];exact h4))
 |re h=>
  refine af rfl rfl ?_
  ((conv=>whnf);repeat'((with_reducible first|apply f4|apply Ha);(conv=>whnf)))
  rw[ztl]
  rw[←frT_neg]at q
  exact q _ (.re ⟨h.o.imp (fun o=>by rw[Int.natAbs_neg];exact o) fun z=>⟨by rw[z.1];rfl,z.2⟩,by rw[Int.natAbs_neg];exact h.lt,h.el⟩)
theorem Hi(q:Q (.v (nV t.natAbs b)) st):CallK (R C4 T4 (n+3) (.v (.val (.ref 371))) [.v (nV t b)] st) Q E:=by
 refine af rfl rfl ?_
 ((conv=>whnf);repeat'((with_reducible first|apply gu|apply jb|apply li);(conv=>whnf)))
 rw[ztl,df];exact q
theorem Pn(q:Q (.v (rV m.natAbs e)) st):CallK (R C4 T4 (n+2) (.v (.val (.ref 210))) [.v (rV m e)] st) Q E:=by
 refine af rfl rfl ?_
 conv=>whnf
 rw[ztl,df];exact q
theorem Kw{m e:Int}:frT (m.natAbs:Int) e=((frT m e).natAbs:Int):=by
 rw[mr]
 unfold frT
 rw[Int.natCast_mul,pz]
theorem Kx(h:Nb N p v a b k)(q:∀w,Nb N p w a.natAbs b k→Q (.v w) st):CallK (R C4 T4 (n+6) (.v (.val (.ref 672))) [.v (tw p),.v v] st) Q E:=by
 refine af rfl rfl ?_
 cases h with
 |ex h1 h2 h3 h4=>
  ((conv=>whnf);repeat'((with_reducible apply lj);(conv=>whnf)))
  refine Hi ?_
  conv=>whnf
  rw[ztl]
  exact q _ (.ex (by rw[Int.natAbs_natCast];exact h1) h2 h3 (by show Nat.gcd (a.natAbs:Int).natAbs (b:Int).natAbs=1;rw[Int.natAbs_natCast];exact h4))
 |re h=>
  ((conv=>whnf);repeat'((with_reducible apply f4);(conv=>whnf)))
  refine Pn ?_
  conv=>whnf
  rw[ztl]
  rw[←Kw]at q
  exact q _ (.re ⟨h.o.imp (fun o=>by rw[Int.natAbs_natCast];exact o) fun z=>⟨by rw[z.1];rfl,z.2⟩,by rw[Int.natAbs_natCast];exact h.lt,h.el⟩)
end
noncomputable def shT(k:Bool)(a b:Int):V:=.tup [.bool (!k),.int a,.int b]
section
variable {n:Nat} {t u c m e m' e':Int} {b b' N M p:Nat} {v v':V} {a a':Int} {k k':Bool} {st:Sto} {E:KV} {Q:KD}
theorem Hj{A B:Int}(hB:0<B){g:Int}(hg:g=Int.gcd A B):Lw A B (A/g) (B/g):=by
 subst hg
 have h1:0<Int.gcd A B:=eh (Int.ne_of_gt hB)
 have k1:=Int.gcd_ediv_gcd_ediv_gcd h1
 have e1:=Int.ediv_mul_cancel (Int.gcd_dvd_left A B)
 have e2:=Int.ediv_mul_cancel (Int.gcd_dvd_right A B)
 have h2:(0:Int)<(Int.gcd A B:Int):=Int.natCast_pos.mpr h1
 generalize hx:(Int.gcd A B:Int)=x at*
 generalize A/x=T at*
 generalize B/x=D at*
 refine⟨Int.pos_of_mul_pos_left (a:=D) (b:=x) (by rw[e2];exact hB) h2,k1,?_⟩
 rw[←e1,←e2];simp only[Int.mul_assoc,Int.mul_comm,Int.mul_left_comm]
set_option tactic.hygienic true in
theorem yi{A B:Int}(hB:B≠0)(sA:Sm A)(sB:Sm B)(q:∀T D,Lw (A*B.sign) B.natAbs T D→Q (.v (.tup [.int T,.int D])) st):
 CallK (R C4 T4 (n+2) (.v (.val (.ref 845))) [.v (.int A),.v (.int B)] st) Q E:=by
 refine af rfl rfl ?_
 conv=>whnf
 refine e9 (fun k ρ st'=>st'=st∧∃x y:Nat,k=mu x y∧Nat.gcd x y=Int.gcd A B∧ρ=[(Str.ofString "top",.v (.int A)),(Str.ofString "bottom",.v (.int B)),(Str.ofString "one",.v (.int x)),(Str.ofString "other",.v (.int y))]) (k₀:=mu A.natAbs B.natAbs) (Nat.lt_trans (mj sA.big sB.big) (by decide)) ⟨rfl,A.natAbs,B.natAbs,rfl,rfl,?_⟩ (fun k ρ st' hI=>?_)
 ·rw[←df,←df];rfl
 ·obtain⟨rfl,x,y,rfl,hg,rfl⟩:=hI
  ((conv=>whnf);repeat'(first|((with_reducible first|apply aj|apply jy)<;>(intro _;(conv=>whnf)))|((with_reducible apply ae);(conv=>whnf))))
  ·rename_i hy
   have hy':y≠0:=fun z=>hy (by rw[z];rfl)
   refine⟨_,pq hy',rfl,y,x%y,rfl,?_,?_⟩
   ·rw[←hg,Nat.gcd_comm x y,Nat.gcd_rec y x,Nat.gcd_comm]
   ·rw[Int.fmod_eq_emod_of_nonneg _ (Int.natCast_nonneg y)];rfl
  ·assumption
  all_goals
   rename_i hy hb
   have hy':y=0:=Int.ofNat_eq_zero.mp hy
   subst hy'
   rw[Nat.gcd_zero_right]at hg
   have x0:(x:Int)≠0:=Int.ofNat_ne_zero.mpr (by rw[hg];exact Nat.ne_of_gt (eh hB))
   have dv:wd (x:Int)=true:=ed x0 (sB.of_le (by rw[hg,Int.natAbs_natCast];exact r7 hB))
  ·rw[ztl,av,av]
   refine q _ _ ?_
   rw[Int.sign_eq_one_of_pos hb,Int.mul_one,Int.natAbs_of_nonneg (Int.le_of_lt hb)]
   exact Hj hb (by rw[hg])
  ·exact dv
  ·exact dv
  ·rw[ztl,av,av]
   have hb':B<0:=Int.lt_iff_le_and_ne.mpr ⟨Int.not_lt.mp hb,hB⟩
   refine q _ _ ?_
   have d1:(x:Int) ∣ A:=by rw[hg];exact Int.gcd_dvd_left A B
   have d2:(x:Int) ∣ B:=by rw[hg];exact Int.gcd_dvd_right A B
   rw[Int.sign_eq_neg_one_of_neg hb',Int.mul_neg,Int.mul_one,Int.ofNat_natAbs_of_nonpos (Int.le_of_lt hb'),Int.zero_sub,Int.zero_sub,←Int.neg_ediv_of_dvd d1,←Int.neg_ediv_of_dvd d2]
   exact Hj (Int.neg_pos_of_neg hb') (by rw[Int.neg_gcd,Int.gcd_neg,hg])
  ·exact dv
  ·exact dv
theorem Hk{A:Int}{B:Nat}(hB:0<B)(sA:Sm A)(sB:Sm (B:Int))(g:Int.gcd A B=1)(q:Q (.v (.tup [.int A,.int B])) st):CallK (R C4 T4 (n+2) (.v (.val (.ref 845))) [.v (.int A),.v (.int B)] st) Q E:=by
 refine yi (Int.ofNat_ne_zero.mpr (Nat.ne_of_gt hB)) sA sB fun T D L=>?_
 rw[Int.sign_natCast_of_ne_zero (Nat.ne_of_gt hB),Int.mul_one,Int.natAbs_natCast]at L
 obtain⟨rfl,rfl⟩:=Lw.unique (Int.ofNat_ne_zero.mpr (Nat.ne_of_gt hB)) L ⟨Int.natCast_pos.mpr hB,g,rfl⟩
 exact q
theorem Nb.isi(h:Nb N p v a b k):Ej T4 v (.ref 115)=some k:=by
 cases h with
 |ex h1 h2 h3 h4=>unfold nV;split<;>rfl
 |re h=>rfl
theorem Hl{e:Int}(h:0≤e):frB e=1:=by unfold frB;rw[Int.toNat_of_nonpos (Int.neg_nonpos_of_nonneg h),Nat.pow_zero]
theorem Pp{m e:Int}(h:¬0≤e):frT m e=m:=by unfold frT;rw[Int.toNat_of_nonpos (Int.le_of_not_le h),Int.pow_zero,Int.mul_one]
theorem Pq{e:Int}(h:¬0≤e):((frB e:Nat):Int)=2^(0-e).toNat:=by unfold frB;rw[pz,Int.zero_sub]
theorem Hm{x e:Int}{K:Nat}(hx:x.natAbs<2^K)(hK:K≤5000)(he:e.natAbs≤5000)(h0:0≤e):0≤e∧(Builtin.Int.intBits x:Int)+e≤2^27:=
 ⟨h0,Int.le_trans (Int.add_le_add (Int.ofNat_le.mpr (Nat.le_trans (fw hx) hK)) (Int.le_trans Int.le_natAbs (Int.ofNat_le.mpr he))) (by decide)⟩
theorem Pr{e:Int}(he:e.natAbs≤5000)(h0:¬0≤e):0≤0-e∧(Builtin.Int.intBits 1:Int)+(0-e)≤2^27:=
 Hm (x:=1) (K:=1) (by decide) (by decide) (by rw[Int.zero_sub,Int.natAbs_neg];exact he) (Int.sub_nonneg_of_le (Int.le_of_not_le h0))
set_option tactic.hygienic true in
theorem ay(hp:0<p)(hp':p≤6)(hN:N≤800)(h:Nb N p v a b k)(q:Q (.v (shT k a b)) st):CallK (R C4 T4 (n+3) (.v (.val (.ref 852))) [.v v] st) Q E:=by
 have hl:=h.lt hp
 have g:=h.cop
 have b0:=h.b0
 have i1:=h.isi
 have hpN:p+N≤4000:=Nat.le_trans (Nat.add_le_add hp' hN) (by decide)
 refine af rfl rfl ?_
 cases h with
 |ex h1 h2 h3 h4=>
  conv=>whnf
  rw[i1]
  ((conv=>whnf);repeat'((with_reducible first|apply gu|apply jb);(conv=>whnf)))
  rw[ztl];exact q
 |@re m e h=>
  have el:e.natAbs≤5000:=Nat.le_trans h.el (Nat.le_trans hN (by decide))
  ((conv=>whnf);repeat'(first|((with_reducible apply aj)<;>(intro _;(conv=>whnf)))|((with_reducible apply ae);(conv=>whnf))))
  ·rename_i he
   rw[Hl he]at q hl g b0
   refine Hk (B:=1) b0 (ac hl.1 hpN) (iu hl.2 hpN) g ?_
   conv=>whnf
   rw[ztl];exact q
  ·rename_i he
   exact Hm h.lt (Nat.le_trans hp' (by decide)) el he
  ·rename_i he
   rw[Int.one_mul,←Pq he]
   rw[Pp he]at q hl g
   refine Hk b0 (ac hl.1 hpN) (iu hl.2 hpN) g ?_
   conv=>whnf
   rw[ztl];exact q
  ·rename_i he
   exact Pr el he
end
theorem Ky{w:Nat}:(w:Int).fmod 2=((w%2:Nat):Int):=by rw[Int.fmod_eq_emod_of_nonneg _ (by decide)];rfl
theorem Um{w:Nat}:(w:Int).fdiv 2=((w/2:Nat):Int):=by rw[Int.fdiv_eq_ediv_of_nonneg _ (by decide)];rfl
theorem Ps{w:Nat}(h0:0<w)(h:((w%2:Nat):Int)=0):0<w/2∧w/2<w∧w/2*2=w:=by
 have e:w/2*2=w:=Nat.div_mul_cancel (Nat.dvd_of_mod_eq_zero (Int.ofNat_eq_zero.mp h))
 exact⟨Nat.pos_of_ne_zero fun z=>Nat.ne_of_gt h0 (by rw[←e,z]),Nat.div_lt_self h0 (by decide),e⟩
theorem Sp{w:Nat}(h:((w%2:Nat):Int)≠0):w%2=1:=(Nat.mod_two_eq_zero_or_one w).resolve_left fun z=>h (congrArg Nat.cast z)
theorem sm2:Sm 2:=ac (k:=2) (by decide) (by decide)
noncomputable def lE(p:Nat)(t u e:Int):En:=
 [(Str.ofString "precision",.v (.int p)),(Str.ofString "top",.v (.int t)),(Str.ofString "bottom",.v (.int u)),(Str.ofString "exponent",.v (.int e))]
noncomputable def lEw(p:Nat)(t u e w r:Int):En:=lE p t u e++[(Str.ofString "mantissa",.v (.int w)),(Str.ofString "rest",.v (.int r))]
section
variable {n N p:Nat} {st:Sto} {E:KV} {Q:KD}
set_option tactic.hygienic true in
theorem vz{W:Nat}{t u sh wI r:Int}(W0:0<W)(Wb:W<1000000000)(hw:wI=W)(q:∀w c:Nat,w%2=1→W=w*2^c→Q (.v (.tup [.int w,.int (sh+c)])) st):
 go C4 T4 n (JT C4 T4 n) (fi 78).sc (bz st.length Q) (N+400) [.sts 64 ((fi 78).body.drop 5)] [] (lEw p t u sh wI r) st E:=by
 conv=>whnf
 refine e9 (fun k ρ s'=>s'=st∧∃(c:Nat) (wI sh':Int),0<k∧W=k*2^c∧wI=k∧sh'=sh+c∧ρ=lEw p t u sh' wI r) (k₀:=W) Wb ⟨rfl,0,_,_,W0,(Nat.mul_one W).symm,hw,(Int.add_zero _).symm,rfl⟩ (fun k ρ s' hI=>?_)
 obtain⟨rfl,c,wI,sh',k0,hk,rfl,rfl,rfl⟩:=hI
 ((conv=>whnf);repeat'(first|((with_reducible apply bt)<;>(intro _;(conv=>whnf)))|((with_reducible apply ae);(conv=>whnf))))
 ·rename_i hc
  rw[Ky]at hc
  obtain⟨z1,z2,z3⟩:=Ps k0 hc
  refine⟨k/2,z2,rfl,c+1,_,_,z1,?_,Um,?_,rfl⟩
  ·rw[hk,Nat.pow_succ,Nat.mul_comm (2^c),←Nat.mul_assoc,z3]
  ·rw[Int.natCast_succ,Int.add_assoc]
 ·exact ed (by decide) sm2
 ·rename_i hc
  rw[Ky]at hc
  exact aa (q k c (Sp hc) hk)
 ·decide
theorem Sq{r b:Nat}(h:(b:Int)<2*(r:Int)):b<2*r:=by exact Int.ofNat_lt.mp h
theorem Sr{r b:Nat}(h:2*(r:Int)=(b:Int)):2*r=b:=by exact Int.ofNat_inj.mp h
theorem Mt{r b:Nat}{P:Prop}(h:¬(b:Int)<2*(r:Int))(h2:¬(2*r=b∧P)):¬(b<2*r∨(2*r=b∧P)):=fun z=>z.elim (fun z=>h (by exact Int.lt_toNat.mp z)) h2
set_option tactic.hygienic true in
theorem Hn{a b:Nat}{t u sh:Int}(ht:t=(a:Int))(hu:u=(b:Int))(hb:0<b)(Sb:b<2^3700)(hi1:a<2^p*b)(hi2:b≤a)(hp':p≤6)
 (q:∀w c:Nat,w%2=1→rhe a b=w*2^c→Q (.v (.tup [.int w,.int (sh+c)])) st):
 go C4 T4 n (JT C4 T4 n) (fi 78).sc (bz st.length Q) (N+800) [.sts 64 ((fi 78).body.drop 3)] [] (lE p t u sh) st E:=by
 subst ht hu
 have hbi:(b:Int)≠0:=Int.ofNat_ne_zero.mpr (Nat.ne_of_gt hb)
 have ef:(a:Int).fdiv (b:Int)=((a/b:Nat):Int):=by rw[Int.fdiv_eq_ediv_of_nonneg _ (Int.natCast_nonneg b)];rfl
 have er:(a:Int).fmod (b:Int)=((a%b:Nat):Int):=by rw[Int.fmod_eq_emod_of_nonneg _ (Int.natCast_nonneg b)];rfl
 have q0:0<a/b:=Nat.div_pos hi2 hb
 have qb:a/b<2^p:=Nat.div_lt_of_lt_mul (by rw[Nat.mul_comm];exact hi1)
 have W0:0<rhe a b:=by
  unfold rhe;split
  ·exact Nat.succ_pos _
  ·exact q0
 have Wb:rhe a b<1000000000:=Nat.lt_of_le_of_lt (Hf hi1) (Nat.lt_of_le_of_lt (Nat.pow_le_pow_right (by decide) hp') (by decide))
 have up:b<2*(a%b)∨(2*(a%b)=b∧a/b%2=1)→rhe a b=a/b+1:=fun h=>if_pos h
 have dn:¬(b<2*(a%b)∨(2*(a%b)=b∧a/b%2=1))→rhe a b=a/b:=fun h=>if_neg h
 ((conv=>whnf);repeat'(first|((with_reducible first|apply aj|apply bt)<;>(intro _;(conv=>whnf)))|((with_reducible apply ae);(conv=>whnf))))
 ·rename_i c1
  rw[er]at c1
  exact vz W0 Wb (by rw[up (.inl (Sq c1)),ef];rfl) q
 ·rename_i c1 c2 c3
  rw[er]at c2
  rw[ef,Ky]at c3
  exact vz W0 Wb (by rw[up (.inr ⟨Sr c2,Int.ofNat_inj.mp c3⟩),ef];rfl) q
 ·rename_i c1 c2 c3
  rw[er]at c1 c2
  rw[ef,Ky]at c3
  exact vz W0 Wb (by rw[dn (Mt c1 fun z=>c3 (by rw[z.2];rfl)),ef]) q
 ·decide
 ·rename_i c1 c2
  rw[er]at c1 c2
  exact vz W0 Wb (by rw[dn (Mt c1 fun z=>c2 (Int.ofNat_inj.mpr z.1)),ef]) q
 iterate 2
  ·rw[er]
   exact am sm2 (iu (Nat.lt_trans (Nat.mod_lt a hb) Sb) (by decide))
 ·exact ed hbi (iu Sb (by decide))
end
section
variable {n N p:Nat} {st:Sto} {E:KV} {Q:KD}
theorem Ho{p:Nat}{x:Int}{K:Nat}(hx:x.natAbs<2^K)(hK:K≤5000)(hp:p≤5000):0≤(p:Int)∧(Builtin.Int.intBits x:Int)+p≤2^27:=
 ⟨Int.natCast_nonneg p,Int.le_trans (Int.add_le_add (Int.ofNat_le.mpr (Nat.le_trans (fw hx) hK)) (Int.ofNat_le.mpr hp)) (by decide)⟩
theorem Hp{x k:Nat}:(x:Int)*2^(k:Int).toNat=((x*2^k:Nat):Int):=by rw[Int.toNat_natCast,Int.natCast_mul,pz]
theorem Hq{a b:Nat}{t u sh:Int}(ht:t=(a:Int))(hu:u=(b:Int))(hb:0<b)(Sb:b<2^3600)(hi1:a<2^p*(2*b))(hi2:2^(p-1)*b≤a)(hp:0<p)(hp':p≤6)
 (q:∀(i w c:Nat),2^(p-1)*(b*2^i)≤a→a<2^p*(b*2^i)→w%2=1→rhe a (b*2^i)=w*2^c→Q (.v (.tup [.int w,.int (sh+i+c)])) st):
 go C4 T4 n (JT C4 T4 n) (fi 78).sc (bz st.length Q) (N+1200) [.sts 64 ((fi 78).body.drop 2)] [] (lE p t u sh) st E:=by
 subst ht hu
 have pp:0<2^(p-1):=p2 _
 conv=>whnf
 refine ae ?_ (Ho (x:=(b:Int)) (K:=3600) Sb (by decide) (Nat.le_trans hp' (by decide)))
 rw[Hp]
 conv=>whnf
 refine aj (fun h=>?_) (fun h=>?_)
 ·have h:=Int.ofNat_le.mp h
  conv=>whnf
  refine ae ?_ (am sm2 (iu Sb (by decide)))
  have e2:(b*2^1:Nat)=2*b:=by rw[Nat.pow_one,Nat.mul_comm]
  obtain⟨l,rfl⟩:=Nat.exists_eq_succ_of_ne_zero (Nat.ne_of_gt hp)
  have e3:2^l*(2*b)=b*2^(l+1):=by rw[Nat.pow_succ];simp only[Nat.mul_assoc,Nat.mul_comm]
  have lo:2^l*(2*b)≤a:=by rw[e3];exact h
  exact Hn (a:=a) (b:=2*b) rfl rfl (Nat.mul_pos (by decide) hb) (Nat.lt_of_lt_of_le (Nat.mul_lt_mul_of_pos_left Sb (by decide:0<2)) (by rw[←Nat.pow_succ'];exact Nat.pow_le_pow_right (by decide) (by decide))) hi1 (Nat.le_trans (Nat.le_mul_of_pos_left _ (p2 l)) lo) hp' fun w c o hw=>q 1 w c (by rw[e2];exact lo) (by rw[e2];exact hi1) o (by rw[e2];exact hw)
 ·have h:=Nat.lt_of_not_le fun z=>h (Int.ofNat_le.mpr z)
  rw[Nat.mul_comm]at h
  have e2:(b*2^0:Nat)=b:=Nat.mul_one _
  exact Hn (a:=a) (b:=b) rfl rfl hb (ac Sb (by decide)) h (Nat.le_trans (Nat.le_mul_of_pos_left _ pp) hi2) hp' fun w c o hw=>by
   have:=q 0 w c (by rw[e2];exact hi2) (by rw[e2];exact h) o (by rw[e2];exact hw)
   rw[show sh+((0:Nat):Int)=sh from Int.add_zero _]at this
   exact this
theorem Un{l y i:Nat}:l+(y+1+i)=y+(l+1)+i:=by lia
theorem Su{A B x y i j p:Nat}(hp:0<p)(a1:2^x≤A)(a2:A<2^(x+1))(b1:2^y≤B)(b2:B<2^(y+1))(h:x+j=y+p+i):A*2^j<2^p*(2*(B*2^i))∧2^(p-1)*(B*2^i)≤A*2^j:=by
 constructor
 ·calc A*2^j<2^(x+1)*2^j:=Nat.mul_lt_mul_of_pos_right a2 (p2 j)
   _=2^(x+j)*2:=by rw[Nat.pow_succ,Nat.pow_add,Nat.mul_right_comm]
   _=2^p*(2*(2^y*2^i)):=by rw[h,Nat.pow_add,Nat.pow_add,Nat.mul_comm,Nat.mul_comm (2^y),Nat.mul_assoc,Nat.mul_left_comm]
   _≤_:=Nat.mul_le_mul_left _ (Nat.mul_le_mul_left _ (Nat.mul_le_mul_right _ b1))
 ·obtain⟨l,rfl⟩:=Nat.exists_eq_succ_of_ne_zero (Nat.ne_of_gt hp)
  calc 2^l*(B*2^i)≤2^l*(2^(y+1)*2^i):=Nat.mul_le_mul_left _ (Nat.mul_le_mul_right _ (Nat.le_of_lt b2))
   _=2^(y+(l+1)+i):=by rw[←Nat.pow_add,←Nat.pow_add,Un]
   _=2^x*2^j:=by rw[←Nat.pow_add,h]
   _≤_:=Nat.mul_le_mul_right _ a1
theorem Ce{A B i j i' w c p:Nat}{e:Int}(h1:2^(p-1)*(B*2^i*2^i')≤A*2^j)(h2:A*2^j<2^p*(B*2^i*2^i'))(o:w%2=1)(h:rhe (A*2^j) (B*2^i*2^i')=w*2^c)(he:e=(i:Int)-j):ax p A B w (e+i'+c):=by
 rw[Nat.mul_assoc,←Nat.pow_add]at h1 h2 h
 refine⟨i+i',j,c,h1,h2,h,o,?_⟩
 rw[he,Int.natCast_add,Int.sub_eq_add_neg,Int.sub_eq_add_neg,Int.add_right_comm (i:Int)]
theorem Uo{x y p s:Nat}(h:((x+1:Nat):Int)-((y+1:Nat):Int)-p=s):x+0=y+p+s:=by lia
theorem Up{x y p s:Nat}(h:0-(((x+1:Nat):Int)-((y+1:Nat):Int)-p)=s):x+s=y+p+0:=by lia
theorem Hr{A B:Nat}(hp:0<p)(hp':p≤6)(hA:0<A)(hB:0<B)(bA:A<2^1500)(bB:B<2^1500)(q:∀(m:Nat) (e:Int),ax p A B m e→Q (.v (.tup [.int m,.int e])) st):
 CallK (R C4 T4 (n+2) (.v (.val (.ref 831))) [.v (.int p),.v (.int A),.v (.int B)] st) Q E:=by
 have iA:((A:Int))≠0:=Int.ofNat_ne_zero.mpr (Nat.ne_of_gt hA)
 have iB:((B:Int))≠0:=Int.ofNat_ne_zero.mpr (Nat.ne_of_gt hB)
 have a1:=r9 iA
 have a2:=oq (A:Int)
 have a3:sz (A:Int)≤1500:=fw (x:=(A:Int)) bA
 have b1:=r9 iB
 have b2:=oq (B:Int)
 have b3:sz (B:Int)≤1500:=fw (x:=(B:Int)) bB
 obtain⟨x,hx⟩:∃x,sz (A:Int)=x+1:=⟨_,dz iA⟩
 obtain⟨y,hy⟩:∃y,sz (B:Int)=y+1:=⟨_,dz iB⟩
 rw[Int.natAbs_natCast,hx]at a1 a2
 rw[Int.natAbs_natCast,hy]at b1 b2
 rw[hx]at a3
 rw[hy]at b3
 refine af rfl rfl ?_
 conv=>whnf
 rw[show(Builtin.Int.intBits (A:Int):Int)=((x+1:Nat):Int)from congrArg Nat.cast hx,show(Builtin.Int.intBits (B:Int):Int)=((y+1:Nat):Int)from congrArg Nat.cast hy]
 refine aj (fun h=>?_) (fun h=>?_)
 ·obtain⟨s,hs⟩:=Int.eq_ofNat_of_zero_le (Int.le_of_lt h)
  have h1:=Uo hs
  rw[hs]
  obtain⟨l1,l2⟩:=Su hp a1 a2 b1 b2 h1
  have sle:s≤1500:=Nat.le_trans (Nat.le_add_left s (y+p)) (by rw[←h1];exact Nat.le_trans (Nat.le_succ x) a3)
  conv=>whnf
  refine ae ?_ (Ho (x:=(B:Int)) (K:=1500) bB (by decide) (Nat.le_trans sle (by decide)))
  rw[Hp]
  exact Hq (a:=A*2^0) (b:=B*2^s) (by rw[Nat.pow_zero,Nat.mul_one]) rfl (Nat.mul_pos hB (p2 s)) (ac (iw s bB) (Nat.le_trans (Nat.add_le_add_left sle 1500) (by decide))) l1 l2 hp hp' fun i w c h1 h2 o hw=>q w _ (Ce h1 h2 o hw (Int.sub_zero _).symm)
 ·obtain⟨s,hs⟩:=Int.eq_ofNat_of_zero_le (Int.sub_nonneg_of_le (Int.not_lt.mp h))
  have h1:=Up hs
  obtain⟨l1,l2⟩:=Su hp a1 a2 b1 b2 h1
  have sle:s≤1600:=Nat.le_trans (Nat.le_add_left s x) (by rw[h1];show y+p≤1600;exact Nat.le_trans (Nat.add_le_add (Nat.le_trans (Nat.le_succ y) b3) hp') (by decide))
  conv=>whnf
  rw[hs]
  refine ae ?_ (Ho (x:=(A:Int)) (K:=1500) bA (by decide) (Nat.le_trans sle (by decide)))
  rw[Hp]
  have he:((x+1:Nat):Int)-((y+1:Nat):Int)-p=((0:Nat):Int)-s:=by rw[←hs];show _=0-(0-_);rw[Int.zero_sub,Int.zero_sub,Int.neg_neg]
  exact Hq (a:=A*2^s) (b:=B*2^0) rfl (by rw[Nat.pow_zero,Nat.mul_one]) (Nat.mul_pos hB (p2 0)) (ac (iw 0 bB) (by decide)) l1 l2 hp hp' fun i w c h1 h2 o hw=>q w _ (Ce h1 h2 o hw he)
end
section
variable {n N p:Nat} {a:Int} {b:Nat} {k:Bool} {st:Sto} {E:KV} {Q:KD}
theorem Rd.nz{m e:Int}{w:Nat}{e':Int}(h0:a≠0)(h:ax p a.natAbs b w e')(hm:m=a.sign*w)(he:e=e'):Rd p a b (rV m e):=.inr ⟨h0,w,e',h,by rw[hm,he]⟩
set_option tactic.hygienic true in
theorem de(hp:0<p)(hp':p≤6)(hb:0<b)(ba:a.natAbs<2^1500)(bb:b<2^1500)(q:∀m e,Rd p a b (rV m e)→Q (.v (shT true (frT m e) (frB e))) st):
 CallK (R C4 T4 (n+3) (.v (.val (.ref 859))) [.v (.int p),.v (shT k a b)] st) Q E:=by
 have fin:∀(w:Nat) (e:Int),a≠0→ax p a.natAbs b w e→∀F,∀m:Int,m=a.sign*w→go C4 T4 (n+1) (JT C4 T4 (n+1)) (fi 82).sc (bz st.length Q) (F+400) [.sts 64 ((fi 82).body.drop 3)] [] [(Str.ofString "precision",.v (.int p)),(Str.ofString "own",.v (shT k a b)),(Str.ofString "mantissa",.v (.int m)),(Str.ofString "exponent",.v (.int e))] st E:=by
  intro w e h0 hn F m hm
  have r:=Rd.nz h0 hn hm rfl
  have q:=q _ _ r
  obtain⟨m',e',hv,re⟩:=r.form hp hb ba bb
  obtain⟨rfl,rfl⟩:=cw hv
  have el:e.natAbs≤5000:=Nat.le_trans re.el (Nat.le_trans (Nat.add_le_add_left hp' 1500) (by decide))
  ((conv=>whnf);repeat'(first|((with_reducible apply aj)<;>(intro _;(conv=>whnf)))|((with_reducible apply ae);(conv=>whnf))))
  ·rename_i he
   rw[Hl he]at q
   exact aa q
  ·rename_i he
   exact Hm re.lt (Nat.le_trans hp' (by decide)) el he
  ·rename_i he
   rw[Int.one_mul,←Pq he]
   rw[Pp he]at q
   exact aa q
  ·rename_i he
   exact Pr el he
 refine af rfl rfl ?_
 ((conv=>whnf);repeat'((with_reducible apply bt)<;>(intro _;(conv=>whnf))))
 ·rename_i h
  subst h
  exact aa (q 0 0 (.inl ⟨rfl,rfl⟩))
 ·rename_i h
  have h:a≠0:=h
  rw[df]
  refine Hr hp hp' (Int.natAbs_pos.mpr h) hb ba bb fun w e hn=>?_
  conv=>whnf
  refine aj (fun h1=>?_) (fun h1=>?_)
  ·exact fin w e h hn _ _ (by rw[Int.sign_eq_neg_one_of_neg h1,Int.neg_one_mul,Int.zero_sub])
  ·exact fin w e h hn _ _ (by rw[Int.sign_eq_one_of_pos (Int.lt_iff_le_and_ne.mpr ⟨Int.not_lt.mp h1,Ne.symm h⟩),Int.one_mul])
end
noncomputable def opS:Op4→V
 |.add=>.str (Str.ofString "+")
 |.sub=>.str (Str.ofString "-")
 |.mul=>.str (Str.ofString "*")
 |.div=>.str (Str.ofString "/")
section
variable {n N p:Nat} {a a':Int} {b b':Nat} {k ka kb:Bool} {st:Sto} {E:KV} {Q:KD}
theorem Uq{x y z:Int}:x+ -1*y*z=x-y*z:=by rw[Int.mul_assoc,Int.neg_one_mul,Int.sub_eq_add_neg]
theorem smL{x:Int}{K:Nat}(h:x.natAbs<2^K)(hK:K≤4000):Sm x:=ac h hK
theorem ag{x y:Str}(hx:PyData.strOk x=true)(hy:PyData.strOk y=true):nu x y=true:=by simp[nu,SeqAt.shaped,PyData.canLay0,PyData.depth,hx,hy]
theorem n5:PyData.strOk (Str.ofString "+")=true:=by kernel_rfl
theorem f9:PyData.strOk (Str.ofString "-")=true:=by kernel_rfl
theorem gc:PyData.strOk (Str.ofString "*")=true:=by kernel_rfl
theorem ew:PyData.strOk (Str.ofString "/")=true:=by kernel_rfl
theorem sm1:Sm 1:=ac (k:=1) (by decide) (by decide)
theorem smM:Sm (-1):=ac (k:=1) (by decide) (by decide)
theorem Sm.neg{x:Int}(h:Sm x):Sm (-x):=by unfold Sm;rw[Int.natAbs_neg];exact h
theorem Lw'.bd{x:Int×Int}{T:Int}{D X:Nat}(hn:x.2≠0)(x1:x.1.natAbs<2^X)(x2:x.2.natAbs<2^X)(L:Lw' x T D):0<D∧T.natAbs<2^X∧D<2^X:=by
 obtain⟨y1,y2⟩:=Lw.le (Int.natCast_pos.mpr (Int.natAbs_pos.mpr hn)) L
 exact⟨Int.natCast_pos.mp L.d0,Nat.lt_of_le_of_lt (Nat.le_trans y1 Aj) x1,Nat.lt_of_le_of_lt y2 x2⟩
theorem Cf{x:Int×Int}{T:Int}{D p:Nat}{v:V}(hn:x.2≠0)(d0:0<D)(L:Lw' x T D)(r:Rd p T D v):Rd' p x v:=Rd.congr d0 (Int.natAbs_pos.mpr hn) L.v r
theorem Hs{o:Op4}(hp:0<p)(hp':p≤6)(hb:0<b)(hb':0<b')(h0:o=.div→a'≠0)(l1:a.natAbs<2^730)(l2:b<2^730)(l3:a'.natAbs<2^730)(l4:b'<2^730)
 (q0:k=false→∀(T:Int) (D:Nat),Lw' (Ar o a b a' b') T D→Q (.v (shT false T D)) st)
 (q1:k=true→∀m e,Rd' p (Ar o a b a' b') (rV m e)→Q (.v (shT true (frT m e) (frB e))) st):
 go C4 T4 (n+3) (JT C4 T4 (n+3)) (fi 83).sc (bz st.length Q) (N+1200) [.sts 64 ((fi 83).body.drop 2)] [] [(Str.ofString "precision",.v (.int p)),(Str.ofString "word",.v (opS o)),(Str.ofString "one",.v (shT ka a b)),(Str.ofString "other",.v (shT kb a' b')),(Str.ofString "is_exact_too",.v (.bool !k))] st E:=by
 have hn:=uh (o:=o) (a:=a) hb hb' h0
 obtain⟨x1,x2⟩:=Hh (o:=o) l1 l2 l3 l4
 have sa:=smL l1 (by decide)
 have sb:Sm (b:Int):=smL (x:=(b:Int)) l2 (by decide)
 have sa':=smL l3 (by decide)
 have sb':Sm (b':Int):=smL (x:=(b':Int)) l4 (by decide)
 cases o
 ·((conv=>whnf);repeat'((with_reducible apply ae);(conv=>whnf)))
  ·rw[Int.one_mul]
   refine yi (hn) (smL x1 (by decide)) (smL x2 (by decide)) fun T D L=>?_
   obtain⟨D,rfl⟩:=Int.eq_ofNat_of_zero_le (Int.le_of_lt L.d0)
   cases k with
   |false=>
    conv=>whnf
    exact aa (q0 rfl T D L)
   |true=>
    obtain⟨d0,t1,t2⟩:=Lw'.bd hn x1 x2 L
    conv=>whnf
    refine de (k:=false) hp hp' d0 (ac t1 (by decide)) (ac t2 (by decide)) fun m e r=>?_
    conv=>whnf
    exact aa (q1 rfl m e (Cf hn d0 L r))
  ·exact am sb sb'
  ·exact am (by rw[Int.one_mul];exact sa') sb
  ·exact am sm1 sa'
  ·exact am sa sb'
  all_goals first|exact ag n5 f9|exact ag n5 ew|exact ag n5 gc|exact ag f9 f9|exact ag f9 ew|exact ag f9 gc|exact ag gc gc|exact ag ew gc|exact ag ew ew
 ·((conv=>whnf);repeat'((with_reducible apply ae);(conv=>whnf)))
  ·rw[Uq]
   refine yi (hn) (smL x1 (by decide)) (smL x2 (by decide)) fun T D L=>?_
   obtain⟨D,rfl⟩:=Int.eq_ofNat_of_zero_le (Int.le_of_lt L.d0)
   cases k with
   |false=>
    conv=>whnf
    exact aa (q0 rfl T D L)
   |true=>
    obtain⟨d0,t1,t2⟩:=Lw'.bd hn x1 x2 L
    conv=>whnf
    refine de (k:=false) hp hp' d0 (ac t1 (by decide)) (ac t2 (by decide)) fun m e r=>?_
    conv=>whnf
    exact aa (q1 rfl m e (Cf hn d0 L r))
  ·exact am sb sb'
  ·exact am (by rw[Int.neg_one_mul];exact sa'.neg) sb
  ·exact am smM sa'
  ·exact am sa sb'
  all_goals first|exact ag n5 f9|exact ag n5 ew|exact ag n5 gc|exact ag f9 f9|exact ag f9 ew|exact ag f9 gc|exact ag gc gc|exact ag ew gc|exact ag ew ew
 ·((conv=>whnf);repeat'((with_reducible apply ae);(conv=>whnf)))
  ·refine yi (hn) (smL x1 (by decide)) (smL x2 (by decide)) fun T D L=>?_
   obtain⟨D,rfl⟩:=Int.eq_ofNat_of_zero_le (Int.le_of_lt L.d0)
   cases k with
   |false=>
    conv=>whnf
    exact aa (q0 rfl T D L)
   |true=>
    obtain⟨d0,t1,t2⟩:=Lw'.bd hn x1 x2 L
    conv=>whnf
    refine de (k:=false) hp hp' d0 (ac t1 (by decide)) (ac t2 (by decide)) fun m e r=>?_
    conv=>whnf
    exact aa (q1 rfl m e (Cf hn d0 L r))
  ·exact am sb sb'
  ·exact am sa sa'
  all_goals first|exact ag n5 f9|exact ag n5 ew|exact ag n5 gc|exact ag f9 f9|exact ag f9 ew|exact ag f9 gc|exact ag gc gc|exact ag ew gc|exact ag ew ew
 ·((conv=>whnf);repeat'((with_reducible apply ae);(conv=>whnf)))
  ·refine yi (hn) (smL x1 (by decide)) (smL x2 (by decide)) fun T D L=>?_
   obtain⟨D,rfl⟩:=Int.eq_ofNat_of_zero_le (Int.le_of_lt L.d0)
   cases k with
   |false=>
    conv=>whnf
    exact aa (q0 rfl T D L)
   |true=>
    obtain⟨d0,t1,t2⟩:=Lw'.bd hn x1 x2 L
    conv=>whnf
    refine de (k:=false) hp hp' d0 (ac t1 (by decide)) (ac t2 (by decide)) fun m e r=>?_
    conv=>whnf
    exact aa (q1 rfl m e (Cf hn d0 L r))
  ·exact am sb sa'
  ·exact am sa sb'
  all_goals first|exact ag n5 f9|exact ag n5 ew|exact ag n5 gc|exact ag f9 f9|exact ag f9 ew|exact ag f9 gc|exact ag gc gc|exact ag ew gc|exact ag ew ew
end
section
variable {n N M p:Nat} {a a':Int} {b b':Nat} {k k':Bool} {st:Sto} {E:KV} {Q:KD}
theorem Kz{o:Op4}(hp:0<p)(hp':p≤6)(hb:0<b)(hb':0<b')(h0:o=.div→a'≠0)(l1:a.natAbs<2^700)(l2:b<2^700)(l3:a'.natAbs<2^700)(l4:b'<2^700)
 (q:∀(A:Int) (B:Nat),St p o a b a' b' A B (k||k')→Q (.v (shT (k||k') A B)) st):
 CallK (R C4 T4 (n+5) (.v (.val (.ref 866))) [.v (.int p),.v (opS o),.v (shT k a b),.v (shT k' a' b')] st) Q E:=by
 have re:(k||k')=true→∀F,go C4 T4 (n+3) (JT C4 T4 (n+3)) (fi 83).sc (bz st.length Q) (F+1600) [.sts 64 ((fi 83).body.drop 1)] [] [(Str.ofString "precision",.v (.int p)),(Str.ofString "word",.v (opS o)),(Str.ofString "one",.v (shT k a b)),(Str.ofString "other",.v (shT k' a' b')),(Str.ofString "is_exact_too",.v (.bool false))] st E:=by
  intro hk F
  rw[hk]at q
  conv=>whnf
  refine de hp hp' hb (ac l1 (by decide)) (ac l2 (by decide)) fun m e r=>?_
  conv=>whnf
  refine de hp hp' hb' (ac l3 (by decide)) (ac l4 (by decide)) fun m' e' r'=>?_
  have h:=r.form hp hb l1 l2
  have h':=r'.form hp hb' l3 l4
  obtain⟨x,y,hv,h⟩:=h
  obtain⟨rfl,rfl⟩:=cw hv
  obtain⟨x,y,hv,h'⟩:=h'
  obtain⟨rfl,rfl⟩:=cw hv
  have le:p+(700+p)≤730:=Nat.le_trans (Nat.add_le_add hp' (Nat.add_le_add_left hp' 700)) (by decide)
  conv=>whnf
  exact Hs (k:=true) (o:=o) hp hp' ah ah (fun z=>vy (r'.ne (h0 z))) (ac h.ltT le) (ac (h.ltB hp) le) (ac h'.ltT le) (ac (h'.ltB hp) le) (fun z=>nomatch z) fun o_ x y R=>q _ _ ⟨_,_,_,_,_,_,r,r',R,rfl,rfl⟩
 refine af rfl rfl ?_
 conv=>whnf
 cases k with
 |true=>
  conv=>whnf
  exact re rfl _
 |false=>
  conv=>whnf
  cases k' with
  |true=>
   exact re rfl _
  |false=>
   exact Hs (k:=false) (o:=o) hp hp' hb hb' h0 (ac l1 (by decide)) (ac l2 (by decide)) (ac l3 (by decide)) (ac l4 (by decide)) (fun o_ T D L=>q _ _ L) fun z=>nomatch z
end
set_option genCtorIdx false in
structure Tr where
 k:Bool
 a:Int
 b:Nat
noncomputable def shV(t:Tr):V:=shT t.k t.a t.b
noncomputable def NbT(N p:Nat)(v:V)(t:Tr):Prop:=Nb N p v t.a t.b t.k
inductive Nl (N p:Nat):List V→List Tr→Prop
 |nil:Nl N p [] []
 |cons {v:V} {t:Tr} {l:List V} {r:List Tr}:NbT N p v t→Nl N p l r→Nl N p (v::l) (t::r)
inductive Fo (p:Nat) (o:Op4):Tr→List Tr→Option Tr→Prop
 |nil {f:Tr}:Fo p o f [] (some f)
 |z {f t:Tr} {r:List Tr}:o=.div→t.a=0→Fo p o f (t::r) none
 |st {f t g:Tr} {r:List Tr} {x:Option Tr}:(o=.div→t.a≠0)→g.k=(f.k||t.k)→St p o f.a f.b t.a t.b g.a g.b g.k→Fo p o g r x→Fo p o f (t::r) x
noncomputable def TB(t:Tr):Prop:=0<t.b
theorem Nb.rd{N p:Nat}{v:V}{a m e:Int}{b:Nat}{k:Bool}(hp:0<p)(h:Nb N p v a b k)(r:Rd p a b (rV m e)):Re (N+p) p m e:=by
 cases h with
 |ex h1 h2 h3 h4=>
  obtain⟨x,y,hv,re⟩:=r.form hp h2 h1 h3
  obtain⟨rfl,rfl⟩:=cw hv
  exact re
 |re h=>
  obtain⟨rfl,rfl⟩:=cw (Rd.unique hp ah r h.rd)
  exact h.mono (Nat.le_add_right ..)
theorem St.nb{N M p:Nat}{o:Op4}{v v':V}{a a' A:Int}{b b' B:Nat}{k k':Bool}(hp:0<p)(hp':p≤6)(h0:o=.div→a'≠0)(h:Nb N p v a b k)(h':Nb M p v' a' b' k')(s:St p o a b a' b' A B (k||k')):∃w,Nb (up N M) p w A B (k||k'):=by
 by_cases hk:(k||k')=true
 ·rw[hk]at s ⊢
  obtain⟨m,e,m',e',x,y,r,r',R,rfl,rfl⟩:=s
  obtain⟨A,B,n1,m2,e2,m3,e3,x2,y2,t1,t2,t3,rfl,rfl⟩:=so hp hp' r r' (h.rd hp r) (h'.rd hp r') h0 R
  obtain⟨rfl,rfl⟩:=cw (Rd.unique hp h.b0 r t1)
  obtain⟨rfl,rfl⟩:=cw (Rd.unique hp h'.b0 r' t2)
  have hn:=uh (o:=o) (a:=frT m e) (b:=frB e) (a':=frT m' e') (b':=frB e') ah ah fun h=>vy (r'.ne (h0 h))
  obtain⟨rfl,rfl⟩:=cw (Rd.unique hp (Int.natAbs_pos.mpr hn) R t3)
  exact⟨_,n1⟩
 ·obtain⟨rfl,rfl⟩:k=false∧k'=false:=by cases k<;>cases k'<;>first|exact⟨rfl,rfl⟩|exact absurd rfl hk
  obtain⟨rfl,x1,x2,x3,x4⟩:=h.exact
  obtain⟨rfl,y1,y2,y3,y4⟩:=h'.exact
  obtain⟨B',e1,n1,s1⟩:=sk (p:=p) (o:=o) x2 y2 h0 x1 x3 y1 y3 s
  obtain rfl:=Int.ofNat_inj.mp e1
  exact⟨_,n1⟩
theorem Nl.b0{N p:Nat}{l:List V}{r:List Tr}(h:Nl N p l r):∀t∈r,TB t:=by
 induction h with
 |nil=>exact fun o_ h=>nomatch h
 |cons h _ ih=>exact fun t ht=>(List.mem_cons.mp ht).elim (fun e=>e▸Nb.b0 h) (ih t)
theorem Nl.len{N p:Nat}{l:List V}{r:List Tr}(h:Nl N p l r):l.length=r.length:=by
 induction h with
 |nil=>rfl
 |cons _ _ ih=>exact congrArg Nat.succ ih
theorem St.b0{p:Nat}{o:Op4}{a a' A:Int}{b b' B:Nat}{k:Bool}(s:St p o a b a' b' A B k):0<B:=by
 cases k with
 |true=>obtain⟨_,_,_,_,_,_,_,_,_,_,rfl⟩:=s;exact ah
 |false=>exact Int.natCast_pos.mp (Lw.d0 s)
theorem Fo.unique{p:Nat}{o:Op4}{f:Tr}{r:List Tr}{x y:Option Tr}(hp:0<p)(hf:TB f)(hr:∀t∈r,TB t)(h:Fo p o f r x)(h':Fo p o f r y):x=y:=by
 induction h with
 |nil=>cases h';rfl
 |z e z=>
  cases h' with
  |z=>rfl
  |st h=>exact absurd z (h e)
 |@st f t g r x n k s h ih=>
  cases h' with
  |z e z=>exact absurd z (n e)
  |@st _ _ g' _ _ n' k' s' h'=>
   obtain⟨gk,ga,gb⟩:=g
   obtain⟨gk',ga',gb'⟩:=g'
   obtain rfl:gk=gk':=k.trans k'.symm
   obtain⟨e1,e2⟩:=s.unique hp hf (hr t (List.mem_cons_self ..)) n s'
   obtain rfl:ga=ga':=e1
   obtain rfl:gb=gb':=e2
   exact ih s.b0 (fun t ht=>hr t (List.mem_cons_of_mem _ ht)) h'
noncomputable def lev(j:Nat):Nat:=8+48*j
noncomputable def FoI(p:Nat)(o:Op4)(f₀:Tr)(r₀:List Tr)(f:Tr)(r:List Tr):Prop:=
 (∃v j,NbT (lev j) p v f∧j+r.length≤5)∧∀x,Fo p o f r x→Fo p o f₀ r₀ x
theorem FoI.lv{j n:Nat}(h:j+n≤5):lev j≤290:=Nat.le_trans (Nat.add_le_add_left (Nat.mul_le_mul_left 48 (Nat.le_trans (Nat.le_add_right ..) h)) 8) (by decide)
noncomputable def tc:Option Tr→V
 |some t=>shV t
 |none=>.str (Str.ofString "zero")
noncomputable def Ow(s:String)(ow:En):Prop:=ow=[]∨∃y,ow=[(Str.ofString s,y)]
theorem K0{s:String}{ow:En}{M:En→Prop}{P:Prop}(h:Ow s ow)(p:P)(a:P→M [])(b:P→∀y,M [(Str.ofString s,y)]):M ow:=by
 rcases h with rfl|⟨y,rfl⟩
 ·exact a p
 ·exact b p y
section
variable {n N M p:Nat} {o:Op4} {f g t:Tr} {v w:V} {vs:List V} {ts r:List Tr} {st:Sto} {E:KV} {Q:KD}
theorem FoI.step{f₀:Tr}{r₀:List Tr}(hp:0<p)(hp':p≤6)(h:FoI p o f₀ r₀ f (t::r))(h0:o=.div→t.a≠0)(ht:NbT 8 p v t)(hk:g.k=(f.k||t.k))(s:St p o f.a f.b t.a t.b g.a g.b g.k):FoI p o f₀ r₀ g r:=by
 obtain⟨⟨w,j,hw,hj⟩,hF⟩:=h
 obtain⟨gk,ga,gb⟩:=g
 obtain rfl:gk=(f.k||t.k):=hk
 obtain⟨x,hx⟩:=s.nb hp hp' h0 hw ht
 refine⟨⟨x,j+1,?_,?_⟩,fun y hy=>hF y (.st h0 rfl s hy)⟩
 ·have e:lev (j+1)=up (lev j) 8:=rfl
  rw[e];exact hx
 ·rw[Nat.add_right_comm];exact hj
theorem FoI.lt{f₀:Tr}{r₀:List Tr}(hp:0<p)(hp':p≤6)(h:FoI p o f₀ r₀ f r):0<f.b∧f.a.natAbs<2^700∧f.b<2^700:=by
 obtain⟨⟨w,j,hw,hj⟩,_⟩:=h
 obtain⟨h1,h2⟩:=Nb.lt hp hw
 have le:p+lev j≤700:=Nat.le_trans (Nat.add_le_add hp' (FoI.lv hj)) (by decide)
 exact⟨Nb.b0 hw,ac h1 le,ac h2 le⟩
noncomputable def lfE(p:Nat)(o:Op4)(f:Tr)(rest:V):En:=[(Str.ofString "precision",.v (.int p)),(Str.ofString "word",.v (opS o)),(Str.ofString "first",.v (shV f)),(Str.ofString "rest",.v rest)]
noncomputable def fbd:Stmt→List Stmt
 |.For _ _ b _ _=>b
 |.While _ b _ _=>b
 |_=>[]
inductive LfI (p:Nat) (o:Op4) (f:Tr) (ts:List Tr) (st:Sto) (l:List V) (ρ:En) (s:Sto):Prop
 |mk:s=st→∀g r vs' ow,l=r.map shV→Nl 8 p vs' r→FoI p o f ts g r→ρ=lfE p o g (.lst (ts.map shV))++ow→Ow "own" ow→LfI p o f ts st l ρ s
set_option tactic.hygienic true in
theorem kh(hp:0<p)(hp':p≤6)(hf:NbT 8 p v f)(hl:Nl 8 p vs ts)(len:ts.length≤5)(q:∀x,Fo p o f ts x→Q (.v (tc x)) st):
 CallK (R C4 T4 (n+7) (.v (.val (.ref 873))) [.v (.int p),.v (opS o),.v (shV f),.v (.lst (ts.map shV))] st) Q E:=by
 refine af rfl rfl ?_
 conv=>whnf
 refine ja (LfI p o f ts st) ⟨rfl,f,ts,vs,[],rfl,hl,⟨⟨v,0,hf,by rw[Nat.zero_add];exact len⟩,fun o_ h=>h⟩,rfl,.inl rfl⟩ (fun ρ s hI=>?_) fun x l ρ s hI=>?_
 ·obtain⟨rfl,g,r,vs',ow,hr,hl,hF,rfl,ho⟩:=hI
  obtain rfl:r=[]:=List.map_eq_nil_iff.mp hr.symm
  conv=>whnf
  exact aa (q (some g) (hF.2 _ .nil))
 ·obtain⟨rfl,g,r,vs',ow,hr,hl,hF,rfl,ho⟩:=hI
  cases hl with
  |nil=>exact nomatch hr
  |@cons v t l' r ht hl=>
  injection hr with h1 h2
  subst h1 h2
  refine⟨lfE p o g (.lst (ts.map shV))++[(Str.ofString "own",.v (shV t))],?_,?_⟩
  ·rcases ho with rfl|⟨y,rfl⟩<;>rfl
  have cont:(o=.div→t.a≠0)→∀F K,go C4 T4 (n+5) (JT C4 T4 (n+5)) (fi 84).sc (again (LfI p o f ts s (r.map shV)) K) (F+400) [.sts 63 ((fbd (yt (fi 84).body 0)).drop 1)] [] (lfE p o g (.lst (ts.map shV))++[(Str.ofString "own",.v (shV t))]) s NoE:=by
   intro h0 F K
   obtain⟨b1,l1,l2⟩:=hF.lt hp hp'
   obtain⟨l3,l4⟩:=Nb.lt hp ht
   have le:p+8≤700:=Nat.le_trans (Nat.add_le_add_right hp' 8) (by decide)
   conv=>whnf
   refine Kz (o:=o) hp hp' b1 (Nb.b0 ht) h0 l1 l2 (ac l3 le) (ac l4 le) fun A B h=>?_
   conv=>whnf
   exact⟨rfl,⟨_,A,B⟩,r,l',_,rfl,hl,hF.step hp hp' h0 ht rfl h,rfl,.inr ⟨_,rfl⟩⟩
  cases o
  iterate 3
   ·((conv=>whnf);repeat'((with_reducible apply ae);(conv=>whnf)))
    ·exact cont (fun z=>nomatch z) _ _
    ·first|exact ag n5 ew|exact ag f9 ew|exact ag gc ew
  ·((conv=>whnf);repeat'(first|((with_reducible apply bt)<;>(intro _;(conv=>whnf)))|((with_reducible apply ae);(conv=>whnf))))
   ·rename_i h
    exact aa (q none (hF.2 _ (.z rfl h)))
   ·rename_i h
    exact cont (fun o_=>h) _ _
   ·exact ag ew ew
end
section
variable {n N M p:Nat} {f g t:Tr} {v w:V} {vs:List V} {ts r:List Tr} {st:Sto} {E:KV} {Q:KD}
inductive TfI (p:Nat) (o:Op4) (f:Tr) (ts:List Tr) (base:V→En) (st:Sto) (l:List V) (ρ:En) (s:Sto):Prop
 |mk:s=st→∀g w j r ow,Nl 8 p l r→NbT (lev j) p w g→j+r.length≤5→(∀x,Fo p o g r x→Fo p o f ts x)→ρ=base w++ow→Ow "number" ow→TfI p o f ts base st l ρ s
theorem v0{j n:Nat}(h:j+n≤5):lev j≤248:=Nat.le_trans (Nat.add_le_add_left (Nat.mul_le_mul_left 48 (Nat.le_trans (Nat.le_add_right ..) h)) 8) (by decide)
theorem Al{i:Int}(h:i.natAbs<2^8):NbT 8 p (.int i) ⟨false,i,1⟩:=by
 have:Nb 8 p (nV i 1) i 1 false:=.ex h (by decide) (by decide) (Int.gcd_one_right _)
 rwa [nV1]at this
noncomputable def Sv(p:Nat)(l:List V)(w:V):En:=[(Str.ofString "self",.v (tw p)),(Str.ofString "numbers",.v (.lst l)),(Str.ofString "found",.v w)]
theorem Sx(hp:0<p)(hp':p≤6)(hl:Nl 8 p vs ts)(len:ts.length≤5)(q:∀w g,NbT 248 p w g→Fo p .add ⟨false,0,1⟩ ts (some g)→Q (.v w) st):
 CallK (R C4 T4 (n+9) (.v (.val (.ref 679))) [.v (tw p),.v (.lst vs)] st) Q E:=by
 refine af rfl rfl ?_
 conv=>whnf
 refine ja (TfI p .add ⟨false,0,1⟩ ts (Sv p vs) st) ⟨rfl,_,.int 0,0,ts,[],hl,Al (by decide),by rw[Nat.zero_add];exact len,fun o_ h=>h,rfl,.inl rfl⟩ (fun ρ s hI=>?_) fun x l ρ s hI=>?_
 ·obtain⟨rfl,g,w,j,r,ow,hl,hw,hj,hF,rfl,ho⟩:=hI
  cases hl
  conv=>whnf
  exact aa (q w g (hw.mono (v0 hj)) (hF _ .nil))
 ·obtain⟨rfl,g,w,j,r,ow,hl,hw,hj,hF,rfl,ho⟩:=hI
  cases hl with
  |@cons v t l' r ht hl=>
  refine⟨Sv p vs w++[(Str.ofString "number",.v x)],?_,?_⟩
  ·rcases ho with rfl|⟨y,rfl⟩<;>rfl
  conv=>whnf
  refine Ks hp hp' (FoI.lv hj) (by decide) hw ht fun z A B h s'=>?_
  conv=>whnf
  exact⟨rfl,⟨_,A,B⟩,z,j+1,r,_,hl,h,by rw[Nat.add_right_comm];exact hj,fun y hy=>hF y (.st (fun z=>nomatch z) rfl s' hy),rfl,.inr ⟨_,rfl⟩⟩
noncomputable def Mu(p:Nat)(l:List V)(w:V):En:=[(Str.ofString "self",.v (tw p)),(Str.ofString "numbers",.v (.lst l)),(Str.ofString "found",.v w)]
theorem Pt(hp:0<p)(hp':p≤6)(hl:Nl 8 p vs ts)(len:ts.length≤5)(q:∀w g,NbT 248 p w g→Fo p .mul ⟨false,1,1⟩ ts (some g)→Q (.v w) st):
 CallK (R C4 T4 (n+9) (.v (.val (.ref 686))) [.v (tw p),.v (.lst vs)] st) Q E:=by
 refine af rfl rfl ?_
 conv=>whnf
 refine ja (TfI p .mul ⟨false,1,1⟩ ts (Mu p vs) st) ⟨rfl,_,.int 1,0,ts,[],hl,Al (by decide),by rw[Nat.zero_add];exact len,fun o_ h=>h,rfl,.inl rfl⟩ (fun ρ s hI=>?_) fun x l ρ s hI=>?_
 ·obtain⟨rfl,g,w,j,r,ow,hl,hw,hj,hF,rfl,ho⟩:=hI
  cases hl
  conv=>whnf
  exact aa (q w g (hw.mono (v0 hj)) (hF _ .nil))
 ·obtain⟨rfl,g,w,j,r,ow,hl,hw,hj,hF,rfl,ho⟩:=hI
  cases hl with
  |@cons v t l' r ht hl=>
  refine⟨Mu p vs w++[(Str.ofString "number",.v x)],?_,?_⟩
  ·rcases ho with rfl|⟨y,rfl⟩<;>rfl
  conv=>whnf
  refine Kv hp hp' (FoI.lv hj) (by decide) hw ht fun z A B h s'=>?_
  conv=>whnf
  exact⟨rfl,⟨_,A,B⟩,z,j+1,r,_,hl,h,by rw[Nat.add_right_comm];exact hj,fun y hy=>hF y (.st (fun z=>nomatch z) rfl s' hy),rfl,.inr ⟨_,rfl⟩⟩
end
theorem Am{k:Int}{n:Nat}(j:Nat)(hj:j<n)(e:(if k<0 then k+n else k)=(j:Int)):seqIndex? k n=some j:=by
 show(if(decide (0≤(if k<0 then k+n else k))&&decide ((if k<0 then k+n else k)<(n:Int)))=true then some (if k<0 then k+n else k).toNat else none)=_
 rw[e,decide_eq_true (Int.natCast_nonneg j),decide_eq_true (Int.ofNat_lt.mpr hj)]
 rfl
theorem szL{n:Nat}(h:n≤6):cf n=true:=decide_eq_true (Nat.le_trans h (by decide))
theorem kr{v:V}{vs:List V}{st:Sto}:kt (.v (.lst (v::vs))) (.v (.int 0)) st=some v:=by
 show f5 (v::vs) 0=some v
 unfold f5
 rw[if_pos ⟨by decide,by decide⟩,Am 0 (show 0<(v::vs).length from Nat.succ_pos _) rfl]
 rfl
theorem Sy{v:V}{vs:List V}(h:((v::vs).length:Int)=1):vs=[]:=List.length_eq_zero_iff.mp (Nat.succ.inj (Int.ofNat_inj.mp h))
section
variable {n N M p:Nat} {f g t:Tr} {v w:V} {vs:List V} {ts r:List Tr} {s:Str} {st:Sto} {E:KV} {Q:KD}
theorem K1(h:NbT 8 p v t)(q:∀w,Nb 8 p w (-t.a) t.b t.k→Q (.v w) st):CallK (R C4 T4 (n+9) (.v (.val (.ref 693))) [.v (tw p),.v (.lst [v])] st) Q E:=by
 refine af rfl rfl ?_
 conv=>whnf
 refine ae ?_ (szL (Nat.le_of_ble_eq_true rfl))
 conv=>whnf
 refine Cd h fun w hw=>?_
 conv=>whnf
 exact aa (q w hw)
theorem K2(hp:0<p)(hp':p≤6)(h:NbT 8 p v t)(q0:t.a=0→E (dzV s) st)(q:t.a≠0→∀w A B,Nb (up 8 8) p w A B t.k→St p .div 1 1 t.a t.b A B t.k→Q (.v w) st):CallK (R C4 T4 (n+9) (.v (.val (.ref 700))) [.v (tw p),.v (.lst [v]),.v (.str s)] st) Q E:=by
 refine af rfl rfl ?_
 conv=>whnf
 refine ae ?_ (szL (Nat.le_of_ble_eq_true rfl))
 conv=>whnf
 by_cases h0:t.a=0
 ·exact yh h h0 (q0 h0)
 ·refine Cc (k:=false) hp hp' (by decide) (by decide) (Al (p:=p) (i:=1) (by decide)) h h0 fun w A B hw hs=>?_
  conv=>whnf
  exact aa (q h0 w A B hw hs)
noncomputable def Mv(p:Nat)(l:List V)(w:V):En:=[(Str.ofString "self",.v (tw p)),(Str.ofString "numbers",.v (.lst l)),(Str.ofString "found",.v w)]
theorem Pu(hp:0<p)(hp':p≤6)(h:NbT 8 p v t)(hl:Nl 8 p vs ts)(hv:vs≠[])(len:ts.length≤5)(q:∀w g,NbT 248 p w g→Fo p .sub t ts (some g)→Q (.v w) st):
 CallK (R C4 T4 (n+9) (.v (.val (.ref 693))) [.v (tw p),.v (.lst (v::vs))] st) Q E:=by
 refine af rfl rfl ?_
 conv=>whnf
 refine ae ?_ (szL (Nat.succ_le_succ (by rw[hl.len];exact len)))
 conv=>whnf
 refine aj (fun z=>absurd (Sy z) hv) fun o_=>?_
 conv=>whnf
 rw[kr]
 conv=>whnf
 refine ae ?_ (szL (Nat.succ_le_succ (by rw[hl.len];exact len)))
 conv=>whnf
 refine ja (TfI p .sub t ts (Mv p (v::vs)) st) ⟨rfl,t,v,0,ts,[],hl,h,by rw[Nat.zero_add];exact len,fun o_ h=>h,rfl,.inl rfl⟩ (fun ρ st' hI=>?_) fun x l ρ st' hI=>?_
 ·obtain⟨rfl,g,w,j,r,ow,hl,hw,hj,hF,rfl,ho⟩:=hI
  cases hl
  conv=>whnf
  exact aa (q w g (hw.mono (v0 hj)) (hF _ .nil))
 ·obtain⟨rfl,g,w,j,r,ow,hl,hw,hj,hF,rfl,ho⟩:=hI
  cases hl with
  |@cons _ t' l' r ht hl=>
  refine⟨Mv p (v::vs) w++[(Str.ofString "number",.v x)],?_,?_⟩
  ·rcases ho with rfl|⟨y,rfl⟩<;>rfl
  conv=>whnf
  refine Ku hp hp' (FoI.lv hj) (by decide) hw ht fun z A B h s'=>?_
  conv=>whnf
  exact⟨rfl,⟨_,A,B⟩,z,j+1,r,_,hl,h,by rw[Nat.add_right_comm];exact hj,fun y hy=>hF y (.st (fun z=>nomatch z) rfl s' hy),rfl,.inr ⟨_,rfl⟩⟩
end
noncomputable def wkV(s:Str)(i:Int)(v:V):V:=.inst 58 ["word","irritants","name","place","datum"] [.str (Str.ofString "WrongKind"),.lst [.str s,.int i,v],.str s,.int i,v]
noncomputable def cy(l:List Tr):Bool:=l.any Tr.k
theorem frB_one{e:Int}:frB e=1↔0≤e:=by
 refine⟨fun h=>?_,Hl⟩
 refine Decidable.byContradiction fun he=>?_
 unfold frB at h
 refine absurd h (Nat.ne_of_gt (Nat.one_lt_two_pow fun z=>he ?_))
 exact Int.nonneg_of_neg_nonpos (Int.toNat_eq_zero.mp z)
theorem ui{t:Tr}{l:List Tr}:cy (t::l)=(t.k||cy l):=List.any_cons
section
variable {n:Nat} {t u c m e m' e' w:Int} {b b' N p P:Nat} {v v':V} {a a':Int} {k k':Bool} {st:Sto} {E:KV} {Q:KD}
set_option tactic.hygienic true in
theorem D6(hp':p≤6)(hN:N≤800)(h:Re N p m e)(q:Q (.v (.tup [.int (frT m e),.int (frB e)])) st):CallK (R C4 T4 (n+2) (.v (.val (.ref 182))) [.v (rV m e)] st) Q E:=by
 have el:e.natAbs≤5000:=Nat.le_trans h.el (Nat.le_trans hN (by decide))
 refine af rfl rfl ?_
 ((conv=>whnf);repeat'(first|((with_reducible apply aj)<;>(intro _;(conv=>whnf)))|((with_reducible apply ae);(conv=>whnf))))
 ·rename_i he
  rw[Hl he]at q
  exact aa q
 ·rename_i he
  exact Hm h.lt (Nat.le_trans hp' (by decide)) el he
 ·rename_i he
  rw[Int.one_mul,←Pq he]
  rw[Pp he]at q
  exact aa q
 ·rename_i he
  exact Pr el he
set_option tactic.hygienic true in
theorem K3{A B:Int}(hB:0<B)(sA:Bg A)(sB:Bg B)(g:Int.gcd A B=1)(q:Q (.v (nV A B)) st):CallK (R C4 T4 (n+3) (.v (.val (.ref 350))) [.v (.int A),.v (.int B)] st) Q E:=by
 refine af rfl rfl ?_
 ((conv=>whnf);repeat'((with_reducible apply aj)<;>(intro _;(conv=>whnf))))
 ·rename_i h;exact absurd h (Int.not_lt.mpr (Int.le_of_lt hB))
 ·refine om sA sB ?_
  rw[g]
  ((conv=>whnf);repeat'((with_reducible first|apply ae|apply li);(conv=>whnf)))
  ·have:∀x:Int,x.fdiv ((1:Nat):Int)=x:=fun x=>by rw[av,Int.natCast_one,Int.ediv_one]
   rw[this,this];exact aa q
  all_goals exact ed (by decide) (ac (k:=1) (by decide) (by decide))
theorem kj(hp:0<p)(hp':p≤6)(hN:N≤800)(h:Nb N p v a b k)(q:Q (.v (nV a b)) st):CallK (R C4 T4 (n+4) (.v (.val (.ref 490))) [.v v] st) Q E:=by
 have L:=h.lt hp
 have g:=h.cop
 have b0:=h.b0
 have le:p+N≤10000:=Nat.le_trans (Nat.add_le_add hp' hN) (by decide)
 refine af rfl rfl ?_
 cases h with
 |ex h1 h2 h3 h4=>
  ((conv=>whnf);repeat'((with_reducible apply vg);(conv=>whnf)))
  exact aa q
 |re h=>
  ((conv=>whnf);repeat'((with_reducible apply r5);(conv=>whnf)))
  refine D6 hp' hN h ?_
  conv=>whnf
  refine K3 (Int.natCast_pos.mpr b0) (ac L.1 le) (ac (x:=frB _) L.2 le) g ?_
  conv=>whnf
  exact aa q
inductive AnI (N p:Nat) (l₀:List V) (ts:List Tr) (st:Sto) (l:List V) (ρ:En) (s:Sto):Prop
 |mk:s=st→∀r ow,Nl N p l r→cy ts=cy r→ρ=[(Str.ofString "numbers",.v (.lst l₀))]++ow→Ow "number" ow→AnI N p l₀ ts st l ρ s
theorem K5{l:List V}{ts:List Tr}(h:Nl N p l ts)(q:Q (.v (.bool (cy ts))) st):CallK (R C4 T4 (n+5) (.v (.val (.ref 504))) [.v (.lst l)] st) Q E:=by
 refine af rfl rfl ?_
 conv=>whnf
 refine ja (AnI N p l ts st) ⟨rfl,ts,[],h,rfl,rfl,.inl rfl⟩ (fun ρ s hI=>?_) fun x r ρ s hI=>?_
 ·obtain⟨rfl,r,ow,h,z,rfl,_⟩:=hI
  cases h
  rw[z]at q
  conv=>whnf
  exact aa q
 ·obtain⟨rfl,r',ow,h,z,rfl,ho⟩:=hI
  cases h with
  |@cons _ t' _ r1 h1 h2=>
  refine⟨[(Str.ofString "numbers",.v (.lst l)),(Str.ofString "number",.v x)],?_,?_⟩
  ·rcases ho with rfl|⟨y,rfl⟩<;>rfl
  rw[ui]at z
  conv=>whnf
  refine vp h1 ?_
  cases hk:t'.k with
  |true=>
   rw[hk]at z
   conv=>whnf
   rw[z]at q
   exact aa q
  |false=>
   rw[hk]at z
   conv=>whnf
   exact⟨rfl,_,_,h2,z,rfl,.inr ⟨_,rfl⟩⟩
theorem sq{l:List V}{ts:List Tr}{M:Nat}(hp:0<p)(hp':p≤6)(hN:N≤400)(h:Nl M p l ts)(hv:Nb N p v a b k)(q0:cy ts=false→Q (.v v) st)(q1:cy ts=true→∀m e,Rd p a b (rV m e)→Re (N+p) p m e→Q (.v (rV m e)) st):
 CallK (R C4 T4 (n+7) (.v (.val (.ref 511))) [.v (.int p),.v v,.v (.lst l)] st) Q E:=by
 refine af rfl rfl ?_
 conv=>whnf
 refine K5 h ?_
 cases hk:cy ts with
 |false=>
  conv=>whnf
  exact aa (q0 hk)
 |true=>
  conv=>whnf
  refine yg hp hp' hN hv fun m e r re=>?_
  conv=>whnf
  exact aa (q1 hk m e r re)
theorem Mw(q:Q (.v (.bool (decide (0≤e)))) st):CallK (R C4 T4 (n+2) (.v (.val (.ref 266))) [.v (rV m e)] st) Q E:=by
 refine af rfl rfl ?_
 conv=>whnf
 exact aa q
theorem Pv(hp':p≤6)(hN:N≤800)(h:Re N p m e)(he:0≤e)(q:Q (.v (.int (frT m e))) st):CallK (R C4 T4 (n+2) (.v (.val (.ref 273))) [.v (rV m e)] st) Q E:=by
 refine af rfl rfl ?_
 ((conv=>whnf);repeat'((with_reducible apply ae);(conv=>whnf)))
 ·exact aa q
 ·exact Hm h.lt (Nat.le_trans hp' (by decide)) (Nat.le_trans h.el (Nat.le_trans hN (by decide))) he
set_option tactic.hygienic true in
theorem v3{s:Str}{i:Int}(hp':p≤6)(hN:N≤800)(h:Nb N p v a b k)(q:b=1→Q (.v (.int a)) st)(q':b≠1→E (wkV s i v) st):CallK (R C4 T4 (n+3) (.v (.val (.ref 483))) [.v v,.v (.int i),.v (.str s)] st) Q E:=by
 refine af rfl rfl ?_
 cases h with
 |ex h1 h2 h3 h4=>
  ((conv=>whnf);repeat'(first|((with_reducible apply aj)<;>(intro _;(conv=>whnf)))|((with_reducible first|apply mh|apply lj);(conv=>whnf))))
  ·rename_i h
   rw[ztl,h,nV1];exact q (Int.ofNat_inj.mp h)
  ·rename_i h
   exact q' fun z=>h (congrArg Nat.cast z)
 |re h=>
  ((conv=>whnf);repeat'((with_reducible first|apply r4|apply f4);(conv=>whnf)))
  refine Mw ?_
  ((conv=>whnf);repeat'((with_reducible apply aj)<;>(intro _;(conv=>whnf))))
  ·rename_i he
   refine Pv hp' hN h he ?_
   conv=>whnf
   exact aa (q (Hl he))
  ·rename_i he
   exact q' fun z=>he (frB_one.mp z)
end
theorem Cg{x y:Int}:b2i (decide (y<x))-b2i (decide (x<y))=(x-y).sign:=by
 rcases Int.lt_trichotomy x y with h|h|h
 ·rw[decide_eq_false (Int.not_lt.mpr (Int.le_of_lt h)),decide_eq_true h,Int.sign_eq_neg_one_of_neg (Int.sub_neg_of_lt h)];rfl
 ·subst h;rw[decide_eq_false (Int.lt_irrefl x),Int.sub_self x];rfl
 ·rw[decide_eq_true h,decide_eq_false (Int.not_lt.mpr (Int.le_of_lt h)),Int.sign_eq_one_of_pos (Int.sub_pos_of_lt h)];rfl
noncomputable def cpS(a:Int)(b:Nat)(a':Int)(b':Nat):Int:=(a*b'-a'*b).sign
theorem Pw{m e m' e':Int}:(ei m e m' e').sign=(frT m e*frB e'+frT m' e'*frB e).sign:=by
 have hx:frT (ei m e m' e') (aw e e')*((frB e*frB e':Nat):Int)=(frT m e*frB e'+frT m' e'*frB e)*(frB (aw e e'):Nat):=by
  unfold frT frB ei
  have l1:aw e e'≤e:=f8.1
  have l2:aw e e'≤e':=f8.2
  generalize aw e e'=l at*
  rw[Int.natCast_mul,pz,pz,pz,Int.add_mul,Int.add_mul,Int.add_mul]
  have h1:∀{x:Int} {a1 a2 a3 a4:Nat},x*2^a1*2^a2*(2^a3*2^a4)=x*2^(a1+a2+a3+a4):=by
   intro x a1 a2 a3 a4
   rw[Int.pow_add,Int.pow_add,Int.pow_add];simp only[Int.mul_assoc]
  have h2:∀{x:Int} {a1 a2 a3:Nat},x*2^a1*2^a2*2^a3=x*2^(a1+a2+a3):=by
   intro x a1 a2 a3
   rw[Int.pow_add,Int.pow_add];simp only[Int.mul_assoc]
  rw[h1,h1,h2,h2,ye l1,yf l2]
 have h:=congrArg Int.sign hx
 rwa [Int.sign_mul,Int.sign_mul,fx,Int.sign_natCast_of_ne_zero (Nat.ne_of_gt (Nat.mul_pos ah ah)),Int.sign_natCast_of_ne_zero (Nat.ne_of_gt ah),Int.mul_one,Int.mul_one]at h
theorem v4{m e m' e':Int}:cpS (frT m e) (frB e) (frT m' e') (frB e')=(m*2^(e-aw e e').toNat-m'*2^(e'-aw e e').toNat).sign:=by
 have h:=Pw (m:=m) (e:=e) (m':= -m') (e':=e')
 unfold ei at h
 rw[frT_neg,Int.neg_mul,Int.neg_mul,←Int.sub_eq_add_neg,←Int.sub_eq_add_neg]at h
 exact h.symm
theorem Mx{x y i j:Nat}(x0:x≠0)(h:sz (y:Int)+j<sz (x:Int)+i):y*2^j<x*2^i:=by
 have iA:((x:Int))≠0:=Int.ofNat_ne_zero.mpr x0
 have a1:=r9 iA
 have b2:=oq (y:Int)
 obtain⟨z,hz⟩:∃z,sz (x:Int)=z+1:=⟨_,dz iA⟩
 rw[Int.natAbs_natCast,hz]at a1
 rw[Int.natAbs_natCast]at b2
 rw[hz,Nat.add_right_comm]at h
 calc y*2^j<2^sz (y:Int)*2^j:=Nat.mul_lt_mul_of_pos_right b2 (p2 j)
  _=2^(sz (y:Int)+j):=(Nat.pow_add ..).symm
  _≤2^(z+i):=Nat.pow_le_pow_right (by decide) (Nat.le_of_lt_succ h)
  _=2^z*2^i:=Nat.pow_add ..
  _≤_:=Nat.mul_le_mul_right _ a1
theorem Sz{a b e e' l:Int}{i j x y:Nat}(ha:a=x)(hb:b=y)(hi:e-l=i)(hj:e'-l=j)(h:b+e'<a+e):y+j<x+i:=by lia
theorem v5{e e':Int}:e-aw e e'=((e-aw e e').toNat:Int)∧e'-aw e e'=((e'-aw e e').toNat:Int):=
 ⟨(Int.toNat_of_nonneg (Int.sub_nonneg.mpr f8.1)).symm,(Int.toNat_of_nonneg (Int.sub_nonneg.mpr f8.2)).symm⟩
theorem v6{x k:Nat}:(x:Int)*2^k=((x*2^k:Nat):Int):=by rw[Int.natCast_mul,pz]
theorem S3{x y:Nat}{e e':Int}(x0:x≠0)(h:(sz (y:Int):Int)+e'<sz (x:Int)+e):cpS (frT x e) (frB e) (frT y e') (frB e')=1:=by
 rw[v4,v6,v6]
 exact Int.sign_eq_one_of_pos (Int.sub_pos_of_lt (Int.ofNat_lt.mpr (Mx x0 (Sz rfl rfl v5.1 v5.2 h))))
theorem S4{x y:Nat}{e e':Int}(y0:y≠0)(h:(sz (x:Int):Int)+e<sz (y:Int)+e'):cpS (frT x e) (frB e) (frT y e') (frB e')= -1:=by
 rw[v4,v6,v6]
 exact Int.sign_eq_neg_one_of_neg (Int.sub_neg_of_lt (Int.ofNat_lt.mpr (Mx y0 (Sz rfl rfl v5.2 v5.1 h))))
theorem My{x p N:Nat}{e e':Int}(hp':p≤6)(hN:N≤800)(bx:x<2^p)(el:e.natAbs≤N)(el':e'.natAbs≤N):(0≤e-aw e e'∧(Builtin.Int.intBits (x:Int):Int)+(e-aw e e')≤2^27)∧(0≤e'-aw e e'∧(Builtin.Int.intBits (x:Int):Int)+(e'-aw e e')≤2^27):=by
 have z:(Builtin.Int.intBits (x:Int):Int)≤6:=Int.ofNat_le.mpr (Nat.le_trans (fw (x:=(x:Int)) bx) hp')
 have h1:=f8 (e:=e) (e':=e')
 have h3:e≤800:=Int.le_trans Int.le_natAbs (Int.ofNat_le.mpr (Nat.le_trans el hN))
 have h4:e'≤800:=Int.le_trans Int.le_natAbs (Int.ofNat_le.mpr (Nat.le_trans el' hN))
 have h5: -800≤aw e e':=by
  have a1: -800≤e:=by lia
  have a2: -800≤e':=by lia
  unfold aw;split<;>assumption
 generalize aw e e'=l at*
 clear el el' bx
 lia
section
variable {n:Nat} {t u c m e m' e' w:Int} {b b' N M p P:Nat} {v v':V} {a a':Int} {k k':Bool} {st:Sto} {E:KV} {Q:KD}
theorem Ch(l1:Sm a)(l2:Sm (b:Int))(l3:Sm a')(l4:Sm (b':Int))(q:Q (.v (.int (cpS a b a' b'))) st):CallK (R C4 T4 (n+3) (.v (.val (.ref 413))) [.v (nV a b),.v (nV a' b')] st) Q E:=by
 refine af rfl rfl ?_
 ((conv=>whnf);repeat'((with_reducible first|apply ae|apply gu|apply jb);(conv=>whnf)))
 ·unfold cpS at q
  rw[←Cg]at q
  exact aa q
 ·exact am l3 l2
 ·exact am l1 l4
theorem pu(l1:Sm a)(l2:Sm (b:Int))(l3:Sm a')(l4:Sm (b':Int))(q:Q (.v (.int (cpS a b a' b'))) st):CallK (R C4 T4 (n+2) (.v (.val (.ref 894))) [.v (shT k a b),.v (shT k' a' b')] st) Q E:=by
 refine af rfl rfl ?_
 ((conv=>whnf);repeat'((with_reducible apply ae);(conv=>whnf)))
 ·unfold cpS at q
  rw[←Cg]at q
  exact aa q
 ·exact am l3 l2
 ·exact am l1 l4
theorem Mz(q:Q (.v (rV m.natAbs e)) st):CallK (R C4 T4 (n+2) (.v (.val (.ref 210))) [.v (rV m e)] st) Q E:=by
 refine af rfl rfl ?_
 conv=>whnf
 rw[df]
 exact aa q
set_option tactic.hygienic true in
theorem Px{x y:Nat}(hp':p≤6)(hN:N≤800)(x0:x≠0)(y0:y≠0)(bx:x<2^p)(by':y<2^p)(el:e.natAbs≤N)(el':e'.natAbs≤N)(q:Q (.v (.int (cpS (frT x e) (frB e) (frT y e') (frB e')))) st):
 CallK (R C4 T4 (n+4) (.v (.val (.ref 217))) [.v (rV x e),.v (rV y e')] st) Q E:=by
 refine af rfl rfl ?_
 ((conv=>whnf);repeat'(first|((with_reducible first|apply aj|apply jy)<;>(intro _;(conv=>whnf)))|((with_reducible first|apply ae|apply pt|apply mo);(conv=>whnf))))
 ·rename_i h
  rw[S3 x0 h]at q
  exact aa q
 ·rename_i h1 h2
  rw[S4 y0 (Int.lt_iff_le_and_ne.mpr ⟨Int.not_lt.mp h2,h1⟩)]at q
  exact aa q
 ·rw[v4]at q
  exact aa q
 ·exact(My hp' hN by' el el').2
 ·exact(My hp' hN bx el el').1
theorem An{m m':Int}{b b':Nat}(hb:0<b)(hb':0<b')(h:m.sign≠m'.sign):cpS m b m' b'=if m'.sign<m.sign then 1 else -1:=by
 have hB:(0:Int)<b:=Int.natCast_pos.mpr hb
 have hB':(0:Int)<b':=Int.natCast_pos.mpr hb'
 unfold cpS
 have k:∀{x y:Int},x.sign<y.sign→∀{c d:Int},0<c→0<d→x*c<y*d:=by
  intro x y h c d hc hd
  rcases Int.lt_trichotomy x 0 with hx|hx|hx
  ·rcases Int.lt_or_le y 0 with hy|hy
   ·rw[Int.sign_eq_neg_one_of_neg hx,Int.sign_eq_neg_one_of_neg hy]at h;exact absurd h (by decide)
   ·exact Int.lt_of_lt_of_le (Int.mul_neg_of_neg_of_pos hx hc) (Int.mul_nonneg hy (Int.le_of_lt hd))
  ·subst hx
   rw[Int.zero_mul]
   exact Int.mul_pos (Int.sign_eq_one_iff_pos.mp (Int.le_antisymm (by rcases Int.lt_trichotomy y 0 with z|z|z<;>simp[Int.sign_eq_neg_one_of_neg,Int.sign_eq_one_of_pos,z]) h)) hd
  ·rw[Int.sign_eq_one_of_pos hx]at h
   refine absurd h (Int.not_lt.mpr ?_)
   rcases Int.lt_trichotomy y 0 with z|z|z<;>simp[Int.sign_eq_neg_one_of_neg,Int.sign_eq_one_of_pos,z]
 by_cases z:m'.sign<m.sign
 ·rw[if_pos z];exact Int.sign_eq_one_of_pos (Int.sub_pos_of_lt (k z hB hB'))
 ·rw[if_neg z];exact Int.sign_eq_neg_one_of_neg (Int.sub_neg_of_lt (k (Int.lt_iff_le_and_ne.mpr ⟨Int.not_lt.mp z,h⟩) hB' hB))
end
theorem Ci{m m':Int}{e e':Int}(h:m.sign=m'.sign):cpS (frT m e) (frB e) (frT m' e') (frB e')=m.sign*cpS (frT m.natAbs e) (frB e) (frT m'.natAbs e') (frB e'):=by
 have f:∀{x y:Int},frT x y=x.sign*frT x.natAbs y:=by
  intro x y;unfold frT;rw[←Int.mul_assoc,Int.sign_mul_natAbs]
 unfold cpS
 have g:frT m e*frB e'-frT m' e'*frB e=m.sign*(frT m.natAbs e*frB e'-frT m'.natAbs e'*frB e):=by
  rw[f (x:=m),f (x:=m'),←h,Int.mul_sub,Int.mul_assoc,Int.mul_assoc]
 rw[g,Int.sign_mul,Int.sign_sign]
section
variable {n:Nat} {t u c m e m' e' w:Int} {b b' N M p P:Nat} {v v':V} {a a':Int} {k k':Bool} {st:Sto} {E:KV} {Q:KD}
theorem M0{x:Int}(h:x=1∨x= -1∨x=0):Sm x:=by rcases h with rfl|rfl|rfl<;>exact ac (k:=1) (by decide) (by decide)
theorem sg3{x:Int}:x.sign=1∨x.sign= -1∨x.sign=0:=by
 rcases Int.lt_trichotomy x 0 with h|h|h
 ·exact .inr (.inl (Int.sign_eq_neg_one_of_neg h))
 ·exact .inr (.inr (by rw[h];rfl))
 ·exact .inl (Int.sign_eq_one_of_pos h)
set_option tactic.hygienic true in
theorem K6(hp':p≤6)(hN:N≤800)(h:Re N p m e)(h':Re N p m' e')(q:Q (.v (.int (cpS (frT m e) (frB e) (frT m' e') (frB e')))) st):
 CallK (R C4 T4 (n+6) (.v (.val (.ref 224))) [.v (rV m e),.v (rV m' e')] st) Q E:=by
 refine af rfl rfl ?_
 have s1:(frT m e).sign=m.sign:=fx
 have s2:(frT m' e').sign=m'.sign:=fx
 ((conv=>whnf);repeat'(first|((with_reducible first|apply aj|apply bt|apply jy)<;>(intro _;(conv=>whnf)))|((with_reducible apply kf);(conv=>whnf))))
 ·rename_i h1 h2
  rw[An ah ah (by rw[s1,s2];exact h1),s1,s2,if_pos h2]at q
  exact aa q
 ·rename_i h1 h2
  rw[An ah ah (by rw[s1,s2];exact h1),s1,s2,if_neg h2]at q
  exact aa q
 ·rename_i h1 h2
  rw[Ci h1,h2,Int.zero_mul]at q
  exact aa q
 ·rename_i h1 h2
  have m0:m.natAbs≠0:=fun z=>h2 (by rw[Int.natAbs_eq_zero.mp z];rfl)
  have m0':m'.natAbs≠0:=fun z=>h2 (by rw[h1,Int.natAbs_eq_zero.mp z];rfl)
  refine Mz ?_
  conv=>whnf
  refine Mz ?_
  conv=>whnf
  refine Px hp' hN m0 m0' h.lt h'.lt h.el h'.el ?_
  ((conv=>whnf);repeat'((with_reducible apply ae);(conv=>whnf)))
  ·rw[Ci h1]at q
   exact aa q
  ·exact am (M0 sg3) (M0 sg3)
theorem Ao(hp:0<p)(hp':p≤6)(hN:N≤800)(h:Nb N p v a b k)(h':Nb N p v' a' b' k')(q:Q (.v (.int (cpS a b a' b'))) st):
 CallK (R C4 T4 (n+7) (.v (.val (.ref 518))) [.v v,.v v'] st) Q E:=by
 have b0:=h.b0
 have b0':=h'.b0
 have le:p+N≤4000:=Nat.le_trans (Nat.add_le_add hp' hN) (by decide)
 obtain⟨l1,l2⟩:=h.lt hp
 obtain⟨l3,l4⟩:=h'.lt hp
 have tail:∀F,go C4 T4 (n+5) (JT C4 T4 (n+5)) (fi 71).sc (bz st.length Q) (F+800) [.sts 64 ((fi 71).body.drop 1)] [] [(Str.ofString "one",.v v),(Str.ofString "other",.v v')] st E:=by
  intro F
  conv=>whnf
  refine ix h ?_
  conv=>whnf
  refine ix h' ?_
  conv=>whnf
  refine jy (fun z=>?_) (fun z=>?_)
  ·conv=>whnf
   refine ix h ?_
   conv=>whnf
   refine ix h' ?_
   rw[An b0 b0' z]at q
   conv=>whnf
   refine aj (fun z=>?_) (fun z=>?_)
   ·rw[if_pos z]at q
    conv=>whnf
    exact aa q
   ·rw[if_neg z]at q
    conv=>whnf
    exact aa q
  ·conv=>whnf
   refine kj hp hp' hN h ?_
   conv=>whnf
   refine kj hp hp' hN h' ?_
   conv=>whnf
   refine Ch (smL l1 le) (smL (x:=(b:Int)) l2 le) (smL l3 le) (smL (x:=(b':Int)) l4 le) ?_
   conv=>whnf
   exact aa q
 refine af rfl rfl ?_
 conv=>whnf
 refine vp h ?_
 cases h with
 |ex h1 h2 h3 h4=>
  conv=>whnf
  exact tail _
 |re h=>
  conv=>whnf
  refine vp h' ?_
  cases h' with
  |ex h1 h2 h3 h4=>
   conv=>whnf
   exact tail _
  |re h'=>
   conv=>whnf
   refine K6 hp' hN h h' ?_
   conv=>whnf
   exact aa q
end
noncomputable def loT(t:Tr)(l:List Tr):Tr:=l.foldl (fun f o=>if cpS o.a o.b f.a f.b<0 then o else f) t
noncomputable def hiT(t:Tr)(l:List Tr):Tr:=l.foldl (fun f o=>if 0<cpS o.a o.b f.a f.b then o else f) t
noncomputable def Py(p:Nat)(l:List V)(w:V):En:=[(Str.ofString "self",.v (tw p)),(Str.ofString "numbers",.v (.lst l)),(Str.ofString "found",.v w)]
section
variable {n N M p:Nat} {f g t:Tr} {v w:V} {vs:List V} {ts r:List Tr} {st:Sto} {E:KV} {Q:KD}
inductive EdI (T:Tr→List Tr→Tr) (p:Nat) (vs:List V) (t:Tr) (ts:List Tr) (st:Sto) (l:List V) (ρ:En) (s:Sto):Prop
 |mk:s=st→∀g w r ow,Nl 8 p l r→NbT 8 p w g→T t ts=T g r→ρ=Py p vs w++ow→Ow "number" ow→EdI T p vs t ts st l ρ s
theorem K7(hp:0<p)(hp':p≤6)(h:NbT 8 p v t)(hl:Nl 8 p vs ts)(len:ts.length≤5)(q0:cy (t::ts)=false→∀w,NbT 8 p w (loT t ts)→Q (.v w) st)
 (q1:cy (t::ts)=true→∀m e,Rd p (loT t ts).a (loT t ts).b (rV m e)→Re (8+p) p m e→Q (.v (rV m e)) st):
 CallK (R C4 T4 (n+9) (.v (.val (.ref 714))) [.v (tw p),.v (.lst (v::vs))] st) Q E:=by
 refine af rfl rfl ?_
 conv=>whnf
 rw[kr]
 conv=>whnf
 refine ae ?_ (szL (Nat.succ_le_succ (by rw[hl.len];exact len)))
 conv=>whnf
 refine ja (EdI loT p (v::vs) t ts st) ⟨rfl,t,v,ts,[],hl,h,rfl,rfl,.inl rfl⟩ (fun ρ st' hI=>?_) fun x l ρ st' hI=>?_
 ·obtain⟨rfl,g,w,r,ow,hl',hw,hF,rfl,ho⟩:=hI
  cases hl'
  conv=>whnf
  refine sq hp hp' (by decide) (Nl.cons h hl) hw (fun z=>?_) fun z m e r re=>?_
  ·conv=>whnf
   exact aa (q0 z w (hF▸hw))
  ·conv=>whnf
   exact aa (q1 z m e (hF▸r) re)
 ·obtain⟨rfl,g,w,r,ow,hl',hw,hF,rfl,ho⟩:=hI
  cases hl' with
  |@cons _ t' l' r ht hl'=>
  refine⟨Py p (v::vs) w++[(Str.ofString "number",.v x)],?_,?_⟩
  ·rcases ho with rfl|⟨y,rfl⟩<;>rfl
  have hF:loT t ts=loT (if cpS t'.a t'.b g.a g.b<0 then t' else g) r:=hF
  conv=>whnf
  refine Ao hp hp' (by decide) ht hw ?_
  conv=>whnf
  refine aj (fun z=>?_) (fun z=>?_)
  ·rw[if_pos z]at hF
   conv=>whnf
   exact⟨rfl,_,x,r,_,hl',ht,hF,rfl,.inr ⟨_,rfl⟩⟩
  ·rw[if_neg z]at hF
   conv=>whnf
   exact⟨rfl,_,w,r,_,hl',hw,hF,rfl,.inr ⟨_,rfl⟩⟩
theorem K8(hp:0<p)(hp':p≤6)(h:NbT 8 p v t)(hl:Nl 8 p vs ts)(len:ts.length≤5)(q0:cy (t::ts)=false→∀w,NbT 8 p w (hiT t ts)→Q (.v w) st)
 (q1:cy (t::ts)=true→∀m e,Rd p (hiT t ts).a (hiT t ts).b (rV m e)→Re (8+p) p m e→Q (.v (rV m e)) st):
 CallK (R C4 T4 (n+9) (.v (.val (.ref 707))) [.v (tw p),.v (.lst (v::vs))] st) Q E:=by
 refine af rfl rfl ?_
 conv=>whnf
 rw[kr]
 conv=>whnf
 refine ae ?_ (szL (Nat.succ_le_succ (by rw[hl.len];exact len)))
 conv=>whnf
 refine ja (EdI hiT p (v::vs) t ts st) ⟨rfl,t,v,ts,[],hl,h,rfl,rfl,.inl rfl⟩ (fun ρ st' hI=>?_) fun x l ρ st' hI=>?_
 ·obtain⟨rfl,g,w,r,ow,hl',hw,hF,rfl,ho⟩:=hI
  cases hl'
  conv=>whnf
  refine sq hp hp' (by decide) (Nl.cons h hl) hw (fun z=>?_) fun z m e r re=>?_
  ·conv=>whnf
   exact aa (q0 z w (hF▸hw))
  ·conv=>whnf
   exact aa (q1 z m e (hF▸r) re)
 ·obtain⟨rfl,g,w,r,ow,hl',hw,hF,rfl,ho⟩:=hI
  cases hl' with
  |@cons _ t' l' r ht hl'=>
  refine⟨Py p (v::vs) w++[(Str.ofString "number",.v x)],?_,?_⟩
  ·rcases ho with rfl|⟨y,rfl⟩<;>rfl
  have hF:hiT t ts=hiT (if 0<cpS t'.a t'.b g.a g.b then t' else g) r:=hF
  conv=>whnf
  refine Ao hp hp' (by decide) ht hw ?_
  conv=>whnf
  refine aj (fun z=>?_) (fun z=>?_)
  ·rw[if_pos z]at hF
   conv=>whnf
   exact⟨rfl,_,x,r,_,hl',ht,hF,rfl,.inr ⟨_,rfl⟩⟩
  ·rw[if_neg z]at hF
   conv=>whnf
   exact⟨rfl,_,w,r,_,hl',hw,hF,rfl,.inr ⟨_,rfl⟩⟩
end
section
variable {n N M p:Nat} {f g t:Tr} {v w:V} {a:Int} {b:Nat} {k:Bool} {st:Sto} {E:KV} {Q:KD} {s:Str}
theorem S5:(a.sign==0)=(a==0):=by
 by_cases h:a=0
 ·subst h;rfl
 ·rw[beq_eq_false_iff_ne.mpr h,beq_eq_false_iff_ne.mpr (fun z=>h (Int.sign_eq_zero_iff_zero.mp z))]
theorem Pz:((b:Int)==1)=decide (b=1):=by
 by_cases h:b=1
 ·subst h;rfl
 ·rw[decide_eq_false h];exact beq_eq_false_iff_ne.mpr fun z=>h (Int.ofNat_inj.mp z)
theorem Ur:(0<a.sign)=(0<a):=by
 refine propext ⟨fun h=>?_,fun h=>by rw[Int.sign_eq_one_of_pos h];decide⟩
 rcases Int.lt_trichotomy a 0 with z|z|z
 ·rw[Int.sign_eq_neg_one_of_neg z]at h;exact absurd h (by decide)
 ·subst z;exact h
 ·exact z
theorem Us:(a.sign<0)=(a<0):=by
 refine propext ⟨fun h=>?_,fun h=>by rw[Int.sign_eq_neg_one_of_neg h];decide⟩
 rcases Int.lt_trichotomy a 0 with z|z|z
 ·exact z
 ·subst z;exact h
 ·rw[Int.sign_eq_one_of_pos z]at h;exact absurd h (by decide)
set_option tactic.hygienic true in
theorem K9(h:Nb N p v a b k)(q:Q (.v (.bool (decide (b=1)))) st):CallK (R C4 T4 (n+3) (.v (.val (.ref 469))) [.v v] st) Q E:=by
 refine af rfl rfl ?_
 cases h with
 |ex h1 h2 h3 h4=>
  ((conv=>whnf);repeat'(first|((with_reducible apply aj)<;>(intro _;(conv=>whnf)))|((with_reducible first|apply mh|apply lj);(conv=>whnf))))
  ·rename_i z
   rw[decide_eq_true (Int.ofNat_inj.mp z)]at q
   rw[decide_eq_true z]
   exact aa q
  ·rename_i z
   rw[decide_eq_false (fun h=>z (congrArg Nat.cast h))]at q
   exact aa q
 |@re m e h=>
  ((conv=>whnf);repeat'((with_reducible first|apply r4|apply f4);(conv=>whnf)))
  refine Mw ?_
  have:decide (frB e=1)=decide (0≤e):=decide_eq_decide.mpr frB_one
  rw[this]at q
  conv=>whnf
  exact aa q
theorem La(h:Nb N p v a b k)(q:Q (.v (.bool true)) st):CallK (R C4 T4 (n+4) (.v (.val (.ref 462))) [.v v] st) Q E:=by
 refine af rfl rfl ?_
 cases h with
 |ex h1 h2 h3 h4=>
  ((conv=>whnf);repeat'((with_reducible apply vg);(conv=>whnf)))
  exact aa q
 |re h=>
  ((conv=>whnf);repeat'((with_reducible first|apply r5|apply f4);(conv=>whnf)))
  exact aa q
theorem P0(h:Nb N p v a b k)(q:Q (.v (.bool true)) st):CallK (R C4 T4 (n+5) (.v (.val (.ref 539))) [.v (tw p),.v v] st) Q E:=by
 refine af rfl rfl ?_
 conv=>whnf
 refine La h ?_
 conv=>whnf
 exact aa q
theorem S6(h:Nb N p v a b k)(q:Q (.v (.bool (!k))) st):CallK (R C4 T4 (n+5) (.v (.val (.ref 546))) [.v (tw p),.v v] st) Q E:=by
 refine af rfl rfl ?_
 conv=>whnf
 refine iy h ?_
 conv=>whnf
 exact aa q
theorem S7(h:Nb N p v a b k)(q:Q (.v (.bool k)) st):CallK (R C4 T4 (n+5) (.v (.val (.ref 553))) [.v (tw p),.v v] st) Q E:=by
 refine af rfl rfl ?_
 conv=>whnf
 refine vp h ?_
 conv=>whnf
 exact aa q
theorem P1(h:Nb N p v a b k)(q:Q (.v (.bool (decide (b=1)))) st):CallK (R C4 T4 (n+5) (.v (.val (.ref 560))) [.v (tw p),.v v] st) Q E:=by
 refine af rfl rfl ?_
 conv=>whnf
 refine K9 h ?_
 conv=>whnf
 exact aa q
theorem Lb(h:Nb N p v a b k)(q:Q (.v (.bool (a==0))) st):CallK (R C4 T4 (n+6) (.v (.val (.ref 567))) [.v (tw p),.v v] st) Q E:=by
 refine af rfl rfl ?_
 conv=>whnf
 refine ix h ?_
 conv=>whnf
 rw[show(a.sign==0)=(a==0)from S5]
 exact aa q
theorem P2(h:Nb N p v a b k)(q:Q (.v (.bool (decide (0<a)))) st):CallK (R C4 T4 (n+6) (.v (.val (.ref 574))) [.v (tw p),.v v] st) Q E:=by
 refine af rfl rfl ?_
 conv=>whnf
 refine ix h ?_
 conv=>whnf
 rw[show decide (0<a.sign)=decide (0<a)from decide_eq_decide.mpr (Iff.of_eq Ur)]
 exact aa q
theorem P3(h:Nb N p v a b k)(q:Q (.v (.bool (decide (a<0)))) st):CallK (R C4 T4 (n+6) (.v (.val (.ref 581))) [.v (tw p),.v v] st) Q E:=by
 refine af rfl rfl ?_
 conv=>whnf
 refine ix h ?_
 conv=>whnf
 rw[show decide (a.sign<0)=decide (a<0)from decide_eq_decide.mpr (Iff.of_eq Us)]
 exact aa q
theorem Ht(hp':p≤6)(hN:N≤800)(h:Nb N p v a b k)(q0:b≠1→E (wkV s 0 v) st)(q:b=1→Q (.v (.bool (a.fmod 2==1))) st):CallK (R C4 T4 (n+6) (.v (.val (.ref 588))) [.v (tw p),.v v,.v (.str s)] st) Q E:=by
 refine af rfl rfl ?_
 conv=>whnf
 refine v3 hp' hN h (fun z=>?_) q0
 ((conv=>whnf);repeat'((with_reducible apply ae);(conv=>whnf)))
 ·exact aa (q z)
 ·decide
theorem Lc(hp':p≤6)(hN:N≤800)(h:Nb N p v a b k)(q0:b≠1→E (wkV s 0 v) st)(q:b=1→Q (.v (.bool (a.fmod 2==0))) st):CallK (R C4 T4 (n+6) (.v (.val (.ref 595))) [.v (tw p),.v v,.v (.str s)] st) Q E:=by
 refine af rfl rfl ?_
 conv=>whnf
 refine v3 hp' hN h (fun z=>?_) q0
 ((conv=>whnf);repeat'((with_reducible apply ae);(conv=>whnf)))
 ·exact aa (q z)
 ·decide
end
theorem bv{α:Type}{P:α→Prop}{x:α}{l:List α}(h:P x)(h':∀y∈l,P y):∀y∈x::l,P y:=List.forall_mem_cons.mpr ⟨h,h'⟩
theorem mw{α:Type}{P:α→Prop}:∀y∈([]:List α),P y:=fun o_ h=>nomatch h
noncomputable def Dt(m:Nat)(x:V):Prop:=∃d,x.dat=some d∧d.canLay0=true∧d.depth≤m
theorem Dt.list{m:Nat}:∀{xs:List V},(∀x∈xs,Dt m x)→∃ds,V.dats xs=some ds∧PyData.canLayAll0 ds=true∧PyData.depthAll ds≤m
 |[],_=>⟨[],rfl,rfl,Nat.zero_le _⟩
 |x::xs,h=>by
  obtain⟨d,h1,h2,h3⟩:=h x (.head _)
  obtain⟨ds,g1,g2,g3⟩:=Dt.list (xs:=xs) fun y hy=>h y (.tail _ hy)
  refine⟨d::ds,?_,?_,Nat.max_le.mpr ⟨h3,g3⟩⟩
  ·show(x.dat.bind fun d=>(V.dats xs).bind fun ds=>some (d::ds))=_
   rw[h1,g1];rfl
  ·show(d.canLay0&&PyData.canLayAll0 ds)=true
   rw[h2,g2];rfl
theorem Dt.lst{m:Nat}{xs:List V}(h:∀x∈xs,Dt m x):Dt (m+1) (.lst xs):=by
 obtain⟨ds,g1,g2,g3⟩:=Dt.list h
 exact⟨.list ds,congrArg (Option.map PyData.list) g1,g2,Nat.add_le_add_right g3 1⟩
theorem Dt.int{m:Nat}{i:Int}:Dt m (.int i):=⟨.int i,rfl,rfl,Nat.zero_le _⟩
theorem Dt.str{m:Nat}{s:Str}(h:PyData.strOk s=true):Dt m (.str s):=⟨.str s,rfl,h,Nat.zero_le _⟩
theorem fc{a b:D}{x:V}{m:Nat}{st:Sto}(h:Dt m x)(hm:m≤64)(ha:a.dat st=x.dat)(hb:b.dat st=x.dat):d7 .Eq a b st=some true∧d7 .NotEq a b st=some false:=by
 obtain⟨d,h1,h2,h3⟩:=h
 have hs:SeqAt.shaped d=true:=by
  unfold SeqAt.shaped
  rw[h2,decide_eq_true (Nat.le_trans h3 hm)];rfl
 have:eqD a b st=some true:=by
  unfold eqD
  rw[ha,hb,h1]
  show Option.or (if SeqAt.shaped d&&SeqAt.shaped d then some (PyData.eqv d d)else none) _=_
  rw[hs,PySem.SeqAt.eqv_refl _ h2];rfl
 exact⟨this,by show(eqD a b st).map not=_;rw[this];rfl⟩
theorem Dt.bool{m:Nat}{b:Bool}:Dt m (.bool b):=⟨.bool b,rfl,rfl,Nat.zero_le _⟩
theorem Dt.tup{m:Nat}{xs:List V}(h:∀x∈xs,Dt m x):Dt (m+1) (.tup xs):=by
 obtain⟨ds,g1,g2,g3⟩:=Dt.list h
 exact⟨.tuple ds,congrArg (Option.map PyData.tuple) g1,g2,Nat.add_le_add_right g3 1⟩
theorem n6{k:Bool}{a b:Int}:Dt 1 (shT k a b):=.tup (bv .bool (bv .int (bv .int mw)))
theorem eqB(x y:Bool)(st:Sto):d7 .Eq (.v (.bool x)) (.v (.bool y)) st=some (x==y):=by cases x<;>cases y<;>kernel_rfl
theorem neB(x y:Bool)(st:Sto):d7 .NotEq (.v (.bool x)) (.v (.bool y)) st=some (!(x==y)):=by cases x<;>cases y<;>kernel_rfl
theorem Cj{k:Bool}{a b:Int}{st:Sto}:d7 .NotEq (.v (shT k a b)) (.v (shT k a b)) st=some false:=(fc n6 (by decide) rfl rfl).2
theorem Hu{α:Type}{r:Out α}{a:α}{st':Sto}{Q:α→Sto→Prop}{E:KV}(h:r=.ok a st')(q:Q a st'):Ok r Q E:=by subst h;exact q
theorem P4{a:Int}:(a.fmod 2==0)= !(a.fmod 2==1):=by
 have h0:0≤a.fmod 2:=Int.fmod_nonneg_of_pos _ (by decide)
 have h1:a.fmod 2<2:=Int.fmod_lt_of_pos _ (by decide)
 generalize a.fmod 2=x at*
 obtain rfl|rfl:x=0∨x=1:=by lia
 ·rfl
 ·rfl
section
variable {n N M p:Nat} {f g t:Tr} {v w:V} {a:Int} {b:Nat} {k:Bool} {st:Sto} {E:KV} {Q:KD} {s:Str}
theorem Ld(hp:0<p)(hp':p≤6)(h:Nb 8 p v a b k)(q:Q (.v (.bool true)) st):CallK (R C4 T4 (n+9) (.v (.val (.ref 906))) [.v (tw p),.v v,.v (shT k a b)] st) Q E:=by
 refine af rfl rfl ?_
 conv=>whnf
 refine Lb h ?_
 conv=>whnf
 refine P2 h ?_
 conv=>whnf
 refine P3 h ?_
 conv=>whnf
 refine S6 h ?_
 conv=>whnf
 refine S7 h ?_
 conv=>whnf
 refine P1 h ?_
 conv=>whnf
 refine P0 h ?_
 have hx:d7 .NotEq (.v (.lst [.bool (a==0),.bool (decide (0<a)),.bool (decide (a<0)),.bool !k,.bool k,.bool (decide (b=1)),.bool true])) (.v (.lst [.bool (a==0),.bool (decide (0<a)),.bool (decide (a<0)),.bool !k,.bool !!k,.bool ((b:Int)==1),.bool true])) st=some false:=by
  rw[Bool.not_not,Pz]
  exact(fc (Dt.lst (m:=0) (bv .bool (bv .bool (bv .bool (bv .bool (bv .bool (bv .bool (bv .bool mw)))))))) (by decide) rfl rfl).2
 conv=>whnf
 refine⟨_,hx,?_⟩
 clear hx
 conv=>whnf
 refine Cd h fun w hw=>?_
 conv=>whnf
 refine ay hp hp' (by decide) hw ?_
 rw[←Int.zero_sub]
 conv=>whnf
 refine⟨_,Cj (k:=k) (a:=0-a) (b:=b),?_⟩
 conv=>whnf
 refine Kx h fun w hw=>?_
 conv=>whnf
 refine ay hp hp' (by decide) hw ?_
 rw[←df]
 conv=>whnf
 refine⟨_,Cj (k:=k) (a:=if a<0 then -a else a) (b:=b),?_⟩
 conv=>whnf
 refine jy (fun hb=>?_) (fun hb=>?_)
 ·have hb':b≠1:=fun z=>hb (by rw[z];rfl)
  conv=>whnf
  refine Ht (s:=Str.ofString "law") hp' (by decide) h (fun o_=>?_) (fun z=>absurd z hb')
  conv=>whnf
  refine LoopK.of (Hu (a:=D.v (V.bool true)) (st':=st) (by kernel_rfl) ?_)
  exact aa q
 ·have hb':b=1:=Int.ofNat_inj.mp hb
  conv=>whnf
  refine ae ?_ (by decide)
  conv=>whnf
  refine Ht (s:=Str.ofString "law") hp' (by decide) h (fun z=>absurd hb' z) (fun o_=>?_)
  conv=>whnf
  refine⟨true,by rw[eqB,beq_self_eq_true],?_⟩
  conv=>whnf
  refine Lc (s:=Str.ofString "law") hp' (by decide) h (fun z=>absurd hb' z) (fun o_=>?_)
  conv=>whnf
  refine⟨true,by rw[eqB,P4,beq_self_eq_true],?_⟩
  conv=>whnf
  exact aa q
end
noncomputable def td4:TdI:=R3 85 (Str.ofString "asked") (some (Str.ofString "_law_shown"))
section
variable {n N M p:Nat} {f g t:Tr} {v w:V} {vs:List V} {ts:List Tr} {st:Sto} {E:KV} {Q:KD} {s:Str}
theorem oy{W:V→Prop}{sc:Scope}{ρ:En}{f:PySem.Expr}{l:PySem.Expr×Scope×Pos}(h0:((c9 f).bind (dh C4 sc)).bind kv=some 880)(h1:qd l.2.1 sc=true)
 (body:∀Q':KD,(∀x,W x→Q' (.v x) st)→go C4 T4 n bu l.2.1 (xz C4 T4 n td4 Q' (ol C4 td4 Q')) fu [.ex 64 l.1,.ret] [] (az l.2.1 ρ) st (ol C4 td4 Q'))
 (K:∀x,W x→Q (.v x) st):LoopK (kn C4 (JT C4 T4 n) sc ρ f l st) Q E:=O2 h0 h1 rfl rfl (body Q K)
theorem M1{i:Int}{x:V}(q:Q (.v (.lst [.str (Str.ofString "law"),.int i])) st):ol C4 td4 Q (wkV (Str.ofString "law") i x) st:=by
 conv=>whnf
 refine LoopK.of (Hu (a:=.v (.lst [.str (Str.ofString "law"),.int i])) (st':=st) (by kernel_rfl) ?_)
 exact q
theorem M2(q:Q (.v (.str (Str.ofString "zero"))) st):ol C4 td4 Q (dzV (Str.ofString "law")) st:=by
 conv=>whnf
 refine LoopK.of (Hu (a:=.v (.str (Str.ofString "zero"))) (st':=st) (by kernel_rfl) ?_)
 exact q
theorem v7{o:Op4}{x:Option Tr}(hp:0<p)(hf:TB f)(hl:Nl 8 p vs ts)(h:Fo p o f ts (some g))(h':Fo p o f ts x):tc x=shV g:=by
 rw[←Fo.unique hp hf hl.b0 h h'];rfl
theorem Ap:PyData.strOk (Str.ofString "zero")=true:=by kernel_rfl
theorem Hv{x:Option Tr}:Dt 1 (tc x):=by
 cases x with
 |none=>exact .str Ap
 |some t=>exact n6
theorem Hw{x:Option Tr}:d7 .NotEq (.v (tc x)) (.v (tc x)) st=some false:=(fc Hv (by decide) rfl rfl).2
theorem Hx{x:Option Tr}:d7 .Eq (.v (tc x)) (.v (tc x)) st=some true:=(fc Hv (by decide) rfl rfl).1
theorem Re.neg{m e:Int}(h:Re N p m e):Re N p (-m) e:=⟨by rw[Int.natAbs_neg];exact h.o.imp id fun z=>⟨by rw[z.1];rfl,z.2⟩,by rw[Int.natAbs_neg];exact h.lt,h.el⟩
theorem S8{x:Int}{y:Nat}:(0:Int)*y-x*((1:Nat):Int)= -x:=by rw[Int.zero_mul,Int.zero_sub];exact congrArg Neg.neg (Int.mul_one x)
theorem St.neg(h:NbT N p v t):St p .sub 0 1 t.a t.b (-t.a) t.b t.k:=by
 obtain⟨k,a,b⟩:=t
 have hn:Nb N p v a b k:=h
 clear h
 show St p .sub 0 1 a b (-a) b k
 cases hn with
 |ex h1 h2 h3 h4=>
  refine vq (x:=1) (y:=b) (by decide) h2 ⟨Int.natCast_pos.mpr h2,by rw[Int.neg_gcd];exact h4,?_⟩
  rw[S8,Int.natCast_one,Int.one_mul]
 |@re m e h=>
  refine⟨0,0,m,e,-m,e,.inl ⟨rfl,rfl⟩,h.rd,?_,frT_neg.symm,rfl⟩
  refine vt (x:=1) (y:=frB e) (by decide) ah ?_
  have e1:frT 0 0*(frB e:Int)-frT m e*(frB 0:Nat)=frT (-m) e:=by rw[frT_neg];exact S8
  rw[e1,Nat.one_mul]
  exact h.neg.rd
end
theorem S9{v:V}{vs:List V}(h:vs≠[]):(1:Int)<((v::vs).length:Int):=by
 obtain⟨x,l,rfl⟩:=List.exists_cons_of_ne_nil h
 exact Int.ofNat_lt.mpr (Nat.succ_lt_succ (Nat.succ_pos _))
section
variable {n N M p:Nat} {f g t:Tr} {v w:V} {vs:List V} {ts:List Tr} {st:Sto} {E:KV} {Q:KD} {s:Str}
noncomputable def foE(p:Nat)(vs:List V)(sh first rest:V):En:=[(Str.ofString "tower",.v (tw p)),(Str.ofString "some",.v (.lst vs)),(Str.ofString "shown",.v sh),(Str.ofString "bits",.v (.int p)),(Str.ofString "first",.v first),(Str.ofString "rest",.v rest)]
theorem yj{a1 a2:V}{F:Nat}(hp:0<p)(hp':p≤6)(hv:NbT 8 p v t)(q:Q (.v (.bool true)) st):go C4 T4 (n+10) (JT C4 T4 (n+10)) (fi 86).sc (bz st.length Q) (F+800) [.sts 64 ((fi 86).body.drop 6)] [] (foE p [v] (.lst [shV t]) a1 a2) st E:=by
 have tb:∀x∈[t],TB x:=fun x hx=>List.mem_singleton.mp hx▸Nb.b0 hv
 conv=>whnf
 refine ae ?_ (szL (Nat.le_of_ble_eq_true rfl))
 conv=>whnf
 refine oy (W:=fun x=>∃y,x=tc y∧Fo p .sub ⟨false,0,1⟩ [t] y) rfl rfl (fun Q' K=>?_) fun x hx=>?_
 ·conv=>whnf
  refine K1 hv fun w hw=>?_
  conv=>whnf
  exact ay hp hp' (by decide) hw (K _ ⟨some ⟨t.k,-t.a,t.b⟩,rfl,Fo.st (g:=⟨t.k,-t.a,t.b⟩) (fun z=>nomatch z) rfl (St.neg hv) .nil⟩)
 obtain⟨y,rfl,hy⟩:=hx
 conv=>whnf
 refine kh (o:=.sub) (f:=⟨false,0,1⟩) (ts:=[t]) hp hp' (Al (i:=0) (by decide)) (.cons hv .nil) (Nat.le_of_ble_eq_true rfl) fun x hx=>?_
 rw[Fo.unique (f:=⟨false,0,1⟩) hp (Nat.le_refl 1) tb hx hy]
 cases y with
 |none=>
  ((conv=>whnf);repeat'((with_reducible apply ae);(conv=>whnf)))
  ·exact aa q
  ·exact ag Ap Ap
 |some y=>
  conv=>whnf
  refine⟨_,Hx (x:=some y),?_⟩
  conv=>whnf
  exact aa q
theorem yk{a1 a2:V}{F:Nat}(hp:0<p)(hp':p≤6)(hv:NbT 8 p v t)(hl:Nl 8 p vs ts)(n2:vs≠[])(ln:ts.length≤5)(q:Q (.v (.bool true)) st):go C4 T4 (n+10) (JT C4 T4 (n+10)) (fi 86).sc (bz st.length Q) (F+800) [.sts 64 ((fi 86).body.drop 6)] [] (foE p (v::vs) (.lst (shV t::ts.map shV)) a1 a2) st E:=by
 conv=>whnf
 refine ae ?_ (szL (Nat.succ_le_succ (by rw[hl.len];exact ln)))
 conv=>whnf
 refine aj (fun o_=>?_) (fun z=>absurd ?_ z)
 ·conv=>whnf
  rw[kr]
  conv=>whnf
  refine ae ?_ (szL (Nat.succ_le_succ (by rw[List.length_map];exact ln)))
  conv=>whnf
  refine oy (W:=fun x=>∃g,x=shV g∧Fo p .sub t ts (some g)) rfl rfl (fun Q' K=>?_) fun x hx=>?_
  ·conv=>whnf
   refine Pu hp hp' hv hl n2 ln fun w g hw hf=>?_
   conv=>whnf
   exact ay hp hp' (by decide) hw (K _ ⟨g,rfl,hf⟩)
  obtain⟨g,rfl,hg⟩:=hx
  conv=>whnf
  refine kh (o:=.sub) (f:=t) hp hp' hv hl ln fun x hx=>?_
  rw[v7 hp (Nb.b0 hv) hl hg hx]
  conv=>whnf
  refine⟨_,Hx (x:=some g),?_⟩
  conv=>whnf
  exact aa q
 ·exact S9 n2
end
section
variable {n N M p:Nat} {f g t:Tr} {v w:V} {vs:List V} {ts:List Tr} {st:Sto} {E:KV} {Q:KD} {s:Str}
theorem Le(hne:∀(x:V) (xs:List V) (st:Sto),d7 .Eq (.v (.lst (x::xs))) (.v (.lst [])) st=some false)
 (hdv:∀{n:Nat} {t:Tr} {v:V} {vs:List V} {ts:List Tr} {s:Str} {E:KV} {Q:KD} {st:Sto},NbT 8 p v t→Nl 8 p vs ts→vs≠[]→ts.length≤5→(Fo p .div t ts none→E (dzV s) st)→(∀w g,NbT 248 p w g→Fo p .div t ts (some g)→Q (.v w) st)→CallK (R C4 T4 (n+9) (.v (.val (.ref 700))) [.v (tw p),.v (.lst (v::vs)),.v (.str s)] st) Q E)
 (hp:0<p) (hp':p≤6) (hl:Nl 8 p vs ts) (len:ts.length≤4) (q:Q (.v (.bool true)) st):CallK (R C4 T4 (n+12) (.v (.val (.ref 887))) [.v (tw p),.v (.lst vs),.v (.lst (ts.map shV))] st) Q E:=by
 refine af rfl rfl ?_
 conv=>whnf
 refine oy (W:=fun x=>∃g,x=shV g∧Fo p .add ⟨false,0,1⟩ ts (some g)) rfl rfl (fun Q' K=>?_) fun x hx=>?_
 ·conv=>whnf
  refine Sx hp hp' hl (Nat.le_succ_of_le len) fun w g hw hf=>?_
  conv=>whnf
  exact ay hp hp' (by decide) hw (K _ ⟨g,rfl,hf⟩)
 obtain⟨g,rfl,hg⟩:=hx
 conv=>whnf
 refine kh (o:=.add) (f:=⟨false,0,1⟩) hp hp' (Al (i:=0) (by decide)) hl (Nat.le_succ_of_le len) fun x hx=>?_
 rw[v7 (f:=⟨false,0,1⟩) hp (Nat.le_refl 1) hl hg hx]
 clear hx hg
 conv=>whnf
 refine⟨_,Cj,?_⟩
 conv=>whnf
 refine oy (W:=fun x=>∃g,x=shV g∧Fo p .mul ⟨false,1,1⟩ ts (some g)) rfl rfl (fun Q' K=>?_) fun x hx=>?_
 ·conv=>whnf
  refine Pt hp hp' hl (Nat.le_succ_of_le len) fun w g hw hf=>?_
  conv=>whnf
  exact ay hp hp' (by decide) hw (K _ ⟨g,rfl,hf⟩)
 obtain⟨g,rfl,hg⟩:=hx
 conv=>whnf
 refine kh (o:=.mul) (f:=⟨false,1,1⟩) hp hp' (Al (i:=1) (by decide)) hl (Nat.le_succ_of_le len) fun x hx=>?_
 rw[v7 (f:=⟨false,1,1⟩) hp (Nat.le_refl 1) hl hg hx]
 clear hx hg
 conv=>whnf
 refine⟨_,Cj,?_⟩
 conv=>whnf
 cases hl with
 |nil=>
  refine⟨true,by kernel_rfl,?_⟩
  conv=>whnf
  exact aa q
 |@cons v t vs ts hv hl=>
 refine⟨false,hne _ _ _,?_⟩
 have ln:(v::vs).length≤6:=Nat.succ_le_succ (by rw[hl.len];exact Nat.le_trans (Nat.le_of_succ_le_succ len) (by decide))
 rw[List.map_cons]
 have fin1:∀{x y:Option Tr} {f:Tr} {o:Op4} {l:List Tr},TB f→(∀t∈l,TB t)→Fo p o f l x→Fo p o f l y→x=y:=fun hf hl h h'=>Fo.unique hp hf hl h h'
 conv=>whnf
 refine ae ?_ (szL ln)
 cases hl with
 |nil=>
  have tb:∀x∈[t],TB x:=fun x hx=>List.mem_singleton.mp hx▸Nb.b0 hv
  conv=>whnf
  refine oy (W:=fun x=>∃y,x=tc y∧Fo p .div ⟨false,1,1⟩ [t] y) rfl rfl (fun Q' K=>?_) fun x hx=>?_
  ·conv=>whnf
   refine K2 hp hp' hv (fun z=>M2 (K _ ⟨none,rfl,.z rfl z⟩)) fun z w A B hw hs=>?_
   conv=>whnf
   exact ay hp hp' (by decide) hw (K _ ⟨some ⟨t.k,A,B⟩,rfl,Fo.st (g:=⟨t.k,A,B⟩) (fun o_=>z) rfl hs .nil⟩)
  obtain⟨y,rfl,hy⟩:=hx
  conv=>whnf
  refine kh (o:=.div) (f:=⟨false,1,1⟩) (ts:=[t]) hp hp' (Al (i:=1) (by decide)) (.cons hv .nil) (Nat.le_of_ble_eq_true rfl) fun x hx=>?_
  rw[fin1 (f:=⟨false,1,1⟩) (Nat.le_refl 1) tb hx hy]
  cases y with
  |none=>
   conv=>whnf
   refine ae ?_ (ag Ap Ap)
   conv=>whnf
   exact yj hp hp' hv q
  |some y=>
   conv=>whnf
   refine⟨_,Hw (x:=some y),?_⟩
   conv=>whnf
   exact yj hp hp' hv q
 |@cons v2 t2 vs ts hv2 hl=>
  have ln':(v2::vs).length≤5:=Nat.le_of_succ_le_succ ln
  have hl2:Nl 8 p (v2::vs) (t2::ts):=.cons hv2 hl
  have ln2:(t2::ts).length≤5:=by rw[←hl2.len];exact ln'
  have tb:TB t:=Nb.b0 hv
  have tl:=hl2.b0
  have n2:v2::vs≠[]:=fun z=>nomatch z
  generalize v2::vs=vs' at*
  generalize t2::ts=ts' at*
  clear hv2 hl
  conv=>whnf
  refine aj (fun o_=>?_) (fun z=>absurd (S9 n2) z)
  conv=>whnf
  rw[kr]
  conv=>whnf
  refine ae ?_ (szL (Nat.succ_le_succ (by rw[List.length_map];exact ln2)))
  conv=>whnf
  refine oy (W:=fun x=>∃y,x=tc y∧Fo p .div t ts' y) rfl rfl (fun Q' K=>?_) fun x hx=>?_
  ·conv=>whnf
   refine hdv hv hl2 n2 ln2 (fun z=>M2 (K _ ⟨none,rfl,z⟩)) fun w g hw hf=>?_
   conv=>whnf
   exact ay hp hp' (by decide) hw (K _ ⟨some g,rfl,hf⟩)
  obtain⟨y,rfl,hy⟩:=hx
  conv=>whnf
  refine kh (o:=.div) (f:=t) hp hp' hv hl2 ln2 fun x hx=>?_
  rw[fin1 tb tl hx hy]
  cases y with
  |none=>
   conv=>whnf
   refine ae ?_ (ag Ap Ap)
   conv=>whnf
   exact yk hp hp' hv hl2 n2 ln2 q
  |some y=>
   conv=>whnf
   refine⟨_,Hw (x:=some y),?_⟩
   conv=>whnf
   exact yk hp hp' hv hl2 n2 ln2 q
end
section
variable {C:Cx} {T:Tab} {m:Nat} {J:Js}
noncomputable def Ta(f:Bool→Sto→Prop)(p:Fl×En)(st:Sto):Prop:=
 match p.1 with
 |.ret d=>e6 d fun b=>f b st
 |_=>False
theorem mx{k:Nat}{sc:Scope}{put:V→En→Option En}{e c:PySem.Expr}{l₀ acc₀:List V}{ρ₀:En}{st₀:Sto}{Q:List V→Sto→Prop}{E:KV}(I:List V→En→List V→Sto→Prop)(hI:I l₀ ρ₀ acc₀ st₀)
 (h0:∀ρ acc st,I [] ρ acc st→Q acc st)
 (h:∀x r ρ acc st,I (x::r) ρ acc st→∃ρ₁,put x ρ=some ρ₁∧go C T m J sc (Ta fun b st₁=>(b=true→go C T m J sc (O0 fun y st₂=>cf acc.length=true∧I r ρ₁ (acc++[y]) st₂) fu [.ex k e,.ret] [] ρ₁ st₁ NoE)∧(b=false→I r ρ₁ acc st₁)) fu [.tt k c,.ret] [] ρ₁ st NoE):
 LoopK (a8 put (ey ((XI C T m J k).tt sc) [c]) (fun ρ st=>(XI C T m J k).ex sc ρ e st) l₀ ρ₀ acc₀ st₀) Q E:=
 LoopK.of (pk I h0 (fun x r ρ acc st hI=>by
  obtain⟨ρ₁,h1,h2⟩:=h x r ρ acc st hI
  have h3:Ok ((XI C T m J k).tt sc ρ₁ c st) (fun b st₁=>Ta (fun b st₁=>(b=true→go C T m J sc (O0 fun y st₂=>cf acc.length=true∧I r ρ₁ (acc++[y]) st₂) fu [.ex k e,.ret] [] ρ₁ st₁ NoE)∧(b=false→I r ρ₁ acc st₁)) (.ret (.v (.bool b)),ρ₁) st₁) NoE:=mf fu _ _ _ _ _ h2
  refine⟨ρ₁,h1,h3.mono fun b st₁ h4=>?_⟩
  obtain⟨h5,h6⟩:(b=true→_)∧(b=false→_):=h4
  refine⟨fun z=>?_,h6⟩
  exact Ok.mono (mf fu _ _ _ _ _ (h5 z)) fun d st h=>by
   induction d using D.casesOn with
   |v x=>exact⟨x,rfl,h⟩
   |m i=>exact h.elim) l₀ ρ₀ acc₀ st₀ hI)
end
noncomputable def jc(l:List Tr)(i:Nat):Tr:=l.getD i ⟨false,0,1⟩
noncomputable def sdT(l:List Tr)(i:Nat):Int:=cpS (jc l i).a (jc l i).b (jc l (i+1)).a (jc l (i+1)).b
theorem Nl.get{N p:Nat}{l:List V}{r:List Tr}(h:Nl N p l r):∀i,i<r.length→∃v,l[i]? =some v∧NbT N p v (jc r i):=by
 induction h with
 |nil=>exact fun i h=>absurd h (Nat.not_lt_zero i)
 |@cons v t l r hv _ ih=>
  intro i hi
  cases i with
  |zero=>exact⟨v,rfl,hv⟩
  |succ i=>exact ih i (Nat.lt_of_succ_lt_succ hi)
theorem sub1_l{l:List V}{k:Int}{st:Sto}:kt (.v (.lst l)) (.v (.int k)) st=f5 l k:=rfl
theorem Hy{l:List V}{v:V}{i:Nat}{k:Int}(hk:(i:Int)=k)(hl:l.length≤100)(h:l[i]? =some v):f5 l k=some v:=by
 obtain⟨hi,h⟩:=List.getElem?_eq_some_iff.mp h
 have hl':(l.length:Int)≤(100:Nat):=Int.ofNat_le.mpr hl
 have h0: -(l.length:Int)≤k:=by rw[←hk];exact Int.le_trans (Int.neg_nonpos_of_nonneg (Int.natCast_nonneg _)) (Int.natCast_nonneg i)
 have h1:k<l.length:=by rw[←hk];exact Int.ofNat_lt.mpr hi
 have h2:¬k<0:=by rw[←hk];exact Int.not_lt.mpr (Int.natCast_nonneg i)
 unfold f5
 rw[if_pos ⟨Int.le_trans (Int.neg_le_neg (Int.le_trans hl' (by decide))) h0,Int.lt_trans h1 (Int.lt_of_le_of_lt hl' (by decide))⟩,Am i hi (by rw[if_neg h2,hk])]
 exact List.getElem?_eq_some_iff.mpr ⟨hi,h⟩
theorem pv{l:List V}{v:V}{i:Nat}{k:Int}{st:Sto}(hk:(i:Int)=k)(hl:l.length≤100)(h:l[i]? =some v):kt (.v (.lst l)) (.v (.int k)) st=some v:=sub1_l.trans (Hy hk hl h)
theorem Lf{r:List Tr}{i:Nat}(hi:i<r.length):r[i]? =some (jc r i):=by
 unfold jc
 rw[List.getD_eq_getElem?_getD,List.getElem?_eq_getElem hi,Option.getD_some]
theorem Ck{r:List Tr}{i:Nat}(hi:i<r.length):(r.map shV)[i]? =some (shV (jc r i)):=List.getElem?_map.trans (congrArg (Option.map shV) (Lf hi))
section
variable {n N M p:Nat} {f g t:Tr} {v w:V} {vs:List V} {ts:List Tr} {st:Sto} {E:KV} {Q:KD} {s:Str}
inductive ChI (p:Nat) (vs:List V) (ts:List Tr) (ws:List Int) (st:Sto) (l:List V) (ρ:En) (s:Sto):Prop
 |mk:s=st→∀(is:List Nat) ow,l=is.map (fun(i:Nat)=>V.int (i:Int))→(∀i∈is,i+1<ts.length)→((List.range (ts.length-1)).all fun i=>ws.contains (sdT ts i))=(is.all fun i=>ws.contains (sdT ts i))→ρ=[(Str.ofString "self",.v (tw p)),(Str.ofString "numbers",.v (.lst vs)),(Str.ofString "wanted",.v (.tup (ws.map V.int)))]++ow→Ow "at" ow→ChI p vs ts ws st l ρ s
theorem Lg{ws:List Int}(hw:∀x st,d7 .NotIn (.v (.int x)) (.v (.tup (ws.map V.int))) st=some (!ws.contains x))(hp:0<p)(hp':p≤6)(hl:Nl 8 p vs ts)(len:ts.length≤5)(q:Q (.v (.bool ((List.range (ts.length-1)).all fun i=>ws.contains (sdT ts i)))) st):CallK (R C4 T4 (n+9) (.v (.val (.ref 616))) [.v (tw p),.v (.lst vs),.v (.tup (ws.map V.int))] st) Q E:=by
 refine af rfl rfl ?_
 conv=>whnf
 refine ae ?_ (szL (by rw[hl.len];exact Nat.le_succ_of_le len))
 conv=>whnf
 have l20:((vs.length:Int)-1).natAbs<2^20:=Qu hl.len len (by decide)
 refine ae ?_ l20
 conv=>whnf
 have hi:dp .one [.v (.rng 0 ((vs.length:Int)-1))]=some (gi 0 ((vs.length:Int)-1)):=if_pos ⟨by decide,Nat.le_of_lt l20⟩
 rw[hi]
 clear hi
 have hr:gi 0 ((vs.length:Int)-1)=(List.range (ts.length-1)).map fun(i:Nat)=>V.int (i:Int):=by
  unfold gi
  have e1:((vs.length:Int)-1-0).toNat=ts.length-1:=Qt hl.len
  rw[e1]
  exact List.map_congr_left fun i o_=>by rw[Int.zero_add]
 rw[hr]
 clear hr l20
 have vl:vs.length≤100:=by rw[hl.len];exact Nat.le_trans len (by decide)
 conv=>whnf
 refine ja (ChI p vs ts ws st) ⟨rfl,_,[],rfl,fun i hi=>Nat.add_lt_of_lt_sub (List.mem_range.mp hi),rfl,rfl,.inl rfl⟩ (fun ρ s hI=>?_) fun x l ρ s hI=>?_
 ·obtain⟨rfl,is,ow,e,_,z,rfl,_⟩:=hI
  obtain rfl:is=[]:=List.map_eq_nil_iff.mp e.symm
  rw[z]at q
  conv=>whnf
  exact aa q
 ·obtain⟨rfl,is,ow,e,hin,z,rfl,ho⟩:=hI
  cases is with
  |nil=>exact nomatch e
  |cons i is=>
  injection e with e1 e2
  obtain⟨k,hk⟩:∃k:Int,(i:Int)=k:=⟨_,rfl⟩
  have e1:x=V.int k:=e1.trans (congrArg V.int hk)
  subst e1 e2
  have hi:=hin i (List.mem_cons_self ..)
  have G1:=hl.get i (Nat.lt_of_succ_lt hi)
  have G2:=hl.get (i+1) hi
  obtain⟨v,gn1⟩:=G1
  obtain⟨v',gn2⟩:=G2
  have g1:=gn1.1
  have n1:=gn1.2
  have g2:=gn2.1
  have n2:=gn2.2
  clear gn1 gn2
  have s1:kt (.v (.lst vs)) (.v (.int k)) s=some v:=pv (i:=i) hk vl g1
  have ek:((i+1:Nat):Int)=k+1:=by rw[←hk];exact Int.natCast_add i 1
  have s2:kt (.v (.lst vs)) (.v (.int (k+1))) s=some v':=pv (i:=i+1) ek vl g2
  clear ek g1 g2
  refine⟨[(Str.ofString "self",.v (tw p)),(Str.ofString "numbers",.v (.lst vs)),(Str.ofString "wanted",.v (.tup (ws.map V.int))),(Str.ofString "at",.v (.int k))],?_,?_⟩
  ·rcases ho with rfl|⟨y,rfl⟩<;>rfl
  conv=>whnf
  rw[s1]
  conv=>whnf
  rw[s2]
  conv=>whnf
  refine Ao hp hp' (by decide) n1 n2 ?_
  conv=>whnf
  rw[List.all_cons]at z
  have z:_=(ws.contains (cpS (jc ts i).a (jc ts i).b (jc ts (i+1)).a (jc ts (i+1)).b)&&_):=z
  refine⟨_,hw _ _,?_⟩
  generalize ws.contains (cpS (jc ts i).a (jc ts i).b (jc ts (i+1)).a (jc ts (i+1)).b)=c at*
  cases c with
  |true=>
   conv=>whnf
   exact⟨rfl,is,_,rfl,fun j hj=>hin j (List.mem_cons_of_mem _ hj),z,rfl,.inr ⟨_,rfl⟩⟩
  |false=>
   rw[z]at q
   conv=>whnf
   exact aa q
end
theorem sr{ws:List Int}{x:Int}:(ws.any fun y=>y==x)=ws.contains x:=by
 rw[List.contains_eq_any_beq]
 congr 1
 funext y
 exact BEq.comm
theorem hw1(x:Int)(st:Sto):d7 .NotIn (.v (.int x)) (.v (.tup (([-1]:List Int).map V.int))) st=some (!([-1]:List Int).contains x):=by
 rw[←sr]
 kernel_rfl
theorem hw2(x:Int)(st:Sto):d7 .NotIn (.v (.int x)) (.v (.tup (([0]:List Int).map V.int))) st=some (!([0]:List Int).contains x):=by
 rw[←sr]
 kernel_rfl
theorem hw3(x:Int)(st:Sto):d7 .NotIn (.v (.int x)) (.v (.tup (([1]:List Int).map V.int))) st=some (!([1]:List Int).contains x):=by
 rw[←sr]
 kernel_rfl
theorem hw4(x:Int)(st:Sto):d7 .NotIn (.v (.int x)) (.v (.tup (([-1,0]:List Int).map V.int))) st=some (!([-1,0]:List Int).contains x):=by
 rw[←sr]
 kernel_rfl
theorem hw5(x:Int)(st:Sto):d7 .NotIn (.v (.int x)) (.v (.tup (([0,1]:List Int).map V.int))) st=some (!([0,1]:List Int).contains x):=by
 rw[←sr]
 kernel_rfl
section
variable {n N M p:Nat} {f g t:Tr} {v w:V} {vs:List V} {ts r:List Tr} {s:Str} {st:Sto} {E:KV} {Q:KD}
noncomputable def M3(p:Nat)(l:List V)(s:Str)(w:V):En:=[(Str.ofString "self",.v (tw p)),(Str.ofString "numbers",.v (.lst l)),(Str.ofString "who",.v (.str s)),(Str.ofString "found",.v w)]
theorem P5(hp:0<p)(hp':p≤6)(h:NbT 8 p v t)(hl:Nl 8 p vs ts)(hv:vs≠[])(len:ts.length≤5)(q0:Fo p .div t ts none→E (dzV s) st)(q:∀w g,NbT 248 p w g→Fo p .div t ts (some g)→Q (.v w) st):
 CallK (R C4 T4 (n+9) (.v (.val (.ref 700))) [.v (tw p),.v (.lst (v::vs)),.v (.str s)] st) Q E:=by
 refine af rfl rfl ?_
 conv=>whnf
 refine ae ?_ (szL (Nat.succ_le_succ (by rw[hl.len];exact len)))
 conv=>whnf
 refine aj (fun z=>absurd (Sy z) hv) fun o_=>?_
 conv=>whnf
 rw[kr]
 conv=>whnf
 refine ae ?_ (szL (Nat.succ_le_succ (by rw[hl.len];exact len)))
 conv=>whnf
 refine Ab (TfI p .div t ts (M3 p (v::vs) s) st) ⟨rfl,t,v,0,ts,[],hl,h,by rw[Nat.zero_add];exact len,fun o_ h=>h,rfl,.inl rfl⟩ (fun ρ st' hI=>?_) fun x l ρ st' hI=>?_
 ·obtain⟨rfl,g,w,j,r,ow,hl,hw,hj,hF,rfl,ho⟩:=hI
  cases hl
  conv=>whnf
  exact aa (q w g (hw.mono (v0 hj)) (hF _ .nil))
 ·obtain⟨rfl,g,w,j,r,ow,hl,hw,hj,hF,rfl,ho⟩:=hI
  cases hl with
  |@cons _ t' l' r ht hl=>
  refine⟨M3 p (v::vs) s w++[(Str.ofString "number",.v x)],?_,?_⟩
  ·rcases ho with rfl|⟨y,rfl⟩<;>rfl
  conv=>whnf
  by_cases h0:t'.a=0
  ·exact yh ht h0 (q0 (hF _ (.z rfl h0)))
  refine Cc hp hp' (FoI.lv hj) (by decide) hw ht h0 fun z A B h s'=>?_
  conv=>whnf
  exact⟨rfl,⟨_,A,B⟩,z,j+1,r,_,hl,h,by rw[Nat.add_right_comm];exact hj,fun y hy=>hF y (.st (fun o_=>h0) rfl s' hy),rfl,.inr ⟨_,rfl⟩⟩
end
theorem n7(x:V)(xs:List V)(st:Sto):d7 .Eq (.v (.lst (x::xs))) (.v (.lst [])) st=some false:=by
 show eqD _ _ _=_
 unfold eqD
 rw[show D.dat st (.v (.lst []))=some (.list [])from rfl]
 generalize h:D.dat st (.v (.lst (x::xs)))=z
 cases z with
 |none=>rfl
 |some y=>
  have h:(x.dat.bind fun d=>(V.dats xs).bind fun ds=>some (d::ds)).map PyData.list=some y:=h
  obtain⟨ds,h1,h2⟩:=zmp h
  subst h2
  have hn:ds≠[]:=fun z=>by
   rw[z]at h1
   exact ao h1 fun d o_ h1=>ao h1 fun ds o_ h1=>nomatch h1
  show Option.or (if SeqAt.shaped (.list ds)&&SeqAt.shaped (.list [])then some (PyData.eqv (.list ds) (.list []))else none) (some false)=_
  rw[show PyData.eqv (.list ds) (.list [])=false from SeqAt.eqvAll_other_length fun z=>hn (List.length_eq_zero_iff.mp z)]
  generalize (SeqAt.shaped (.list ds)&&SeqAt.shaped (.list []))=b
  cases b<;>rfl
section
variable {n N M p:Nat} {f g t:Tr} {v w:V} {vs:List V} {ts:List Tr} {st:Sto} {E:KV} {Q:KD} {s:Str}
theorem Hz(hp:0<p)(hp':p≤6)(hl:Nl 8 p vs ts)(len:ts.length≤4)(q:Q (.v (.bool true)) st):CallK (R C4 T4 (n+12) (.v (.val (.ref 887))) [.v (tw p),.v (.lst vs),.v (.lst (ts.map shV))] st) Q E:=
 Le n7 (fun h hl hv len q0 q=>P5 hp hp' h hl hv len q0 q) hp hp' hl len q
end
noncomputable def lcF(a b:Int):Int:=if a=0∨b=0 then 0 else (a.natAbs:Int)/(Int.gcd a b:Int)*(b.natAbs:Int)
noncomputable def gcI(a b:Int):Int:=Int.gcd a b
noncomputable def cb(F:Int→Int→Int)(g:Int)(l:List Tr):Int:=l.foldl (fun g t=>F g t.a) g
noncomputable def bad(i:Nat):List Tr→Option Nat
 |[]=>none
 |t::r=>if t.b=1 then bad (i+1) r else some i
theorem H0{i:Nat}{t:Tr}{r:List Tr}(h:t.b=1):bad i (t::r)=bad (i+1) r:=if_pos h
theorem H1{i:Nat}{t:Tr}{r:List Tr}(h:t.b≠1):bad i (t::r)=some i:=if_neg h
theorem H2{a b:Int}{X:Nat}(ha:a.natAbs<2^X)(hb:b.natAbs<2^20):(gcI a b).natAbs<2^(X+20):=by
 show Nat.gcd a.natAbs b.natAbs<_
 by_cases h:a.natAbs=0
 ·rw[h,Nat.gcd_zero_left];exact ac hb (Nat.le_add_left ..)
 ·exact Nat.lt_of_le_of_lt (Nat.le_of_dvd (Nat.pos_of_ne_zero h) (Nat.gcd_dvd_left ..)) (ac ha (Nat.le_add_right ..))
theorem H3{a b:Int}{X:Nat}(ha:a.natAbs<2^X)(hb:b.natAbs<2^20):(lcF a b).natAbs<2^(X+20):=by
 unfold lcF
 split
 ·exact Nat.two_pow_pos _
 ·rw[Int.natAbs_mul]
  refine ch (Nat.lt_of_le_of_lt ?_ ha) hb
  exact Int.natAbs_ediv_le_natAbs ..
theorem uj{i:Nat}{l:List V}(h:[]=m8 i l):l=[]:=q5 h
theorem su{i:Nat}{x:V}{l r:List V}(h:x::r=m8 i l):∃y l',l=y::l'∧x=.tup [.int (i:Int),y]∧r=m8 (i+1) l':=nq h
section
variable {n N M p:Nat} {f g t:Tr} {v w:V} {vs:List V} {ts:List Tr} {st:Sto} {E:KV} {Q:KD} {s:Str}
set_option tactic.hygienic true in
theorem Tb{a b:Int}(ha:a.natAbs<2^500)(hb:b.natAbs<2^500)(q:Q (.v (.int (lcF a b))) st):CallK (R C4 T4 (n+4) (.v (.val (.ref 336))) [.v (.int a),.v (.int b)] st) Q E:=by
 refine af rfl rfl ?_
 ((conv=>whnf);repeat'((with_reducible apply bt)<;>(intro _;(conv=>whnf))))
 ·rename_i h
  unfold lcF at q;rw[if_pos (.inl h)]at q;exact aa q
 ·rename_i h
  unfold lcF at q;rw[if_pos (.inr h)]at q;exact aa q
 ·rename_i h0 h1
  have le:∀{x:Int},x.natAbs<2^500→Sm x:=fun h=>ac h (by decide)
  refine om (ac ha (by decide)) (ac hb (by decide)) ?_
  rw[df]
  have g0:Int.gcd a b≠0:=fun z=>h0 (Int.gcd_eq_zero_iff.mp z).1
  ((conv=>whnf);repeat'((with_reducible apply ae);(conv=>whnf)))
  ·unfold lcF at q
   rw[if_neg (fun z=>z.elim h0 h1)]at q
   rw[df,av]
   exact aa q
  ·rw[df,av]
   exact am (Nat.lt_of_le_of_lt (Int.natAbs_ediv_le_natAbs ..) (le ha)) (le hb)
  ·exact ed (Int.ofNat_ne_zero.mpr g0) (Nat.lt_of_le_of_lt (Nat.le_of_dvd (Int.natAbs_pos.mpr h0) (Nat.gcd_dvd_left ..)) (le ha))
inductive GwI (F:Int→Int→Int) (p:Nat) (g₀:Int) (ts:List Tr) (base:Int→En) (st:Sto) (l:List V) (ρ:En) (s:Sto):Prop
 |mk:s=st→∀i l' r g j ow,l=m8 i l'→Nl 8 p l' r→bad 0 ts=bad i r→cb F g₀ ts=cb F g r→g.natAbs<2^(20+20*j)→j+r.length≤5→ρ=base g++ow→(ow=[]∨∃x y,ow=[(Str.ofString "place",x),(Str.ofString "number",y)])→GwI F p g₀ ts base st l ρ s
noncomputable def gwE(p:Nat)(l:List V)(s:Str)(g:Int):En:=[(Str.ofString "self",.v (tw p)),(Str.ofString "numbers",.v (.lst l)),(Str.ofString "who",.v (.str s)),(Str.ofString "found",.v (.int g))]
theorem Lh{g:Int}{j:Nat}(h:g.natAbs<2^(20+20*j))(hj:j≤5):Nb 120 p (.int g) g 1 false:=by
 have:Nb 120 p (nV g 1) g 1 false:=.ex (ac h (Nat.add_le_add_left (Nat.mul_le_mul_left 20 hj) 20)) (by decide) (by decide) (Int.gcd_one_right _)
 rwa [nV1]at this
theorem my(hp:0<p)(hp':p≤6)(h:NbT 8 p v t):t.a.natAbs<2^20:=ac (Nb.lt hp h).1 (Nat.le_trans (Nat.add_le_add_right hp' 8) (by decide))
theorem P6(hp:0<p)(hp':p≤6)(hl:Nl 8 p vs ts)(len:ts.length≤5)(qe:∀i v,bad 0 ts=some i→E (wkV s i v) st)
 (q0:bad 0 ts=none→cy ts=false→Nb 120 p (.int (cb gcI 0 ts)) (cb gcI 0 ts) 1 false→Q (.v (.int (cb gcI 0 ts))) st) (q1:bad 0 ts=none→cy ts=true→∀m e,Rd p (cb gcI 0 ts) 1 (rV m e)→Re (120+p) p m e→Q (.v (rV m e)) st):
 CallK (R C4 T4 (n+9) (.v (.val (.ref 749))) [.v (tw p),.v (.lst vs),.v (.str s)] st) Q E:=by
 refine af rfl rfl ?_
 conv=>whnf
 refine Ab (GwI gcI p 0 ts (gwE p vs s) st) ⟨rfl,0,vs,ts,0,0,[],rfl,hl,rfl,rfl,by decide,by rw[Nat.zero_add];exact len,rfl,.inl rfl⟩ (fun ρ s' hI=>?_) fun x l ρ s' hI=>?_
 ·obtain⟨rfl,i,l',r,g,j,ow,e,hl',hb,hF,hg,hj,rfl,ho⟩:=hI
  obtain rfl:=uj e
  cases hl'
  have hF:cb gcI 0 ts=g:=hF
  rw[hF]at q0 q1
  conv=>whnf
  refine sq hp hp' (by decide) hl (Lh hg (Nat.le_trans (Nat.le_add_right ..) hj)) (fun z=>?_) fun z m e r re=>?_
  ·conv=>whnf
   exact aa (q0 hb z (Lh hg (Nat.le_trans (Nat.le_add_right ..) hj)))
  ·conv=>whnf
   exact aa (q1 hb z m e r re)
 ·obtain⟨rfl,i,l',r,g,j,ow,e,hl',hb,hF,hg,hj,rfl,ho⟩:=hI
  obtain⟨y,l'',rfl,rfl,rfl⟩:=su e
  cases hl' with
  |@cons _ t' _ r' ht hl'=>
  obtain⟨k,hk⟩:∃k:Int,(i:Int)=k:=⟨_,rfl⟩
  refine⟨gwE p vs s g++[(Str.ofString "place",.v (.int k)),(Str.ofString "number",.v y)],?_,?_⟩
  ·rw[hk]
   rcases ho with rfl|⟨x,y,rfl⟩<;>rfl
  conv=>whnf
  refine v3 hp' (by decide) ht (fun b1=>?_) fun b1=>?_
  ·conv=>whnf
   refine om (ac hg ?_) (ac (my hp hp' ht) (by decide)) ?_
   ·exact Nat.le_trans (Nat.add_le_add_left (Nat.mul_le_mul_left 20 (Nat.le_trans (Nat.le_add_right ..) hj)) 20) (by decide)
   conv=>whnf
   refine⟨rfl,i+1,l'',r',gcI g t'.a,j+1,_,rfl,hl',?_,hF,?_,?_,rfl,.inr ⟨_,_,rfl⟩⟩
   ·exact hb.trans (H0 b1)
   ·exact H2 hg (my hp hp' ht)
   ·rw[Nat.add_right_comm];exact hj
  ·have:bad 0 ts=some i:=hb.trans (H1 b1)
   rw[←hk]
   exact qe i y this
theorem P7(hp:0<p)(hp':p≤6)(hl:Nl 8 p vs ts)(len:ts.length≤5)(qe:∀i v,bad 0 ts=some i→E (wkV s i v) st)
 (q0:bad 0 ts=none→cy ts=false→Nb 120 p (.int (cb lcF 1 ts)) (cb lcF 1 ts) 1 false→Q (.v (.int (cb lcF 1 ts))) st) (q1:bad 0 ts=none→cy ts=true→∀m e,Rd p (cb lcF 1 ts) 1 (rV m e)→Re (120+p) p m e→Q (.v (rV m e)) st):
 CallK (R C4 T4 (n+9) (.v (.val (.ref 756))) [.v (tw p),.v (.lst vs),.v (.str s)] st) Q E:=by
 refine af rfl rfl ?_
 conv=>whnf
 refine Ab (GwI lcF p 1 ts (gwE p vs s) st) ⟨rfl,0,vs,ts,1,0,[],rfl,hl,rfl,rfl,by decide,by rw[Nat.zero_add];exact len,rfl,.inl rfl⟩ (fun ρ s' hI=>?_) fun x l ρ s' hI=>?_
 ·obtain⟨rfl,i,l',r,g,j,ow,e,hl',hb,hF,hg,hj,rfl,ho⟩:=hI
  obtain rfl:=uj e
  cases hl'
  have hF:cb lcF 1 ts=g:=hF
  rw[hF]at q0 q1
  conv=>whnf
  refine sq hp hp' (by decide) hl (Lh hg (Nat.le_trans (Nat.le_add_right ..) hj)) (fun z=>?_) fun z m e r re=>?_
  ·conv=>whnf
   exact aa (q0 hb z (Lh hg (Nat.le_trans (Nat.le_add_right ..) hj)))
  ·conv=>whnf
   exact aa (q1 hb z m e r re)
 ·obtain⟨rfl,i,l',r,g,j,ow,e,hl',hb,hF,hg,hj,rfl,ho⟩:=hI
  obtain⟨y,l'',rfl,rfl,rfl⟩:=su e
  cases hl' with
  |@cons _ t' _ r' ht hl'=>
  obtain⟨k,hk⟩:∃k:Int,(i:Int)=k:=⟨_,rfl⟩
  refine⟨gwE p vs s g++[(Str.ofString "place",.v (.int k)),(Str.ofString "number",.v y)],?_,?_⟩
  ·rw[hk]
   rcases ho with rfl|⟨x,y,rfl⟩<;>rfl
  conv=>whnf
  refine v3 hp' (by decide) ht (fun b1=>?_) fun b1=>?_
  ·conv=>whnf
   refine Tb (ac hg ?_) (ac (my hp hp' ht) (by decide)) ?_
   ·exact Nat.le_trans (Nat.add_le_add_left (Nat.mul_le_mul_left 20 (Nat.le_trans (Nat.le_add_right ..) hj)) 20) (by decide)
   conv=>whnf
   refine⟨rfl,i+1,l'',r',lcF g t'.a,j+1,_,rfl,hl',?_,hF,?_,?_,rfl,.inr ⟨_,_,rfl⟩⟩
   ·exact hb.trans (H0 b1)
   ·exact H3 hg (my hp hp' ht)
   ·rw[Nat.add_right_comm];exact hj
  ·have:bad 0 ts=some i:=hb.trans (H1 b1)
   rw[←hk]
   exact qe i y this
end
noncomputable def bl(i:Nat):List Tr→List V
 |[]=>[]
 |t::r=>if t.b=1 then bl (i+1) r else .int i::bl (i+1) r
theorem Tc{i:Nat}{t:Tr}{r:List Tr}(h:t.b=1):bl i (t::r)=bl (i+1) r:=if_pos h
theorem Td{i:Nat}{t:Tr}{r:List Tr}(h:t.b≠1):bl i (t::r)=.int i::bl (i+1) r:=if_neg h
theorem H5:∀{ts:List Tr} {i:Nat},(bad i ts=none∧bl i ts=[])∨∃j l,bad i ts=some j∧bl i ts=.int j::l
 |[],_=>.inl ⟨rfl,rfl⟩
 |t::r,i=>by
  by_cases h:t.b=1
  ·rw[H0 h,Tc h];exact H5
  ·exact .inr ⟨i,_,H1 h,Td h⟩
noncomputable def Fin4(p:Nat)(ts:List Tr)(G:Int)(x:V):Prop:=(cy ts=false∧x=shT false G 1)∨(cy ts=true∧∃m e,Rd p G 1 (rV m e)∧x=shT true (frT m e) (frB e))
noncomputable def Li(i:Nat):V:=.lst [.str (Str.ofString "law"),.int i]
noncomputable def Wt(p:Nat)(ts:List Tr)(G:Int)(x:V):Prop:=(∃i,bad 0 ts=some i∧x=Li i)∨(bad 0 ts=none∧Fin4 p ts G x)
theorem Cl{i:Nat}:Dt 1 (Li i):=.lst (bv (.str (by kernel_rfl)) (bv .int mw))
theorem Fin4.dt{p:Nat}{ts:List Tr}{G:Int}{x:V}(h:Fin4 p ts G x):Dt 1 x:=by
 rcases h with⟨_,rfl⟩|⟨_,m,e,_,rfl⟩<;>exact n6
theorem Aq{x y:V}{st:Sto}(h:Dt 1 x)(h':Dt 1 y):d7 .Eq (.v (.lst [x,y])) (.v (.lst [x,y])) st=some true:=(fc (Dt.lst (bv h (bv h' mw))) (by decide) rfl rfl).1
noncomputable def cmE(p:Nat)(vs:List V)(ts:List Tr)(B:List V)(x y:V):En:=[(Str.ofString "tower",.v (tw p)),(Str.ofString "some",.v (.lst vs)),(Str.ofString "shown",.v (.lst (ts.map shV))),(Str.ofString "broken",.v (.lst B)),(Str.ofString "found",.v (.lst [x,y]))]
section
variable {n N M p:Nat} {f g t:Tr} {v w:V} {vs:List V} {ts:List Tr} {st:Sto} {E:KV} {Q:KD} {s:Str}
theorem Lj{F i:Nat}{l:List V}(q:Q (.v (.bool true)) st):go C4 T4 (n+10) (JT C4 T4 (n+10)) (fi 90).sc (bz st.length Q) (F+800) [.sts 64 ((fi 90).body.drop 2)] [] (cmE p vs ts (.int i::l) (Li i) (Li i)) st E:=by
 conv=>whnf
 refine⟨true,congrArg (Option.map not) (n7 _ _ _),?_⟩
 conv=>whnf
 rw[kr]
 conv=>whnf
 rw[kr]
 conv=>whnf
 refine⟨true,Aq Cl Cl,?_⟩
 conv=>whnf
 exact aa q
noncomputable def cmL(p:Nat)(vs:List V)(ts:List Tr)(x y:V)(a b:Nat)(ow:En):En:=cmE p vs ts [] x y++((Str.ofString "shared",.v (.int a))::(Str.ofString "many",.v (.int b))::ow)
noncomputable def ow3(t:Tr)(u v:Nat):En:=[(Str.ofString "own",.v (shV t)),(Str.ofString "one",.v (.int u)),(Str.ofString "other",.v (.int v))]
noncomputable def fb90:List Stmt:=match(fi 90).body.drop 4 with
 |.For _ _ b _ _::_=>b
 |_=>[]
set_option tactic.hygienic true in
theorem P8{b c:Nat}:lcF b c=((if Nat.gcd b c=0 then 0 else b*c/Nat.gcd b c:Nat):Int):=by
 unfold lcF
 split
 ·rename_i h
  split
  ·rfl
  ·rcases h with h|h
   ·rw[Int.ofNat_eq_zero.mp h,Nat.zero_mul,Nat.zero_div];rfl
   ·rw[Int.ofNat_eq_zero.mp h,Nat.mul_zero,Nat.zero_div];rfl
 ·rename_i h
  rw[if_neg fun z=>h (.inl (congrArg Nat.cast (Nat.gcd_eq_zero_iff.mp z).1)),←Nat.div_mul_right_comm (Nat.gcd_dvd_left b c)]
  rfl
theorem lc_abs{b:Nat}{c:Int}:lcF b c=lcF b (c.natAbs:Int):=by
 unfold lcF
 have e:Int.gcd b c=Int.gcd b (c.natAbs:Int):=rfl
 rw[←e]
 by_cases h:c=0
 ·rw[h];rfl
 ·have h':(c.natAbs:Int)≠0:=fun z=>h (Int.natAbs_eq_zero.mp (Int.ofNat_eq_zero.mp z))
  by_cases hb:(b:Int)=0
  ·rw[if_pos (.inl hb),if_pos (.inl hb)]
  ·rw[if_neg fun z=>z.elim hb h,if_neg fun z=>z.elim hb h'];rfl
set_option tactic.hygienic true in
theorem H6{F a b:Nat}{x y:V}{Kf:KF}(ha:a<2^500)(hb:b<2^500)(ht:t.a.natAbs<2^500)
 (K:Kf (.next,cmL p vs ts x y (Nat.gcd a t.a.natAbs) (if Nat.gcd b t.a.natAbs=0 then 0 else b*t.a.natAbs/Nat.gcd b t.a.natAbs) (ow3 t (Nat.gcd b t.a.natAbs) 0)) st):go C4 T4 (n+10) (JT C4 T4 (n+10)) (fi 90).sc Kf (F+400) [.sts 63 (fb90.drop 1)] [] (cmL p vs ts x y a b (ow3 t a t.a.natAbs)) st E:=by
 conv=>whnf
 refine e9 (fun k ρ st'=>st=st'∧∃u v:Nat,k=mu u v∧Nat.gcd u v=Nat.gcd a t.a.natAbs∧ρ=cmL p vs ts x y a b (ow3 t u v)) (k₀:=mu a t.a.natAbs) ?_ ⟨rfl,a,t.a.natAbs,rfl,rfl,rfl⟩ (fun k ρ st' hI=>?_)
 ·exact Nat.lt_of_lt_of_le (mj (ac ha (by decide)) (ac ht (by decide))) (by decide)
 obtain⟨rfl,u,v,rfl,hg,rfl⟩:=hI
 conv=>whnf
 refine jy (fun hy=>?_) (fun hy=>?_)
 ·have hy':v≠0:=fun z=>hy (congrArg Nat.cast z)
  ((conv=>whnf);repeat'((with_reducible apply ae);(conv=>whnf)))
  ·refine⟨_,pq hy',rfl,v,u%v,rfl,?_,?_⟩
   ·rw[←hg,Nat.gcd_comm u v,Nat.gcd_rec v u,Nat.gcd_comm]
   ·rw[Int.fmod_eq_emod_of_nonneg _ (Int.natCast_nonneg v)];rfl
  ·assumption
 obtain rfl:v=0:=Int.ofNat_eq_zero.mp hy
 obtain rfl:u=Nat.gcd a t.a.natAbs:=(Nat.gcd_zero_right u).symm.trans hg
 conv=>whnf
 rw[df]
 refine e9 (fun k ρ st'=>st=st'∧∃u v:Nat,k=mu u v∧Nat.gcd u v=Nat.gcd b t.a.natAbs∧ρ=cmL p vs ts x y (Nat.gcd a t.a.natAbs) b (ow3 t u v)) (k₀:=mu b t.a.natAbs) ?_ ⟨rfl,b,t.a.natAbs,rfl,rfl,rfl⟩ (fun k ρ st' hI=>?_)
 ·exact Nat.lt_of_lt_of_le (mj (ac hb (by decide)) (ac ht (by decide))) (by decide)
 obtain⟨rfl,u,v,rfl,hg,rfl⟩:=hI
 conv=>whnf
 refine jy (fun hy=>?_) (fun hy=>?_)
 ·have hy':v≠0:=fun z=>hy (congrArg Nat.cast z)
  ((conv=>whnf);repeat'((with_reducible apply ae);(conv=>whnf)))
  ·refine⟨_,pq hy',rfl,v,u%v,rfl,?_,?_⟩
   ·rw[←hg,Nat.gcd_comm u v,Nat.gcd_rec v u,Nat.gcd_comm]
   ·rw[Int.fmod_eq_emod_of_nonneg _ (Int.natCast_nonneg v)];rfl
  ·assumption
 obtain rfl:v=0:=Int.ofNat_eq_zero.mp hy
 obtain rfl:u=Nat.gcd b t.a.natAbs:=(Nat.gcd_zero_right u).symm.trans hg
 ((conv=>whnf);repeat'(first|((with_reducible apply bt)<;>(intro _;(conv=>whnf)))|((with_reducible apply ae);(conv=>whnf))))
 ·rename_i h
  rw[if_pos (Int.ofNat_eq_zero.mp h)]at K
  exact K
 ·rename_i h
  rw[if_neg fun z=>h (congrArg Nat.cast z)]at K
  rw[df,Int.fdiv_eq_ediv_of_nonneg _ (Int.natCast_nonneg _)]
  exact K
 ·rename_i h
  refine ed h ?_
  have hz:¬(b=0∧t.a.natAbs=0):=fun z=>h (congrArg Nat.cast (Nat.gcd_eq_zero_iff.mpr z))
  show Nat.gcd b t.a.natAbs<_
  by_cases h0:b=0
  ·rw[h0,Nat.gcd_zero_left];exact ac ht (by decide)
  ·exact Nat.lt_of_le_of_lt (Nat.le_of_dvd (Nat.pos_of_ne_zero h0) (Nat.gcd_dvd_left ..)) (ac hb (by decide))
 ·rw[df]
  exact am (ac (x:=b) hb (by decide)) (ac (x:=t.a.natAbs) ht (by decide))
inductive CmI (p:Nat) (vs:List V) (ts:List Tr) (x y:V) (st:Sto) (l:List V) (ρ:En) (s:Sto):Prop
 |mk:s=st→∀(vs':List V) (r:List Tr) (a b j:Nat) (ow:En),l=r.map shV→Nl 8 p vs' r→cb gcI 0 ts=cb gcI a r→cb lcF 1 ts=cb lcF b r→a<2^(20+20*j)→b<2^(20+20*j)→j+r.length≤5→ρ=cmL p vs ts x y a b ow→(ow=[]∨∃t u v,ow=ow3 t u v)→CmI p vs ts x y st l ρ s
theorem yl{F a b j:Nat}{x y:V}{v':V}{vs':List V}{r:List Tr}{Kf:KF}(hp:0<p)(hp':p≤6)(ht:NbT 8 p v' t)(hl':Nl 8 p vs' r)(g1:cb gcI 0 ts=cb gcI a (t::r))(g2:cb lcF 1 ts=cb lcF b (t::r))(s1:a<2^(20+20*j))(s2:b<2^(20+20*j))(hj:j+1+r.length≤5)
 (K:∀ρ,CmI p vs ts x y st (r.map shV) ρ st→Kf (.next,ρ) st):go C4 T4 (n+10) (JT C4 T4 (n+10)) (fi 90).sc Kf (F+400) [.sts 63 (fb90.drop 1)] [] (cmL p vs ts x y a b (ow3 t a t.a.natAbs)) st E:=by
 have ha:=my hp hp' ht
 have hj':20+20*j≤500:=Nat.le_trans (Nat.add_le_add_left (Nat.mul_le_mul_left 20 (Nat.le_trans (Nat.le_add_right ..) (Nat.le_trans (Nat.le_add_right ..) hj))) 20) (by decide)
 have e:lcF b t.a=(_:Nat):=lc_abs.trans P8
 refine H6 (ac s1 hj') (ac s2 hj') (ac ha (by decide)) (K _ ⟨rfl,vs',r,_,_,j+1,_,rfl,hl',g1,?_,H2 (a:=(a:Int)) s1 ha,?_,hj,rfl,.inr ⟨t,_,0,rfl⟩⟩)
 ·rw[←e];exact g2
 ·have h:=H3 (a:=(b:Int)) s2 ha
  rw[e]at h
  exact h
theorem H7{F:Nat}{x y:V}(hp:0<p)(hp':p≤6)(hl:Nl 8 p vs ts)(len:ts.length≤5)
 (K:∀F a b ow,cb gcI 0 ts=(a:Nat)→cb lcF 1 ts=(b:Nat)→a<2^200→b<2^200→(ow=[]∨∃t u v,ow=ow3 t u v)→go C4 T4 (n+10) (JT C4 T4 (n+10)) (fi 90).sc (bz st.length Q) (F+400) [.sts 64 ((fi 90).body.drop 5)] [] (cmL p vs ts x y a b ow) st E):go C4 T4 (n+10) (JT C4 T4 (n+10)) (fi 90).sc (bz st.length Q) (F+800) [.sts 64 ((fi 90).body.drop 2)] [] (cmE p vs ts [] x y) st E:=by
 conv=>whnf
 refine⟨false,by kernel_rfl,?_⟩
 conv=>whnf
 refine ja (CmI p vs ts x y st) ⟨rfl,vs,ts,0,1,0,[],rfl,hl,rfl,rfl,by decide,by decide,by rw[Nat.zero_add];exact len,rfl,.inl rfl⟩ (fun ρ s hI=>?_) fun z l ρ s hI=>?_
 ·obtain⟨rfl,vs',r,a,b,j,ow,e,_,g1,g2,s1,s2,hj,rfl,ho⟩:=hI
  obtain rfl:=List.map_eq_nil_iff.mp e.symm
  have hj':20+20*j≤200:=Nat.le_trans (Nat.add_le_add_left (Nat.mul_le_mul_left 20 (Nat.le_trans (Nat.le_add_right ..) hj)) 20) (by decide)
  exact K _ a b ow g1 g2 (ac s1 hj') (ac s2 hj') ho
 ·obtain⟨rfl,vs',r,a,b,j,ow,e,hl',g1,g2,s1,s2,hj,rfl,ho⟩:=hI
  cases hl' with
  |nil=>exact nomatch e
  |@cons v' t vs' r ht hl'=>
  injection e with e1 e2
  subst e1 e2
  refine⟨cmL p vs ts x y a b (dg (Str.ofString "own") (.v (shV t)) ow),?_,?_⟩
  ·rcases ho with rfl|⟨t,u,v,rfl⟩<;>rfl
  have hj:j+1+r.length≤5:=by rw[Nat.add_right_comm];exact hj
  rcases ho with rfl|⟨t₀,u₀,v₀,rfl⟩
  ·conv=>whnf
   rw[df]
   conv=>whnf
   exact yl hp hp' ht hl' g1 g2 s1 s2 hj fun o_ h=>h
  ·conv=>whnf
   rw[df]
   conv=>whnf
   exact yl hp hp' ht hl' g1 g2 s1 s2 hj fun o_ h=>h
noncomputable def fl(ts:List Tr):List V:=(ts.filter Tr.k).map shV
theorem P9{t:Tr}{ts:List Tr}:fl (t::ts)=if t.k=true then shV t::fl ts else fl ts:=by
 unfold fl
 rw[List.filter_cons]
 split<;>rfl
theorem H8{ts:List Tr}(h:cy ts=false):fl ts=[]:=by
 unfold fl
 rw[List.filter_eq_nil_iff.mpr fun t m=>by
  unfold cy at h
  rw[List.any_eq_false]at h
  exact h t m]
 rfl
theorem v8:∀{ts:List Tr},cy ts=true→∃x l,fl ts=x::l
 |t::ts,h=>by
  rw[P9]
  cases hk:t.k with
  |true=>exact⟨_,_,if_pos rfl⟩
  |false=>
   rw[ui,hk]at h
   exact v8 h
theorem H9{ow:En}{M:En→Prop}{P:Prop}(h:ow=[]∨∃t u v,ow=ow3 t u v)(p1:P)(x:P→M [])(y:P→∀t u v,M (ow3 t u v)):M ow:=by
 rcases h with rfl|⟨t,u,v,rfl⟩
 ·exact x p1
 ·exact y p1 t u v
theorem Ut{A B P G:Prop}(h:A∨B)(p:P)(a:P→A→G)(b:P→B→G):G:=h.elim (a p) (b p)
noncomputable def Rw(p c:Nat)(z:V):Prop:=∃m e,Rd p c 1 (rV m e)∧z=shT true (frT m e) (frB e)
noncomputable def Du(a b:Nat)(x y:V)(l acc:List V):Prop:=(l=[shT false a 1,shT false b 1]∧acc=[])∨(l=[shT false b 1]∧acc=[x])∨(l=[]∧acc=[x,y])
theorem Du.next{a b:Nat}{x y z:V}{l acc:List V}(h:Du a b x y (z::l) acc)(hx:Rw p a x)(hy:Rw p b y)(s1:a<2^200)(s2:b<2^200):∃(c:Nat) (m e:Int),z=shT false c 1∧c<2^200∧Rd p c 1 (rV m e)∧Du a b x y l (acc++[shT true (frT m e) (frB e)])∧cf acc.length=true:=by
 rcases h with⟨h,rfl⟩|⟨h,rfl⟩|⟨h,_⟩
 ·injection h with h1 h2
  obtain⟨m,e,r,rfl⟩:=hx
  exact⟨a,m,e,h1,s1,r,.inr (.inl ⟨h2,rfl⟩),rfl⟩
 ·injection h with h1 h2
  obtain⟨m,e,r,rfl⟩:=hy
  exact⟨b,m,e,h1,s2,r,.inr (.inr ⟨h2,rfl⟩),rfl⟩
 ·exact nomatch h
inductive FlI (ts:List Tr) (st:Sto) (l:List V) (ρ:En) (acc:List V) (s:Sto):Prop
 |mk:st=s→∀r:List Tr,l=r.map shV→acc++fl r=fl ts→acc.length+r.length≤5→(ρ=[]∨∃x,ρ=[(Str.ofString "own",x)])→FlI ts st l ρ acc s
inductive DuI (p a b:Nat) (x y:V) (st:Sto) (l:List V) (ρ:En) (acc:List V) (s:Sto):Prop
 |mk:st=s→Du a b x y l acc→(ρ=[(Str.ofString "tower",.v (tw p))]∨∃x,ρ=[(Str.ofString "tower",.v (tw p)),(Str.ofString "own",x)])→DuI p a b x y st l ρ acc s
theorem Lk{F a b:Nat}{x y:V}{ow:En}(hp:0<p)(hp':p≤6)(len:ts.length≤5)(hx:Fin4 p ts a x)(hy:Fin4 p ts b y)(s1:a<2^200)(s2:b<2^200)(ho:ow=[]∨∃t u v,ow=ow3 t u v)(q:Q (.v (.bool true)) st):
 go C4 T4 (n+10) (JT C4 T4 (n+10)) (fi 90).sc (bz st.length Q) (F+400) [.sts 64 ((fi 90).body.drop 5)] [] (cmL p vs ts x y a b ow) st E:=by
 have d1:=hx.dt
 have d2:=hy.dt
 have two:(cy ts=false∧x=shT false a 1∧y=shT false b 1)∨(cy ts=true∧Rw p a x∧Rw p b y):=by
  rcases hx with⟨k,hx⟩|⟨k,hx⟩<;>rcases hy with⟨k',hy⟩|⟨k',hy⟩
  ·exact .inl ⟨k,hx,hy⟩
  ·rw[k]at k';contradiction
  ·rw[k]at k';contradiction
  ·exact .inr ⟨k,hx,hy⟩
 clear hx hy
 apply Ut two
 case' a=>intro hP h
 case' b=>intro hP h
 case a=>
  obtain⟨k,rfl,rfl⟩:=h
  rcases ho with rfl|⟨t,u,v,rfl⟩
  all_goals
   conv=>whnf
   refine mx (FlI ts st) ⟨rfl,ts,rfl,rfl,by rw[List.length_nil,Nat.zero_add];exact len,.inl rfl⟩ (fun ρ acc s hI=>?_) hP
   obtain⟨rfl,r,e,ha,_,_⟩:=hI
   obtain rfl:=List.map_eq_nil_iff.mp e.symm
   obtain rfl:acc=fl ts:=(List.append_nil acc).symm.trans ha
   clear e ha
   conv=>whnf
   rw[H8 k]
   refine⟨false,by kernel_rfl,?_⟩
   conv=>whnf
   refine⟨true,Aq d1 d2,?_⟩
   conv=>whnf
   exact aa q
 case b=>
  obtain⟨k,hx,hy⟩:=h
  obtain⟨z,l,ez⟩:=v8 k
  apply H9 (M:=fun ow=>go C4 T4 (n+10) (JT C4 T4 (n+10)) (fi 90).sc (bz st.length Q) (F+400) [.sts 64 ((fi 90).body.drop 5)] [] (cmL p vs ts x y a b ow) st E) ho
  case' x=>intro hP2
  case' y=>intro hP2 t u v
  case x|y=>
   conv=>whnf
   refine mx (FlI ts st) ⟨rfl,ts,rfl,rfl,by rw[List.length_nil,Nat.zero_add];exact len,.inl rfl⟩ (fun ρ acc s hI=>?_) hP
   obtain⟨rfl,r,e,ha,_,_⟩:=hI
   obtain rfl:=List.map_eq_nil_iff.mp e.symm
   obtain rfl:acc=fl ts:=(List.append_nil acc).symm.trans ha
   clear e ha
   conv=>whnf
   rw[ez]
   refine⟨true,congrArg (Option.map not) (n7 _ _ _),?_⟩
   conv=>whnf
   refine ry (DuI p a b x y st) ⟨rfl,.inl ⟨rfl,rfl⟩,.inl rfl⟩ (fun ρ acc s hI=>?_) hP2
   obtain⟨rfl,⟨h,_⟩|⟨h,_⟩|⟨_,rfl⟩,_⟩:=hI
   ·exact nomatch h
   ·exact nomatch h
   conv=>whnf
   refine⟨true,Aq d1 d2,?_⟩
   conv=>whnf
   exact aa q
  case p1=>
   intro z l ρ acc s hI
   obtain⟨rfl,h,ho⟩:=hI
   obtain⟨c,m,e,rfl,s3,r,hD,sz⟩:=h.next hx hy s1 s2
   refine⟨[(Str.ofString "tower",.v (tw p)),(Str.ofString "own",.v (shT false c 1))],?_,?_⟩
   ·rcases ho with rfl|⟨x,rfl⟩<;>rfl
   conv=>whnf
   refine de (a:=(c:Int)) (b:=1) (k:=false) hp hp' (by decide) (ac s3 (by decide)) (by decide) fun m₂ e₂ r₂=>?_
   obtain⟨rfl,rfl⟩:=cw (Rd.unique hp (by decide) r r₂)
   conv=>whnf
   exact⟨sz,rfl,hD,.inr ⟨_,rfl⟩⟩
 case p=>
 intro z l ρ acc s hI
 obtain⟨rfl,r,e,ha,hlen,ho⟩:=hI
 cases r with
 |nil=>exact nomatch e
 |cons t' r=>
 injection e with e1 e2
 subst e1 e2
 refine⟨[(Str.ofString "own",.v (shV t'))],?_,?_⟩
 ·rcases ho with rfl|⟨x,rfl⟩<;>rfl
 have hlen':acc.length+1+r.length≤5:=by rw[Nat.add_right_comm];exact hlen
 rw[P9]at ha
 conv=>whnf
 refine⟨fun z=>?_,fun z=>?_⟩
 ·have z:t'.k=true:=(Bool.not_not _).symm.trans z
  rw[if_pos z]at ha
  conv=>whnf
  refine⟨szL (Nat.le_trans (Nat.le_trans (Nat.le_add_right ..) hlen) (by decide)),rfl,r,rfl,?_,?_,.inr ⟨_,rfl⟩⟩
  ·rw[List.append_assoc];exact ha
  ·rw[List.length_append];exact hlen'
 ·have z:t'.k=false:=(Bool.not_not _).symm.trans z
  rw[if_neg (by rw[z];decide)]at ha
  exact⟨rfl,r,rfl,ha,Nat.le_trans (Nat.add_le_add_right (Nat.le_succ _) _) hlen',.inr ⟨_,rfl⟩⟩
theorem Ia(hp:0<p)(hp':p≤6)(hl:Nl 8 p vs ts)(len:ts.length≤4)(q:Q (.v (.bool true)) st):CallK (R C4 T4 (n+12) (.v (.val (.ref 911))) [.v (tw p),.v (.lst vs),.v (.lst (ts.map shV))] st) Q E:=by
 refine af rfl rfl ?_
 conv=>whnf
 refine mx (fun l ρ acc s=>s=st∧∃i r,l=m8 i (r.map shV)∧acc++bl i r=bl 0 ts∧acc.length+r.length≤4∧(ρ=[]∨∃x y,ρ=[(Str.ofString "at",x),(Str.ofString "own",y)])) ⟨rfl,0,ts,rfl,rfl,by rw[List.length_nil,Nat.zero_add];exact len,.inl rfl⟩ (fun ρ acc s hI=>?_) fun x l ρ acc s hI=>?_
 ·obtain⟨rfl,i,r,e,ha,_,_⟩:=hI
  obtain rfl:=List.map_eq_nil_iff.mp (q5 e)
  obtain rfl:acc=bl 0 ts:=(List.append_nil acc).symm.trans ha
  clear e ha
  have len:=Nat.le_succ_of_le len
  conv=>whnf
  refine oy (W:=Wt p ts (cb gcI 0 ts)) rfl rfl (fun Q' K=>?_) fun x hx=>?_
  ·conv=>whnf
   refine P6 hp hp' hl len (fun i v hb=>M1 (K _ (.inl ⟨i,hb,rfl⟩))) (fun hb z nb=>?_) fun hb z m e r re=>?_
   ·conv=>whnf
    exact ay hp hp' (by decide) nb (K _ (.inr ⟨hb,.inl ⟨z,rfl⟩⟩))
   ·conv=>whnf
    exact ay hp hp' (Nat.le_trans (Nat.add_le_add_left hp' 120) (by decide)) (Nb.re re) (K _ (.inr ⟨hb,.inr ⟨z,m,e,r,rfl⟩⟩))
  conv=>whnf
  refine oy (W:=Wt p ts (cb lcF 1 ts)) rfl rfl (fun Q' K=>?_) fun y hy=>?_
  ·conv=>whnf
   refine P7 hp hp' hl len (fun i v hb=>M1 (K _ (.inl ⟨i,hb,rfl⟩))) (fun hb z nb=>?_) fun hb z m e r re=>?_
   ·conv=>whnf
    exact ay hp hp' (by decide) nb (K _ (.inr ⟨hb,.inl ⟨z,rfl⟩⟩))
   ·conv=>whnf
    exact ay hp hp' (Nat.le_trans (Nat.add_le_add_left hp' 120) (by decide)) (Nb.re re) (K _ (.inr ⟨hb,.inr ⟨z,m,e,r,rfl⟩⟩))
  rcases H5 (ts:=ts) (i:=0)with⟨b1,b2⟩|⟨i,l,b1,b2⟩
  ·obtain⟨i,b,_⟩|⟨_,hx⟩:=hx
   ·rw[b1]at b;contradiction
   obtain⟨i,b,_⟩|⟨_,hy⟩:=hy
   ·rw[b1]at b;contradiction
   rw[b2]
   conv=>whnf
   exact H7 hp hp' hl len fun F a b ow e1 e2 s1 s2 ho=>Lk hp hp' len (e1▸hx) (e2▸hy) s1 s2 ho q
  ·obtain⟨i',b,rfl⟩|⟨b,_⟩:=hx
   rotate_left
   ·rw[b1]at b;contradiction
   obtain rfl:=Option.some.inj (b1.symm.trans b)
   obtain⟨i',b,rfl⟩|⟨b,_⟩:=hy
   rotate_left
   ·rw[b1]at b;contradiction
   obtain rfl:=Option.some.inj (b1.symm.trans b)
   rw[b2]
   conv=>whnf
   exact Lj q
 ·obtain⟨rfl,i,r,e,ha,hlen,ho⟩:=hI
  obtain⟨y,l',e1,rfl,rfl⟩:=nq e
  cases r with
  |nil=>exact nomatch e1
  |cons t r=>
  injection e1 with e1 e2
  subst e1 e2
  clear e
  obtain⟨k,hk⟩:∃k:Int,(i:Int)=k:=⟨_,rfl⟩
  refine⟨[(Str.ofString "at",.v (.int k)),(Str.ofString "own",.v (shV t))],?_,?_⟩
  ·rw[hk]
   rcases ho with rfl|⟨x,y,rfl⟩<;>rfl
  have hlen':acc.length+1+r.length≤4:=by rw[Nat.add_right_comm];exact hlen
  conv=>whnf
  refine⟨fun z=>?_,fun z=>?_⟩
  ·have b1:t.b≠1:=fun b=>by rw[b]at z;exact nomatch z
   rw[Td b1]at ha
   conv=>whnf
   refine⟨szL (Nat.le_trans (Nat.le_trans (Nat.le_add_right ..) hlen) (by decide)),rfl,i+1,r,rfl,?_,?_,.inr ⟨_,_,rfl⟩⟩
   ·rw[←hk,List.append_assoc];exact ha
   ·rw[List.length_append];exact hlen'
  ·have b1:t.b=1:=by
    exact Int.ofNat_inj.mp (eq_of_beq ((Bool.not_eq_false' (b:=((t.b:Int)==1))).mp z))
   rw[Tc b1]at ha
   exact⟨rfl,i+1,r,rfl,ha,Nat.le_trans (Nat.add_le_add_right (Nat.le_succ _) _) hlen',.inr ⟨_,_,rfl⟩⟩
end
theorem Ll{l:List V}{st:Sto}:d7 .Eq (.v (.lst l)) (.v (.lst [])) st=some l.isEmpty:=by
 cases l with
 |nil=>kernel_rfl
 |cons x l=>exact n7 x l st
section
variable {n N M p:Nat} {f g t:Tr} {v w:V} {vs:List V} {ts:List Tr} {st:Sto} {E:KV} {Q:KD} {s:Str}
noncomputable def enE(p:Nat)(vs:List V)(ts:List Tr)(x y:V)(ow:En):En:=[(Str.ofString "tower",.v (tw p)),(Str.ofString "some",.v (.lst vs)),(Str.ofString "shown",.v (.lst (ts.map shV))),(Str.ofString "least",.v x),(Str.ofString "most",.v y)]++ow
noncomputable def En4(p:Nat)(ts:List Tr)(f:Tr)(x:V):Prop:=(cy ts=false∧x=shV f)∨(cy ts=true∧∃m e,Rd p f.a f.b (rV m e)∧x=shT true (frT m e) (frB e))
theorem En4.unique{x y:V}(hp:0<p)(hb:0<f.b)(h:En4 p ts f x)(h':En4 p ts f y):x=y:=by
 rcases h with⟨k,rfl⟩|⟨k,m,e,r,rfl⟩<;>rcases h' with⟨k',rfl⟩|⟨k',m',e',r',rfl⟩
 ·rfl
 ·rw[k]at k';contradiction
 ·rw[k]at k';contradiction
 ·obtain⟨rfl,rfl⟩:=cw (Rd.unique hp hb r r')
  rfl
theorem En4.dt{x:V}(h:En4 p ts f x):Dt 1 x:=by
 rcases h with⟨_,rfl⟩|⟨_,m,e,_,rfl⟩<;>exact n6
theorem Qa{F:Nat}{ow:En}(hp:0<p)(hp':p≤6)(len:ts.length≤4)(hf:NbT 8 p v f)(hg:NbT 8 p w g)(ho:Ow "own" ow)
 (K:∀F x y,En4 p ts f x→En4 p ts g y→go C4 T4 (n+10) (JT C4 T4 (n+10)) (fi 88).sc (bz st.length Q) (F+800) [.sts 64 ((fi 88).body.drop 3)] [] (enE p vs ts x y ow) st E):go C4 T4 (n+10) (JT C4 T4 (n+10)) (fi 88).sc (bz st.length Q) (F+1200) [.sts 64 ((fi 88).body.drop 2)] [] (enE p vs ts (shV f) (shV g) ow) st E:=by
 have sz:∀{w:V} {t:Tr},NbT 8 p w t→0<t.b∧t.a.natAbs<2^1500∧t.b<2^1500:=fun h=>⟨Nb.b0 h,ac (Nb.lt hp h).1 (Nat.le_trans (Nat.add_le_add_right hp' 8) (by decide)),ac (Nb.lt hp h).2 (Nat.le_trans (Nat.add_le_add_right hp' 8) (by decide))⟩
 conv=>whnf
 refine mx (FlI ts st) ⟨rfl,ts,rfl,rfl,by rw[List.length_nil,Nat.zero_add];exact Nat.le_succ_of_le len,.inl (by rcases ho with rfl|⟨x,rfl⟩<;>rfl)⟩ (fun ρ acc s hI=>?_) fun z l ρ acc s hI=>?_
 ·obtain⟨rfl,r,e,ha,_,_⟩:=hI
  obtain rfl:=List.map_eq_nil_iff.mp e.symm
  obtain rfl:acc=fl ts:=(List.append_nil acc).symm.trans ha
  clear e ha
  conv=>whnf
  cases k:cy ts with
  |false=>
   rw[H8 k]
   refine⟨false,by kernel_rfl,?_⟩
   conv=>whnf
   exact K _ _ _ (.inl ⟨k,rfl⟩) (.inl ⟨k,rfl⟩)
  |true=>
   obtain⟨z,l,ez⟩:=v8 k
   rw[ez]
   clear ez
   refine⟨true,congrArg (Option.map not) (n7 _ _ _),?_⟩
   conv=>whnf
   refine de hp hp' (sz hf).1 (sz hf).2.1 (sz hf).2.2 fun m e r=>?_
   conv=>whnf
   refine de hp hp' (sz hg).1 (sz hg).2.1 (sz hg).2.2 fun m' e' r'=>?_
   conv=>whnf
   exact K _ _ _ (.inr ⟨k,m,e,r,rfl⟩) (.inr ⟨k,m',e',r',rfl⟩)
 ·obtain⟨rfl,r,e,ha,hlen,ho⟩:=hI
  cases r with
  |nil=>exact nomatch e
  |cons t' r=>
  injection e with e1 e2
  subst e1 e2
  refine⟨[(Str.ofString "own",.v (shV t'))],?_,?_⟩
  ·rcases ho with rfl|⟨x,rfl⟩<;>rfl
  have hlen':acc.length+1+r.length≤5:=by rw[Nat.add_right_comm];exact hlen
  rw[P9]at ha
  conv=>whnf
  refine⟨fun z=>?_,fun z=>?_⟩
  ·have z:t'.k=true:=(Bool.not_not _).symm.trans z
   rw[if_pos z]at ha
   conv=>whnf
   refine⟨szL (Nat.le_trans (Nat.le_trans (Nat.le_add_right ..) hlen) (by decide)),rfl,r,rfl,?_,?_,.inr ⟨_,rfl⟩⟩
   ·rw[List.append_assoc];exact ha
   ·rw[List.length_append];exact hlen'
  ·have z:t'.k=false:=(Bool.not_not _).symm.trans z
   rw[if_neg (by rw[z];decide)]at ha
   exact⟨rfl,r,rfl,ha,Nat.le_trans (Nat.add_le_add_right (Nat.le_succ _) _) hlen',.inr ⟨_,rfl⟩⟩
theorem Ib(hp:0<p)(hp':p≤6)(h:NbT 8 p v t)(hl:Nl 8 p vs ts)(len:ts.length≤5)(q:∀w a b k,Nb 20 p w a b k→En4 p (t::ts) (loT t ts) (shT k a b)→Q (.v w) st):CallK (R C4 T4 (n+9) (.v (.val (.ref 714))) [.v (tw p),.v (.lst (v::vs))] st) Q E:=
 K7 hp hp' h hl len (fun k w hw=>q w _ _ _ (Nb.mono hw (by decide)) (.inl ⟨k,rfl⟩)) fun k m e r re=>q _ _ _ _ ((Nb.re re).mono (Nat.le_trans (Nat.add_le_add_left hp' 8) (by decide))) (.inr ⟨k,m,e,r,rfl⟩)
theorem Ic(hp:0<p)(hp':p≤6)(h:NbT 8 p v t)(hl:Nl 8 p vs ts)(len:ts.length≤5)(q:∀w a b k,Nb 20 p w a b k→En4 p (t::ts) (hiT t ts) (shT k a b)→Q (.v w) st):CallK (R C4 T4 (n+9) (.v (.val (.ref 707))) [.v (tw p),.v (.lst (v::vs))] st) Q E:=
 K8 hp hp' h hl len (fun k w hw=>q w _ _ _ (Nb.mono hw (by decide)) (.inl ⟨k,rfl⟩)) fun k m e r re=>q _ _ _ _ ((Nb.re re).mono (Nat.le_trans (Nat.add_le_add_left hp' 8) (by decide))) (.inr ⟨k,m,e,r,rfl⟩)
theorem Qb{F:Nat}{x y:V}{ow:En}(hp:0<p)(hp':p≤6)(hv:NbT 8 p v t)(hl:Nl 8 p vs ts)(len:ts.length≤3)(fb:0<(loT t ts).b)(gb:0<(hiT t ts).b)(hx:En4 p (t::ts) (loT t ts) x)(hy:En4 p (t::ts) (hiT t ts) y)
 (K:∀F,go C4 T4 (n+10) (JT C4 T4 (n+10)) (fi 88).sc (bz st.length Q) (F+400) [.sts 64 ((fi 88).body.drop 4)] [] (enE p (v::vs) (t::ts) x y ow) st E):go C4 T4 (n+10) (JT C4 T4 (n+10)) (fi 88).sc (bz st.length Q) (F+800) [.sts 64 ((fi 88).body.drop 3)] [] (enE p (v::vs) (t::ts) x y ow) st E:=by
 have len5:ts.length≤5:=Nat.le_trans len (by decide)
 conv=>whnf
 refine Ib hp hp' hv hl len5 fun w a b k hw h=>?_
 conv=>whnf
 refine ay hp hp' (by decide) hw ?_
 obtain rfl:=hx.unique hp fb h
 conv=>whnf
 refine⟨false,(fc hx.dt (by decide) rfl rfl).2,?_⟩
 conv=>whnf
 clear h
 refine Ic hp hp' hv hl len5 fun w a b k hw h=>?_
 conv=>whnf
 refine ay hp hp' (by decide) hw ?_
 obtain rfl:=hy.unique hp gb h
 conv=>whnf
 refine⟨false,(fc hy.dt (by decide) rfl rfl).2,?_⟩
 conv=>whnf
 exact K _
noncomputable def M4:List (List Int):=[[-1],[0],[1],[-1,0],[0,1]]
theorem Lm:∀ws∈M4,∀(x:Int) (st:Sto),d7 .NotIn (.v (.int x)) (.v (.tup (ws.map V.int))) st=some (!ws.contains x):=bv hw1 (bv hw2 (bv hw3 (bv hw4 (bv hw5 mw))))
noncomputable def j3(ts:List Tr):List Int:=(List.range (ts.length-1)).map (sdT ts)
theorem Lp{ws:List Int}{ts:List Tr}:(((j3 ts).filter fun x=> !ws.contains x).map V.int).isEmpty=((List.range (ts.length-1)).all fun i=>ws.contains (sdT ts i)):=by
 unfold j3
 rw[List.isEmpty_map]
 generalize List.range (ts.length-1)=l
 induction l with
 |nil=>rfl
 |cons i l ih=>
  rw[List.map_cons,List.filter_cons,List.all_cons]
  cases h:ws.contains (sdT ts i)with
  |true=>exact ih
  |false=>rfl
inductive WnI (p:Nat) (vs:List V) (ts:List Tr) (x y:V) (ow:En) (st:Sto) (l:List V) (ρ:En) (s:Sto):Prop
 |mk:st=s→∀(r:List (List Int)) (ow2:En),l=r.map (fun ws=>V.tup (ws.map V.int))→(∀ws∈r,∀(x:Int) (st:Sto),d7 .NotIn (.v (.int x)) (.v (.tup (ws.map V.int))) st=some (!ws.contains x))→ρ=enE p vs ts x y (ow++((Str.ofString "sides",.v (.lst ((j3 ts).map V.int)))::ow2))→Ow "wanted" ow2→WnI p vs ts x y ow st l ρ s
inductive SdI (ts:List Tr) (st:Sto) (l:List V) (ρ:En) (acc:List V) (s:Sto):Prop
 |mk:st=s→∀is:List Nat,l=is.map (fun(i:Nat)=>V.int (i:Int))→(∀i∈is,i+1<ts.length)→acc++is.map (fun i=>V.int (sdT ts i))=(j3 ts).map V.int→acc.length+is.length≤5→(ρ=[(Str.ofString "shown",.v (.lst (ts.map shV)))]∨∃x,ρ=[(Str.ofString "shown",.v (.lst (ts.map shV))),(Str.ofString "at",x)])→SdI ts st l ρ acc s
inductive SfI (ts:List Tr) (ws:List Int) (st:Sto) (l:List V) (ρ:En) (acc:List V) (s:Sto):Prop
 |mk:st=s→∀r:List Int,l=r.map V.int→acc++(r.filter fun x=> !ws.contains x).map V.int=((j3 ts).filter fun x=> !ws.contains x).map V.int→acc.length+r.length≤5→(ρ=[(Str.ofString "wanted",.v (.tup (ws.map V.int)))]∨∃x,ρ=[(Str.ofString "wanted",.v (.tup (ws.map V.int))),(Str.ofString "side",x)])→SfI ts ws st l ρ acc s
theorem Qd{F:Nat}{x y:V}{ow:En}(hp:0<p)(hp':p≤6)(hl:Nl 8 p vs ts)(len:ts.length≤4)(ho:Ow "own" ow)(q:Q (.v (.bool true)) st):go C4 T4 (n+10) (JT C4 T4 (n+10)) (fi 88).sc (bz st.length Q) (F+400) [.sts 64 ((fi 88).body.drop 4)] [] (enE p vs ts x y ow) st E:=by
 have sl:(ts.map shV).length≤6:=by rw[List.length_map];exact Nat.le_trans len (by decide)
 conv=>whnf
 refine ae ?_ (szL sl)
 conv=>whnf
 have l20:(((ts.map shV).length:Int)-1).natAbs<2^20:=Qu rfl sl (by decide)
 refine ae ?_ l20
 conv=>whnf
 have hi:dp .one [.v (.rng 0 (((ts.map shV).length:Int)-1))]=some (gi 0 (((ts.map shV).length:Int)-1)):=if_pos ⟨by decide,Nat.le_of_lt l20⟩
 rw[hi]
 clear hi
 have hr:gi 0 (((ts.map shV).length:Int)-1)=(List.range (ts.length-1)).map fun(i:Nat)=>V.int (i:Int):=by
  unfold gi
  have e1:(((ts.map shV).length:Int)-1-0).toNat=ts.length-1:=Qt (List.length_map _)
  rw[e1]
  exact List.map_congr_left fun i o_=>by rw[Int.zero_add]
 rw[hr]
 clear hr l20
 conv=>whnf
 refine ry (SdI ts st) ⟨rfl,_,rfl,fun i hi=>Nat.add_lt_of_lt_sub (List.mem_range.mp hi),?_,?_,.inl (by rcases ho with rfl|⟨x,rfl⟩<;>rfl)⟩ (fun ρ acc s hI=>?_) fun z l ρ acc s hI=>?_
 ·unfold j3;rw[List.map_map];rfl
 ·rw[List.length_range,List.length_nil,Nat.zero_add];exact Nat.le_trans (Nat.sub_le ..) (Nat.le_succ_of_le len)
 ·obtain⟨rfl,is,e,_,ha,_,_⟩:=hI
  obtain rfl:=List.map_eq_nil_iff.mp e.symm
  obtain rfl:acc=(j3 ts).map V.int:=(List.append_nil acc).symm.trans ha
  clear e ha
  conv=>whnf
  refine ja (WnI p vs ts x y ow st) ⟨rfl,M4,[],rfl,Lm,by rcases ho with rfl|⟨o,rfl⟩<;>rfl,.inl rfl⟩ (fun ρ s hI=>?_) fun z l ρ s hI=>?_
  ·obtain⟨rfl,r,ow2,e,_,rfl,_⟩:=hI
   conv=>whnf
   exact aa q
  ·obtain⟨rfl,r,ow2,e,hw,rfl,ho2⟩:=hI
   cases r with
   |nil=>exact nomatch e
   |cons ws r=>
   injection e with e1 e2
   subst e1 e2
   have hws:=hw ws (.head _)
   refine⟨enE p vs ts x y (ow++[(Str.ofString "sides",.v (.lst ((j3 ts).map V.int))),(Str.ofString "wanted",.v (.tup (ws.map V.int)))]),?_,?_⟩
   ·rcases ho with rfl|⟨o,rfl⟩<;>rcases ho2 with rfl|⟨o,rfl⟩<;>rfl
   have sz:(j3 ts).length≤5:=by unfold j3;rw[List.length_map,List.length_range];exact Nat.le_trans (Nat.sub_le ..) (Nat.le_succ_of_le len)
   have fr:∀z,z∈r→_:=fun z m=>hw z (.tail _ m)
   clear hw ho2
   apply K0 ho
   case' a=>intro hP
   case' b=>intro hP o
   case a|b=>
    conv=>whnf
    refine Lg hws hp hp' hl (Nat.le_succ_of_le len) ?_
    conv=>whnf
    refine mx (SfI ts ws st) ⟨rfl,j3 ts,rfl,rfl,by rw[List.length_nil,Nat.zero_add];exact sz,.inl rfl⟩ (fun ρ acc s hI=>?_) hP
    ·obtain⟨rfl,r',e,ha,_,_⟩:=hI
     obtain rfl:=List.map_eq_nil_iff.mp e.symm
     obtain rfl:acc=_:=(List.append_nil acc).symm.trans ha
     clear e ha
     conv=>whnf
     refine⟨_,Ll,?_⟩
     rw[Lp]
     conv=>whnf
     refine⟨_,neB _ _ _,?_⟩
     rw[beq_self_eq_true]
     conv=>whnf
     exact⟨rfl,r,_,rfl,fr,rfl,.inr ⟨_,rfl⟩⟩
   case p=>
    intro z l ρ acc s hI
    obtain⟨rfl,r',e,ha,hlen,ho⟩:=hI
    cases r' with
    |nil=>exact nomatch e
    |cons a r'=>
    injection e with e1 e2
    subst e1 e2
    refine⟨[(Str.ofString "wanted",.v (.tup (ws.map V.int))),(Str.ofString "side",.v (.int a))],?_,?_⟩
    ·rcases ho with rfl|⟨x,rfl⟩<;>rfl
    have hlen':acc.length+1+r'.length≤5:=by rw[Nat.add_right_comm];exact hlen
    rw[List.filter_cons]at ha
    conv=>whnf
    refine⟨_,hws _ _,?_⟩
    conv=>whnf
    refine⟨fun z=>?_,fun z=>?_⟩
    ·rw[if_pos z]at ha
     conv=>whnf
     refine⟨szL (Nat.le_trans (Nat.le_trans (Nat.le_add_right ..) hlen) (by decide)),rfl,r',rfl,?_,?_,.inr ⟨_,rfl⟩⟩
     ·rw[List.append_assoc];exact ha
     ·rw[List.length_append];exact hlen'
    ·rw[if_neg (by rw[z];decide)]at ha
     exact⟨rfl,r',rfl,ha,Nat.le_trans (Nat.add_le_add_right (Nat.le_succ _) _) hlen',.inr ⟨_,rfl⟩⟩
 ·obtain⟨rfl,is,e,hin,ha,hlen,ho⟩:=hI
  cases is with
  |nil=>exact nomatch e
  |cons i is=>
  injection e with e1 e2
  obtain⟨k,hk⟩:∃k:Int,(i:Int)=k:=⟨_,rfl⟩
  have e1:z=V.int k:=e1.trans (congrArg V.int hk)
  subst e1 e2
  have hi:=hin i (List.mem_cons_self ..)
  have vl:(ts.map shV).length≤100:=Nat.le_trans sl (by decide)
  have s1:kt (.v (.lst (ts.map shV))) (.v (.int k)) st=some (shV (jc ts i)):=pv (i:=i) hk vl (Ck (Nat.lt_of_succ_lt hi))
  have ek:((i+1:Nat):Int)=k+1:=by rw[←hk];exact Int.natCast_add i 1
  have s2:kt (.v (.lst (ts.map shV))) (.v (.int (k+1))) st=some (shV (jc ts (i+1))):=pv (i:=i+1) ek vl (Ck hi)
  obtain⟨w,_,n1⟩:=hl.get i (Nat.lt_of_succ_lt hi)
  obtain⟨w',_,n2⟩:=hl.get (i+1) hi
  clear ek
  have le:p+8≤4000:=Nat.le_trans (Nat.add_le_add_right hp' 8) (by decide)
  refine⟨[(Str.ofString "shown",.v (.lst (ts.map shV))),(Str.ofString "at",.v (.int k))],?_,?_⟩
  ·rcases ho with rfl|⟨y,rfl⟩<;>rfl
  conv=>whnf
  rw[s1]
  conv=>whnf
  rw[s2]
  conv=>whnf
  refine pu (smL (Nb.lt hp n1).1 le) (smL (x:=((_:Nat):Int)) (Nb.lt hp n1).2 le) (smL (Nb.lt hp n2).1 le) (smL (x:=((_:Nat):Int)) (Nb.lt hp n2).2 le) ?_
  conv=>whnf
  refine⟨szL (Nat.le_trans (Nat.le_trans (Nat.le_add_right ..) hlen) (by decide)),rfl,is,rfl,fun j hj=>hin j (List.mem_cons_of_mem _ hj),?_,?_,.inr ⟨_,rfl⟩⟩
  ·rw[List.append_assoc];exact ha
  ·rw[List.length_append];exact Nat.le_trans (Nat.le_of_eq (Nat.add_right_comm ..)) hlen
inductive EnI (p:Nat) (vs:List V) (t:Tr) (ts:List Tr) (st:Sto) (l:List V) (ρ:En) (s:Sto):Prop
 |mk:st=s→∀f g r vs' w w' ow,l=r.map shV→Nl 8 p vs' r→NbT 8 p w f→NbT 8 p w' g→loT t ts=loT f r→hiT t ts=hiT g r→ρ=enE p vs (t::ts) (shV f) (shV g) ow→Ow "own" ow→EnI p vs t ts st l ρ s
theorem Qe(hp:0<p)(hp':p≤6)(hv:NbT 8 p v t)(hl:Nl 8 p vs ts)(len:ts.length≤3)(q:Q (.v (.bool true)) st):CallK (R C4 T4 (n+12) (.v (.val (.ref 899))) [.v (tw p),.v (.lst (v::vs)),.v (.lst ((t::ts).map shV))] st) Q E:=by
 refine af rfl rfl ?_
 conv=>whnf
 rw[List.map_cons,kr]
 conv=>whnf
 rw[kr]
 conv=>whnf
 refine ae ?_ (szL (Nat.succ_le_succ (by rw[List.length_map];exact Nat.le_trans len (by decide))))
 conv=>whnf
 refine ja (EnI p (v::vs) t ts st) ⟨rfl,t,t,ts,vs,v,v,[],rfl,hl,hv,hv,rfl,rfl,rfl,.inl rfl⟩ (fun ρ s hI=>?_) fun z l ρ s hI=>?_
 ·obtain⟨rfl,f,g,r,vs',w,w',ow,e,_,hf,hg,h1,h2,rfl,ho⟩:=hI
  obtain rfl:=List.map_eq_nil_iff.mp e.symm
  have h1:loT t ts=f:=h1
  have h2:hiT t ts=g:=h2
  subst h1 h2
  conv=>whnf
  exact Qa hp hp' (ts:=t::ts) (vs:=v::vs) (Nat.succ_le_succ len) hf hg ho fun F x y hx hy=>Qb hp hp' hv hl len (Nb.b0 hf) (Nb.b0 hg) hx hy fun F=>Qd hp hp' (.cons hv hl) (Nat.succ_le_succ len) ho q
 ·obtain⟨rfl,f,g,r,vs',w,w',ow,e,hr,hf,hg,h1,h2,rfl,ho⟩:=hI
  cases hr with
  |nil=>exact nomatch e
  |@cons z' o vs' r hz hr=>
  injection e with e1 e2
  subst e1 e2
  refine⟨enE p (v::vs) (t::ts) (shV f) (shV g) [(Str.ofString "own",.v (shV o))],?_,?_⟩
  ·rcases ho with rfl|⟨x,rfl⟩<;>rfl
  have h1:loT t ts=loT (if cpS o.a o.b f.a f.b<0 then o else f) r:=h1
  have h2:hiT t ts=hiT (if 0<cpS o.a o.b g.a g.b then o else g) r:=h2
  have le:p+8≤4000:=Nat.le_trans (Nat.add_le_add_right hp' 8) (by decide)
  have sm:∀{w:V} {t:Tr},NbT 8 p w t→Sm t.a∧Sm (t.b:Int):=fun h=>⟨smL (Nb.lt hp h).1 le,smL (x:=((_:Nat):Int)) (Nb.lt hp h).2 le⟩
  conv=>whnf
  refine pu (sm hz).1 (sm hz).2 (sm hf).1 (sm hf).2 ?_
  conv=>whnf
  refine aj (fun z=>?_) (fun z=>?_)
  ·rw[if_pos z]at h1
   conv=>whnf
   refine pu (sm hz).1 (sm hz).2 (sm hg).1 (sm hg).2 ?_
   conv=>whnf
   refine aj (fun z=>?_) (fun z=>?_)
   ·rw[if_pos z]at h2
    conv=>whnf
    exact⟨rfl,o,o,r,vs',_,_,_,rfl,hr,hz,hz,h1,h2,rfl,.inr ⟨_,rfl⟩⟩
   ·rw[if_neg z]at h2
    conv=>whnf
    exact⟨rfl,o,g,r,vs',_,_,_,rfl,hr,hz,hg,h1,h2,rfl,.inr ⟨_,rfl⟩⟩
  ·rw[if_neg z]at h1
   conv=>whnf
   refine pu (sm hz).1 (sm hz).2 (sm hg).1 (sm hg).2 ?_
   conv=>whnf
   refine aj (fun z=>?_) (fun z=>?_)
   ·rw[if_pos z]at h2
    conv=>whnf
    exact⟨rfl,f,o,r,vs',_,_,_,rfl,hr,hf,hz,h1,h2,rfl,.inr ⟨_,rfl⟩⟩
   ·rw[if_neg z]at h2
    conv=>whnf
    exact⟨rfl,f,g,r,vs',_,_,_,rfl,hr,hf,hg,h1,h2,rfl,.inr ⟨_,rfl⟩⟩
end
/-! the simplest number between two:pure -/
structure IsSimp (tl bl th bh p q:Int):Prop where
 p0:0<p
 q0:0<q
 low:tl*q≤p*bl
 high:p*bh≤th*q
 least:∀a b,0<a→0<b→tl*b≤a*bl→a*bh≤th*b→p≤a∧q≤b
theorem ym{tl th bh:Int}(h0:0<tl)(hb:0<bh)(hle:tl*bh≤th):IsSimp tl 1 th bh tl 1:=by
 refine⟨h0,by decide,by exact Int.le_refl (tl*1),by lia,fun a b ha hb' h1 h2=>⟨?_,by exact Int.le_of_sub_one_lt hb'⟩⟩
 have:tl*1≤tl*b:=Int.mul_le_mul_of_nonneg_left (by exact Int.le_of_sub_one_lt hb') (by exact Int.le_of_lt h0)
 lia
theorem Lq{tl bl th bh:Int}(h0:0<tl)(hbl:0<bl)(hbh:0<bh)(hni:tl%bl≠0)(hle:tl*bh≤th*bl)(hw:tl/bl≠th/bh):IsSimp tl bl th bh (tl/bl+1) 1:=by
 have e1:=Int.mul_ediv_add_emod tl bl
 have m1:=Int.emod_nonneg tl (show bl≠0 by exact Ne.symm (Int.ne_of_lt hbl))
 have m2:=Int.emod_lt_of_pos tl hbl
 have e2:=Int.mul_ediv_add_emod th bh
 have m3:=Int.emod_nonneg th (show bh≠0 by exact Ne.symm (Int.ne_of_lt hbh))
 have m4:=Int.emod_lt_of_pos th hbh
 have w0:0≤tl/bl:=Int.ediv_nonneg (by exact Int.le_of_lt h0) (by exact Int.le_of_lt hbl)
 generalize hwl:tl/bl=w at*
 generalize hwh:th/bh=v at*
 generalize tl%bl=r at*
 generalize th%bh=s at*
 have hwv:w<v:=by
  rcases Int.lt_or_gt_of_ne hw with h|h
  ·exact h
  ·exfalso
   have a1:(v+1)*(bh*bl)≤w*(bh*bl):=Int.mul_le_mul_of_nonneg_right (by exact Int.add_one_le_of_lt h) (Int.mul_nonneg (by exact Int.le_of_lt hbh) (by exact Int.le_of_lt hbl))
   have a2:tl*bh=w*(bh*bl)+r*bh:=by rw[←e1];grind
   have a3:th*bl=v*(bh*bl)+s*bl:=by rw[←e2];grind
   have a4:s*bl<bh*bl:=Int.mul_lt_mul_of_pos_right (by exact Int.lt_of_add_one_le m4) hbl
   have a5:0≤r*bh:=Int.mul_nonneg (by exact Int.le_of_sub_one_lt m1) (by exact Int.le_of_lt hbh)
   have a6:(v+1)*(bh*bl)=v*(bh*bl)+bh*bl:=by grind
   lia
 refine⟨by exact Int.le_iff_lt_add_one.mp w0,by decide,?_,?_,fun a b ha hb h1 h2=>⟨?_,by exact Int.le_of_sub_one_lt hb⟩⟩
 ·have:(w+1)*bl=bl*w+bl:=by grind
  lia
 ·have a1:(w+1)*bh≤v*bh:=Int.mul_le_mul_of_nonneg_right (by exact Int.add_one_le_of_lt hwv) (by exact Int.le_of_lt hbh)
  have a2:v*bh=bh*v:=Int.mul_comm _ _
  lia
 · -- a/b≥tl/bl>w
   have r0:0<r:=by exact Std.lt_of_le_of_ne m1 (id (Ne.symm hni))
   have a1:(bl*w+r)*b≤a*bl:=by rw[e1];exact h1
   have a2:0<r*b:=Int.mul_pos r0 hb
   have a3:w*b*bl<a*bl:=by
    have:(bl*w+r)*b=w*b*bl+r*b:=by grind
    lia
   have a4:w*b<a:=Int.lt_of_mul_lt_mul_right a3 (by exact Int.le_of_lt hbl)
   have a5:w*1≤w*b:=Int.mul_le_mul_of_nonneg_left (by exact Int.le_of_sub_one_lt hb) (by exact Int.le_of_sub_one_lt w0)
   lia
theorem uk{tl bl th bh p q w:Int}(h0:0<tl)(hbl:0<bl)(hbh:0<bh)(hw:0≤w)(hl:w*bl<tl)(hl2:tl<(w+1)*bl)(hh:w*bh<th)(hh2:th<(w+1)*bh)
 (S:IsSimp bh (th-w*bh) bl (tl-w*bl) p q):IsSimp tl bl th bh (w*p+q) p:=by
 have wp:0≤w*p:=Int.mul_nonneg hw (by have:=S.p0;exact Int.le_of_lt this)
 refine⟨by have:=S.q0;exact Int.add_pos_of_nonneg_of_pos wp this,S.p0,?_,?_,fun a b ha hb h1 h2=>?_⟩
 ·have:=S.high
  have e:(w*p+q)*bl=w*bl*p+bl*q:=by grind
  have e2:p*(tl-w*bl)=tl*p-w*bl*p:=by grind
  lia
 ·have:=S.low
  have e:(w*p+q)*bh=w*bh*p+bh*q:=by grind
  have e2:p*(th-w*bh)=th*p-w*bh*p:=by grind
  lia
 ·have a1:0<a-w*b:=by
   have x1:w*bl*b<tl*b:=Int.mul_lt_mul_of_pos_right hl hb
   have x2:w*b*bl<a*bl:=by
    have:w*bl*b=w*b*bl:=by grind
    lia
   have:=Int.lt_of_mul_lt_mul_right x2 (by exact Int.le_of_lt hbl)
   exact Int.sub_pos_of_lt this
  obtain⟨y1,y2⟩:=S.least b (a-w*b) hb a1 (by
   have e:b*(th-w*bh)=th*b-w*b*bh:=by grind
   have e2:bh*(a-w*b)=a*bh-w*b*bh:=by grind
   lia) (by
   have e:b*(tl-w*bl)=tl*b-w*b*bl:=by grind
   have e2:bl*(a-w*b)=a*bl-w*b*bl:=by grind
   lia)
  refine⟨?_,y1⟩
  have:w*p≤w*b:=Int.mul_le_mul_of_nonneg_left y1 hw
  lia
noncomputable def unw(ws:List Int)(x:Int×Int):Int×Int:=ws.foldr (fun w x=>(w*x.1+x.2,x.1)) x
theorem yn{ws:List Int}{w:Int}{x:Int×Int}:unw (ws++[w]) x=unw ws (w*x.1+x.2,x.1):=by
 unfold unw
 rw[List.foldr_append];rfl
theorem Cm:∀{ws:List Int} {x:Int×Int},(∀w∈ws,0≤w)→0<x.1→0<x.2→0<(unw ws x).1∧0<(unw ws x).2∧x.1+x.2≤(unw ws x).1+(unw ws x).2
 |[],x,_,h1,h2=>⟨h1,h2,Int.le_refl _⟩
 |w::ws,x,h,h1,h2=>by
  obtain⟨a,b,c⟩:=Cm (ws:=ws) (x:=x) (fun w hw=>h w (.tail _ hw)) h1 h2
  have hw:=h w (.head _)
  have e:unw (w::ws) x=(w*(unw ws x).1+(unw ws x).2,(unw ws x).1):=rfl
  rw[e]
  have h0:0≤w*(unw ws x).1:=Int.mul_nonneg hw (Int.le_of_lt a)
  exact⟨Int.lt_of_lt_of_le b (Int.le_add_of_nonneg_left h0),a,Int.le_trans c (by rw[Int.add_comm];exact Int.add_le_add_right (Int.le_add_of_nonneg_left h0) _)⟩
structure Iv (tl bl th bh:Int):Prop where
 t0:0<tl
 l0:0<bl
 h0:0<bh
 th0:0<th
 le:tl*bh≤th*bl
 g1:Int.gcd tl bl=1
 g2:Int.gcd th bh=1
 m1:tl≤1000000000000
 m2:bl≤1000000000000
 m3:th≤1000000000000
 m4:bh≤1000000000000
theorem Iv.next{tl bl th bh w:Int}(I:Iv tl bl th bh)(hw:w=tl/bl)(hw2:w=th/bh)(hne:¬(w=tl∧1=bl)):
 Iv bh (th-w*bh) bl (tl-w*bl)∧0≤w∧w≤1000000000000∧w*bl<tl∧tl<(w+1)*bl∧w*bh<th∧th<(w+1)*bh∧th-w*bh<bh∧tl-w*bl<bl:=by
 have e1:=Int.mul_ediv_add_emod tl bl
 have m1:=Int.emod_nonneg tl (show bl≠0 by have:=I.l0;exact Ne.symm (Int.ne_of_lt this))
 have m2:=Int.emod_lt_of_pos tl I.l0
 have e2:=Int.mul_ediv_add_emod th bh
 have m3:=Int.emod_nonneg th (show bh≠0 by have:=I.h0;exact Ne.symm (Int.ne_of_lt this))
 have m4:=Int.emod_lt_of_pos th I.h0
 have w0:0≤w:=by rw[hw];exact Int.ediv_nonneg (by have:=I.t0;exact Int.le_of_lt this) (by have:=I.l0;exact Int.le_of_lt this)
 have wm:w≤tl:=by rw[hw];exact Int.ediv_le_self _ (by have:=I.t0;exact Int.le_of_lt this)
 rw[←hw]at e1
 rw[←hw2]at e2
 have hr:tl%bl≠0:=fun hz=>by
  rw[hz,Int.add_zero]at e1
  have hd:bl ∣ tl:=⟨w,e1.symm⟩
  have:Int.gcd tl bl=bl.natAbs:=Int.gcd_eq_natAbs_right hd
  have hbl:bl=1:=gcd_one this I.g1 I.l0
  exact hne ⟨by rw[hbl,Int.one_mul]at e1;exact e1,hbl.symm⟩
 have c1:bl*w=w*bl:=Int.mul_comm _ _
 have c2:bh*w=w*bh:=Int.mul_comm _ _
 have x1:(w+1)*bl=w*bl+bl:=by grind
 have x2:(w+1)*bh=w*bh+bh:=by grind
 have l1:w*bl<tl:=by lia
 have l2:w*bh<th:=by
  have y1:w*bl*bh<tl*bh:=Int.mul_lt_mul_of_pos_right l1 I.h0
  have y2:w*bh*bl<th*bl:=by
   have:w*bl*bh=w*bh*bl:=by grind
   have:=I.le
   lia
  exact Int.lt_of_mul_lt_mul_right y2 (by have:=I.l0;exact Int.le_of_lt this)
 refine⟨⟨I.h0,by exact Int.sub_pos_of_lt l2,by exact Int.sub_pos_of_lt l1,I.l0,?_,?_,?_,I.m4,by have:=I.m4;lia,I.m2,by have:=I.m2;lia⟩,w0,by have:=I.m1;exact Int.le_trans wm this,l1,by lia,l2,by lia,by lia,by lia⟩
 ·have z1:bh*(tl-w*bl)=tl*bh-w*bl*bh:=by grind
  have z2:bl*(th-w*bh)=th*bl-w*bl*bh:=by grind
  have:=I.le
  lia
 ·rw[Int.gcd_comm,Int.gcd_sub_mul_right_left]
  exact I.g2
 ·rw[Int.gcd_comm,Int.gcd_sub_mul_right_left]
  exact I.g1
theorem Iv.exit{tl bl th bh:Int}(I:Iv tl bl th bh)(hne:¬(tl/bl=tl∧1=bl))(hw:tl/bl≠th/bh):IsSimp tl bl th bh (tl/bl+1) 1:=by
 refine Lq I.t0 I.l0 I.h0 (fun hz=>?_) I.le hw
 have e1:=Int.mul_ediv_add_emod tl bl
 rw[hz,Int.add_zero]at e1
 have hd:bl ∣ tl:=⟨tl/bl,e1.symm⟩
 have:Int.gcd tl bl=bl.natAbs:=Int.gcd_eq_natAbs_right hd
 have hbl:bl=1:=gcd_one this I.g1 I.l0
 exact hne ⟨by rw[hbl,Int.ediv_one],hbl.symm⟩
structure Num (t b:Int):Prop where
 b0:0<b
 g:Int.gcd t b=1
 lo: -1000000000000≤t
 hi:t≤1000000000000
 bm:b≤500000
theorem Num.neg{t b:Int}(N:Num t b):Num (-t) b:=⟨N.b0,by rw[Int.neg_gcd];exact N.g,by have:=N.hi;exact Int.neg_le_neg this,by have:=N.lo;exact Int.neg_le_of_neg_le this,N.bm⟩
theorem Num.iv{t b u c:Int}(N:Num t b)(M:Num u c)(h:0<t)(hle:t*c≤u*b):Iv t b u c:=by
 have hu:0<u:=by
  have h1:0<t*c:=Int.mul_pos h M.b0
  have h2:0*b<u*b:=by lia
  exact Int.lt_of_mul_lt_mul_right h2 (by have:=N.b0;exact Int.le_of_lt this)
 exact⟨h,N.b0,M.b0,hu,hle,N.g,M.g,N.hi,Int.le_trans N.bm (by decide),M.hi,Int.le_trans M.bm (by decide)⟩
noncomputable def Res(tl bl th bh P R:Int):Prop:=(0<tl∧IsSimp tl bl th bh P R)∨(tl≤0∧th<0∧IsSimp (-th) bh (-tl) bl (-P) R)∨(tl≤0∧0≤th∧P=0∧R=1)
theorem j4:∀(k:Nat) {tl bl th bh:Int},(bl+bh).toNat≤k→Iv tl bl th bh→∃P R,IsSimp tl bl th bh P R
 |k,tl,bl,th,bh,hk,I=>by
  by_cases h1:tl/bl=tl∧1=bl
  ·obtain⟨_,rfl⟩:=h1
   exact⟨_,_,ym I.t0 I.h0 (by have:=I.le;lia)⟩
  ·by_cases h2:tl/bl=th/bh
   ·obtain⟨I',w0,wm,l1,l2,l3,l4,l5,l6⟩:=I.next rfl h2 h1
    cases k with
    |zero=>exact absurd (Int.toNat_of_nonpos_iff hk) (Int.not_le.mpr (Int.add_pos I.l0 I.h0))
    |succ k=>
     obtain⟨P,R,S⟩:=j4 k (Nat.le_of_lt_succ (Nat.lt_of_lt_of_le (L6 l5 l6 I.h0 I.l0) hk)) I'
     exact⟨_,_,uk I.t0 I.l0 I.h0 w0 l1 l2 l3 l4 S⟩
   ·exact⟨_,_,I.exit h1 h2⟩
theorem As{t b u c:Int}(N:Num t b)(M:Num u c)(hle:t*c≤u*b):∃P R,Res t b u c P R:=by
 by_cases h:0<t
 ·obtain⟨P,R,S⟩:=j4 _ (Nat.le_refl _) (N.iv M h hle)
  exact⟨P,R,.inl ⟨h,S⟩⟩
 ·by_cases h2:u<0
  ·obtain⟨P,R,S⟩:=j4 _ (Nat.le_refl _) (M.neg.iv N.neg (by exact Int.neg_pos_of_neg h2) (by rw[Int.neg_mul,Int.neg_mul];exact Int.neg_le_neg hle))
   exact⟨-P,R,.inr (.inl ⟨by exact Int.not_lt.mp h,h2,by rw[Int.neg_neg];exact S⟩)⟩
  ·exact⟨0,1,.inr (.inr ⟨by exact Int.not_lt.mp h,by exact Int.not_lt.mp h2,rfl,rfl⟩)⟩
noncomputable def fC(tl bl k:Int):Int:=0-(0-tl*k).fdiv bl
noncomputable def fF(th bh k:Int):Int:=(th*k).fdiv bh
theorem mz{tl bl k x:Int}(h:0<bl):fC tl bl k≤x↔tl*k≤x*bl:=by
 unfold fC
 rw[Int.fdiv_eq_ediv_of_nonneg _ (by exact Int.le_of_lt h)]
 have:=@Int.le_ediv_iff_mul_le (-x) (0-tl*k) bl h
 rw[Int.neg_mul]at this
 exact yu this
theorem m7{th bh k x:Int}(h:0<bh):x≤fF th bh k↔x*bh≤th*k:=by
 unfold fF
 rw[Int.fdiv_eq_ediv_of_nonneg _ (by exact Int.le_of_lt h)]
 exact Int.le_ediv_iff_mul_le h
structure Scan (tl bl th bh P R:Int):Prop where
 r1:1≤R
 rl:R≤bl
 rh:R≤bh
 hit:∀k,1≤k→k≤R→(fC tl bl k≤fF th bh k↔k=R)
 mid:fC tl bl R≤0→0≤fF th bh R→P=0∧R=1
 up:¬(fC tl bl R≤0∧0≤fF th bh R)→0<fC tl bl R→P=fC tl bl R
 down:¬(fC tl bl R≤0∧0≤fF th bh R)→¬0<fC tl bl R→P=fF th bh R
theorem i5{a b:Int}(hb:0<b)(h:0<a*b):0<a:=by
 rcases Int.lt_or_le 0 a with h1|h1
 ·exact h1
 ·have:a*b≤0*b:=Int.mul_le_mul_of_nonneg_right h1 (by exact Int.le_of_lt hb)
  exact Int.pos_of_mul_pos_left h hb
theorem sv{a b:Int}(hb:0<b)(h:a*b<0):a<0:=by
 rcases Int.lt_or_le a 0 with h1|h1
 ·exact h1
 ·have:=Int.mul_nonneg h1 (by exact Int.le_of_lt hb:0≤b)
  exact Int.neg_of_mul_neg_left h hb
theorem Cn{tl bl th bh P R:Int}(hl:0<bl)(hh:0<bh)(hle:tl*bh≤th*bl)(S:Res tl bl th bh P R):Scan tl bl th bh P R:=by
 rcases S with⟨h,S⟩|⟨h,h2,S⟩|⟨h,h2,rfl,rfl⟩
 ·have th0:0<th:=by
   refine i5 hl ?_
   have:=Int.mul_pos h hh
   exact Int.lt_of_lt_of_le this hle
  have cpos:∀k,1≤k→0<fC tl bl k:=fun k hk=>by
   have h1:fC tl bl k≤fC tl bl k:=Int.le_refl _
   rw[mz hl]at h1
   have:=Int.mul_pos h (show 0<k by exact Int.lt_of_add_one_le hk)
   exact i5 hl (by exact Int.lt_of_lt_of_le this h1)
  have r0:=S.q0
  have c1:fC tl bl R≤P:=(mz hl).mpr S.low
  have c2:P≤fF th bh R:=(m7 hh).mpr S.high
  refine⟨by exact Int.le_of_sub_one_lt r0,(S.least tl bl h hl (Int.le_refl _) hle).2,(S.least th bh th0 hh hle (Int.le_refl _)).2,fun k h1 h2=>⟨fun h3=>?_,fun h3=>by rw[h3];exact Int.le_trans c1 c2⟩,fun h1 o_=>?_,fun o_ o_=>?_,fun o_ h1=>?_⟩
  ·have:=(S.least (fC tl bl k) k (cpos k h1) (by exact Int.lt_of_add_one_le h1) ((mz hl).mp (Int.le_refl _)) ((m7 hh).mp h3)).2
   exact Int.le_antisymm h2 this
  ·have:=cpos R (by exact Int.le_of_sub_one_lt r0);lia
  ·have:=(S.least (fC tl bl R) R (cpos R (by exact Int.le_of_sub_one_lt r0)) r0 ((mz hl).mp (Int.le_refl _)) ((m7 hh).mp (by exact Int.le_trans c1 c2))).1
   exact Eq.symm (Int.le_antisymm c1 this)
  ·exact absurd (cpos R (by exact Int.not_lt.mp fun a=>h1 (cpos R r0))) h1
 ·have r0:=S.q0
  have tl0:tl<0:=by
   refine sv hh ?_
   have:th*bl<0:=by
    have:=Int.mul_pos (show 0< -th by exact Int.neg_pos_of_neg h2) hl
    rw[Int.neg_mul]at this
    exact Int.mul_neg_of_neg_of_pos h2 hl
   exact Int.lt_of_le_of_lt hle this
  have fneg:∀k,1≤k→fF th bh k<0:=fun k hk=>by
   have h1:fF th bh k≤fF th bh k:=Int.le_refl _
   rw[m7 hh]at h1
   have:=Int.mul_pos (show 0< -th by exact Int.neg_pos_of_neg h2) (show 0<k by exact Int.lt_of_add_one_le hk)
   rw[Int.neg_mul]at this
   exact sv hh (by lia)
  have sl:=S.low
  have sh:=S.high
  rw[Int.neg_mul,Int.neg_mul]at sl sh
  have c1:fC tl bl R≤P:=(mz hl).mpr (by exact Int.le_of_neg_le_neg sh)
  have c2:P≤fF th bh R:=(m7 hh).mpr (by exact Int.le_of_neg_le_neg sl)
  have cand:∀k,1≤k→fC tl bl k≤fF th bh k→ -P≤ -fF th bh k∧R≤k:=fun k hk h3=>by
   have x1:=(mz hl).mp h3
   have x2:=(m7 (k:=k) hh).mp (Int.le_refl (fF th bh k))
   exact S.least (-fF th bh k) k (by have:=fneg k hk;exact Int.neg_pos_of_neg (fneg k hk)) (by exact Int.lt_of_add_one_le hk) (by rw[Int.neg_mul,Int.neg_mul];exact Int.neg_le_neg x2) (by rw[Int.neg_mul,Int.neg_mul];exact Int.neg_le_neg x1)
  refine⟨by exact Int.le_of_sub_one_lt r0,(S.least (-tl) bl (by exact Int.neg_pos_of_neg tl0) hl (by rw[Int.neg_mul,Int.neg_mul];exact Int.neg_le_neg hle) (Int.le_refl _)).2,(S.least (-th) bh (by exact Int.neg_pos_of_neg h2) hh (Int.le_refl _) (by rw[Int.neg_mul,Int.neg_mul];exact Int.neg_le_neg hle)).2,fun k h1 h2=>⟨fun h3=>?_,fun h3=>by rw[h3];exact Int.le_trans c1 c2⟩,fun o_ h1=>?_,fun o_ h1=>?_,fun o_ o_=>?_⟩
  ·have:=(cand k h1 h3).2
   exact Int.le_antisymm h2 this
  ·have:=fneg R (by exact Int.le_of_sub_one_lt r0);lia
  ·have:=fneg R (by exact Int.le_of_sub_one_lt r0);lia
  ·have:=(cand R (by exact Int.le_of_sub_one_lt r0) (by exact Int.le_trans c1 c2)).1
   lia
 ·have c1:fC tl bl 1≤0:=(mz hl).mpr (by lia)
  have c2:0≤fF th bh 1:=(m7 hh).mpr (by lia)
  exact⟨by exact Int.le_refl 1,by exact Int.le_of_sub_one_lt hl,by exact Int.le_of_sub_one_lt hh,fun k h1 h2=>⟨fun o_=>by exact Eq.symm (Int.le_antisymm h1 h2),fun h3=>by rw[h3];exact Int.le_trans c1 c2⟩,fun o_ o_=>⟨rfl,rfl⟩,fun h1 o_=>absurd ⟨c1,c2⟩ h1,fun h1 o_=>absurd ⟨c1,c2⟩ h1⟩
theorem ul:∀l:List Int,V.dats (l.map V.int)=some (l.map PyData.int)
 |[]=>rfl
 |x::r=>by
  show(some (PyData.int x)).bind (fun d=>(V.dats (r.map V.int)).bind fun ds=>some (d::ds))=_
  rw[ul r]
  rfl
theorem yo:∀l:List Int,PyData.canLayAll0 (l.map PyData.int)=true
 |[]=>rfl
 |x::r=>by
  rw[List.map_cons,PyData.canLayAll0,yo r];rfl
theorem sw:∀l:List Int,PyData.depthAll (l.map PyData.int)=0
 |[]=>rfl
 |x::r=>by
  rw[List.map_cons,PyData.depthAll,sw r];rfl
theorem yp(l:List Int):SeqAt.shaped (.list (l.map PyData.int))=true:=by
 unfold SeqAt.shaped
 rw[PyData.canLay0,yo,PyData.depth,sw];rfl
theorem Te{st:Sto}{i:Nat}{l:List Int}(h:st[i]? =some (l.map V.int)):D.dat st (.m i)=some (.list (l.map PyData.int)):=by
 show(st[i]?.bind fun l=>(V.dats l).map PyData.list)=_
 rw[h]
 show(V.dats (l.map V.int)).map PyData.list=_
 rw[ul];rfl
theorem eqM{st:Sto}{i:Nat}{l:List Int}(h:st[i]? =some (l.map V.int)):d7 .Eq (.m i) (.v (.lst [])) st=some l.isEmpty:=by
 show eqD _ _ _=_
 unfold eqD
 rw[Te h]
 show Option.or (if SeqAt.shaped (.list (l.map PyData.int))&&SeqAt.shaped (.list [])then some (PyData.eqv (.list (l.map PyData.int)) (.list []))else none) _=_
 rw[yp]
 cases l<;>rfl
theorem neM{st:Sto}{i:Nat}{l:List Int}(h:st[i]? =some (l.map V.int)):d7 .NotEq (.m i) (.v (.lst [])) st=some (!l.isEmpty):=congrArg (Option.map not) (eqM h)
theorem Au{st:Sto}{l:List V}:(st++[l])[st.length]? =some l:=by rw[List.getElem?_append_right (Nat.le_refl _),Nat.sub_self];rfl
theorem Co{st:Sto}{l l':List V}:(st++[l]).set st.length l'=st++[l']:=by rw[List.set_append_right _ _ (Nat.le_refl _),Nat.sub_self];rfl
theorem D7{st:Sto}{l:List V}{x:V}{Q:KD}{E:KV}(h:cf l.length=true)(q:Q (.v .none) (st++[l++[x]])):LoopK (listM (Str.ofString "append") st.length [.v x] (st++[l])) Q E:=LoopK.of (by
 unfold listM
 rw[Au]
 show Ok (if cf l.length then Out.ok (.v .none) ((st++[l]).set st.length (l++[x]))else .stuck) Q E
 rw[if_pos h,Co]
 exact q)
theorem Qf{st:Sto}{l:List V}{x:V}{Q:KD}{E:KV}(q:Q (.v x) (st++[l])):LoopK (listM (Str.ofString "pop") st.length [] (st++[l++[x]])) Q E:=LoopK.of (by
 unfold listM
 rw[Au]
 show Ok (match(l++[x]).getLast? with
  |some y=>Out.ok (.v y) ((st++[l++[x]]).set st.length (l++[x]).dropLast)
  |Option.none=>.stuck) Q E
 rw[List.getLast?_append,Co,List.dropLast_concat]
 exact q)
theorem Lr{st:Sto}{i:Nat}{l:List V}{x:V}{Q:KD}{E:KV}(h:st[i]? =some (x::l))(q:Q (.v x) (st.set i l)):LoopK (listM (Str.ofString "pop") i [.v (.int 0)] st) Q E:=LoopK.of (by
 unfold listM
 rw[h]
 exact q)
noncomputable def Lo(x:Int):Prop:= -10000000000000≤x∧x≤10000000000000
theorem Lo.sm{x:Int}(h:Lo x):Sm x:=by
 exact ac (k:=60) (Nat.lt_of_le_of_lt (px (k:=10000000000000) h.1 h.2) (by decide)) (by decide)
theorem Sm.up{x:Int}(h0:0≤x)(h:x≤1000000000000):Sm x:=Lo.sm ⟨Int.le_trans (by decide) h0,Int.le_trans h (by decide)⟩
section
variable {n:Nat} {t b u c:Int} {st:Sto} {E:KV} {Q:KD}
theorem v9(h0:0<b)(sb:Sm b)(q:Q (.v (.int (t/b))) st):CallK (R C4 T4 (n+3) (.v (.val (.ref 427))) [.v (nV t b)] st) Q E:=by
 refine af rfl rfl ?_
 ((conv=>whnf);repeat'((with_reducible first|apply ae|apply gu|apply jb);(conv=>whnf)))
 ·rw[Int.fdiv_eq_ediv_of_nonneg _ (Int.le_of_lt h0)];exact aa q
 ·exact ed (Int.ne_of_gt h0) sb
set_option tactic.hygienic true in
theorem Id(q0:u=t∧1=b→Q (.v (.bool true)) st)(q1:¬(u=t∧1=b)→Q (.v (.bool false)) st):CallK (R C4 T4 (n+3) (.v (.val (.ref 420))) [.v (.int u),.v (nV t b)] st) Q E:=by
 rw[←nV1]
 refine af rfl rfl ?_
 ((conv=>whnf);repeat'(first|((with_reducible apply bt)<;>(intro _;(conv=>whnf)))|((with_reducible first|apply gu|apply jb);(conv=>whnf))))
 ·rename_i h
  by_cases h1:1=b
  ·rw[beq_iff_eq.mpr h1];exact aa (q0 ⟨h,h1⟩)
  ·rw[beq_eq_false_iff_ne.mpr h1];exact aa (q1 fun z=>h1 z.2)
 ·rename_i h
  rw[beq_eq_false_iff_ne.mpr h];exact aa (q1 fun z=>h z.1)
theorem Qg(hu:Sm u)(ht:Sm t)(hb:Sm b)(h0:0<b)(q:Q (.v (nV (u*b+t) b)) st):CallK (R C4 T4 (n+4) (.v (.val (.ref 378))) [.v (.int u),.v (nV t b)] st) Q E:=by
 rw[←nV1 (t:=u)]
 refine Bw hu (ac (k:=1) (by decide) (by decide)) ht hb (by decide) h0 ?_
 have e1:exG 1 b=1:=by unfold exG;rw[Int.one_gcd];rfl
 have e2:exT u 1 t b=u*b+t:=by unfold exT;rw[e1,Int.ediv_one,Int.ediv_one,Int.mul_one]
 have e3:exS u 1 t b=1:=by unfold exS;rw[e1,Int.gcd_one];rfl
 rw[e1,e2,e3,Int.ediv_one,Int.ediv_one,Int.ediv_one,Int.one_mul]
 exact q
theorem Ie(ht:Sm t)(hb:Sm b)(hu:Sm u)(h0:0<b)(q:Q (.v (nV (t-u*b) b)) st):CallK (R C4 T4 (n+5) (.v (.val (.ref 385))) [.v (nV t b),.v (.int u)] st) Q E:=by
 rw[←nV1 (t:=u)]
 refine Gu ht hb hu (ac (k:=1) (by decide) (by decide)) h0 (by decide) ?_
 have e1:exG b 1=1:=by unfold exG;rw[Int.gcd_one];rfl
 have e2:exT t b (-u) 1=t-u*b:=by unfold exT;rw[e1,Int.ediv_one,Int.ediv_one,Int.mul_one,Int.neg_mul];rfl
 have e3:exS t b (-u) 1=1:=by unfold exS;rw[e1,Int.gcd_one];rfl
 rw[e1,e2,e3,Int.ediv_one,Int.ediv_one,Int.ediv_one,Int.mul_one]
 exact q
end
noncomputable def saE(lo hi:V)(w:Int)(i:Nat):En:=[(Str.ofString "low",.v lo),(Str.ofString "high",.v hi),(Str.ofString "ahead",.m i),(Str.ofString "whole",.v (.int w))]
section
variable {n:Nat} {tl bl th bh t b:Int} {st:Sto} {E:KV} {Q:KD}
theorem sx(h0:0<t)(q:Q (.v (nV b t)) st):CallK (R C4 T4 (n+3) (.v (.val (.ref 399))) [.v (nV t b)] st) Q E:=
 Bv (Int.ne_of_gt h0) (by rw[if_neg (Int.not_lt.mpr (Int.le_of_lt h0))];exact q)
inductive SbI (lo hi:V) (w0:Int) (st:Sto) (P R:Int) (k:Nat) (ρ:En) (s:Sto):Prop
 |mk:∀ws p r,k=ws.length→ρ=saE lo hi w0 st.length++[(Str.ofString "found",.v (nV p r))]→s=st++[ws.map V.int]→0<p→0<r→(∀w∈ws,0≤w∧w≤1000000000000)→unw ws (p,r)=(P,R)→SbI lo hi w0 st P R k ρ s
theorem Cp{lo hi:V}{w0 P R p r:Int}{ws:List Int}{F:Nat}(hp:0<p)(hr:0<r)(hws:∀w∈ws,0≤w∧w≤1000000000000)(hlen:ws.length≤1000000)(hu:unw ws (p,r)=(P,R))(hPR:P+R≤2000000000000)(q:Q (.v (nV P R)) st):
 go C4 T4 (n+6) (JT C4 T4 (n+6)) (fi 54).sc (bz st.length Q) (F+400) [.sts 64 ((fi 54).body.drop 4)] [] (saE lo hi w0 st.length++[(Str.ofString "found",.v (nV p r))]) (st++[ws.map V.int]) E:=by
 conv=>whnf
 refine e9 (SbI lo hi w0 st P R) (k₀:=ws.length) (Nat.lt_of_le_of_lt hlen (by decide)) ⟨ws,p,r,rfl,rfl,rfl,hp,hr,hws,hu⟩ fun k ρ s hI=>?_
 obtain⟨ws,p,r,rfl,rfl,rfl,hp,hr,hws,hu⟩:=hI
 obtain⟨s1,s2,s3⟩:=Cm (ws:=ws) (x:=(p,r)) (fun w hw=>(hws w hw).1) hp hr
 rw[hu]at s3
 have s3:p+r≤P+R:=s3
 conv=>whnf
 refine⟨_,neM Au,?_⟩
 rcases List.eq_nil_or_concat ws with h|⟨ws',w,h⟩
 ·subst h
  cases hu
  conv=>whnf
  show Q _ (List.take st.length (st++_))
  rw[List.take_left]
  exact q
 ·rw[List.concat_eq_append]at h
  subst h
  obtain⟨w0',w1'⟩:=hws w (by simp)
  have wp:0≤w*p:=Int.mul_nonneg w0' (Int.le_of_lt hp)
  have e1:(ws'++[w]).isEmpty=false:=by simp
  rw[e1,List.map_append]
  conv=>whnf
  refine Qf ?_
  conv=>whnf
  refine sx hp ?_
  conv=>whnf
  refine Qg (Lo.sm (by unfold Lo;lia)) (Lo.sm (by unfold Lo;lia)) (Lo.sm (by unfold Lo;lia)) hp ?_
  conv=>whnf
  refine⟨ws'.length,by simp,ws',w*p+r,p,rfl,rfl,rfl,by exact Int.add_pos_of_nonneg_of_pos wp hr,hp,fun x hx=>hws x (by simp[hx]),?_⟩
  rw[yn]at hu
  exact hu
inductive SaI (tl bl th bh:Int) (st:Sto) (k:Nat) (ρ:En) (s:Sto):Prop
 |mk:∀ws tl' bl' th' bh',k=(bl'+bh').toNat→ρ=saE (nV tl' bl') (nV th' bh') (tl'/bl') st.length→s=st++[ws.map V.int]→Iv tl' bl' th' bh'→(ws.length:Int)+bl'+bh'≤1000000→(∀w∈ws,0≤w∧w≤1000000000000)→(∀p r,IsSimp tl' bl' th' bh' p r→IsSimp tl bl th bh (unw ws (p,r)).1 (unw ws (p,r)).2)→SaI tl bl th bh st k ρ s
theorem Cq(I0:Iv tl bl th bh)(hB:bl+bh≤1000000)(q:∀P R,IsSimp tl bl th bh P R→Q (.v (nV P R)) st):CallK (R C4 T4 (n+8) (.v (.val (.ref 441))) [.v (nV tl bl),.v (nV th bh)] st) Q E:=by
 refine af rfl rfl ?_
 conv=>whnf
 refine v9 I0.l0 (.up (Int.le_of_lt I0.l0) I0.m2) ?_
 conv=>whnf
 refine e9 (SaI tl bl th bh st) (k₀:=(bl+bh).toNat) (Nat.lt_of_le_of_lt (Int.toNat_le.mpr hB) (by decide)) ⟨[],tl,bl,th,bh,rfl,rfl,rfl,I0,by simpa using hB,fun w hw=>(nomatch hw),fun p r h=>h⟩ fun k ρ s hI=>?_
 obtain⟨ws,tl',bl',th',bh',rfl,rfl,rfl,I,hlen,hws,hun⟩:=hI
 have St:Sm tl':=.up (Int.le_of_lt I.t0) I.m1
 have Sbl:Sm bl':=.up (Int.le_of_lt I.l0) I.m2
 have Sth:Sm th':=.up (Int.le_of_lt I.th0) I.m3
 have Sbh:Sm bh':=.up (Int.le_of_lt I.h0) I.m4
 have hlen':ws.length≤1000000:=Int.ofNat_le.mp (Int.le_trans (Int.le_trans (Int.le_add_of_nonneg_right (Int.le_of_lt I.l0)) (Int.le_add_of_nonneg_right (Int.le_of_lt I.h0))) hlen)
 have PR:∀p r,IsSimp tl bl th bh p r→p+r≤2000000000000:=fun p r S=>by
  obtain⟨a,b⟩:=S.least tl bl I0.t0 I0.l0 (Int.le_refl _) I0.le
  exact Int.le_trans (Int.add_le_add (Int.le_trans a I0.m1) (Int.le_trans b I0.m2)) (by decide)
 conv=>whnf
 refine Id (fun hb=>?_) (fun hb=>?_)
 ·have S:=hun tl' 1 (hb.2▸ym I.t0 I.h0 (by have:=I.le;rw[←hb.2,Int.mul_one]at this;exact this))
  conv=>whnf
  refine Id (fun o_=>?_) (fun z=>absurd hb z)
  have q:=q _ _ S
  have pr:=PR _ _ S
  rw[←hb.2]
  conv=>whnf
  exact Cp I.t0 (by decide) hws hlen' rfl pr q
 ·conv=>whnf
  refine v9 I.h0 Sbh ?_
  conv=>whnf
  refine bt (fun hw=>?_) (fun hw=>?_)
  ·obtain⟨I',w0,wm,l1,l2,l3,l4,l5,l6⟩:=I.next rfl hw hb
   generalize hwg:tl'/bl'=w at*
   have Sw:Sm w:=.up w0 wm
   conv=>whnf
   refine D7 (decide_eq_true (by rw[List.length_map];exact Nat.le_trans hlen' (by decide))) ?_
   conv=>whnf
   refine Ie Sth Sbh Sw I.h0 ?_
   conv=>whnf
   refine sx I'.l0 ?_
   conv=>whnf
   refine Ie St Sbl Sw I.l0 ?_
   conv=>whnf
   refine sx I'.h0 ?_
   conv=>whnf
   refine v9 I'.l0 (.up (Int.le_of_lt I'.l0) I'.m2) ?_
   conv=>whnf
   refine⟨(th'-w*bh'+(tl'-w*bl')).toNat,L6 l5 l6 I.h0 I.l0,ws++[w],bh',th'-w*bh',bl',tl'-w*bl',rfl,rfl,by rw[List.map_append];rfl,I',?_,fun x hx=>?_,fun p r S=>?_⟩
   ·rw[List.length_append,List.length_singleton]
    exact Na l5 l6 hlen
   ·rcases List.mem_append.mp hx with hx|hx
    ·exact hws x hx
    ·rw[List.mem_singleton.mp hx];exact⟨w0,wm⟩
   ·rw[yn]
    exact hun _ _ (uk I.t0 I.l0 I.h0 w0 l1 l2 l3 l4 S)
  ·have S0:=I.exit hb hw
   have S:=hun _ 1 S0
   have q:=q _ _ S
   conv=>whnf
   refine Id (fun z=>absurd z hb) (fun o_=>?_)
   conv=>whnf
   rw[←nV1]
   exact Cp S0.p0 (by decide) hws hlen' rfl (PR _ _ S) q
end
theorem Num.st{t b:Int}(N:Num t b):Sm t:=Lo.sm ⟨Int.le_trans (by decide) N.lo,Int.le_trans N.hi (by decide)⟩
theorem Num.sb{t b:Int}(N:Num t b):Sm b:=.up (Int.le_of_lt N.b0) (Int.le_trans N.bm (by decide))
section
variable {n:Nat} {tl th:Int} {bl bh:Nat} {st:Sto} {E:KV} {Q:KD}
theorem Qh(N:Num tl bl)(M:Num th bh)(hle:tl*bh≤th*bl)(q:∀P R,Res tl bl th bh P R→Q (.v (nV P R)) st):CallK (R C4 T4 (n+10) (.v (.val (.ref 448))) [.v (nV tl bl),.v (nV th bh)] st) Q E:=by
 refine af rfl rfl ?_
 conv=>whnf
 refine Ch N.st N.sb M.st M.sb ?_
 conv=>whnf
 refine aj (fun h=>?_) (fun o_=>?_)
 ·exfalso
  have h:0<(tl*bh-th*bl).sign:=h
  exact Int.not_lt.mpr hle (Int.lt_of_sub_pos (Int.sign_pos_iff.mp h))
 conv=>whnf
 refine vh ?_
 conv=>whnf
 refine aj (fun h=>?_) (fun h=>?_)
 ·have h:0<tl:=Int.sign_pos_iff.mp h
  conv=>whnf
  refine Cq (N.iv M h hle) (Int.add_le_add N.bm M.bm) fun P R S=>?_
  conv=>whnf
  exact aa (q P R (.inl ⟨h,S⟩))
 have h:¬0<tl:=fun z=>h (Int.sign_pos_iff.mpr z)
 conv=>whnf
 refine vh ?_
 conv=>whnf
 refine aj (fun h2=>?_) (fun h2=>?_)
 ·have h2:th<0:=Int.sign_neg_iff.mp h2
  conv=>whnf
  refine x7 ?_
  conv=>whnf
  refine x7 ?_
  conv=>whnf
  refine Cq (M.neg.iv N.neg (by exact Int.neg_pos_of_neg h2) (by rw[Int.neg_mul,Int.neg_mul];exact Int.neg_le_neg hle)) (Int.add_le_add M.bm N.bm) fun P R S=>?_
  conv=>whnf
  refine x7 ?_
  conv=>whnf
  exact aa (q (-P) R (.inr (.inl ⟨by exact Int.not_lt.mp h,h2,by rw[Int.neg_neg];exact S⟩)))
 ·have h2:¬th<0:=fun z=>h2 (Int.sign_neg_iff.mpr z)
  conv=>whnf
  exact aa (q 0 1 (.inr (.inr ⟨by exact Int.not_lt.mp h,by exact Int.not_lt.mp h2,rfl,rfl⟩)))
end
theorem oz{p:Nat}{v:V}{t:Tr}(hp:0<p)(hp':p≤6)(h:NbT 8 p v t):t.a.natAbs<2^14∧0<t.b∧t.b≤256:=by
 refine⟨ac (Nb.lt hp h).1 (Nat.le_trans (Nat.add_le_add_right hp' 8) (by decide)),Nb.b0 h,?_⟩
 obtain⟨k,a,b⟩:=t
 have h:Nb 8 p v a b k:=h
 show b≤256
 cases h with
 |ex h1 h2 h3 h4=>exact Nat.le_of_lt h3
 |re hr=>
  show 2^_≤2^8
  refine Nat.pow_le_pow_right (by decide) (Nat.le_trans Ak ?_)
  rw[Int.natAbs_neg];exact hr.el
theorem yq{tl bl th bh P R:Int}(S:IsSimp tl bl th bh P R):Int.gcd P R=1:=by
 have g0:0<Int.gcd P R:=Int.gcd_pos_of_ne_zero_left _ (Int.ne_of_gt S.p0)
 obtain⟨x,hx⟩:((Int.gcd P R:Nat):Int) ∣ P:=Int.gcd_dvd_left ..
 obtain⟨y,hy⟩:((Int.gcd P R:Nat):Int) ∣ R:=Int.gcd_dvd_right ..
 generalize hg:Int.gcd P R=g at*
 have g0':(0:Int)<g:=Int.natCast_pos.mpr g0
 have p0:=S.p0
 have q0:=S.q0
 have x0:0<x:=i5 g0' (by rw[Int.mul_comm,←hx];exact p0)
 have y0:0<y:=i5 g0' (by rw[Int.mul_comm,←hy];exact q0)
 have l:=S.low
 have h:=S.high
 have l':tl*y≤x*bl:=by
  refine Int.le_of_mul_le_mul_left (a:=(g:Int)) ?_ g0'
  rw[hx,hy]at l
  have e1:(g:Int)*(tl*y)=tl*(g*y):=Int.mul_left_comm ..
  have e2:(g:Int)*(x*bl)=g*x*bl:=(Int.mul_assoc ..).symm
  rw[e1,e2];exact l
 have h':x*bh≤th*y:=by
  refine Int.le_of_mul_le_mul_left (a:=(g:Int)) ?_ g0'
  rw[hx,hy]at h
  have e1:(g:Int)*(th*y)=th*(g*y):=Int.mul_left_comm ..
  have e2:(g:Int)*(x*bh)=g*x*bh:=(Int.mul_assoc ..).symm
  rw[e1,e2];exact h
 have le:=(S.least x y x0 y0 l' h').1
 rw[hx]at le
 have:(g:Int)*x≤1*x:=by rw[Int.one_mul];exact le
 have:=Int.le_of_mul_le_mul_right this x0
 lia
theorem Lu{tl bl th bh P R:Int}(S:Res tl bl th bh P R):Int.gcd P R=1:=by
 rcases S with⟨_,S⟩|⟨_,_,S⟩|⟨_,_,rfl,rfl⟩
 ·exact yq S
 ·have:=yq S
  rwa [Int.neg_gcd]at this
 ·rfl
theorem M5{P R:Int}(h:0<P)(h':0<R)(a:P≤1000000000000)(b:R≤500000):P.natAbs<2^40∧0<R∧R<2^40:=
 ⟨Nat.lt_of_le_of_lt (px (k:=1000000000000) (Int.le_trans (by decide) (Int.le_of_lt h)) a) (by decide),h',Int.lt_of_le_of_lt b (by decide)⟩
theorem Ig{tl bl th bh P R:Int}(N:Num tl bl)(M:Num th bh)(hle:tl*bh≤th*bl)(S:Res tl bl th bh P R):P.natAbs<2^40∧0<R∧R<2^40:=by
 have n1:=N.hi;have n2:=N.lo;have n3:=N.bm;have n4:=N.b0
 have m1:=M.hi;have m2:=M.lo;have m3:=M.bm;have m4:=M.b0
 rcases S with⟨h,S⟩|⟨h,h2,S⟩|⟨_,_,rfl,rfl⟩
 ·obtain⟨a,b⟩:=S.least tl bl h n4 (Int.le_refl _) hle
  exact M5 S.p0 S.q0 (Int.le_trans a n1) (Int.le_trans b n3)
 ·obtain⟨a,b⟩:=S.least (-th) bh (by exact Int.neg_pos_of_neg h2) m4 (Int.le_refl _) (by rw[Int.neg_mul,Int.neg_mul];exact Int.neg_le_neg hle)
  have:=M5 S.p0 S.q0 (Int.le_trans a (Int.neg_le_of_neg_le m2)) (Int.le_trans b m3)
  rwa [Int.natAbs_neg]at this
 ·decide
noncomputable def Sol(t t':Tr)(P R:Int):Prop:=∃tl th bl bh:Int,0<bl∧0<bh∧tl*bh≤th*bl∧tl*((t.b:Int)*t'.b)=(t.a*t'.b-t'.a.natAbs*t.b)*bl∧th*((t.b:Int)*t'.b)=(t.a*t'.b+t'.a.natAbs*t.b)*bh∧Res tl bl th bh P R∧R≤500000
structure Pre (t t':Tr) (T1 D1 T2 D2:Int):Prop where
 n1:Num T1 D1
 n2:Num T2 D2
 le:T1*D2≤T2*D1
 v1:T1*((t.b:Int)*t'.b)=(t.a*t'.b-t'.a.natAbs*t.b)*D1
 v2:T2*((t.b:Int)*t'.b)=(t.a*t'.b+t'.a.natAbs*t.b)*D2
theorem Pre.sol{t t':Tr}{T1 D1 T2 D2 P R:Int}(h:Pre t t' T1 D1 T2 D2)(S:Res T1 D1 T2 D2 P R):Sol t t' P R:=
 ⟨_,_,_,_,h.n1.b0,h.n2.b0,h.le,h.v1,h.v2,S,Int.le_trans (Cn h.n1.b0 h.n2.b0 h.le S).rl h.n1.bm⟩
theorem Ih{L U T D:Int}(hU:0<U)(hu:U≤65536)(hl:L.natAbs<2^24)(h:Lw L U T D):Num T D:=by
 obtain⟨h1,h2⟩:=h.le hU
 have d0:=h.d0
 have t1:T.natAbs≤2^24:=Nat.le_trans h1 (Nat.le_of_lt hl)
 exact⟨h.d0,h.g,Int.le_trans (by decide) (Lz t1),Int.le_trans (wc t1) (by decide),Int.le_trans (wc h2) (Int.le_trans (Int.le_trans (Int.le_of_eq (Int.natAbs_of_nonneg (Int.le_of_lt hU))) hu) (by decide))⟩
theorem Ii{L H U T D T' D':Int}(hU:0<U)(hD:0<D)(hD':0<D')(h:L≤H)(e:T*U=L*D)(e':T'*U=H*D'):T*D'≤T'*D:=by
 refine Int.le_of_mul_le_mul_right (a:=U) ?_ hU
 have e1:T*D'*U=L*(D*D'):=by rw[Int.mul_right_comm,e,Int.mul_assoc]
 have e2:T'*D*U=H*(D*D'):=by rw[Int.mul_right_comm,e',Int.mul_assoc,Int.mul_comm D' D]
 rw[e1,e2]
 exact Int.mul_le_mul_of_nonneg_right h (Int.le_of_lt (Int.mul_pos hD hD'))
section
variable {n N M p:Nat} {f g t t':Tr} {v v' w:V} {st:Sto} {E:KV} {Q:KD} {s:Str}
theorem Ij(hp:0<p)(hp':p≤6)(h:NbT 8 p v t)(h':NbT 8 p v' t'):Pre t t' (exT t.a t.b (-(t'.a.natAbs:Int)) t'.b/exS t.a t.b (-(t'.a.natAbs:Int)) t'.b) (t.b/exG t.b t'.b*(t'.b/exS t.a t.b (-(t'.a.natAbs:Int)) t'.b)) (exT t.a t.b (t'.a.natAbs:Int) t'.b/exS t.a t.b (t'.a.natAbs:Int) t'.b) (t.b/exG t.b t'.b*(t'.b/exS t.a t.b (t'.a.natAbs:Int) t'.b)):=by
 obtain⟨s1,s2,s3⟩:=oz hp hp' h
 obtain⟨r1,r2,r3⟩:=oz hp hp' h'
 have b1:(0:Int)<t.b:=Int.natCast_pos.mpr s2
 have b2:(0:Int)<t'.b:=Int.natCast_pos.mpr r2
 have U0:(0:Int)<(t.b:Int)*t'.b:=Int.mul_pos b1 b2
 have U1:(t.b:Int)*t'.b≤65536:=Int.ofNat_le.mpr (Nat.mul_le_mul s3 r3)
 have k1:(t.a*t'.b).natAbs<2^23:=by
  rw[Int.natAbs_mul]
  exact ch (k:=14) (l:=9) s1 (Nat.lt_of_le_of_lt r3 (by decide))
 have k2:((t'.a.natAbs:Int)*t.b).natAbs<2^23:=by
  rw[Int.natAbs_mul]
  exact ch (k:=14) (l:=9) r1 (Nat.lt_of_le_of_lt s3 (by decide))
 have g2:Int.gcd t'.a t'.b=1:=Nb.cop h'
 have G2:Int.gcd (t'.a.natAbs:Int) t'.b=1:=g2
 have lo:=vn (t:=t.a) (b:=t.b) (u:= -(t'.a.natAbs:Int)) (c:=t'.b) b1 b2 (Nb.cop h) (by rw[Int.neg_gcd];exact G2)
 have hi:=vn (t:=t.a) (b:=t.b) (u:=(t'.a.natAbs:Int)) (c:=t'.b) b1 b2 (Nb.cop h) G2
 rw[Int.neg_mul,←Int.sub_eq_add_neg]at lo
 have N1:=Ih U0 U1 (nS k1 k2 (by decide)) lo
 have N2:=Ih U0 U1 (by exact vw k1 k2) hi
 exact⟨N1,N2,Ii U0 N1.b0 N2.b0 (by have:0≤(t'.a.natAbs:Int)*t.b:=Int.mul_nonneg (Int.natCast_nonneg _) (Int.natCast_nonneg _);exact Int.le_trans (Int.sub_le_self _ this) (Int.le_add_of_nonneg_right this)) lo.v hi.v,lo.v,hi.v⟩
theorem Qi(hp:0<p)(hp':p≤6)(h:NbT 8 p v t)(h':NbT 8 p v' t'):∃(P:Int) (R:Nat),Sol t t' P R∧P.natAbs<2^40∧0<R∧R<2^40:=by
 have k:=Ij hp hp' h h'
 obtain⟨P,R,S⟩:=As k.n1 k.n2 k.le
 obtain⟨z1,z2,z3⟩:=Ig k.n1 k.n2 k.le S
 obtain⟨R,rfl⟩:=Int.eq_ofNat_of_zero_le (Int.le_of_lt z2)
 exact⟨P,R,k.sol S,z1,Int.natCast_pos.mp z2,Int.ofNat_lt.mp z3⟩
theorem Tf(hp:0<p)(hp':p≤6)(h:NbT 8 p v t)(h':NbT 8 p v' t')(q0:∀(P:Int) (R:Nat),Sol t t' P R→cy [t,t']=false→Nb 40 p (nV P R) P R false→Q (.v (nV P R)) st)
 (q1:∀(P:Int) (R:Nat),Sol t t' P R→cy [t,t']=true→Nb 40 p (nV P R) P R false→∀m e,Rd p P R (rV m e)→Re (40+p) p m e→Q (.v (rV m e)) st):
 CallK (R C4 T4 (n+11) (.v (.val (.ref 805))) [.v (tw p),.v v,.v v'] st) Q E:=by
 obtain⟨s1,s2,s3⟩:=oz hp hp' h
 obtain⟨r1,r2,r3⟩:=oz hp hp' h'
 have sm:∀{x:Int},x.natAbs<2^14→Sm x:=fun h=>ac h (by decide)
 have sb:∀{x:Nat},x≤256→Sm (x:Int):=fun h=>ac (k:=9) (Nat.lt_of_le_of_lt h (by decide)) (by decide)
 have k:=Ij hp hp' h h'
 obtain⟨D1,e1⟩:=Int.eq_ofNat_of_zero_le (Int.le_of_lt k.n1.b0)
 obtain⟨D2,e2⟩:=Int.eq_ofNat_of_zero_le (Int.le_of_lt k.n2.b0)
 refine af rfl rfl ?_
 conv=>whnf
 refine kj hp hp' (by decide) h ?_
 conv=>whnf
 refine kj hp hp' (by decide) h' ?_
 conv=>whnf
 refine Hi ?_
 conv=>whnf
 refine Gu (sm s1) (sb s3) (sm (x:=(t'.a.natAbs:Int)) r1) (sb r3) (Int.natCast_pos.mpr s2) (Int.natCast_pos.mpr r2) ?_
 conv=>whnf
 refine Bw (sm s1) (sb s3) (sm (x:=(t'.a.natAbs:Int)) r1) (sb r3) (Int.natCast_pos.mpr s2) (Int.natCast_pos.mpr r2) ?_
 rw[e1]at k ⊢
 rw[e2]at k ⊢
 generalize exT t.a t.b (-(t'.a.natAbs:Int)) t'.b/exS t.a t.b (-(t'.a.natAbs:Int)) t'.b=T1 at k ⊢
 generalize exT t.a t.b (t'.a.natAbs:Int) t'.b/exS t.a t.b (t'.a.natAbs:Int) t'.b=T2 at k ⊢
 clear e1 e2
 conv=>whnf
 refine Qh k.n1 k.n2 k.le fun P R S=>?_
 have S':Sol t t' P R:=k.sol S
 obtain⟨z1,z2,z3⟩:=Ig k.n1 k.n2 k.le S
 have gg:=Lu S
 obtain⟨R,rfl⟩:=Int.eq_ofNat_of_zero_le (Int.le_of_lt z2)
 have nb:Nb 40 p (nV P R) P R false:=.ex z1 (Int.natCast_pos.mp z2) (Int.ofNat_lt.mp z3) gg
 clear k S gg z1 z2 z3
 conv=>whnf
 refine sq hp hp' (by decide) (.cons h (.cons h' .nil)) nb (fun k=>?_) fun k m e r re=>?_
 ·conv=>whnf
  exact aa (q0 P R S' k nb)
 ·conv=>whnf
  exact aa (q1 P R S' k nb m e r re)
end
structure Sc (C F:Int→Int) (P R:Int):Prop where
 r1:1≤R
 hit:∀k,1≤k→k≤R→(C k≤F k↔k=R)
 mid:C R≤0→0≤F R→P=0∧R=1
 up:¬(C R≤0∧0≤F R)→0<C R→P=C R
 down:¬(C R≤0∧0≤F R)→¬0<C R→P=F R
theorem Sc.unique{C F:Int→Int}{P R P' R':Int}(h:Sc C F P R)(h':Sc C F P' R'):P=P'∧R=R':=by
 have e:R=R':=by
  rcases Int.le_total R R' with z|z
  ·exact(h'.hit R h.r1 z).mp ((h.hit R h.r1 (Int.le_refl _)).mpr rfl)
  ·exact((h.hit R' h'.r1 z).mp ((h'.hit R' h'.r1 (Int.le_refl _)).mpr rfl)).symm
 subst e
 refine⟨?_,rfl⟩
 by_cases z:C R≤0∧0≤F R
 ·rw[(h.mid z.1 z.2).1,(h'.mid z.1 z.2).1]
 ·by_cases y:0<C R
  ·rw[h.up z y,h'.up z y]
  ·rw[h.down z y,h'.down z y]
theorem Lv{a b:Int}(h:∀x,a≤x↔b≤x):a=b:=Int.le_antisymm ((h b).mpr (Int.le_refl _)) ((h a).mp (Int.le_refl _))
theorem Ik{a b:Int}(h:∀x,x≤a↔x≤b):a=b:=Int.le_antisymm ((h a).mp (Int.le_refl _)) ((h b).mpr (Int.le_refl _))
theorem M6{T D L U k x:Int}(hD:0<D)(hU:0<U)(e:T*U=L*D):T*k≤x*D↔L*k≤x*U:=by
 have e1:T*k*U=L*k*D:=by rw[Int.mul_right_comm,e,Int.mul_right_comm]
 have e2:x*D*U=x*U*D:=Int.mul_right_comm ..
 constructor
 ·intro h
  refine Int.le_of_mul_le_mul_right (a:=D) ?_ hD
  rw[←e1,←e2]
  exact Int.mul_le_mul_of_nonneg_right h (Int.le_of_lt hU)
 ·intro h
  refine Int.le_of_mul_le_mul_right (a:=U) ?_ hU
  rw[e1,e2]
  exact Int.mul_le_mul_of_nonneg_right h (Int.le_of_lt hD)
theorem Tg{T D L U k x:Int}(hD:0<D)(hU:0<U)(e:T*U=L*D):x*D≤T*k↔x*U≤L*k:=by
 have h:=M6 (k:= -k) (x:= -x) hD hU e
 rw[Int.mul_neg,Int.neg_mul,Int.mul_neg,Int.neg_mul,Int.neg_le_neg_iff,Int.neg_le_neg_iff]at h
 exact h
theorem Th{T D L U k:Int}(hD:0<D)(hU:0<U)(e:T*U=L*D):fC T D k=fC L U k:=Lv fun x=>by rw[mz hD,mz hU];exact M6 hD hU e
theorem Ti{T D L U k:Int}(hD:0<D)(hU:0<U)(e:T*U=L*D):fF T D k=fF L U k:=Ik fun x=>by rw[m7 hD,m7 hU];exact Tg hD hU e
noncomputable def lfT(t t':Tr):Int:=t.a*t'.b-t'.a.natAbs*t.b
noncomputable def rgT(t t':Tr):Int:=t.a*t'.b+t'.a.natAbs*t.b
theorem Sol.sc{t t':Tr}{P R:Int}(hU:0<(t.b:Int)*t'.b)(h:Sol t t' P R):Sc (fC (lfT t t') ((t.b:Int)*t'.b)) (fF (rgT t t') ((t.b:Int)*t'.b)) P R∧R≤500000:=by
 obtain⟨tl,th,bl,bh,h1,h2,h3,h4,h5,S,hr⟩:=h
 have X:=Cn h1 h2 h3 S
 have eC:fC tl bl=fC (lfT t t') ((t.b:Int)*t'.b):=funext fun k=>Th h1 hU h4
 have eF:fF th bh=fF (rgT t t') ((t.b:Int)*t'.b):=funext fun k=>Ti h2 hU h5
 rw[←eC,←eF]
 exact⟨⟨X.r1,X.hit,X.mid,X.up,X.down⟩,hr⟩
section
variable {n N M p:Nat} {f g t t':Tr} {v v' w:V} {st:Sto} {E:KV} {Q:KD} {s:Str}
noncomputable def siE(p:Nat)(v v':V)(t t':Tr)(k lo hi:Int):En:=[(Str.ofString "tower",.v (tw p)),(Str.ofString "number",.v v),(Str.ofString "width",.v v'),(Str.ofString "one",.v (shV t)),(Str.ofString "other",.v (shV t')),(Str.ofString "left",.v (.int (lfT t t'))),(Str.ofString "right",.v (.int (rgT t t'))),(Str.ofString "under",.v (.int ((t.b:Int)*t'.b))),(Str.ofString "bottom",.v (.int k)),(Str.ofString "low",.v (.int lo)),(Str.ofString "high",.v (.int hi))]
theorem Il{F:Nat}{P R b lo hi:Int}{x:V}(hp:0<p)(hp':p≤6)(h:NbT 8 p v t)(h':NbT 8 p v' t')(S:Sol t t' P R)(hx:x=(if cy [t,t']=true then x else shT false P R))
 (hx':cy [t,t']=true→∃m e,Rd p P R.toNat (rV m e)∧x=shT true (frT m e) (frB e)) (q:Q (.v (.bool true)) st):
 go C4 T4 (n+11) (JT C4 T4 (n+11)) (fi 91).sc (bz st.length Q) (F+400) [.sts 64 ((fi 91).body.drop 5)] [] (siE p v v' t t' b lo hi++[(Str.ofString "found",.v x)]) st E:=by
 obtain⟨s1,s2,s3⟩:=oz hp hp' h
 obtain⟨r1,r2,r3⟩:=oz hp hp' h'
 have U0:(0:Int)<(t.b:Int)*t'.b:=Int.mul_pos (Int.natCast_pos.mpr s2) (Int.natCast_pos.mpr r2)
 conv=>whnf
 refine Tf hp hp' h h' (fun P' R' S' k nb=>?_) fun P' R' S' k nb m e r re=>?_
 ·obtain⟨rfl,rfl⟩:=(S.sc U0).1.unique (S'.sc U0).1
  conv=>whnf
  refine ay hp hp' (by decide) nb ?_
  rw[k,if_neg (by decide)]at hx
  rw[hx]
  conv=>whnf
  refine⟨true,(fc n6 (by decide) rfl rfl).1,?_⟩
  conv=>whnf
  exact aa q
 ·obtain⟨rfl,rfl⟩:=(S.sc U0).1.unique (S'.sc U0).1
  obtain⟨m',e',r',rfl⟩:=hx' k
  obtain⟨rfl,rfl⟩:=cw (Rd.unique hp (Nb.b0 nb) r r')
  conv=>whnf
  refine ay hp hp' (Nat.le_trans (Nat.add_le_add_left hp' 40) (by decide)) (Nb.re re) ?_
  conv=>whnf
  refine⟨true,(fc n6 (by decide) rfl rfl).1,?_⟩
  conv=>whnf
  exact aa q
theorem Qj{F:Nat}{P b lo hi:Int}{R:Nat}(hp:0<p)(hp':p≤6)(h:NbT 8 p v t)(h':NbT 8 p v' t')(S:Sol t t' P R)(hR:0<R)(sP:P.natAbs<2^40)(sR:R<2^40)(q:Q (.v (.bool true)) st):
 go C4 T4 (n+11) (JT C4 T4 (n+11)) (fi 91).sc (bz st.length Q) (F+800) [.sts 64 ((fi 91).body.drop 4)] [] (siE p v v' t t' b lo hi++[(Str.ofString "found",.v (shT false P R))]) st E:=by
 have fin:∀F,cy [t,t']=true→∀m e,Rd p P R (rV m e)→go C4 T4 (n+11) (JT C4 T4 (n+11)) (fi 91).sc (bz st.length Q) (F+400) [.sts 64 ((fi 91).body.drop 5)] [] (siE p v v' t t' b lo hi++[(Str.ofString "found",.v (shT true (frT m e) (frB e)))]) st E:=fun F k m e r=>
  Il hp hp' h h' S (by rw[if_pos k]) (fun o_=>⟨m,e,r,rfl⟩) q
 obtain⟨tk,ta,tb⟩:=t
 obtain⟨tk',ta',tb'⟩:=t'
 cases tk with
 |true=>
  conv=>whnf
  refine de hp hp' hR (ac sP (by decide)) (ac sR (by decide)) fun m e r=>?_
  conv=>whnf
  exact fin _ rfl m e r
 |false=>
  cases tk' with
  |true=>
   conv=>whnf
   refine de hp hp' hR (ac sP (by decide)) (ac sR (by decide)) fun m e r=>?_
   conv=>whnf
   exact fin _ rfl m e r
  |false=>
   conv=>whnf
   exact Il hp hp' h h' S rfl (fun k=>nomatch k) q
inductive SiI (p:Nat) (v v':V) (t t':Tr) (R:Int) (st:Sto) (k:Nat) (ρ:En) (s:Sto):Prop
 |mk:st=s→∀b lo hi:Int,0≤b→b≤R→k=(R-b).toNat→((b=0∧lo=1∧hi=0)∨(1≤b∧lo=fC (lfT t t') ((t.b:Int)*t'.b) b∧hi=fF (rgT t t') ((t.b:Int)*t'.b) b))→ρ=siE p v v' t t' b lo hi→SiI p v v' t t' R st k ρ s
theorem Ly(hp:0<p)(hp':p≤6)(h:NbT 8 p v t)(h':NbT 8 p v' t')(q:Q (.v (.bool true)) st):CallK (R C4 T4 (n+13) (.v (.val (.ref 918))) [.v (tw p),.v v,.v v',.v (shV t),.v (shV t')] st) Q E:=by
 obtain⟨s1,s2,s3⟩:=oz hp hp' h
 obtain⟨r1,r2,r3⟩:=oz hp hp' h'
 have sm:∀{x:Int},x.natAbs<2^14→Sm x:=fun h=>ac h (by decide)
 have sb:∀{x:Nat},x≤256→Sm (x:Int):=fun h=>ac (k:=9) (Nat.lt_of_le_of_lt h (by decide)) (by decide)
 have U0:(0:Int)<(t.b:Int)*t'.b:=Int.mul_pos (Int.natCast_pos.mpr s2) (Int.natCast_pos.mpr r2)
 have k1:(t.a*t'.b).natAbs<2^23:=by
  rw[Int.natAbs_mul]
  exact ch (k:=14) (l:=9) s1 (Nat.lt_of_le_of_lt r3 (by decide))
 have k2:((t'.a.natAbs:Int)*t.b).natAbs<2^23:=by
  rw[Int.natAbs_mul]
  exact ch (k:=14) (l:=9) r1 (Nat.lt_of_le_of_lt s3 (by decide))
 obtain⟨P,R,S,sP,R0,sR⟩:=Qi hp hp' h h'
 obtain⟨X,hR⟩:=S.sc U0
 have r1':=X.r1
 have sL:Sm (lfT t t'):=by
  have:(lfT t t').natAbs<2^24:=nS k1 k2 (by decide)
  exact ac this (by decide)
 have sG:Sm (rgT t t'):=by
  have:(rgT t t').natAbs<2^24:=by unfold rgT;exact vw k1 k2
  exact ac this (by decide)
 have sU:Sm ((t.b:Int)*t'.b):=by
  have:((t.b:Int)*t'.b).natAbs<2^18:=by
   rw[Int.natAbs_mul]
   exact ch (k:=9) (l:=9) (Nat.lt_of_le_of_lt s3 (by decide)) (Nat.lt_of_le_of_lt r3 (by decide))
  exact ac this (by decide)
 refine af rfl rfl ?_
 ((conv=>whnf);repeat'((with_reducible apply ae);(conv=>whnf)))
 ·rw[df]
  refine e9 (SiI p v v' t t' R st) (k₀:=R) (by unfold LIM;lia) ⟨rfl,0,1,0,Int.le_refl _,by exact Int.natCast_nonneg R,by exact Eq.symm (PyProof.Rows.lenZ R),.inl ⟨rfl,rfl,rfl⟩,rfl⟩ fun k ρ s hI=>?_
  obtain⟨rfl,b,lo,hi,b0,bR,rfl,hb,rfl⟩:=hI
  conv=>whnf
  refine aj (fun z=>?_) (fun z=>?_)
  ·have bR':b+1≤R:=by
    rcases hb with⟨rfl,_,_⟩|⟨b1,rfl,rfl⟩
    ·exact r1'
    ·have:b≠(R:Int):=fun e=>absurd ((X.hit b b1 bR).mpr e) (Int.not_le.mpr z)
     lia
   have sb1:Sm (b+1):=ac (k:=40) (Nat.lt_of_le_of_lt (n:=(b+1).natAbs) (m:=500000) (px (Int.le_trans (by decide) (Int.le_add_one b0)) (Int.le_trans bR' hR)) (by decide)) (by decide)
   clear hb
   ((conv=>whnf);repeat'((with_reducible apply ae);(conv=>whnf)))
   ·exact⟨_,M9 (Int.lt_add_one_of_le (Int.le_refl b)) bR',rfl,b+1,_,_,by exact Int.le_add_one b0,bR',rfl,.inr ⟨by exact Int.le_add_of_nonneg_left b0,rfl,rfl⟩,rfl⟩
   all_goals first|exact am sL sb1|exact am sG sb1|exact ed (Int.ne_of_gt U0) sU
  ·rcases hb with⟨rfl,rfl,rfl⟩|⟨b1,rfl,rfl⟩
   ·exact absurd (by decide) z
   obtain rfl:b=(R:Int):=(X.hit b b1 bR).mp (Int.not_lt.mp z)
   have fin:∀F x,x=V.tup [.bool true,.int P,.int (R:Int)]→go C4 T4 (n+11) (JT C4 T4 (n+11)) (fi 91).sc (bz st.length Q) (F+800) [.sts 64 ((fi 91).body.drop 4)] [] (siE p v v' t t' R (fC (lfT t t') ((t.b:Int)*t'.b) R) (fF (rgT t t') ((t.b:Int)*t'.b) R)++[(Str.ofString "found",.v x)]) st E:=fun F x e=>by
    rw[e]
    exact Qj hp hp' h h' S R0 sP sR q
   have mid:=X.mid
   have up:=X.up
   have down:=X.down
   clear X hR b0 bR b1 z sm sb
   generalize fC (lfT t t') ((t.b:Int)*t'.b) R=lo at*
   generalize fF (rgT t t') ((t.b:Int)*t'.b) R=hi at*
   conv=>whnf
   refine aj (fun z1=>?_) (fun z1=>?_)
   ·conv=>whnf
    refine aj (fun z2=>?_) (fun z2=>?_)
    ·obtain⟨e1,e2⟩:=mid z1 z2
     conv=>whnf
     exact fin _ _ (by rw[e1,e2])
    ·have d:=down (fun z=>z2 z.2) (Int.not_lt.mpr z1)
     conv=>whnf
     refine aj (fun z=>absurd z (Int.not_lt.mpr z1)) fun o_=>?_
     conv=>whnf
     exact fin _ _ (by rw[d])
   ·have d:=up (fun z=>z1 z.1) (Int.not_le.mp z1)
    conv=>whnf
    refine aj (fun o_=>?_) fun z=>absurd (Int.not_le.mp z1) z
    conv=>whnf
    exact fin _ _ (by rw[d])
 all_goals first|exact am (sm s1) (sb r3)|exact am (sb s3) (sb r3)|(rw[df];exact am (sm (x:=(t'.a.natAbs:Int)) r1) (sb s3))
end
noncomputable def Gd(ds:List Int):Prop:=(∀x∈ds,0≤x)∧ds.length≤12
noncomputable abbrev sI(ds:List Int):Sto:=[ds.map V.int]
theorem at0{ds:List Int}:(sI ds)[0]? =some (ds.map V.int):=rfl
theorem o0:∀l:List Int,gx (l.map V.int)=true
 |[]=>rfl
 |_::r=>o0 r
theorem Qk{d:Int}{ds:List Int}:kt (.m 0) (.v (.int 0)) (sI (d::ds))=some (.int d):=by
 show f5 (.int d::ds.map V.int) 0=_
 unfold f5
 rw[if_pos ⟨by decide,by decide⟩,Am 0 (show 0<(_::_:List V).length from Nat.succ_pos _) rfl]
 rfl
section
variable {n:Nat} {st:Sto} {E:KV} {Q:KD}
theorem Ql{ns:List Int}(hn:ns.length≤63)(q:∀ds,Gd ds→Q (.m 0) (sI ds)):CallK (R C4 T4 (n+2) (.v (.val (.ref 817))) [.v (.lst (ns.map V.int))] []) Q E:=by
 refine af rfl rfl ?_
 conv=>whnf
 refine ae ?_ (decide_eq_true (by rw[List.length_map];lia))
 conv=>whnf
 refine ry (fun l ρ acc s=>s=[]∧(ρ=[]∨∃x,ρ=[(Str.ofString "cell",x)])∧∃ms ds:List Int,l=ms.map V.int∧acc=ds.map V.int∧(∀x∈ds,0≤x)∧ms.length+ds.length≤12) ⟨rfl,.inl rfl,ns.take 12,[],by rw[List.map_take];rfl,rfl,fun x h=>(nomatch h),?_⟩ (fun ρ acc s hI=>?_) fun x l ρ acc s hI=>?_
 ·rw[List.length_take];exact Nat.min_le_left ..
 ·obtain⟨rfl,_,ms,ds,_,rfl,hg,hz⟩:=hI
  conv=>whnf
  exact q ds ⟨hg,Nat.le_trans (Nat.le_add_left ..) hz⟩
 ·obtain⟨rfl,ho,ms,ds,e,rfl,hg,hz⟩:=hI
  cases ms with
  |nil=>exact nomatch e
  |cons m ms=>
  injection e with e1 e2
  subst e1 e2
  refine⟨[(Str.ofString "cell",.v (.int m))],?_,?_⟩
  ·rcases ho with rfl|⟨x,rfl⟩<;>rfl
  ((conv=>whnf);repeat'((with_reducible apply ae);(conv=>whnf)))
  ·generalize hm:(if m<0 then -m else m).fmod (10^Int.toNat 30)=r
   have r0:0≤r:=by rw[←hm];exact Int.fmod_nonneg_of_pos _ (Int.pow_pos (by decide))
   have hz:ms.length+1+ds.length≤12:=hz
   refine⟨decide_eq_true (by rw[List.length_map];lia),rfl,.inr ⟨_,rfl⟩,ms,ds++[r],rfl,by rw[List.map_append];rfl,fun y hy=>?_,by rw[List.length_append,List.length_singleton];lia⟩
   rcases List.mem_append.mp hy with hy|hy
   ·exact hg y hy
   ·rw[List.mem_singleton.mp hy];exact r0
  ·exact Int.ne_of_gt (Int.pow_pos (by decide))
  ·exact⟨by decide,by decide⟩
theorem lr{m:Int}{ds:List Int}(hd:Gd ds)(m0:0<m)(mm:m≤1000)(q:∀r ds',0≤r→r<m→Gd ds'→Q (.v (.int r)) (sI ds')):
 CallK (R C4 T4 (n+2) (.v (.val (.ref 824))) [.m 0,.v (.int m)] (sI ds)) Q E:=by
 refine af rfl rfl ?_
 conv=>whnf
 refine e9 (fun k ρ s=>ρ=[(Str.ofString "deck",.m 0),(Str.ofString "many",.v (.int m))]∧∃ds,s=sI ds∧Gd ds∧k=ds.length) (k₀:=ds.length) (Nat.lt_of_le_of_lt hd.2 (by decide)) ⟨rfl,ds,rfl,hd,rfl⟩ fun k ρ s hI=>?_
 obtain⟨rfl,ds,rfl,hg,rfl⟩:=hI
 conv=>whnf
 refine⟨_,neM at0,?_⟩
 cases ds with
 |nil=>
  conv=>whnf
  refine⟨_,eqM (l:=[]) rfl,?_⟩
  conv=>whnf
  exact q 0 [] (Int.le_refl _) m0 hg
 |cons d ds=>
  have hg':Gd ds:=⟨fun x h=>hg.1 x (.tail _ h),Nat.le_of_succ_le hg.2⟩
  have d0:=hg.1 d (.head _)
  conv=>whnf
  rw[Qk]
  conv=>whnf
  refine bt (fun z=>?_) (fun z=>?_)
  ·subst z
   conv=>whnf
   refine Lr at0 ?_
   conv=>whnf
   exact⟨_,Nat.lt_succ_self _,rfl,ds,rfl,hg',rfl⟩
  ·conv=>whnf
   refine⟨_,eqM at0,?_⟩
   conv=>whnf
   rw[Qk]
   conv=>whnf
   refine ae ?_ (Int.ne_of_gt m0)
   conv=>whnf
   rw[Qk]
   conv=>whnf
   refine ae ?_ (ed (Int.ne_of_gt m0) (ac (k:=10) (Nat.lt_of_le_of_lt (n:=m.natAbs) (m:=1000) (by lia) (by decide)) (by decide)))
   conv=>whnf
   refine⟨_,_,_,_,rfl,rfl,rfl,at0,⟨o0 _,by decide,by rw[List.length_map,List.length_cons];exact Int.ofNat_succ_pos ds.length,by decide⟩,?_⟩
   conv=>whnf
   refine q _ ((d.fdiv m)::ds) (Int.fmod_nonneg_of_pos _ m0) (Int.fmod_lt_of_pos _ m0) ⟨fun x hx=>?_,hg.2⟩
   rcases List.mem_cons.mp hx with rfl|hx
   ·rw[Int.fdiv_eq_ediv_of_nonneg _ (Int.le_of_lt m0)];exact Int.ediv_nonneg d0 (Int.le_of_lt m0)
   ·exact hg'.1 x hx
end
theorem Cr{a b:Nat}:((a/b:Nat):Int)=(a:Int)/(b:Int):=rfl
theorem Im{p:Nat}{t:Int}{b:Nat}(hb:0<b)(ht:t.natAbs<2^8)(hb':b<2^8):Nb 8 p (nV (t/Int.gcd t b) ((b/Int.gcd t b:Nat):Int)) (t/Int.gcd t b) (b/Int.gcd t b) false:=by
 have g0:0<Int.gcd t b:=Int.gcd_pos_of_ne_zero_right _ (Int.ofNat_ne_zero.mpr (Nat.ne_of_gt hb))
 have dv:Int.gcd t b ∣ b:=Int.ofNat_dvd.mp (Int.gcd_dvd_right ..)
 refine .ex (Nat.lt_of_le_of_lt (Int.natAbs_ediv_le_natAbs ..) ht) (Nat.div_pos (Nat.le_of_dvd hb dv) g0) (Nat.lt_of_le_of_lt (Nat.div_le_self ..) hb') ?_
 rw[Cr]
 exact Int.gcd_ediv_gcd_ediv_gcd_of_ne_zero_right (Int.ofNat_ne_zero.mpr (Nat.ne_of_gt hb))
section
variable {n p:Nat} {st:Sto} {E:KV} {Q:KD}
theorem yr{t:Int}{b:Nat}(hb:0<b)(ht:t.natAbs<2^8)(hb':b<2^8)(q:Q (.v (nV (t/Int.gcd t b) ((b/Int.gcd t b:Nat):Int))) st):CallK (R C4 T4 (n+3) (.v (.val (.ref 350))) [.v (.int t),.v (.int b)] st) Q E:=by
 have g0:0<Int.gcd t b:=Int.gcd_pos_of_ne_zero_right _ (Int.ofNat_ne_zero.mpr (Nat.ne_of_gt hb))
 have gl:Int.gcd t b≤b:=Nat.le_of_dvd hb (Int.ofNat_dvd.mp (Int.gcd_dvd_right ..))
 refine af rfl rfl ?_
 conv=>whnf
 ·refine om (ac ht (by decide)) (ac (x:=b) hb' (by decide)) ?_
  ((conv=>whnf);repeat'((with_reducible first|apply ae|apply li);(conv=>whnf)))
  ·rw[av,av,←Cr];exact aa q
  all_goals exact ed (Int.ofNat_ne_zero.mpr (Nat.ne_of_gt g0)) (ac (k:=8) (Nat.lt_of_le_of_lt gl hb') (by decide))
theorem Cs{m e:Int}(hp:0<p)(hp':p≤6)(hm:m.natAbs≤2^p)(h1: -6≤e)(h2:e≤2)(q:∀x y,Re 8 p x y→Q (.v (rV x y)) st):CallK (R C4 T4 (n+3) (.v (.val (.ref 147))) [.v (.int m),.v (.int e)] st) Q E:=by
 by_cases h0:m=0
 ·subst h0
  exact vm (q 0 0 ⟨.inr ⟨rfl,rfl⟩,p2 p,Nat.zero_le _⟩)
 ·obtain⟨m',z,ho,hz⟩:=r8 (Int.natAbs_pos.mpr h0)
  have m1:m'≤m.natAbs:=by rw[hz];exact Nat.le_mul_of_pos_right _ (p2 z)
  have zp:z≤p:=by
   refine(Nat.pow_le_pow_iff_right (by decide:1<2)).mp (Nat.le_trans ?_ hm)
   rw[hz];exact Nat.le_mul_of_pos_left _ (mn ho)
  have sz':=fw (x:=m) (k:=p+1) (Nat.lt_of_le_of_lt hm (Nat.pow_lt_pow_right (by decide) (Nat.lt_succ_self p)))
  refine vj ho hz (by lia) (q _ _ ⟨.inl ?_,?_,by lia⟩)
  ·rw[(si (w:=m') h0).1];exact ho
  ·rw[(si (w:=m') h0).1];exact Hg (Nat.le_trans m1 hm) ho (pw2 hp)
theorem Av{ds:List Int}(hp:0<p)(hp':p≤6)(hd:Gd ds)(q:∀v t ds',NbT 8 p v t→Gd ds'→Q (.v v) (sI ds')):CallK (R C4 T4 (n+5) (.v (.val (.ref 838))) [.m 0,.v (.int p)] (sI ds)) Q E:=by
 refine af rfl rfl ?_
 conv=>whnf
 refine lr hd (by decide) (by decide) fun kind ds1 k0 k1 hd1=>?_
 conv=>whnf
 refine aj (fun hk=>?_) (fun hk=>?_)
 ·conv=>whnf
  refine lr hd1 (by decide) (by decide) fun t ds2 t0 t1 hd2=>?_
  have t12:(t-12).natAbs≤12:=m12 (k:=25) (m:=12) t0 t1 (by decide)
  conv=>whnf
  refine bt (fun hk0=>?_) (fun hk0=>?_)
  ·conv=>whnf
   refine yr (b:=1) (by decide) (Nat.lt_of_le_of_lt (n:=(t-12).natAbs) (m:=12) t12 (by decide)) (by decide) ?_
   conv=>whnf
   exact q _ ⟨false,_,_⟩ ds2 (Im (t:=t-12) (b:=1) (by decide) (Nat.lt_of_le_of_lt (n:=(t-12).natAbs) (m:=12) t12 (by decide)) (by decide)) hd2
  ·conv=>whnf
   refine lr hd2 (by decide) (by decide) fun b ds3 b0 b1 hd3=>?_
   obtain⟨c,rfl⟩:=Int.eq_ofNat_of_zero_le b0
   have hc:c<6:=Int.ofNat_lt.mp b1
   conv=>whnf
   have e:(1:Int)+(c:Int)=((1+c:Nat):Int):=rfl
   rw[e]
   have tl:(t-12).natAbs<2^8:=Nat.lt_of_le_of_lt (n:=(t-12).natAbs) (m:=12) t12 (by decide)
   have cl:1+c<2^8:=Nat.lt_of_le_of_lt (n:=1+c) (m:=7) (Nat.add_le_add_left (Nat.le_of_lt hc) 1) (by decide)
   refine yr (b:=1+c) (Nat.add_pos_left (by decide) c) tl cl ?_
   conv=>whnf
   exact q _ ⟨false,_,_⟩ ds3 (Im (t:=t-12) (b:=1+c) (Nat.add_pos_left (by decide) c) tl cl) hd3
 ·have pn:(0:Int)≤p∧((Builtin.Int.intBits 2:Nat):Int)+p≤2^27:=⟨Int.natCast_nonneg p,by rw[show Builtin.Int.intBits 2=2 by decide];lia⟩
  have pn1:(0:Int)≤p∧((Builtin.Int.intBits 1:Nat):Int)+p≤2^27:=⟨Int.natCast_nonneg p,by rw[show Builtin.Int.intBits 1=1 by decide];lia⟩
  have P:(2:Int)^p≤64∧0<(2:Int)^p:=⟨by
   have:(2:Nat)^p≤2^6:=Nat.pow_le_pow_right (by decide) hp'
   exact_mod_cast this,Int.pow_pos (by decide)⟩
  have P':(((2:Nat)^p:Nat):Int)=(2:Int)^p:=Int.natCast_pow 2 p
  conv=>whnf
  refine ae ?_ pn
  conv=>whnf
  rw[Int.toNat_natCast]
  refine lr hd1 (by lia) (by lia) fun m ds2 m0 m1 hd2=>?_
  conv=>whnf
  refine ae ?_ pn1
  conv=>whnf
  rw[Int.toNat_natCast,Int.one_mul]
  have ml:(m-2^p).natAbs≤2^p:=by
   have:=m12 (x:=m) (k:=2*2^p) (m:=2^p) m0 (by simpa using m1) (by rw[Nat.two_mul];exact Nat.le_succ _)
   simpa using this
  refine bt (fun hk3=>?_) (fun hk3=>?_)
  ·conv=>whnf
   refine lr hd2 (by decide) (by decide) fun e ds3 e0 e1 hd3=>?_
   conv=>whnf
   refine Cs hp hp' ml (by exact Int.le_sub_right_of_add_le e0) (by lia) fun x y r=>?_
   conv=>whnf
   exact q _ ⟨true,_,_⟩ ds3 (Nb.re r) hd3
  ·conv=>whnf
   refine Cs hp hp' ml (by decide) (by decide) fun x y r=>?_
   conv=>whnf
   exact q _ ⟨true,_,_⟩ ds2 (Nb.re r) hd2
end
theorem Nl.snoc{N p:Nat}{l:List V}{r:List Tr}{v:V}{t:Tr}(h:Nl N p l r)(hv:NbT N p v t):Nl N p (l++[v]) (r++[t]):=by
 induction h with
 |nil=>exact .cons hv .nil
 |cons h1 _ ih=>exact .cons h1 ih
section
variable {p:Nat} {st:Sto} {E:KV} {Q:KD}
noncomputable def laE(ns:List Int)(p:Nat)(r:En):En:=(Str.ofString "script",.v (.lst (ns.map V.int)))::(Str.ofString "deck",.m 0)::(Str.ofString "tower",.v (tw p))::r
noncomputable def owN(ow:En):Prop:=ow=[]∨∃x y,ow=[(Str.ofString "number",x),(Str.ofString "own",y)]
theorem M7{ns ds:List Int}{vs:List V}{x:D}{ow:En}{F:Nat}(hp:0<p)(hp':p≤6)(hd:Gd ds)(ho:owN ow):
 go C4 T4 39 (JT C4 T4 39) (fi 92).sc (bz 0 fun d o_=>d=.v (.bool true)) (F+400) [.sts 64 ((fi 92).body.drop 7)] [] (laE ns p ((Str.ofString "some",.v (.lst vs))::(Str.ofString "shown",x)::ow)) (sI ds) NoE:=by
 conv=>whnf
 refine Av hp hp' hd fun v t ds h hd=>?_
 conv=>whnf
 refine Av hp hp' hd fun v' t' ds h' hd=>?_
 rcases ho with rfl|⟨y,z,rfl⟩
 all_goals
  conv=>whnf
  refine ay hp hp' (by decide) h ?_
  conv=>whnf
  refine ay hp hp' (by decide) h' ?_
  conv=>whnf
  refine Ly hp hp' h h' ?_
  conv=>whnf
inductive LzI (ns:List Int) (p:Nat) (vs:List V) (ts:List Tr) (ds:List Int) (l:List V) (ρ:En) (s:Sto):Prop
 |mk:s=sI ds→∀vs' r ow,l=sy vs' (r.map shV)→Nl 8 p vs' r→ρ=laE ns p ((Str.ofString "some",.v (.lst vs))::(Str.ofString "shown",.v (.lst (ts.map shV)))::ow)→owN ow→LzI ns p vs ts ds l ρ s
theorem Tj{ns ds:List Int}{vs:List V}{ts:List Tr}{F:Nat}(hp:0<p)(hp':p≤6)(hd:Gd ds)(hv:Nl 8 p vs ts)(hz:ts.length≤4):
 go C4 T4 39 (JT C4 T4 39) (fi 92).sc (bz 0 fun d o_=>d=.v (.bool true)) (F+1200) [.sts 64 ((fi 92).body.drop 4)] [] (laE ns p [(Str.ofString "some",.v (.lst vs)),(Str.ofString "shown",.v (.lst (ts.map shV)))]) (sI ds) NoE:=by
 conv=>whnf
 refine Hz hp hp' hv hz ?_
 conv=>whnf
 refine Ia hp hp' hv hz ?_
 conv=>whnf
 refine ja (LzI ns p vs ts ds) ⟨rfl,vs,ts,[],rfl,hv,rfl,.inl rfl⟩ (fun ρ s hI=>?_) fun x l ρ s hI=>?_
 ·obtain⟨rfl,vs',r,ow,_,_,rfl,ho⟩:=hI
  cases hv with
  |nil=>
   conv=>whnf
   refine⟨false,by kernel_rfl,?_⟩
   conv=>whnf
   exact M7 hp hp' hd ho
  |@cons v t vs ts h1 h2=>
   conv=>whnf
   refine⟨true,congrArg (Option.map not) (n7 _ _ _),?_⟩
   conv=>whnf
   refine Qe hp hp' h1 h2 (Nat.le_of_succ_le_succ hz) ?_
   conv=>whnf
   exact M7 hp hp' hd ho
 ·obtain⟨rfl,vs',r,ow,e,h,rfl,ho⟩:=hI
  cases h with
  |nil=>exact nomatch e
  |@cons v t vs' r h1 h2=>
  injection e with e1 e2
  subst e1 e2
  refine⟨laE ns p ((Str.ofString "some",.v (.lst vs))::(Str.ofString "shown",.v (.lst (ts.map shV)))::[(Str.ofString "number",.v v),(Str.ofString "own",.v (shV t))]),?_,?_⟩
  ·rcases ho with rfl|⟨y,z,rfl⟩<;>rfl
  conv=>whnf
  refine Ld hp hp' h1 ?_
  conv=>whnf
  exact⟨rfl,vs',r,_,rfl,h2,rfl,.inr ⟨_,_,rfl⟩⟩
theorem Tk{ns ds:List Int}{vs:List V}{ts:List Tr}{F:Nat}(hp:0<p)(hp':p≤6)(hd:Gd ds)(hv:Nl 8 p vs ts)(hz:ts.length≤4):
 go C4 T4 39 (JT C4 T4 39) (fi 92).sc (bz 0 fun d o_=>d=.v (.bool true)) (F+1600) [.sts 64 ((fi 92).body.drop 3)] [] (laE ns p [(Str.ofString "some",.v (.lst vs))]) (sI ds) NoE:=by
 conv=>whnf
 refine ry (fun l ρ acc s=>s=sI ds∧∃r,Nl 8 p l r∧acc++r.map shV=ts.map shV∧acc.length+r.length≤4∧(ρ=[]∨∃x,ρ=[(Str.ofString "number",x)])) ⟨rfl,ts,hv,rfl,by rw[List.length_nil,Nat.zero_add];exact hz,.inl rfl⟩ (fun ρ acc s hI=>?_) fun x l ρ acc s hI=>?_
 ·obtain⟨rfl,r,h,ha,_,_⟩:=hI
  cases h
  obtain rfl:acc=ts.map shV:=(List.append_nil acc).symm.trans ha
  conv=>whnf
  exact Tj hp hp' hd hv hz
 ·obtain⟨rfl,r,h,ha,hz',ho⟩:=hI
  cases h with
  |@cons v t vs' r h1 h2=>
  refine⟨[(Str.ofString "number",.v x)],?_,?_⟩
  ·rcases ho with rfl|⟨y,rfl⟩<;>rfl
  have hz':acc.length+(r.length+1)≤4:=hz'
  conv=>whnf
  refine ay hp hp' (by decide) h1 ?_
  conv=>whnf
  exact⟨szL (by lia),rfl,r,h2,by rw[List.append_assoc];exact ha,by rw[List.length_append,List.length_singleton];lia,.inr ⟨_,rfl⟩⟩
theorem law4(ns:List Int)(hn:ns.length≤63):go C4 T4 39 (JT C4 T4 39) (fi 92).sc (bz 0 fun d o_=>d=.v (.bool true)) fu [.sts 64 (fi 92).body] [] [(Str.ofString "script",.v (.lst (ns.map V.int)))] [] NoE:=by
 conv=>whnf
 refine Ql hn fun ds hd=>?_
 conv=>whnf
 refine lr hd (by decide) (by decide) fun r ds r0 r1 hd=>?_
 conv=>whnf
 obtain⟨p,e⟩:=Int.eq_ofNat_of_zero_le (a:=2+r) (by lia)
 have hp:0<p:=by lia
 have hp':p≤6:=by lia
 rw[e]
 clear e r0 r1
 refine lr hd (by decide) (by decide) fun k ds k0 k1 hd=>?_
 conv=>whnf
 refine ae ?_ (by lia)
 conv=>whnf
 have hi:dp .one [.v (.rng 0 k)]=some (gi 0 k):=if_pos ⟨by decide,by lia⟩
 rw[hi]
 clear hi
 have hl:(gi 0 k).length≤4:=by unfold gi;rw[List.length_map,List.length_range];lia
 generalize gi 0 k=l at hl ⊢
 conv=>whnf
 refine ry (fun l ρ acc s=>∃ds ts,s=sI ds∧Gd ds∧Nl 8 p acc ts∧l.length+ts.length≤4∧(ρ=[(Str.ofString "deck",.m 0),(Str.ofString "tower",.v (tw p))]∨∃x,ρ=[(Str.ofString "deck",.m 0),(Str.ofString "tower",.v (tw p)),(Str.ofString "turn",x)])) ⟨_,[],rfl,hd,.nil,hl,.inl rfl⟩ (fun ρ acc s hI=>?_) fun x l ρ acc s hI=>?_
 ·obtain⟨ds,ts,rfl,hd,hv,hz,_⟩:=hI
  have hz:ts.length≤4:=by have:=hz;rw[List.length_nil]at this;exact Nat.add_le_add_iff_left.mp hz
  conv=>whnf
  exact Tk hp hp' hd hv hz
 ·obtain⟨ds,ts,rfl,hd,hv,hz,ho⟩:=hI
  refine⟨[(Str.ofString "deck",.m 0),(Str.ofString "tower",.v (tw p)),(Str.ofString "turn",.v x)],?_,?_⟩
  ·rcases ho with rfl|⟨y,rfl⟩<;>rfl
  have hz:l.length+1+ts.length≤4:=hz
  conv=>whnf
  refine Av hp hp' hd fun v t ds hn hd=>?_
  conv=>whnf
  exact⟨szL (by rw[hv.len];lia),ds,ts++[t],rfl,hd,hv.snoc hn,by rw[List.length_append,List.length_singleton];lia,.inr ⟨_,rfl⟩⟩
end
end Mine
end
set_option maxRecDepth 100000 in
set_option maxHeartbeats 8000000 in
theorem PySem.Challenge.cw_nt0210_04_holds : PySem.Challenge.rw_nt0210_04.Holds := by
 exact Mine.H4 fun ns hn=>Mine.law4 ns hn
