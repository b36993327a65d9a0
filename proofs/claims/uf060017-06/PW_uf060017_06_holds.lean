import PyProof.Rows.All
import Wide.All
import OpenK.AllK
import Wide.FinOn
import PyProof.P3Statements
import KE.KRevIter
import KE.KDictList
import OpenK.KLine
import KE.KIsAll
import PyProof.ExcAttrAll.ValueError
import KE.KLam
import KE.KSortKey
import KE.KItem
import KE.KMinKey
import OpenK.KMore
import KE.KRevSl
import PyProof.EnumMake
import PyProof.EnumStmt
import PyProof.EnumFor
import PyProof.ExcBaseAll.ValueError
import PyProof.NsDelKeeps
import PySem.Challenge.RW_uf060017_06
set_option autoImplicit false
set_option linter.unusedVariables false
set_option maxRecDepth 100000
set_option tactic.hygienic false
namespace Mine
open PySem PyProof.Rows PySem.W
noncomputable def dX (p:Program) (i:Nat):Stmt:=(p.main.body[i]?).getD (.Pass ⟨0,0,0,0⟩)
set_option backward.match.sparseCases false in
noncomputable def ll (s:Stmt) (j:Nat):Stmt:=match s with
 | .ClassDef _ _ _ b _ _ _ _ _ _ _=>(b[j]?).getD s
 | _=>s
set_option backward.match.sparseCases false in
noncomputable def fnD (s:Stmt) (name qual:Str) (gl:Addr) (cl:List (Str × Addr)) (df kd doc md:Value) (an:Option Addr) (cd ct:Value) (bl:Addr):Data:=match s with
 | .FunctionDef _ a b _ _ _ sc _ _ _=>.func ⟨name,qual,a,.stmts b,sc,gl,cl,df,kd,doc,md,an,cd,ct,bl⟩
 | _=>.plain
noncomputable def en (P:Params) (s:Str) (t:Nat) (v:Value):DictEntry:=⟨PyData.keyHash P s,.str s t,v⟩
theorem hd_nn {α : Type} {a : α} {G : Prop} (h : none = some a) : G := nomatch h
noncomputable def hdRun (so : Nat → Option Value → Thread → Bool) (sT : (Code → Sem Fin) → Program → World → SharedT → Thread → Option (SharedT × Thread)) (den : Code → Sem Fin) (p : Program) (w : World) (n₀ : Nat) (ann : Option Value) (n : Nat) : SharedT → Thread → Option SharedT :=
  Nat.rec (motive := fun _ => SharedT → Thread → Option SharedT) (fun _ _ => none) (fun _ ih s t => cond (through t) (some s) (cond (so n₀ ann t) ((sT den p w s t).bind fun r => ih r.1 r.2) none)) n
theorem hdRun_of {tb : String → Option Builtin} {p : Program} {w : World} {n₀ : Nat} {ann : Option Value} (n : Nat) : ∀ (s : SharedT) (t : Thread) {s' : SharedT}, hdRun stepOk stepT (denote tb) p w n₀ ann n s t = some s' → topRun tb p w n₀ ann n s.abs t = some s'.abs :=
  Nat.rec (motive := fun n => ∀ (s : SharedT) (t : Thread) {s' : SharedT}, hdRun stepOk stepT (denote tb) p w n₀ ann n s t = some s' → topRun tb p w n₀ ann n s.abs t = some s'.abs) (fun _ _ _ h => hd_nn h) (fun n ih s t s' => by
    show cond (through t) (some s) (cond (stepOk n₀ ann t) ((stepT (denote tb) p w s t).bind fun r => hdRun stepOk stepT (denote tb) p w n₀ ann n r.1 r.2) none) = some s' → (match through t with
      | true => some s.abs
      | false => match stepOk n₀ ann t with
        | false => none
        | true => match step (denote tb) p w s.abs t with
          | .go s' t' => topRun tb p w n₀ ann n s' t'
          | .halt _ _ => none) = some s'.abs
    cases through t with
    | true => exact fun h => congrArg (Option.map SharedT.abs) h
    | false =>
      cases stepOk n₀ ann t with
      | false => exact fun h => hd_nn h
      | true =>
        cases hs : stepT (denote tb) p w s t with
        | none => exact fun h => hd_nn h
        | some r => rw [stepT_spec hs]; exact ih r.1 r.2) n
noncomputable def hdTree (l : List Obj) : Nat → BT → BT := List.rec (motive := fun _ => Nat → BT → BT) (fun _ t => t) (fun o _ ih i t => ih (i + 1) (t.ins i o)) l
noncomputable def hdBoot (w : World) (os : OsState) : SharedT := ⟨hdTree (boot_heap w.params).objs.toList 0 .nil, 11, (boot_heap w.params).life, Array.mk [], boot_drawn, boot_toks, os⟩
theorem hdBoot_abs : ∀ w : World, (fun os => (hdBoot w os).abs) = fun os => ⟨boot_heap w.params, Array.mk [], boot_drawn, boot_toks, os⟩ := fun w => by kernel_rfl
theorem hd_some {x : Option Shared} {a : Heap} {b : Array GenState} {c : Drawn} {d : Nat} : x.map (fun s => (s.heap, s.gens, s.drawn, s.toks)) = some (a, b, c, d) → ∃ os, x = some ⟨a, b, c, d, os⟩ :=
  Option.rec (motive := fun x => x.map (fun s : Shared => (s.heap, s.gens, s.drawn, s.toks)) = some (a, b, c, d) → ∃ os, x = some ⟨a, b, c, d, os⟩) (fun e => hd_nn e) (fun s e => ⟨s.os, congrArg (fun x => some (Shared.mk x.1 x.2.1 x.2.2.1 x.2.2.2 s.os)) (Option.some.inj e)⟩) x
noncomputable def hdSee (p : Program) (im : List Stmt → List Str) (h h' : Heap) (s : Shared) : Bool := staticsOk (im p.main.body) h h' && namesBound p h' && gensDone s && laidKept h h'
theorem hd_top {tb : String → Option Builtin} {p : Program} {w : World} {N n₀ : Nat} {ann : Option Value} {h : Heap} {d : Drawn} {k : Nat} {os : OsState} {s : Shared} (a : (h.isNs mainGlobals, h.objs.size, h.nsMap mainGlobals "__annotations__") = (true, n₀, ann))
    (r : topRun tb p w n₀ ann N ⟨h, Array.mk [], d, k, os⟩ (topStub p) = some s) (v : hdSee p importedModules h s.heap s = true) : topFrom tb p w N ⟨h, Array.mk [], d, k, os⟩ = some s := by
  show (match h.isNs mainGlobals && true with
      | true => (topRun tb p w h.objs.size (h.nsMap mainGlobals "__annotations__") N ⟨h, Array.mk [], d, k, os⟩ (topStub p)).bind fun s₁ => match hdSee p importedModules h s₁.heap s₁ with
          | true => some s₁
          | false => none
      | false => none) = some s
  rw [(Prod.mk.inj a).1, (Prod.mk.inj (Prod.mk.inj a).2).1, (Prod.mk.inj (Prod.mk.inj a).2).2, r]
  show (match hdSee p importedModules h s.heap s with
          | true => some s
          | false => none) = some s
  rw [v]
theorem hd_den : hdRun stepOk stepT (denote treeTable) = hdRun Fast.tw6613529449190102663 Fast.tw10156331382660048174 (Fast.tw11892475500146522536 Fast.tw14364793385576792824) := by rw [Fast.te6613529449190102663, Fast.te10156331382660048174, Fast.te11892475500146522536, Fast.te14364793385576792824]
theorem hd_seen : (fun q loose b => openSeen q loose (importedModules b)) = fun q loose b => Fast.tw4187177175401517315 q loose (Fast.tw5923862056798008813 b) := by rw [Fast.te5923862056798008813, Fast.te4187177175401517315]
theorem j9 {p q : Program} {loose : List Str} {Xt : Shared → Bool} {α : Type} {Yf : Shared → α} {Ya : World → α} {N : Nat} {g0 : Bool}
    (he : opening p = plainProg p.main.scope.names) (hN : Nat.ble 600 N = true) (hf : ∀ s, fenceModules? p s = some s)
    (h : ∀ w : World, (fun os : OsState => (hdRun Fast.tw6613529449190102663 Fast.tw10156331382660048174 (Fast.tw11892475500146522536 Fast.tw14364793385576792824) p w 11 (some (.ref 6)) N (hdBoot w os) (topStub p)).map (fun s => (hdSee p Fast.tw5923862056798008813 (boot_heap w.params) s.abs.heap s.abs, Fast.tw4187177175401517315 q loose (Fast.tw5923862056798008813 p.main.body) Xt g0 s.abs, Yf s.abs))) = fun _ => some (true, openGood q loose, Ya w)) :
    LeftO p q loose Xt Yf Ya N g0 := fun w =>
  (hd_some (boot_open he hN hf w)).elim fun os e => (Option.map_eq_some_iff.mp (congrFun (h w) os)).elim fun s r =>
    (congrArg (fun x => (Option.bind x (topFrom treeTable p w N)).map _) e).trans ((congrArg (Option.map _) (hd_top (s := s.abs) (by kernel_rfl) ((congrArg (fun x => topRun treeTable p w 11 (some (.ref 6)) N x (topStub p)) (congrFun (hdBoot_abs w) os)).symm.trans (hdRun_of _ _ _ ((congrArg (fun f => f p w 11 (some (.ref 6)) N (hdBoot w os) (topStub p)) hd_den).trans r.1))) ((congrArg (fun f => hdSee p f (boot_heap w.params) s.abs.heap s.abs) Fast.te5923862056798008813).trans (congrArg Prod.fst r.2)))).trans (congrArg some ((congrArg (fun f => (f q loose p.main.body Xt g0 s.abs, Yf s.abs)) hd_seen).trans (congrArg Prod.snd r.2))))
end Mine
namespace Mine
open PySem PyProof.Rows PySem.W
noncomputable def kOf (p:Program) (P:Params):Frag:=[
 (2,⟨.none,none,.dict ⟨[]⟩ 0,⟨[]⟩⟩),
 (3,⟨.type "dict",none,.dict ⟨[en P "__name__" 165 (.str "law_uf060017_06" 508),en P "__doc__" 166 (.none),en P "__package__" 167 (.none),en P "__loader__" 168 (.builtin "__main__.__loader__#opaque"),en P "__spec__" 169 (.none),en P "__annotations__" 170 (.ref 6),en P "__builtins__" 171 (.ref 4),en P "__file__" 173 (.str "/claim/cut.py" 172),en P "__cached__" 174 (.none),en P "PaceError" 206 (.ref 24),en P "BadCount" 222 (.ref 37),en P "NoMeeting" 238 (.ref 49),en P "BadDelay" 254 (.ref 61),en P "Apart" 270 (.ref 73),en P "NoRing" 286 (.ref 85),en P "BadPace" 302 (.ref 97),en P "common" 313 (.ref 106),en P "lowest" 322 (.ref 113),en P "mean" 334 (.ref 120),en P "led_on" 344 (.ref 127),en P "ring_behind" 355 (.ref 134),en P "slower" 372 (.ref 141),en P "any_ring" 378 (.ref 146),en P "pace" 389 (.ref 153),en P "settled" 397 (.ref 158),en P "MOST_MEETINGS" 401 (.int (12) 400),en P "MOST_WAYS" 403 (.int (60) 402),en P "MOST_DELAY" 405 (.int (9999) 404),en P "is_whole" 414 (.ref 165),en P "come_to" 426 (.ref 172),en P "is_joined" 432 (.ref 177),en P "Web" 507 (.ref 228),en P "_law_cell_at" 517 (.ref 239),en P "_law_whole" 524 (.ref 246),en P "_law_mixed" 532 (.ref 253),en P "_law_delay_by" 539 (.ref 260),en P "_law_many" 547 (.ref 267),en P "_law_ways" 561 (.ref 274),en P "_law_list" 567 (.ref 279),en P "_law_common" 576 (.ref 286),en P "_law_due" 582 (.ref 291),en P "_law_words" 588 (.ref 296),en P "_law_told" 597 (.ref 303),en P "_law_stirred" 603 (.ref 308),en P "law" 609 (.ref 313)]⟩ 45,⟨[]⟩⟩),
 (15,⟨.type "tuple",none,.seq ⟨[.type "ValueError"]⟩ 0,⟨[]⟩⟩),
 (22,⟨.type "tuple",none,.seq ⟨[]⟩ 0,⟨[]⟩⟩),
 (23,⟨.type "dict",none,.dict ⟨[en P "__module__" 196 (.str "meanpace.errors" 187),en P "__firstlineno__" 200 (.int (2) 199),en P "__static_attributes__" 201 (.ref 22),en P "__weakref__" 203 (.ref 25),en P "__doc__" 204 (.none)]⟩ 3,⟨[]⟩⟩),
 (24,⟨.type "type",none,.cls { name:="PaceError",bases:=[.type "ValueError"],mro:=[.ref 24,.type "ValueError",.type "Exception",.type "BaseException",.type "object"],ns:=23,qualname:="PaceError",hasDict:=true,slotNames:=[],subclasses:=[.ref 37,.ref 49,.ref 61,.ref 73,.ref 85,.ref 97],abstract:=false,collection:=none,hasDel:=false },⟨[(some (.ref 15)),none,(some (.str "PaceError" 189)),(some (.str "PaceError" 197)),(some (.builtin "ValueError.__new__")),(some (.bool true))]⟩⟩),
 (25,⟨.type "getset_descriptor",none,.fields ⟨[.str "__weakref__" 202,.ref 24,.builtin "ExceptionGroup.__weakref__",.none]⟩,⟨[]⟩⟩),
 (28,⟨.type "tuple",none,.seq ⟨[.ref 24]⟩ 0,⟨[]⟩⟩),
 (35,⟨.type "tuple",none,.seq ⟨[]⟩ 0,⟨[]⟩⟩),
 (36,⟨.type "dict",none,.dict ⟨[en P "__module__" 214 (.str "meanpace.errors" 187),en P "__firstlineno__" 218 (.int (4) 217),en P "__static_attributes__" 219 (.ref 35),en P "__doc__" 220 (.none)]⟩ 2,⟨[]⟩⟩),
 (37,⟨.type "type",none,.cls { name:="BadCount",bases:=[.ref 24],mro:=[.ref 37,.ref 24,.type "ValueError",.type "Exception",.type "BaseException",.type "object"],ns:=36,qualname:="BadCount",hasDict:=true,slotNames:=[],subclasses:=[],abstract:=false,collection:=none,hasDel:=false },⟨[(some (.ref 28)),none,(some (.str "BadCount" 207)),(some (.str "BadCount" 215)),(some (.builtin "ValueError.__new__")),(some (.bool true))]⟩⟩),
 (40,⟨.type "tuple",none,.seq ⟨[.ref 24]⟩ 0,⟨[]⟩⟩),
 (47,⟨.type "tuple",none,.seq ⟨[]⟩ 0,⟨[]⟩⟩),
 (48,⟨.type "dict",none,.dict ⟨[en P "__module__" 230 (.str "meanpace.errors" 187),en P "__firstlineno__" 234 (.int (6) 233),en P "__static_attributes__" 235 (.ref 47),en P "__doc__" 236 (.none)]⟩ 2,⟨[]⟩⟩),
 (49,⟨.type "type",none,.cls { name:="NoMeeting",bases:=[.ref 24],mro:=[.ref 49,.ref 24,.type "ValueError",.type "Exception",.type "BaseException",.type "object"],ns:=48,qualname:="NoMeeting",hasDict:=true,slotNames:=[],subclasses:=[],abstract:=false,collection:=none,hasDel:=false },⟨[(some (.ref 40)),none,(some (.str "NoMeeting" 223)),(some (.str "NoMeeting" 231)),(some (.builtin "ValueError.__new__")),(some (.bool true))]⟩⟩),
 (52,⟨.type "tuple",none,.seq ⟨[.ref 24]⟩ 0,⟨[]⟩⟩),
 (59,⟨.type "tuple",none,.seq ⟨[]⟩ 0,⟨[]⟩⟩),
 (60,⟨.type "dict",none,.dict ⟨[en P "__module__" 246 (.str "meanpace.errors" 187),en P "__firstlineno__" 250 (.int (8) 249),en P "__static_attributes__" 251 (.ref 59),en P "__doc__" 252 (.none)]⟩ 2,⟨[]⟩⟩),
 (61,⟨.type "type",none,.cls { name:="BadDelay",bases:=[.ref 24],mro:=[.ref 61,.ref 24,.type "ValueError",.type "Exception",.type "BaseException",.type "object"],ns:=60,qualname:="BadDelay",hasDict:=true,slotNames:=[],subclasses:=[],abstract:=false,collection:=none,hasDel:=false },⟨[(some (.ref 52)),none,(some (.str "BadDelay" 239)),(some (.str "BadDelay" 247)),(some (.builtin "ValueError.__new__")),(some (.bool true))]⟩⟩),
 (64,⟨.type "tuple",none,.seq ⟨[.ref 24]⟩ 0,⟨[]⟩⟩),
 (71,⟨.type "tuple",none,.seq ⟨[]⟩ 0,⟨[]⟩⟩),
 (72,⟨.type "dict",none,.dict ⟨[en P "__module__" 262 (.str "meanpace.errors" 187),en P "__firstlineno__" 266 (.int (10) 265),en P "__static_attributes__" 267 (.ref 71),en P "__doc__" 268 (.none)]⟩ 2,⟨[]⟩⟩),
 (73,⟨.type "type",none,.cls { name:="Apart",bases:=[.ref 24],mro:=[.ref 73,.ref 24,.type "ValueError",.type "Exception",.type "BaseException",.type "object"],ns:=72,qualname:="Apart",hasDict:=true,slotNames:=[],subclasses:=[],abstract:=false,collection:=none,hasDel:=false },⟨[(some (.ref 64)),none,(some (.str "Apart" 255)),(some (.str "Apart" 263)),(some (.builtin "ValueError.__new__")),(some (.bool true))]⟩⟩),
 (76,⟨.type "tuple",none,.seq ⟨[.ref 24]⟩ 0,⟨[]⟩⟩),
 (83,⟨.type "tuple",none,.seq ⟨[]⟩ 0,⟨[]⟩⟩),
 (84,⟨.type "dict",none,.dict ⟨[en P "__module__" 278 (.str "meanpace.errors" 187),en P "__firstlineno__" 282 (.int (12) 281),en P "__static_attributes__" 283 (.ref 83),en P "__doc__" 284 (.none)]⟩ 2,⟨[]⟩⟩),
 (85,⟨.type "type",none,.cls { name:="NoRing",bases:=[.ref 24],mro:=[.ref 85,.ref 24,.type "ValueError",.type "Exception",.type "BaseException",.type "object"],ns:=84,qualname:="NoRing",hasDict:=true,slotNames:=[],subclasses:=[],abstract:=false,collection:=none,hasDel:=false },⟨[(some (.ref 76)),none,(some (.str "NoRing" 271)),(some (.str "NoRing" 279)),(some (.builtin "ValueError.__new__")),(some (.bool true))]⟩⟩),
 (88,⟨.type "tuple",none,.seq ⟨[.ref 24]⟩ 0,⟨[]⟩⟩),
 (95,⟨.type "tuple",none,.seq ⟨[]⟩ 0,⟨[]⟩⟩),
 (96,⟨.type "dict",none,.dict ⟨[en P "__module__" 294 (.str "meanpace.errors" 187),en P "__firstlineno__" 298 (.int (14) 297),en P "__static_attributes__" 299 (.ref 95),en P "__doc__" 300 (.none)]⟩ 2,⟨[]⟩⟩),
 (97,⟨.type "type",none,.cls { name:="BadPace",bases:=[.ref 24],mro:=[.ref 97,.ref 24,.type "ValueError",.type "Exception",.type "BaseException",.type "object"],ns:=96,qualname:="BadPace",hasDict:=true,slotNames:=[],subclasses:=[],abstract:=false,collection:=none,hasDel:=false },⟨[(some (.ref 88)),none,(some (.str "BadPace" 287)),(some (.str "BadPace" 295)),(some (.builtin "ValueError.__new__")),(some (.bool true))]⟩⟩),
 (100,⟨.type "tuple",none,.seq ⟨[]⟩ 0,⟨[]⟩⟩),
 (102,⟨.type "tuple",none,.seq ⟨[.str "number" 308,.str "divisor" 309,.str "rest" 310]⟩ 0,⟨[]⟩⟩),
 (103,⟨.type "tuple",none,.seq ⟨[]⟩ 0,⟨[]⟩⟩),
 (105,⟨.type "code",none,.fields ⟨[.str "common" 305,.str "common" 306,.str "/claim/cut.py" 307,.int (17) 0,.int (2) 0,.int (0) 0,.int (0) 0,.int (3) 0,.ref 100,.bool true,.int (181) 0,.ref 101,.none,.ref 102,.ref 103,.ref 104,.int (311) 0,.int (17) 0,.str "/claim/cut.py" 312]⟩,⟨[]⟩⟩),
 (106,⟨.type "function",none,fnD (dX p 9) "common" "common" 3 [] (.none) (.none) (.none) (.str "meanpace.rings" 303) none (.ref 105) (.none) 0,⟨[]⟩⟩),
 (107,⟨.type "tuple",none,.seq ⟨[]⟩ 0,⟨[]⟩⟩),
 (109,⟨.type "tuple",none,.seq ⟨[.str "number" 317,.str "divisor" 318,.str "part" 319]⟩ 0,⟨[]⟩⟩),
 (110,⟨.type "tuple",none,.seq ⟨[]⟩ 0,⟨[]⟩⟩),
 (112,⟨.type "code",none,.fields ⟨[.str "lowest" 314,.str "lowest" 315,.str "/claim/cut.py" 316,.int (23) 0,.int (2) 0,.int (0) 0,.int (0) 0,.int (3) 0,.ref 107,.bool true,.int (181) 0,.ref 108,.none,.ref 109,.ref 110,.ref 111,.int (320) 0,.int (23) 0,.str "/claim/cut.py" 321]⟩,⟨[]⟩⟩),
 (113,⟨.type "function",none,fnD (dX p 10) "lowest" "lowest" 3 [] (.none) (.none) (.none) (.str "meanpace.rings" 303) none (.ref 112) (.none) 0,⟨[]⟩⟩),
 (114,⟨.type "tuple",none,.seq ⟨[]⟩ 0,⟨[]⟩⟩),
 (116,⟨.type "tuple",none,.seq ⟨[.str "web" 326,.str "ring" 327,.str "meeting" 328,.str "total" 329,.str "place" 330,.str "delay" 331]⟩ 0,⟨[]⟩⟩),
 (117,⟨.type "tuple",none,.seq ⟨[]⟩ 0,⟨[]⟩⟩),
 (119,⟨.type "code",none,.fields ⟨[.str "mean" 323,.str "mean" 324,.str "/claim/cut.py" 325,.int (26) 0,.int (2) 0,.int (0) 0,.int (0) 0,.int (3) 0,.ref 114,.bool true,.int (181) 0,.ref 115,.none,.ref 116,.ref 117,.ref 118,.int (332) 0,.int (26) 0,.str "/claim/cut.py" 333]⟩,⟨[]⟩⟩),
 (120,⟨.type "function",none,fnD (dX p 11) "mean" "mean" 3 [] (.none) (.none) (.none) (.str "meanpace.rings" 303) none (.ref 119) (.none) 0,⟨[]⟩⟩),
 (121,⟨.type "tuple",none,.seq ⟨[]⟩ 0,⟨[]⟩⟩),
 (123,⟨.type "tuple",none,.seq ⟨[.str "ring" 340,.str "at" 341]⟩ 0,⟨[]⟩⟩),
 (124,⟨.type "tuple",none,.seq ⟨[]⟩ 0,⟨[]⟩⟩),
 (126,⟨.type "code",none,.fields ⟨[.str "led_on" 337,.str "led_on" 338,.str "/claim/cut.py" 339,.int (39) 0,.int (1) 0,.int (0) 0,.int (0) 0,.int (3) 0,.ref 121,.bool true,.int (181) 0,.ref 122,.none,.ref 123,.ref 124,.ref 125,.int (342) 0,.int (39) 0,.str "/claim/cut.py" 343]⟩,⟨[]⟩⟩),
 (127,⟨.type "function",none,fnD (dX p 13) "led_on" "led_on" 3 [] (.none) (.none) (.none) (.str "meanpace.paces" 335) none (.ref 126) (.none) 0,⟨[]⟩⟩),
 (128,⟨.type "tuple",none,.seq ⟨[]⟩ 0,⟨[]⟩⟩),
 (130,⟨.type "tuple",none,.seq ⟨[.str "before" 348,.str "meeting" 349,.str "many" 350,.str "step" 351,.str "ring" 352]⟩ 0,⟨[]⟩⟩),
 (131,⟨.type "tuple",none,.seq ⟨[]⟩ 0,⟨[]⟩⟩),
 (133,⟨.type "code",none,.fields ⟨[.str "ring_behind" 345,.str "ring_behind" 346,.str "/claim/cut.py" 347,.int (42) 0,.int (3) 0,.int (0) 0,.int (0) 0,.int (3) 0,.ref 128,.bool true,.int (181) 0,.ref 129,.none,.ref 130,.ref 131,.ref 132,.int (353) 0,.int (42) 0,.str "/claim/cut.py" 354]⟩,⟨[]⟩⟩),
 (134,⟨.type "function",none,fnD (dX p 14) "ring_behind" "ring_behind" 3 [] (.none) (.none) (.none) (.str "meanpace.paces" 335) none (.ref 133) (.none) 0,⟨[]⟩⟩),
 (135,⟨.type "tuple",none,.seq ⟨[]⟩ 0,⟨[]⟩⟩),
 (137,⟨.type "tuple",none,.seq ⟨[.str "web" 359,.str "number" 360,.str "divisor" 361,.str "start" 362,.str "before" 363,.str "turn" 364,.str "last" 365,.str "begin" 366,.str "end" 367,.str "delay" 368,.str "wanted" 369]⟩ 0,⟨[]⟩⟩),
 (138,⟨.type "tuple",none,.seq ⟨[]⟩ 0,⟨[]⟩⟩),
 (140,⟨.type "code",none,.fields ⟨[.str "slower" 356,.str "slower" 357,.str "/claim/cut.py" 358,.int (49) 0,.int (3) 0,.int (0) 0,.int (0) 0,.int (3) 0,.ref 135,.bool true,.int (181) 0,.ref 136,.none,.ref 137,.ref 138,.ref 139,.int (370) 0,.int (49) 0,.str "/claim/cut.py" 371]⟩,⟨[]⟩⟩),
 (141,⟨.type "function",none,fnD (dX p 15) "slower" "slower" 3 [] (.none) (.none) (.none) (.str "meanpace.paces" 335) none (.ref 140) (.none) 0,⟨[]⟩⟩),
 (142,⟨.type "tuple",none,.seq ⟨[]⟩ 0,⟨[]⟩⟩),
 (145,⟨.type "code",none,.fields ⟨[.str "any_ring" 373,.str "any_ring" 374,.str "/claim/cut.py" 375,.int (65) 0,.int (1) 0,.int (0) 0,.int (0) 0,.int (3) 0,.ref 142,.bool true,.int (181) 0,.ref 143,.none,.none,.none,.ref 144,.int (376) 0,.int (65) 0,.str "/claim/cut.py" 377]⟩,⟨[]⟩⟩),
 (146,⟨.type "function",none,fnD (dX p 16) "any_ring" "any_ring" 3 [] (.none) (.none) (.none) (.str "meanpace.paces" 335) none (.ref 145) (.none) 0,⟨[]⟩⟩),
 (147,⟨.type "tuple",none,.seq ⟨[]⟩ 0,⟨[]⟩⟩),
 (149,⟨.type "tuple",none,.seq ⟨[.str "web" 382,.str "ring" 383,.str "number" 384,.str "divisor" 385,.str "found" 386]⟩ 0,⟨[]⟩⟩),
 (150,⟨.type "tuple",none,.seq ⟨[]⟩ 0,⟨[]⟩⟩),
 (152,⟨.type "code",none,.fields ⟨[.str "pace" 379,.str "pace" 380,.str "/claim/cut.py" 381,.int (72) 0,.int (1) 0,.int (0) 0,.int (0) 0,.int (3) 0,.ref 147,.bool true,.int (181) 0,.ref 148,.none,.ref 149,.ref 150,.ref 151,.int (387) 0,.int (72) 0,.str "/claim/cut.py" 388]⟩,⟨[]⟩⟩),
 (153,⟨.type "function",none,fnD (dX p 17) "pace" "pace" 3 [] (.none) (.none) (.none) (.str "meanpace.paces" 335) none (.ref 152) (.none) 0,⟨[]⟩⟩),
 (154,⟨.type "tuple",none,.seq ⟨[]⟩ 0,⟨[]⟩⟩),
 (157,⟨.type "code",none,.fields ⟨[.str "settled" 392,.str "settled" 393,.str "/claim/cut.py" 394,.int (81) 0,.int (3) 0,.int (0) 0,.int (0) 0,.int (3) 0,.ref 154,.bool true,.int (181) 0,.ref 155,.none,.none,.none,.ref 156,.int (395) 0,.int (81) 0,.str "/claim/cut.py" 396]⟩,⟨[]⟩⟩),
 (158,⟨.type "function",none,fnD (dX p 19) "settled" "settled" 3 [] (.none) (.none) (.none) (.str "meanpace.settling" 390) none (.ref 157) (.none) 0,⟨[]⟩⟩),
 (159,⟨.type "tuple",none,.seq ⟨[]⟩ 0,⟨[]⟩⟩),
 (161,⟨.type "tuple",none,.seq ⟨[.str "thing" 409,.str "low" 410,.str "high" 411]⟩ 0,⟨[]⟩⟩),
 (162,⟨.type "tuple",none,.seq ⟨[]⟩ 0,⟨[]⟩⟩),
 (164,⟨.type "code",none,.fields ⟨[.str "is_whole" 406,.str "is_whole" 407,.str "/claim/cut.py" 408,.int (97) 0,.int (3) 0,.int (0) 0,.int (0) 0,.int (3) 0,.ref 159,.bool true,.int (181) 0,.ref 160,.none,.ref 161,.ref 162,.ref 163,.int (412) 0,.int (97) 0,.str "/claim/cut.py" 413]⟩,⟨[]⟩⟩),
 (165,⟨.type "function",none,fnD (dX p 24) "is_whole" "is_whole" 3 [] (.none) (.none) (.none) (.str "meanpace.webs" 398) none (.ref 164) (.none) 0,⟨[]⟩⟩),
 (166,⟨.type "tuple",none,.seq ⟨[]⟩ 0,⟨[]⟩⟩),
 (168,⟨.type "tuple",none,.seq ⟨[.str "many" 418,.str "ways" 419,.str "found" 420,.str "waiting" 421,.str "here" 422,.str "way" 423]⟩ 0,⟨[]⟩⟩),
 (169,⟨.type "tuple",none,.seq ⟨[]⟩ 0,⟨[]⟩⟩),
 (171,⟨.type "code",none,.fields ⟨[.str "come_to" 415,.str "come_to" 416,.str "/claim/cut.py" 417,.int (99) 0,.int (2) 0,.int (0) 0,.int (0) 0,.int (3) 0,.ref 166,.bool true,.int (181) 0,.ref 167,.none,.ref 168,.ref 169,.ref 170,.int (424) 0,.int (99) 0,.str "/claim/cut.py" 425]⟩,⟨[]⟩⟩),
 (172,⟨.type "function",none,fnD (dX p 25) "come_to" "come_to" 3 [] (.none) (.none) (.none) (.str "meanpace.webs" 398) none (.ref 171) (.none) 0,⟨[]⟩⟩),
 (173,⟨.type "tuple",none,.seq ⟨[]⟩ 0,⟨[]⟩⟩),
 (176,⟨.type "code",none,.fields ⟨[.str "is_joined" 427,.str "is_joined" 428,.str "/claim/cut.py" 429,.int (109) 0,.int (2) 0,.int (0) 0,.int (0) 0,.int (3) 0,.ref 173,.bool true,.int (181) 0,.ref 174,.none,.none,.none,.ref 175,.int (430) 0,.int (109) 0,.str "/claim/cut.py" 431]⟩,⟨[]⟩⟩),
 (177,⟨.type "function",none,fnD (dX p 26) "is_joined" "is_joined" 3 [] (.none) (.none) (.none) (.str "meanpace.webs" 398) none (.ref 176) (.none) 0,⟨[]⟩⟩),
 (185,⟨.type "tuple",none,.seq ⟨[]⟩ 0,⟨[]⟩⟩),
 (187,⟨.type "tuple",none,.seq ⟨[.str "self" 448,.str "many" 449,.str "ways" 450,.str "way" 451]⟩ 0,⟨[]⟩⟩),
 (188,⟨.type "tuple",none,.seq ⟨[]⟩ 0,⟨[]⟩⟩),
 (190,⟨.type "code",none,.fields ⟨[.str "__init__" 445,.str "Web.__init__" 446,.str "/claim/cut.py" 447,.int (116) 0,.int (3) 0,.int (0) 0,.int (0) 0,.int (3) 0,.ref 185,.bool true,.int (181) 0,.ref 186,.none,.ref 187,.ref 188,.ref 189,.int (452) 0,.int (116) 0,.str "/claim/cut.py" 453]⟩,⟨[]⟩⟩),
 (191,⟨.type "function",none,fnD (ll (dX p 27) 0) "__init__" "Web.__init__" 3 [] (.none) (.none) (.none) (.str "meanpace.webs" 398) none (.ref 190) (.none) 0,⟨[]⟩⟩),
 (192,⟨.type "tuple",none,.seq ⟨[]⟩ 0,⟨[]⟩⟩),
 (194,⟨.type "tuple",none,.seq ⟨[.str "self" 458,.str "meeting" 459]⟩ 0,⟨[]⟩⟩),
 (195,⟨.type "tuple",none,.seq ⟨[]⟩ 0,⟨[]⟩⟩),
 (197,⟨.type "code",none,.fields ⟨[.str "need" 455,.str "Web.need" 456,.str "/claim/cut.py" 457,.int (132) 0,.int (2) 0,.int (0) 0,.int (0) 0,.int (3) 0,.ref 192,.bool true,.int (181) 0,.ref 193,.none,.ref 194,.ref 195,.ref 196,.int (460) 0,.int (132) 0,.str "/claim/cut.py" 461]⟩,⟨[]⟩⟩),
 (198,⟨.type "function",none,fnD (ll (dX p 27) 1) "need" "Web.need" 3 [] (.none) (.none) (.none) (.str "meanpace.webs" 398) none (.ref 197) (.none) 0,⟨[]⟩⟩),
 (199,⟨.type "tuple",none,.seq ⟨[]⟩ 0,⟨[]⟩⟩),
 (202,⟨.type "code",none,.fields ⟨[.str "into" 463,.str "Web.into" 464,.str "/claim/cut.py" 465,.int (136) 0,.int (2) 0,.int (0) 0,.int (0) 0,.int (3) 0,.ref 199,.bool true,.int (181) 0,.ref 200,.none,.none,.none,.ref 201,.int (466) 0,.int (136) 0,.str "/claim/cut.py" 467]⟩,⟨[]⟩⟩),
 (203,⟨.type "function",none,fnD (ll (dX p 27) 2) "into" "Web.into" 3 [] (.none) (.none) (.none) (.str "meanpace.webs" 398) none (.ref 202) (.none) 0,⟨[]⟩⟩),
 (204,⟨.type "tuple",none,.seq ⟨[]⟩ 0,⟨[]⟩⟩),
 (207,⟨.type "code",none,.fields ⟨[.str "delay" 469,.str "Web.delay" 470,.str "/claim/cut.py" 471,.int (140) 0,.int (3) 0,.int (0) 0,.int (0) 0,.int (3) 0,.ref 204,.bool true,.int (181) 0,.ref 205,.none,.none,.none,.ref 206,.int (472) 0,.int (140) 0,.str "/claim/cut.py" 473]⟩,⟨[]⟩⟩),
 (208,⟨.type "function",none,fnD (ll (dX p 27) 3) "delay" "Web.delay" 3 [] (.none) (.none) (.none) (.str "meanpace.webs" 398) none (.ref 207) (.none) 0,⟨[]⟩⟩),
 (209,⟨.type "tuple",none,.seq ⟨[]⟩ 0,⟨[]⟩⟩),
 (212,⟨.type "code",none,.fields ⟨[.str "ahead" 475,.str "Web.ahead" 476,.str "/claim/cut.py" 477,.int (145) 0,.int (2) 0,.int (0) 0,.int (0) 0,.int (3) 0,.ref 209,.bool true,.int (181) 0,.ref 210,.none,.none,.none,.ref 211,.int (478) 0,.int (145) 0,.str "/claim/cut.py" 479]⟩,⟨[]⟩⟩),
 (213,⟨.type "function",none,fnD (ll (dX p 27) 4) "ahead" "Web.ahead" 3 [] (.none) (.none) (.none) (.str "meanpace.webs" 398) none (.ref 212) (.none) 0,⟨[]⟩⟩),
 (214,⟨.type "tuple",none,.seq ⟨[]⟩ 0,⟨[]⟩⟩),
 (216,⟨.type "tuple",none,.seq ⟨[.str "self" 484,.str "times" 485,.str "count" 486,.str "found" 487,.str "turn" 488]⟩ 0,⟨[]⟩⟩),
 (217,⟨.type "tuple",none,.seq ⟨[]⟩ 0,⟨[]⟩⟩),
 (219,⟨.type "code",none,.fields ⟨[.str "turns" 481,.str "Web.turns" 482,.str "/claim/cut.py" 483,.int (153) 0,.int (3) 0,.int (0) 0,.int (0) 0,.int (3) 0,.ref 214,.bool true,.int (181) 0,.ref 215,.none,.ref 216,.ref 217,.ref 218,.int (489) 0,.int (153) 0,.str "/claim/cut.py" 490]⟩,⟨[]⟩⟩),
 (220,⟨.type "function",none,fnD (ll (dX p 27) 5) "turns" "Web.turns" 3 [] (.none) (.none) (.none) (.str "meanpace.webs" 398) none (.ref 219) (.none) 0,⟨[]⟩⟩),
 (221,⟨.type "tuple",none,.seq ⟨[]⟩ 0,⟨[]⟩⟩),
 (224,⟨.type "code",none,.fields ⟨[.str "turned" 492,.str "Web.turned" 493,.str "/claim/cut.py" 494,.int (161) 0,.int (1) 0,.int (0) 0,.int (0) 0,.int (3) 0,.ref 221,.bool true,.int (181) 0,.ref 222,.none,.none,.none,.ref 223,.int (495) 0,.int (161) 0,.str "/claim/cut.py" 496]⟩,⟨[]⟩⟩),
 (225,⟨.type "function",none,fnD (ll (dX p 27) 6) "turned" "Web.turned" 3 [] (.none) (.none) (.none) (.str "meanpace.webs" 398) none (.ref 224) (.none) 0,⟨[]⟩⟩),
 (226,⟨.type "tuple",none,.seq ⟨[.str "many" 498,.str "ways" 499]⟩ 0,⟨[]⟩⟩),
 (227,⟨.type "dict",none,.dict ⟨[en P "__module__" 440 (.str "meanpace.webs" 398),en P "__firstlineno__" 444 (.int (114) 443),en P "__init__" 454 (.ref 191),en P "need" 462 (.ref 198),en P "into" 468 (.ref 203),en P "delay" 474 (.ref 208),en P "ahead" 480 (.ref 213),en P "turns" 491 (.ref 220),en P "turned" 497 (.ref 225),en P "__static_attributes__" 500 (.ref 226),en P "__dict__" 502 (.ref 229),en P "__weakref__" 504 (.ref 230),en P "__doc__" 505 (.none)]⟩ 4,⟨[]⟩⟩),
 (228,⟨.type "type",none,.cls { name:="Web",bases:=[.type "object"],mro:=[.ref 228,.type "object"],ns:=227,qualname:="Web",hasDict:=true,slotNames:=[],subclasses:=[],abstract:=false,collection:=none,hasDel:=false },⟨[none,none,(some (.str "Web" 433)),(some (.str "Web" 441)),(some (.builtin "object.__new__")),(some (.bool true))]⟩⟩),
 (229,⟨.type "getset_descriptor",none,.fields ⟨[.str "__dict__" 501,.ref 228,.builtin "function.__dict__",.builtin "function.__dict__#set"]⟩,⟨[]⟩⟩),
 (230,⟨.type "getset_descriptor",none,.fields ⟨[.str "__weakref__" 503,.ref 228,.builtin "ExceptionGroup.__weakref__",.none]⟩,⟨[]⟩⟩),
 (233,⟨.type "tuple",none,.seq ⟨[]⟩ 0,⟨[]⟩⟩),
 (235,⟨.type "tuple",none,.seq ⟨[.str "_law_script" 513,.str "_law_k" 514]⟩ 0,⟨[]⟩⟩),
 (236,⟨.type "tuple",none,.seq ⟨[]⟩ 0,⟨[]⟩⟩),
 (238,⟨.type "code",none,.fields ⟨[.str "_law_cell_at" 510,.str "_law_cell_at" 511,.str "/claim/cut.py" 512,.int (164) 0,.int (2) 0,.int (0) 0,.int (0) 0,.int (3) 0,.ref 233,.bool true,.int (181) 0,.ref 234,.none,.ref 235,.ref 236,.ref 237,.int (515) 0,.int (164) 0,.str "/claim/cut.py" 516]⟩,⟨[]⟩⟩),
 (239,⟨.type "function",none,fnD (dX p 29) "_law_cell_at" "_law_cell_at" 3 [] (.none) (.none) (.none) (.str "law_uf060017_06" 508) none (.ref 238) (.none) 0,⟨[]⟩⟩),
 (240,⟨.type "tuple",none,.seq ⟨[]⟩ 0,⟨[]⟩⟩),
 (242,⟨.type "tuple",none,.seq ⟨[.str "_law_found" 521]⟩ 0,⟨[]⟩⟩),
 (243,⟨.type "tuple",none,.seq ⟨[]⟩ 0,⟨[]⟩⟩),
 (245,⟨.type "code",none,.fields ⟨[.str "_law_whole" 518,.str "_law_whole" 519,.str "/claim/cut.py" 520,.int (168) 0,.int (1) 0,.int (0) 0,.int (0) 0,.int (3) 0,.ref 240,.bool true,.int (181) 0,.ref 241,.none,.ref 242,.ref 243,.ref 244,.int (522) 0,.int (168) 0,.str "/claim/cut.py" 523]⟩,⟨[]⟩⟩),
 (246,⟨.type "function",none,fnD (dX p 30) "_law_whole" "_law_whole" 3 [] (.none) (.none) (.none) (.str "law_uf060017_06" 508) none (.ref 245) (.none) 0,⟨[]⟩⟩),
 (247,⟨.type "tuple",none,.seq ⟨[]⟩ 0,⟨[]⟩⟩),
 (249,⟨.type "tuple",none,.seq ⟨[.str "_law_cell" 528,.str "_law_k" 529]⟩ 0,⟨[]⟩⟩),
 (250,⟨.type "tuple",none,.seq ⟨[]⟩ 0,⟨[]⟩⟩),
 (252,⟨.type "code",none,.fields ⟨[.str "_law_mixed" 525,.str "_law_mixed" 526,.str "/claim/cut.py" 527,.int (170) 0,.int (2) 0,.int (0) 0,.int (0) 0,.int (3) 0,.ref 247,.bool true,.int (181) 0,.ref 248,.none,.ref 249,.ref 250,.ref 251,.int (530) 0,.int (170) 0,.str "/claim/cut.py" 531]⟩,⟨[]⟩⟩),
 (253,⟨.type "function",none,fnD (dX p 31) "_law_mixed" "_law_mixed" 3 [] (.none) (.none) (.none) (.str "law_uf060017_06" 508) none (.ref 252) (.none) 0,⟨[]⟩⟩),
 (254,⟨.type "tuple",none,.seq ⟨[]⟩ 0,⟨[]⟩⟩),
 (256,⟨.type "tuple",none,.seq ⟨[.str "_law_number" 536]⟩ 0,⟨[]⟩⟩),
 (257,⟨.type "tuple",none,.seq ⟨[]⟩ 0,⟨[]⟩⟩),
 (259,⟨.type "code",none,.fields ⟨[.str "_law_delay_by" 533,.str "_law_delay_by" 534,.str "/claim/cut.py" 535,.int (172) 0,.int (1) 0,.int (0) 0,.int (0) 0,.int (3) 0,.ref 254,.bool true,.int (181) 0,.ref 255,.none,.ref 256,.ref 257,.ref 258,.int (537) 0,.int (172) 0,.str "/claim/cut.py" 538]⟩,⟨[]⟩⟩),
 (260,⟨.type "function",none,fnD (dX p 32) "_law_delay_by" "_law_delay_by" 3 [] (.none) (.none) (.none) (.str "law_uf060017_06" 508) none (.ref 259) (.none) 0,⟨[]⟩⟩),
 (261,⟨.type "tuple",none,.seq ⟨[]⟩ 0,⟨[]⟩⟩),
 (263,⟨.type "tuple",none,.seq ⟨[.str "_law_script" 543,.str "_law_cell" 544]⟩ 0,⟨[]⟩⟩),
 (264,⟨.type "tuple",none,.seq ⟨[]⟩ 0,⟨[]⟩⟩),
 (266,⟨.type "code",none,.fields ⟨[.str "_law_many" 540,.str "_law_many" 541,.str "/claim/cut.py" 542,.int (174) 0,.int (1) 0,.int (0) 0,.int (0) 0,.int (3) 0,.ref 261,.bool true,.int (181) 0,.ref 262,.none,.ref 263,.ref 264,.ref 265,.int (545) 0,.int (174) 0,.str "/claim/cut.py" 546]⟩,⟨[]⟩⟩),
 (267,⟨.type "function",none,fnD (dX p 33) "_law_many" "_law_many" 3 [] (.none) (.none) (.none) (.str "law_uf060017_06" 508) none (.ref 266) (.none) 0,⟨[]⟩⟩),
 (268,⟨.type "tuple",none,.seq ⟨[]⟩ 0,⟨[]⟩⟩),
 (270,⟨.type "tuple",none,.seq ⟨[.str "_law_script" 551,.str "_law_many_here" 552,.str "_law_order" 553,.str "_law_ways_here" 554,.str "_law_k" 555,.str "_law_number" 556,.str "_law_turn" 557]⟩ 0,⟨[]⟩⟩),
 (271,⟨.type "tuple",none,.seq ⟨[.str "_law_cell" 558]⟩ 0,⟨[]⟩⟩),
 (273,⟨.type "code",none,.fields ⟨[.str "_law_ways" 548,.str "_law_ways" 549,.str "/claim/cut.py" 550,.int (179) 0,.int (2) 0,.int (0) 0,.int (0) 0,.int (3) 0,.ref 268,.bool true,.int (181) 0,.ref 269,.none,.ref 270,.ref 271,.ref 272,.int (559) 0,.int (179) 0,.str "/claim/cut.py" 560]⟩,⟨[]⟩⟩),
 (274,⟨.type "function",none,fnD (dX p 34) "_law_ways" "_law_ways" 3 [] (.none) (.none) (.none) (.str "law_uf060017_06" 508) none (.ref 273) (.none) 0,⟨[]⟩⟩),
 (275,⟨.type "tuple",none,.seq ⟨[]⟩ 0,⟨[]⟩⟩),
 (278,⟨.type "code",none,.fields ⟨[.str "_law_list" 562,.str "_law_list" 563,.str "/claim/cut.py" 564,.int (195) 0,.int (3) 0,.int (0) 0,.int (0) 0,.int (3) 0,.ref 275,.bool true,.int (181) 0,.ref 276,.none,.none,.none,.ref 277,.int (565) 0,.int (195) 0,.str "/claim/cut.py" 566]⟩,⟨[]⟩⟩),
 (279,⟨.type "function",none,fnD (dX p 35) "_law_list" "_law_list" 3 [] (.none) (.none) (.none) (.str "law_uf060017_06" 508) none (.ref 278) (.none) 0,⟨[]⟩⟩),
 (280,⟨.type "tuple",none,.seq ⟨[]⟩ 0,⟨[]⟩⟩),
 (282,⟨.type "tuple",none,.seq ⟨[.str "_law_one" 571,.str "_law_other" 572,.str "_law_rest" 573]⟩ 0,⟨[]⟩⟩),
 (283,⟨.type "tuple",none,.seq ⟨[]⟩ 0,⟨[]⟩⟩),
 (285,⟨.type "code",none,.fields ⟨[.str "_law_common" 568,.str "_law_common" 569,.str "/claim/cut.py" 570,.int (215) 0,.int (2) 0,.int (0) 0,.int (0) 0,.int (3) 0,.ref 280,.bool true,.int (181) 0,.ref 281,.none,.ref 282,.ref 283,.ref 284,.int (574) 0,.int (215) 0,.str "/claim/cut.py" 575]⟩,⟨[]⟩⟩),
 (286,⟨.type "function",none,fnD (dX p 36) "_law_common" "_law_common" 3 [] (.none) (.none) (.none) (.str "law_uf060017_06" 508) none (.ref 285) (.none) 0,⟨[]⟩⟩),
 (287,⟨.type "tuple",none,.seq ⟨[]⟩ 0,⟨[]⟩⟩),
 (290,⟨.type "code",none,.fields ⟨[.str "_law_due" 577,.str "_law_due" 578,.str "/claim/cut.py" 579,.int (221) 0,.int (3) 0,.int (0) 0,.int (0) 0,.int (3) 0,.ref 287,.bool true,.int (181) 0,.ref 288,.none,.none,.none,.ref 289,.int (580) 0,.int (221) 0,.str "/claim/cut.py" 581]⟩,⟨[]⟩⟩),
 (291,⟨.type "function",none,fnD (dX p 37) "_law_due" "_law_due" 3 [] (.none) (.none) (.none) (.str "law_uf060017_06" 508) none (.ref 290) (.none) 0,⟨[]⟩⟩),
 (292,⟨.type "tuple",none,.seq ⟨[]⟩ 0,⟨[]⟩⟩),
 (295,⟨.type "code",none,.fields ⟨[.str "_law_words" 583,.str "_law_words" 584,.str "/claim/cut.py" 585,.int (234) 0,.int (1) 0,.int (0) 0,.int (0) 0,.int (3) 0,.ref 292,.bool true,.int (181) 0,.ref 293,.none,.none,.none,.ref 294,.int (586) 0,.int (234) 0,.str "/claim/cut.py" 587]⟩,⟨[]⟩⟩),
 (296,⟨.type "function",none,fnD (dX p 38) "_law_words" "_law_words" 3 [] (.none) (.none) (.none) (.str "law_uf060017_06" 508) none (.ref 295) (.none) 0,⟨[]⟩⟩),
 (297,⟨.type "tuple",none,.seq ⟨[]⟩ 0,⟨[]⟩⟩),
 (299,⟨.type "tuple",none,.seq ⟨[.str "_law_web" 592,.str "_law_ring" 593,.str "_law_e" 594]⟩ 0,⟨[]⟩⟩),
 (300,⟨.type "tuple",none,.seq ⟨[]⟩ 0,⟨[]⟩⟩),
 (302,⟨.type "code",none,.fields ⟨[.str "_law_told" 589,.str "_law_told" 590,.str "/claim/cut.py" 591,.int (242) 0,.int (2) 0,.int (0) 0,.int (0) 0,.int (3) 0,.ref 297,.bool true,.int (181) 0,.ref 298,.none,.ref 299,.ref 300,.ref 301,.int (595) 0,.int (242) 0,.str "/claim/cut.py" 596]⟩,⟨[]⟩⟩),
 (303,⟨.type "function",none,fnD (dX p 39) "_law_told" "_law_told" 3 [] (.none) (.none) (.none) (.str "law_uf060017_06" 508) none (.ref 302) (.none) 0,⟨[]⟩⟩),
 (304,⟨.type "tuple",none,.seq ⟨[]⟩ 0,⟨[]⟩⟩),
 (307,⟨.type "code",none,.fields ⟨[.str "_law_stirred" 598,.str "_law_stirred" 599,.str "/claim/cut.py" 600,.int (247) 0,.int (3) 0,.int (0) 0,.int (0) 0,.int (3) 0,.ref 304,.bool true,.int (181) 0,.ref 305,.none,.none,.none,.ref 306,.int (601) 0,.int (247) 0,.str "/claim/cut.py" 602]⟩,⟨[]⟩⟩),
 (308,⟨.type "function",none,fnD (dX p 40) "_law_stirred" "_law_stirred" 3 [] (.none) (.none) (.none) (.str "law_uf060017_06" 508) none (.ref 307) (.none) 0,⟨[]⟩⟩),
 (309,⟨.type "tuple",none,.seq ⟨[]⟩ 0,⟨[]⟩⟩),
 (312,⟨.type "code",none,.fields ⟨[.str "law" 604,.str "law" 605,.str "/claim/cut.py" 606,.int (269) 0,.int (1) 0,.int (0) 0,.int (0) 0,.int (3) 0,.ref 309,.bool true,.int (181) 0,.ref 310,.none,.none,.none,.ref 311,.int (607) 0,.int (269) 0,.str "/claim/cut.py" 608]⟩,⟨[]⟩⟩),
 (313,⟨.type "function",none,fnD (dX p 41) "law" "law" 3 [] (.none) (.none) (.none) (.str "law_uf060017_06" 508) none (.ref 312) (.none) 0,⟨[]⟩⟩)]
noncomputable def K06 (P:Params):Frag:=kOf PySem.Challenge.pw_uf060017_06 P
noncomputable def q06:Program:=view PySem.Challenge.pw_uf060017_06 [1,2,3,4,5,6,7,9,10,11,13,14,15,16,17,19,21,22,23,24,25,26,27,29,30,31,32,33,34,35,36,37,38,39,40,41]
theorem A3:∀ P,[2,3,15,22,23,24,25,28,35,36,37,40,47,48,49,52,59,60,61,64,71,72,73,76,83,84,85,88,95,96,97,100,102,103,105,106,107,109,110,112,113,114,116,117,119,120,121,123,124,126,127,128,130,131,133,134,135,137,138,140,141,142,145,146,147,149,150,152,153,154,157,158,159,161,162,164,165,166,168,169,171,172,173,176,177,185,187,188,190,191,192,194,195,197,198,199,202,203,204,207,208,209,212,213,214,216,217,219,220,221,224,225,226,227,228,229,230,233,235,236,238,239,240,242,243,245,246,247,249,250,252,253,254,256,257,259,260,261,263,264,266,267,268,270,271,273,274,275,278,279,280,282,283,285,286,287,290,291,292,295,296,297,299,300,302,303,304,307,308,309,312,313]=(K06 P).map (·.1):=fun _=>by kernel_rfl
noncomputable def hk06:Hook:=kmHook K06 [2,3,15,22,23,24,25,28,35,36,37,40,47,48,49,52,59,60,61,64,71,72,73,76,83,84,85,88,95,96,97,100,102,103,105,106,107,109,110,112,113,114,116,117,119,120,121,123,124,126,127,128,130,131,133,134,135,137,138,140,141,142,145,146,147,149,150,152,153,154,157,158,159,161,162,164,165,166,168,169,171,172,173,176,177,185,187,188,190,191,192,194,195,197,198,199,202,203,204,207,208,209,212,213,214,216,217,219,220,221,224,225,226,227,228,229,230,233,235,236,238,239,240,242,243,245,246,247,249,250,252,253,254,256,257,259,260,261,263,264,266,267,268,270,271,273,274,275,278,279,280,282,283,285,286,287,290,291,292,295,296,297,299,300,302,303,304,307,308,309,312,313] A3 [269]
noncomputable def xt06 (s:Shared):Bool:=xlAt q06 [] s && recOk (RowW.records PySem.Challenge.rw_uf060017_06.row.toRowW) s
theorem ws06:PySem.Challenge.rw_uf060017_06.wellSaid=true:=by
 rewrite [Fast.te9446332074065402090]
 kernel_rfl
theorem A6:opening PySem.Challenge.pw_uf060017_06=plainProg PySem.Challenge.pw_uf060017_06.main.scope.names:=by kernel_rfl
theorem Ba:∀ s,fenceModules? PySem.Challenge.pw_uf060017_06 s=some s:=fun _=>by kernel_rfl
theorem Ah : ∀ w : World, (fun os : OsState => (hdRun Fast.tw6613529449190102663 Fast.tw10156331382660048174 (Fast.tw11892475500146522536 Fast.tw14364793385576792824) PySem.Challenge.pw_uf060017_06 w 11 (some (.ref 6)) 5524 (hdBoot w os) (topStub PySem.Challenge.pw_uf060017_06)).map (fun s => (hdSee PySem.Challenge.pw_uf060017_06 Fast.tw5923862056798008813 (boot_heap w.params) s.abs.heap s.abs, Fast.tw4187177175401517315 q06 [] (Fast.tw5923862056798008813 PySem.Challenge.pw_uf060017_06.main.body) xt06 true s.abs, hk06.obs s.abs))) = fun _ => some (true, openGood q06 [], hk06.val w) := fun w => by kernel_rfl
theorem left06:LeftO PySem.Challenge.pw_uf060017_06 q06 [] xt06 hk06.obs hk06.val 5524:=j9 A6 (by decide) Ba Ah
end Mine
set_option genSizeOf false
set_option genInjectivity false
set_option bootstrap.genMatcherCode false
namespace Mine
set_option backward.match.sparseCases false
open PySem
inductive V where
 | none | bool (b:Bool) | int (i:Int) | str (s:Str) | tup (vs:List V) | ref (l:Nat) | rng (lo hi:Int) | exc (c:Nat)
inductive AO where
 | lst (vs:List V)
 | dI (es:List (Int × V))
 | dT (es:List (List Int × V))
 | inst (d:Nat)
 | att (es:List (Nat × V))
 | frz (vs:List V)
 | tab (used:Bool)
noncomputable abbrev Fra:=List (Option V)
noncomputable abbrev Sto:=List AO
inductive RE where
 | ok (v:V) (σ:Sto) | ex (x:Nat) (σ:Sto) | bad
inductive REs where
 | ok (vs:List V) (σ:Sto) | ex (x:Nat) (σ:Sto) | bad
inductive Fl where
 | next | brk | cont | ret (v:V)
inductive RS where
 | ok (f:Fl) (fr:Fra) (σ:Sto) | ex (x:Nat) (fr:Fra) (σ:Sto) | bad
noncomputable def RE.bind (r:RE) (k:V→Sto→RE):RE:=match r with | .ok v σ=>k v σ | _=>.bad
noncomputable def RE.binds (r:RE) (k:V→Sto→REs):REs:=match r with | .ok v σ=>k v σ | _=>.bad
noncomputable def REs.bind (r:REs) (k:List V→Sto→RE):RE:=match r with | .ok v σ=>k v σ | _=>.bad
noncomputable def REs.binds (r:REs) (k:List V→Sto→REs):REs:=match r with | .ok v σ=>k v σ | _=>.bad
noncomputable def RE.bindS (r:RE) (fr:Fra) (k:V→Sto→RS):RS:=match r with | .ok v σ=>k v σ | _=>.bad
noncomputable def RE.bindX (r:RE) (b:Bool) (fr:Fra) (k:V→Sto→RS):RS:=match r with | .ok v σ=>k v σ | .ex x σ=>(match b with | true=>.ex x fr σ | false=>.bad) | .bad=>.bad
theorem RE.binds_ok (v:V) (σ:Sto) (k):(RE.ok v σ).binds k=k v σ:=rfl
theorem REs.binds_ok (v:List V) (σ:Sto) (k):(REs.ok v σ).binds k=k v σ:=rfl
inductive BN where
 | len | max | min | list | tuple | all | int | range | setLen | revl
inductive MN where
 | append | pop | clear | extend | index
set_option genCtorIdx false in
inductive Ty where
 | int | bool | tuple | list | inst | exc (c:Nat) (ds:List Nat) | val (ds:List Nat)
set_option genCtorIdx false in
inductive KX where
 | num (i:Int) | par | var (i:Nat) | add (a b:KX) | mul (a b:KX) | mod (a b:KX)
set_option genCtorIdx false in
inductive E where
 | none | bool (b:Bool) | int (i:Int) | str (s:Str)
 | loc (i:Nat)
 | pow (a n:Nat)
 | neg (a:E) | not (a:E)
 | and (a b:E) | or (a b:E)
 | bin (op:Operator) (a b:E)
 | cmp (op:CmpOp) (a b:E)
 | cmp2 (o1 o2:CmpOp) (a b c:E)
 | sub (a i:E)
 | slo (a lo:E) | shi (a hi:E) | sst (a st:E)
 | attr (a:E) (x:Nat)
 | list (es:List E) | tup (es:List E)
 | dict0 | dict1 (k v:E)
 | call (f:Nat) (as:List E)
 | tcall (f:Nat) (as:List E)
 | mk (f:Nat) (as:List E)
 | meth (a:E) (x:MN) (as:List E)
 | umeth (a:E) (f:Nat) (as:List E)
 | blt (b:BN) (as:List E)
 | maxd (a:E)
 | isi (a:E) (t:Ty)
 | join (s:Str) (a:E)
 | srt (a:E) (key:KX)
 | comp (tg:List Nat) (one:Bool) (it:E) (conds:List E) (elt:E) (frm:List (Option Nat))
noncomputable def aN:E→Bool
 | .call _ _=>true | .mk _ _=>true | .umeth _ _ _=>true
 | _=>false
set_option genCtorIdx false in
inductive It where
 | e (a:E) | enum (a:E) | zip (a b:E)
set_option genCtorIdx false in
inductive S where
 | expr (a:E)
 | ret (a:E)
 | asg (i:Nat) (a:E)
 | asgT (is:List Nat) (a:E)
 | asgA (o:E) (x:Nat) (a:E)
 | asgI (o i a:E)
 | ifS (t:E) (b o:List S)
 | whileS (t:E) (b:List S)
 | forS (tg:List Nat) (one:Bool) (it:It) (b:List S)
 | raise (c:Nat)
 | tryS (b:List S) (ds:List Nat) (i:Nat) (h:List S)
 | pass
noncomputable def jJ (s:S):Option (List S × List Nat × Nat × List S):=match s with
 | .tryS b ds i h=>some (b,ds,i,h)
 | _=>none
noncomputable def getL (σ:Sto) (l:Nat):Option (List V):=match σ[l]? with | some (.lst xs)=>some xs | _=>none
noncomputable def cQ (xs:List V) (σ:Sto):RE:=if xs.length ≤ 16777216 then .ok (.ref σ.length) (σ ++ [.lst xs]) else .bad
noncomputable def cx (σ:Sto) (o:Option V):RE:=match o with | some v=>.ok v σ | none=>.bad
noncomputable def dY (σ:Sto) (o:Option Bool):RE:=match o with | some v=>.ok (.bool v) σ | none=>.bad
noncomputable abbrev nY (a b:Int):Prop:=a.natAbs < 2 ^ 64 ∨ b.natAbs < 2 ^ 64 ∨ (a.natAbs < 10 ^ 100 ∧ b.natAbs < 10 ^ 100)
noncomputable def wII (a b:V) (f:Int→Int→RE):RE:=match a with
 | .int x=>(match b with | .int y=>f x y | _=>.bad)
 | _=>.bad
noncomputable def AN (a b:V) (σ:Sto):RE:=match a with
 | .int x=>(match b with | .int y=>.ok (.int (x + y)) σ | _=>.bad)
 | .ref l=>(match b with
  | .ref k=>(match getL σ l with
   | some xs=>(match getL σ k with | some ys=>cQ (xs ++ ys) σ | none=>.bad)
   | none=>.bad)
  | _=>.bad)
 | .str x=>(match b with | .str y=>if x.length + y.length ≤ 1000 then .ok (.str (x ++ y)) σ else .bad | _=>.bad)
 | _=>.bad
noncomputable def yR (o:Option (List V)) (n:Int) (σ:Sto):RE:=match o with
 | some [x]=>if -1000000 ≤ n then cQ (List.replicate n.toNat x) σ else .bad
 | _=>.bad
noncomputable def AL (a b:V) (σ:Sto):RE:=match b with
 | .int n=>(match a with
  | .int x=>if nY x n then .ok (.int (x * n)) σ else .bad
  | .ref l=>yR (getL σ l) n σ
  | _=>.bad)
 | _=>.bad
noncomputable def oA (op:Operator) (a b:V) (σ:Sto):RE:=match op with
 | .Add=>AN a b σ
 | .Sub=>wII a b fun x y=>.ok (.int (x - y)) σ
 | .Mult=>AL a b σ
 | .FloorDiv=>wII a b fun x y=>if y ≠ 0 ∧ y.natAbs < 10 ^ 100 then .ok (.int (x.fdiv y)) σ else .bad
 | .Mod=>wII a b fun x y=>if y=0 then .bad else .ok (.int (x.fmod y)) σ
 | _=>.bad
noncomputable def aP {α β:Type} (f:α→Option β):List α→Option (List β)
 | []=>some []
 | x :: xs=>match f x,aP f xs with | some y,some ys=>some (y :: ys) | _,_=>none
theorem dC {α β:Type}{f:α→Option β}:aP f []=some []:=rfl
theorem kc {α β:Type}{f:α→Option β}{x:α}{xs:List α}:aP f (x :: xs)=match f x,aP f xs with | some y,some ys=>some (y :: ys) | _,_=>none:=rfl
noncomputable def yA:V→Option Int | .int i=>some i | _=>none
noncomputable def aB (xs:List V):Option (List Int):=aP yA xs
noncomputable def AX (f:V→Option PyData) (σ:Sto) (v:V):Option PyData:=match v with
 | .none=>some .none
 | .bool b=>some (.bool b)
 | .int i=>some (.int i)
 | .str s=>if PyData.strOk s then some (.str s) else none
 | .tup vs=>(aP f vs).map .tuple
 | .ref l=>(match getL σ l with | some vs=>(aP f vs).map .list | none=>none)
 | .rng _ _=>none
 | .exc _=>none
noncomputable def toD:Nat→Sto→V→Option PyData
 | 0=>fun _ _=>none
 | n + 1=>fun σ=>AX (toD n σ) σ
noncomputable def eqV (σ:Sto) (a b:V):Option Bool:=match toD 5 σ a,toD 5 σ b with | some x,some y=>some (PyData.eqv x y) | _,_=>none
noncomputable def isNone:V→Bool | .none=>true | _=>false
noncomputable def inO (o:Option AO) (x:V):Option Bool:=match o with
 | some o=>(match o with
  | .lst vs=>(match x with | .int i=>(aB vs).map fun is=>decide (i ∈ is) | _=>none)
  | .dI es=>(match x with | .int i=>some (es.any fun e=>e.1 == i) | _=>none)
  | .dT es=>(match x with | .tup ks=>(aB ks).map fun k=>es.any fun e=>e.1 == k | _=>none)
  | _=>none)
 | none=>none
noncomputable def inV (σ:Sto) (x c:V):Option Bool:=match c with
 | .ref l=>inO σ[l]? x
 | _=>none
noncomputable def iG (σ:Sto) (x c:V):Option Bool:=match x with
 | .int _=>(inV σ x c).map (!·)
 | _=>none
noncomputable def gP (op:CmpOp) (a b:V) (σ:Sto):Option Bool :=
 match op with
 | .Lt=>(match a,b with | .int x,.int y=>some (decide (x < y)) | _,_=>none)
 | .LtE=>(match a,b with | .int x,.int y=>some (decide (x ≤ y)) | _,_=>none)
 | .Gt=>(match a,b with | .int x,.int y=>some (decide (y < x)) | _,_=>none)
 | .GtE=>(match a,b with | .int x,.int y=>some (decide (y ≤ x)) | _,_=>none)
 | .Eq=>(match a,b with | .int x,.int y=>some (x == y) | _,_=>eqV σ a b)
 | .NotEq=>(match a,b with | .int x,.int y=>some (x != y) | _,_=>(eqV σ a b).map (!·))
 | .Is=>(match b with | .none=>some (isNone a) | _=>none)
 | .IsNot=>(match b with | .none=>some (!isNone a) | _=>none)
 | .In=>inV σ a b
 | .NotIn=>iG σ a b
noncomputable def nE (xs:List V) (k:Int):Option V :=
 if 0 ≤ k then xs[k.toNat]? else if -(xs.length:Int) ≤ k then xs[(k + xs.length).toNat]? else none
noncomputable def AV (o:Option AO) (i:V):Option V:=match o with
 | some o=>(match o with
  | .lst vs=>(match i with | .int k=>nE vs k | _=>none)
  | .frz vs=>(match i with | .int k=>nE vs k | _=>none)
  | .dI es=>(match i with | .int k=>es.lookup k | _=>none)
  | .dT es=>(match i with | .tup ks=>(aB ks).bind fun k=>es.lookup k | _=>none)
  | _=>none)
 | none=>none
noncomputable def lf (a i:V) (σ:Sto):Option V:=match a with
 | .tup vs=>(match i with | .int k=>nE vs k | _=>none)
 | .ref l=>AV σ[l]? i
 | _=>none
noncomputable def sz (a:V) (σ:Sto):Option Int:=match a with
 | .tup vs=>some vs.length
 | .ref l=>(match σ[l]? with | some (.lst vs)=>some vs.length | some (.frz vs)=>some vs.length | some (.dI es)=>some es.length | _=>none)
 | _=>none
noncomputable def tyK (a:V) (σ:Sto):Option Nat:=match a with
 | .int _=>some 0 | .bool _=>some 1 | .str _=>some 2 | .tup _=>some 3 | .ref l=>(getL σ l).map fun _=>4 | _=>none
noncomputable def zt (a:V) (ds:List Nat) (f:Nat→Bool):Option Bool:=match a with
 | .exc d=>if ds.contains d then some (f d) else none
 | _=>none
noncomputable def uL (t:Ty) (a:V) (σ:Sto):Option Bool:=match t with
 | .int=>(tyK a σ).map fun k=>k == 0 || k == 1
 | .bool=>(tyK a σ).map fun k=>k == 1
 | .tuple=>(tyK a σ).map fun k=>k == 3
 | .list=>(tyK a σ).map fun k=>k == 4
 | .inst=>(match a with | .ref l=>(match σ[l]? with | some (.inst _)=>some true | _=>none) | _=>none)
 | .exc c ds=>zt a ds fun d=>d == c
 | .val ds=>zt a ds fun _=>true
noncomputable def gV:List Int→Option Int
 | []=>none
 | x :: xs=>some (xs.foldl (fun a b=>if a < b then b else a) x)
noncomputable def wS:List Int→Option Int
 | []=>none
 | x :: xs=>some (xs.foldl (fun a b=>if b < a then b else a) x)
noncomputable def iw (lo hi:Int):List V:=(List.range (hi - lo).toNat).map fun (k:Nat)=>V.int (lo + (k:Int))
noncomputable def u9:List V→Option Bool
 | []=>some true
 | .bool b :: r=>(match u9 r with | some c=>some (b && c) | none=>none)
 | _=>none
noncomputable def eE (is:List Int):List Int:=is.foldl (fun acc v=>if acc.any (· == v) then acc else acc ++ [v]) []
noncomputable def AS (as:List V) (σ:Sto):RE:=match as with
 | [a]=>cx σ ((sz a σ).map V.int)
 | _=>.bad
noncomputable def o6 (f:List Int→Option Int) (as:List V) (σ:Sto):RE:=match as with
 | [.ref l]=>cx σ ((((getL σ l).bind aB).bind f).map V.int)
 | _=>.bad
noncomputable def AR (as:List V) (σ:Sto):RE:=match as with
 | [a,b]=>(match a with
  | .int x=>(match b with | .int y=>.ok (.int (if x < y then y else x)) σ | _=>.bad)
  | _=>.bad)
 | _=>o6 gV as σ
noncomputable def yu (as:List V) (σ:Sto):RE:=match as with
 | [a]=>(match a with
  | .ref l=>(match getL σ l with | some xs=>cQ xs σ | none=>.bad)
  | .rng lo hi=>cQ (iw lo hi) σ
  | _=>.bad)
 | _=>.bad
noncomputable def uz (as:List V) (σ:Sto):RE:=match as with
 | [a]=>(match a with
  | .ref l=>(match getL σ l with | some xs=>.ok (.tup xs) σ | none=>.bad)
  | _=>.bad)
 | _=>.bad
noncomputable def AP (as:List V) (σ:Sto):RE:=match as with
 | [a]=>(match a with
  | .ref l=>cx σ (((getL σ l).bind u9).map V.bool)
  | _=>.bad)
 | _=>.bad
noncomputable def A2 (as:List V) (σ:Sto):RE:=match as with
 | [a]=>(match a with | .bool b=>.ok (.int (if b then 1 else 0)) σ | _=>.bad)
 | _=>.bad
noncomputable def yX (a b:Int) (σ:Sto):RE:=if -1000000 ≤ a ∧ a ≤ 1000000 ∧ -1000000 ≤ b ∧ b ≤ 1000000 then .ok (.rng a b) σ else .bad
noncomputable def uM (as:List V) (σ:Sto):RE:=match as with
 | [a]=>(match a with | .int n=>yX 0 n σ | _=>.bad)
 | [a,b]=>(match a with | .int x=>(match b with | .int y=>yX x y σ | _=>.bad) | _=>.bad)
 | _=>.bad
noncomputable def xC (as:List V) (σ:Sto):RE:=match as with
 | [a]=>(match a with
  | .ref l=>(match (getL σ l).bind aB with | some is=>if is.length ≤ 1000 then .ok (.int (eE is).length) σ else .bad | none=>.bad)
  | _=>.bad)
 | _=>.bad
noncomputable def xN (as:List V) (σ:Sto):RE:=match as with
 | [a]=>(match a with
  | .ref l=>(match getL σ l with | some xs=>cQ xs.reverse σ | none=>.bad)
  | _=>.bad)
 | _=>.bad
noncomputable def gQ (b:BN) (as:List V) (σ:Sto):RE:=match b with
 | .len=>AS as σ
 | .max=>AR as σ
 | .min=>o6 wS as σ
 | .list=>yu as σ
 | .tuple=>uz as σ
 | .all=>AP as σ
 | .int=>A2 as σ
 | .range=>uM as σ
 | .setLen=>xC as σ
 | .revl=>xN as σ
noncomputable def dw (σ:Sto) (l:Nat) (xs:List V):Sto:=σ.set l (.lst xs)
noncomputable def mU (k:Int) (v:V):List (Int × V)→List (Int × V)
 | []=>[(k,v)]
 | e :: r=>if e.1 == k then (e.1,v) :: r else e :: mU k v r
theorem putI_n {k:Int}{v:V}:mU k v []=[(k,v)]:=rfl
theorem mc {k:Int}{v:V}{e:Int × V}{r:List (Int × V)}:mU k v (e :: r)=if e.1 == k then (e.1,v) :: r else e :: mU k v r:=rfl
noncomputable def ly (k:List Int) (v:V):List (List Int × V)→List (List Int × V)
 | []=>[(k,v)]
 | e :: r=>if e.1 == k then (e.1,v) :: r else e :: ly k v r
theorem putT_n {k:List Int}{v:V}:ly k v []=[(k,v)]:=rfl
theorem mh {k:List Int}{v:V}{e:List Int × V}{r:List (List Int × V)}:ly k v (e :: r)=if e.1 == k then (e.1,v) :: r else e :: ly k v r:=rfl
abbrev sh (i:Int) (is:List Int):Prop:=i ∈ is ∧ is.length ≤ 1000 ∧ ∀ j ∈ is,j.natAbs < 1024
noncomputable def dA (x:MN) (l:Nat) (xs:List V) (as:List V) (σ:Sto):RE:=match x with
 | .append=>(match as with | [v]=>if xs.length < 16777216 then .ok .none (dw σ l (xs ++ [v])) else .bad | _=>.bad)
 | .pop=>(match as with | []=>(match xs.getLast? with | some v=>.ok v (dw σ l xs.dropLast) | none=>.bad) | _=>.bad)
 | .clear=>(match as with | []=>.ok .none (dw σ l []) | _=>.bad)
 | .extend=>(match as with
  | [v]=>(match v with
   | .ref k=>(match getL σ k with | some ys=>if xs.length + ys.length ≤ 16777216 ∧ k ≠ l then .ok .none (dw σ l (xs ++ ys)) else .bad | none=>.bad)
   | _=>.bad)
  | _=>.bad)
 | .index=>(match as with
  | [v]=>(match v with
   | .int i=>(match aB xs with | some is=>if sh i is then .ok (.int (is.idxOf i)) σ else .bad | none=>.bad)
   | _=>.bad)
  | _=>.bad)
noncomputable def yW (v:V) (σ:Sto) (f:Nat→List V→RE):RE:=match v with
 | .ref l=>(match getL σ l with | some xs=>f l xs | none=>.bad)
 | _=>.bad
noncomputable def sb (v:V) (σ:Sto) (r:RE):RE:=match v with
 | .ref l=>(match σ[l]? with
  | some o=>(match o with
   | .inst d=>(match σ[d]? with | some o=>(match o with | .att _=>r | _=>.bad) | none=>.bad)
   | _=>.bad)
  | none=>.bad)
 | _=>.bad
noncomputable def AH (o:Option AO) (l:Nat) (i v:V) (σ:Sto):Option Sto:=match o with
 | some o=>(match o with
  | .lst xs=>(match i with | .int k=>if 0 ≤ k ∧ k < xs.length then some (dw σ l (xs.set k.toNat v)) else none | _=>none)
  | .dI es=>(match i with | .int k=>if es.length < 1000000 then some (σ.set l (.dI (mU k v es))) else none | _=>none)
  | .dT es=>(match i with | .tup ks=>(aB ks).bind fun k=>if es.length < 1000000 then some (σ.set l (.dT (ly k v es))) else none | _=>none)
  | _=>none)
 | none=>none
noncomputable def dz (a i v:V) (σ:Sto):Option Sto:=match a with
 | .ref l=>AH σ[l]? l i v σ
 | _=>none
noncomputable def sB (k:Nat) (v:V):List (Nat × V)→List (Nat × V)
 | []=>[(k,v)]
 | e :: r=>if e.1 == k then (e.1,v) :: r else e :: sB k v r
theorem yb {k:Nat}{v:V}:sB k v []=[(k,v)]:=rfl
theorem ug {k:Nat}{v:V}{e:Nat × V}{r:List (Nat × V)}:sB k v (e :: r)=if e.1 == k then (e.1,v) :: r else e :: sB k v r:=rfl
noncomputable def jb (a:V) (x:Nat) (σ:Sto):Option V:=match a with
 | .ref l=>(match σ[l]? with
  | some (.inst d)=>(match σ[d]? with | some (.att es)=>es.lookup x | _=>none)
  | _=>none)
 | _=>none
noncomputable def dq (a:V) (x:Nat) (v:V) (σ:Sto):Option Sto:=match a with
 | .ref l=>(match σ[l]? with
  | some (.inst d)=>(match σ[d]? with | some (.att es)=>if es.length < 100 then some (σ.set d (.att (sB x v es))) else none | _=>none)
  | _=>none)
 | _=>none
noncomputable def bw (tg:List Nat) (one:Bool) (v:V) (fr:Fra):Option Fra :=
 if one then (match tg with | [i]=>if i < fr.length then some (fr.set i (some v)) else none | _=>none)
 else match v with
  | .tup vs=>if vs.length=tg.length ∧ tg.all (· < fr.length) then some ((tg.zip vs).foldl (fun f p=>f.set p.1 (some p.2)) fr) else none
  | _=>none
noncomputable def dU (fr:Fra) (frm:List (Option Nat)):Fra:=frm.map fun o=>match o with | some j=>(fr[j]?).join | none=>none
noncomputable def oz {α:Type} (p:Int × α):List (Int × α)→List (Int × α)
 | []=>[p]
 | q :: r=>if p.1 < q.1 then p :: q :: r else q :: oz p r
theorem ue {α:Type}{p q:Int × α}{r:List (Int × α)}:oz p (q :: r)=if p.1 < q.1 then p :: q :: r else q :: oz p r:=rfl
noncomputable def fJ {α:Type}:List (Int × α)→List (Int × α)
 | []=>[]
 | p :: r=>oz p (fJ r)
noncomputable def kxV (fr:Fra) (x:Int):KX→Option Int
 | .num i=>some i
 | .par=>some x
 | .var i=>(match fr[i]? with | some (some (.int v))=>some v | _=>none)
 | .add a b=>(kxV fr x a).bind fun p=>(kxV fr x b).map fun q=>p + q
 | .mul a b=>(kxV fr x a).bind fun p=>(kxV fr x b).bind fun q=>if nY p q then some (p * q) else none
 | .mod a b=>(kxV fr x a).bind fun p=>(kxV fr x b).bind fun q=>if q ≠ 0 then some (p.fmod q) else none
noncomputable def ze (ks:Option (List Int)) (hi:Int) (σ:Sto):RE:=match ks with
 | some ks=>if ks.Nodup then cQ ((fJ (ks.zip (iw 0 hi))).map (·.2)) (σ.set 1 (.tab true)) else .bad
 | none=>.bad
noncomputable def zF (o:Option AO) (r:RE):RE:=match o with
 | some (.tab false)=>r
 | _=>.bad
noncomputable def yZ (key:KX) (fr:Fra) (v:V) (σ:Sto):RE:=match v with
 | .rng lo hi=>if lo=0 ∧ hi < 60 then zF σ[1]? (ze (aP (fun (j:Nat)=>kxV fr (j:Int) key) (List.range hi.toNat)) hi σ) else .bad
 | _=>.bad
inductive Src where
 | live (l:Nat) | tup (vs:List V) | rng (lo hi:Int)
 | enum (l:Nat)
noncomputable def a8 (σ:Sto) (i:Nat) (src:Src):Option (Option V):=match src with
 | .live l=>(getL σ l).map fun xs=>xs[i]?
 | .tup vs=>some vs[i]?
 | .rng lo hi=>some (iw lo hi)[i]?
 | .enum l=>(getL σ l).map fun xs=>xs[i]?.map fun v=>V.tup [.int (i:Nat),v]
noncomputable def gK (v:V):Option Src:=match v with
 | .ref l=>some (.live l) | .tup vs=>some (.tup vs) | .rng lo hi=>some (.rng lo hi) | _=>none
noncomputable def nV (σ:Sto) (src:Src):Option Nat:=match src with
 | .live l=>(getL σ l).map List.length
 | .tup vs=>some vs.length
 | .rng lo hi=>some (hi - lo).toNat
 | .enum l=>(getL σ l).map List.length
noncomputable def xD (v:V):Option Src:=match v with | .ref l=>some (.enum l) | _=>none
noncomputable def jY {α β:Type} (o:Option α) (bad:β) (k:α→β):β:=match o with | none=>bad | some x=>k x
noncomputable def kE {α:Type} (o:Option (Option V)) (bad fin:α) (k:V→α):α:=jY o bad fun o=>jY o fin k
noncomputable def wo {α:Type} (o:Option Src) (σ:Sto) (bad:α) (f:Src→Nat→α):α:=jY o bad fun src=>jY (nV σ src) bad fun n=>f src (n + 1)
noncomputable def zG {α:Type} (v:V) (σ:Sto) (bad:α) (f:Src→Nat→α):α:=wo (gK v) σ bad f
noncomputable def RE.opt {α:Type} (r:RE) (k:V→Sto→Option α):Option α:=match r with | .ok v σ=>k v σ | _=>none
noncomputable def xw {α:Type} (c:V) (a b:Option α):Option α:=match c with | .bool p=>(match p with | true=>a | false=>b) | _=>none
theorem fR {α β:Type}{o:Option α}{bad z:β}{k:α→β}{G:Prop} (e:jY o bad k=z) (hb:o=none→bad=z→G) (h:∀ x,o=some x→k x=z→G):G :=
 Option.casesOn (motive:=fun t=>o=t→jY t bad k=z→G) o hb h rfl e
noncomputable def nN (r:RS):RS:=match r with | .ok f fr σ=>.ok f fr σ | _=>.bad
theorem eC {r:RS}{f:Fl}{fr:Fra} {σ:Sto} (e:nN r=.ok f fr σ):r=.ok f fr σ:=RS.casesOn (motive:=fun r=>nN r=.ok f fr σ→r=.ok f fr σ) r (fun _ _ _ h=>h) (fun _ _ _ h=>nomatch h) (fun h=>nomatch h) e
theorem gB {r:RS}{x:Nat}{fr:Fra} {σ:Sto}{P:Prop} (e:nN r=.ex x fr σ):P:=RS.casesOn (motive:=fun r=>nN r=.ex x fr σ→P) r (fun _ _ _ h=>nomatch h) (fun _ _ _ h=>nomatch h) (fun h=>nomatch h) e
theorem dc {r:RS}{f:Fl}{fr:Fra} {σ:Sto} (e:r=.ok f fr σ):nN r=.ok f fr σ:=by rw [e]; rfl
noncomputable def noX (r:RE):RE:=match r with | .ok v σ=>.ok v σ | _=>.bad
noncomputable def vv (xs:List V) (σ:Sto):RE:=match xs with
 | [.str x]=>.ok (.str x) σ
 | _=>.bad
section
variable (call:Nat→List V→Sto→RE)
noncomputable def dS (ts:List (Fra→Sto→RE)) (fr:Fra) (σ:Sto):RE:=match ts with
 | []=>.ok (.bool true) σ
 | t :: r=>(t fr σ).bind fun v σ=>match v with | .bool true=>dS r fr σ | .bool false=>.ok (.bool false) σ | _=>.bad
theorem wu {t:Fra→Sto→RE}{r:List (Fra→Sto→RE)}{fr:Fra} {σ:Sto}:dS (t :: r) fr σ=(t fr σ).bind fun v σ=>match v with | .bool true=>dS r fr σ | .bool false=>.ok (.bool false) σ | _=>.bad:=rfl
noncomputable def l5 (tg:List Nat) (one:Bool) (cond elt:Fra→Sto→RE) (v:V) (fr:Fra) (σ:Sto) (acc:List V):Option (Fra × List V × Sto) :=
 (bw tg one v fr).bind fun fr=>(cond fr σ).opt fun c τ=>xw c ((elt fr τ).opt fun y υ=>some (fr,acc ++ [y],υ)) (some (fr,acc,τ))
noncomputable def d6 (tg:List Nat) (one:Bool) (cond elt:Fra→Sto→RE) (src:Src):Nat→Nat→Fra→Sto→List V→REs
 | 0,_,_,_,_=>.bad
 | n + 1,i,fr,σ,acc=>kE (a8 σ i src) .bad (.ok acc σ) fun v=>jY (l5 tg one cond elt v fr σ acc) .bad fun t=>d6 tg one cond elt src n (i + 1) t.1 t.2.2 t.2.1
mutual
noncomputable def evE:E→Fra→Sto→RE
 | .none=>fun _ σ=>.ok .none σ
 | .bool b=>fun _ σ=>.ok (.bool b) σ
 | .int i=>fun _ σ=>.ok (.int i) σ
 | .str s=>fun _ σ=>.ok (.str s) σ
 | .loc i=>fun fr σ=>match fr[i]? with | some (some v)=>.ok v σ | _=>.bad
 | .pow a n=>fun _ σ=>.ok (.int ((a:Int) ^ n)) σ
 | .neg a=>fun fr σ=>(evE a fr σ).bind fun v σ=>match v with | .int i=>.ok (.int (-i)) σ | _=>.bad
 | .not a=>fun fr σ=>(evE a fr σ).bind fun v σ=>match v with | .bool b=>.ok (.bool (!b)) σ | _=>.bad
 | .and a b=>fun fr σ=>(evE a fr σ).bind fun v σ=>match v with | .bool true=>evE b fr σ | .bool false=>.ok (.bool false) σ | _=>.bad
 | .or a b=>fun fr σ=>(evE a fr σ).bind fun v σ=>match v with | .bool false=>evE b fr σ | .bool true=>.ok (.bool true) σ | _=>.bad
 | .bin op a b=>fun fr σ=>(evE a fr σ).bind fun x σ=>(evE b fr σ).bind fun y σ=>oA op x y σ
 | .cmp op a b=>fun fr σ=>(evE a fr σ).bind fun x σ=>(evE b fr σ).bind fun y σ=>dY σ (gP op x y σ)
 | .cmp2 o1 o2 a b c=>fun fr σ=>(evE a fr σ).bind fun x σ=>(evE b fr σ).bind fun y σ=>match gP o1 x y σ with
   | some true=>(evE c fr σ).bind fun z σ=>dY σ (gP o2 y z σ)
   | some false=>.ok (.bool false) σ
   | none=>.bad
 | .sub a i=>fun fr σ=>(evE a fr σ).bind fun x σ=>(evE i fr σ).bind fun y σ=>cx σ (lf x y σ)
 | .slo a lo=>fun fr σ=>(evE a fr σ).bind fun x σ=>(evE lo fr σ).bind fun y σ=>match x,y with
   | .ref l,.int k=>(match getL σ l with | some xs=>if 0 ≤ k then cQ (xs.drop k.toNat) σ else .bad | none=>.bad)
   | _,_=>.bad
 | .shi a hi=>fun fr σ=>(evE a fr σ).bind fun x σ=>(evE hi fr σ).bind fun y σ=>match x,y with
   | .ref l,.int k=>(match getL σ l with | some xs=>if 0 ≤ k then cQ (xs.take k.toNat) σ else .bad | none=>.bad)
   | _,_=>.bad
 | .sst a st=>fun fr σ=>(evE a fr σ).bind fun x σ=>(evE st fr σ).bind fun y σ=>match x,y with
   | .ref l,.int k=>(match getL σ l with | some xs=>if k=1 then cQ xs σ else if k=-1 then cQ xs.reverse σ else .bad | none=>.bad)
   | _,_=>.bad
 | .attr a x=>fun fr σ=>(evE a fr σ).bind fun v σ=>cx σ (jb v x σ)
 | .list es=>fun fr σ=>(cE es fr σ).bind fun vs σ=>cQ vs σ
 | .tup es=>fun fr σ=>(cE es fr σ).bind fun vs σ=>if vs.length ≤ 1000 then .ok (.tup vs) σ else .bad
 | .dict0=>fun _ σ=>.ok (.ref σ.length) (σ ++ [.dT []])
 | .dict1 k v=>fun fr σ=>(evE k fr σ).bind fun x σ=>(evE v fr σ).bind fun y σ=>match x with
   | .int i=>.ok (.ref σ.length) (σ ++ [.dI [(i,y)]])
   | _=>.bad
 | .call f as=>fun fr σ=>(cE as fr σ).bind fun vs σ=>call f vs σ
 | .tcall f as=>fun fr σ=>(cE as fr σ).bind fun vs σ=>noX (call f vs σ)
 | .mk f as=>fun fr σ=>(cE as fr σ).bind fun vs σ =>
   match call f (.ref (σ.length + 1) :: vs) (σ ++ [.att [],.inst σ.length]) with
   | .ok .none σ'=>.ok (.ref (σ.length + 1)) σ'
   | .ok _ _=>.bad
   | .ex x σ'=>.ex x σ'
   | .bad=>.bad
 | .meth a x as=>fun fr σ=>(evE a fr σ).bind fun v σ=>yW v σ fun _ _=>(cE as fr σ).bind fun vs σ=>yW v σ fun l xs=>dA x l xs vs σ
 | .umeth a f as=>fun fr σ=>(evE a fr σ).bind fun v σ=>sb v σ ((cE as fr σ).bind fun vs σ=>call f (v :: vs) σ)
 | .blt b as=>fun fr σ=>(cE as fr σ).bind fun vs σ=>gQ b vs σ
 | .maxd a=>fun fr σ=>(evE a fr σ).bind fun v σ=>match v with
   | .ref l=>(match (getL σ l).bind aB with | some []=>.ok .none σ | some is=>cx σ ((gV is).map V.int) | none=>.bad)
   | _=>.bad
 | .isi a t=>fun fr σ=>(evE a fr σ).bind fun v σ=>dY σ (uL t v σ)
 | .join _ a=>fun fr σ=>(evE a fr σ).bind fun v σ=>yW v σ fun _ xs=>vv xs σ
 | .srt a key=>fun fr σ=>(evE a fr σ).bind fun v σ=>yZ key fr v σ
 | .comp tg one it conds elt frm=>fun fr σ=>(evE it fr σ).bind fun v σ=>(zG v σ REs.bad fun src n=>d6 tg one (dS (la conds)) (evE elt) src n 0 (dU fr frm) σ []).bind fun ys σ=>cQ ys σ
noncomputable def cE:List E→Fra→Sto→REs
 | []=>fun _ σ=>.ok [] σ
 | e :: es=>fun fr σ=>(evE e fr σ).binds fun v σ=>(cE es fr σ).binds fun vs σ=>.ok (v :: vs) σ
noncomputable def la:List E→List (Fra→Sto→RE)
 | []=>[]
 | e :: es=>evE e :: la es
end
theorem w3 {e:E}{es:List E}:la call (e :: es)=evE call e :: la call es:=rfl
noncomputable def rV (r:RS) (k:Fra→Sto→RS):RS:=match r with
 | .ok f fr σ=>(match f with | .next=>k fr σ | .cont=>k fr σ | .brk=>.ok .next fr σ | .ret v=>.ok (.ret v) fr σ)
 | .ex x fr σ=>.ex x fr σ
 | .bad=>.bad
noncomputable def cS (test:Fra→Sto→RE) (body:Fra→Sto→RS):Nat→Fra→Sto→RS
 | 0,_,_=>.bad
 | n + 1,fr,σ=>(test fr σ).bindS fr fun v σ=>match v with
  | .bool b=>(match b with | false=>.ok .next fr σ | true=>rV (body fr σ) (cS test body n))
  | _=>.bad
noncomputable def kS (tg:List Nat) (one:Bool) (body:Fra→Sto→RS) (src:Src):Nat→Nat→Fra→Sto→RS
 | 0,_,_,_=>.bad
 | n + 1,i,fr,σ=>kE (a8 σ i src) .bad (.ok .next fr σ) fun v=>jY (bw tg one v fr) .bad fun fr=>rV (body fr σ) (kS tg one body src n (i + 1))
variable (wf:Nat)
mutual
noncomputable def evS:S→Fra→Sto→RS
 | .expr a=>fun fr σ=>(evE call a fr σ).bindX (aN a) fr fun _ σ=>.ok .next fr σ
 | .ret a=>fun fr σ=>(evE call a fr σ).bindX (aN a) fr fun v σ=>.ok (.ret v) fr σ
 | .asg i a=>fun fr σ=>(evE call a fr σ).bindX (aN a) fr fun v σ=>if i < fr.length then .ok .next (fr.set i (some v)) σ else .bad
 | .asgT is a=>fun fr σ=>nN ((evE call a fr σ).bindS fr fun v σ=>match bw is false v fr with | some fr=>.ok .next fr σ | none=>.bad)
 | .asgA o x a=>fun fr σ=>nN ((evE call a fr σ).bindS fr fun v σ=>(evE call o fr σ).bindS fr fun w σ=>match dq w x v σ with
   | some σ=>.ok .next fr σ | none=>.bad)
 | .asgI o i a=>fun fr σ=>nN ((evE call a fr σ).bindS fr fun v σ=>(evE call o fr σ).bindS fr fun w σ=>(evE call i fr σ).bindS fr fun k σ=>match dz w k v σ with
   | some σ=>.ok .next fr σ | none=>.bad)
 | .ifS t b o=>fun fr σ=>(evE call t fr σ).bindS fr fun v σ=>match v with
   | .bool true=>evSs b fr σ | .bool false=>evSs o fr σ | _=>.bad
 | .whileS t b=>fun fr σ=>nN (cS (evE call t) (evSs b) wf fr σ)
 | .forS tg one it b=>fun fr σ=>match it with
   | .e a=>(evE call a fr σ).bindS fr fun v σ=>zG v σ RS.bad fun src n=>kS tg one (evSs b) src n 0 fr σ
   | .enum a=>nN ((evE call a fr σ).bindS fr fun v σ=>wo (xD v) σ RS.bad fun src n=>kS tg one (evSs b) src n 0 fr σ)
   | _=>.bad
 | .raise c=>fun fr σ=>.ex c fr σ
 | .tryS _ _ _ _=>fun _ _=>.bad
 | .pass=>fun fr σ=>.ok .next fr σ
noncomputable def evSs:List S→Fra→Sto→RS
 | []=>fun fr σ=>.ok .next fr σ
 | s :: ss=>fun fr σ=>match evS s fr σ with
  | .ok .next fr σ=>evSs ss fr σ
  | r=>r
end
end
section
variable (call callH:Nat→List V→Sto→RE) (wf:Nat)
noncomputable def evT:List S→Fra→Sto→RS
 | [],fr,σ=>.ok .next fr σ
 | s :: ss,fr,σ=>match jJ s with
  | some t=>(match evSs call wf t.1 fr σ with
   | .ok f fr σ=>(match f with | .next=>evT ss fr σ | f=>.ok f fr σ)
   | .ex x fr σ=>if t.2.1.contains x ∧ t.2.2.1 < fr.length then (match evSs callH wf t.2.2.2 (fr.set t.2.2.1 (some (.exc x))) σ with
    | .ok f fr σ=>(match f with | .next=>evT ss (fr.set t.2.2.1 none) σ | f=>.ok f (fr.set t.2.2.1 none) σ)
    | _=>.bad) else .bad
   | .bad=>.bad)
  | none=>(match evS call wf s fr σ with
   | .ok f fr σ=>(match f with | .next=>evT ss fr σ | f=>.ok f fr σ)
   | _=>.bad)
end
structure Fn where
 ps:List Nat
 size:Nat
 body:List S
noncomputable def nD:List Nat→List V→Fra→Fra
 | p :: ps,v :: vs,fr=>nD ps vs (fr.set p (some v))
 | _,_,fr=>fr
theorem qK {p:Nat}{ps:List Nat}{v:V}{vs:List V}{fr:Fra}:nD (p :: ps) (v :: vs) fr=nD ps vs (fr.set p (some v)):=rfl
noncomputable def aW (f:Fn) (vs:List V):Fra:=nD f.ps vs (List.replicate f.size none)
noncomputable def sR (r:RS):RE:=match r with
 | .ok f _ σ=>(match f with | .ret v=>.ok v σ | .next=>.ok .none σ | _=>.bad)
 | .ex x _ σ=>.ex x σ
 | .bad=>.bad
noncomputable def evFn (P:Nat→Option Fn) (wf:Nat):Nat→Nat→List V→Sto→RE
 | 0,_,_,_=>.bad
 | n + 1,f,vs,σ=>match P f with
  | none=>.bad
  | some fn=>if vs.length=fn.ps.length then sR (evSs (evFn P wf n) wf fn.body (aW fn vs) σ) else .bad
theorem uP {P:Nat→Option Fn}{wf n k:Nat}{vs:List V} {σ:Sto}:evFn P wf (n + 1) k vs σ=(match P k with | none=>RE.bad | some fn=>if vs.length=fn.ps.length then sR (evSs (evFn P wf n) wf fn.body (aW fn vs) σ) else .bad):=rfl
theorem gz {P:Nat→Option Fn}{wf n k:Nat}{fn:Fn}{vs:List V} {σ:Sto} (hP:P k=some fn) (hl:vs.length=fn.ps.length):evFn P wf (n + 1) k vs σ=sR (evSs (evFn P wf n) wf fn.body (aW fn vs) σ):=by
 rw [uP,hP]; exact if_pos hl
theorem rF {P:Nat→Option Fn}{wf n k:Nat}{vs:List V} {σ:Sto}{r:RE} (ev:evFn P wf (n + 1) k vs σ=r) (hr:RE.bad ≠ r):∃ fn,P k=some fn ∧ vs.length=fn.ps.length ∧ sR (evSs (evFn P wf n) wf fn.body (aW fn vs) σ)=r:=by
 rw [uP] at ev
 cases q:P k with
 | none=>rw [q] at ev; exact absurd ev hr
 | some fn =>
  rw [q] at ev
  by_cases hl:vs.length=fn.ps.length
  ·exact ⟨fn,rfl,hl,(if_pos hl).symm.trans ev⟩
  ·exact absurd ((if_neg hl).symm.trans ev) hr
noncomputable def cq (P T:Nat→Option Fn) (wf n:Nat) (k:Nat) (vs:List V) (σ:Sto):RE:=match T k with
 | some fn=>if vs.length=fn.ps.length then noX (sR (evT (evFn P wf n) (evFn P wf n) wf fn.body (aW fn vs) σ)) else .bad
 | none=>evFn P wf n k vs σ
end Mine
set_option genSizeOf false
set_option genInjectivity false
set_option bootstrap.genMatcherCode false
namespace Mine
set_option backward.match.sparseCases false
open PySem
structure CE where
 names:List (Str × NameKind)
 fns:List (Str × Nat)
 clss:List (Str × Nat)
 excs:List (Str × Nat)
 mths:List (Str × Nat)
 attrs:List (Str × Nat)
 consts:List (Str × Int)
 lam:Option Nat
 hnd:Bool:=false
 hfns:List (Str × Nat):=[]
 pe:Option (Str × Nat):=none
 top:Option (List (Str × NameKind)):=none
 tfns:List (Str × Nat):=[]
noncomputable def CE.loc? (c:CE) (x:Str):Option Nat:=match c.names.lookup x with
 | some .local | some .cell | some .free=>c.names.findIdx? (·.1 == x)
 | _=>none
noncomputable def CE.locW? (c:CE) (x:Str):Option Nat:=match c.names.lookup x with
 | some .local | some .cell=>c.names.findIdx? (·.1 == x)
 | _=>none
noncomputable def CE.glob (c:CE) (x:Str):Bool:=c.names.lookup x == some .globalImplicit
noncomputable def CE.sub (c:CE) (names:List (Str × NameKind)):CE:={ c with names:=names }
noncomputable def gh {α β γ:Type} (f:α→β→γ) (a:Option α) (b:Option β):Option γ:=a.bind fun x=>b.map fun y=>f x y
noncomputable def uD {α β γ δ:Type} (f:α→β→γ→δ) (a:Option α) (b:Option β) (c:Option γ):Option δ:=a.bind fun x=>gh (f x) b c
noncomputable def gd {α:Type} (b:Bool) (x:Option α):Option α:=match b with | true=>x | false=>none
theorem nn {α:Type}{z:α}{P:Prop} (h:(none:Option α)=some z):P:=nomatch h
theorem ft {P:Prop} (h:false=true):P:=nomatch h
theorem tf {P:Prop} (h:true=false):P:=nomatch h
theorem si {α:Type}{a b:α}{P:α→Prop} (h:some a=some b) (H:P a):P b:=Option.some.inj h ▸ H
theorem dO {α β γ:Type}{f:α→β→γ}{a:Option α}{b:Option β}{z:γ}:gh f a b=some z→∃ x y,a=some x ∧ b=some y ∧ f x y=z :=
 Option.casesOn a nn fun x=>Option.casesOn b nn fun y h=>⟨x,y,rfl,rfl,Option.some.inj h⟩
theorem sA {α β γ δ:Type}{f:α→β→γ→δ}{a:Option α}{b:Option β}{c:Option γ}{w:δ}:uD f a b c=some w→∃ x y z,a=some x ∧ b=some y ∧ c=some z ∧ f x y z=w :=
 Option.casesOn a nn fun x=>Option.casesOn b nn fun y=>Option.casesOn c nn fun z h=>⟨x,y,z,rfl,rfl,rfl,Option.some.inj h⟩
theorem b9 {α β γ:Type}{f:α→β→γ}{a:Option α}{b:Option β}{z:γ}{G:Prop} (h:gh f a b=some z) (k:∀ x y,a=some x→b=some y→f x y=z→G):G:=let ⟨x,y,h1,h2,h3⟩:=dO h; k x y h1 h2 h3
theorem d0 {α β γ δ:Type}{f:α→β→γ→δ}{a:Option α}{b:Option β}{c:Option γ}{w:δ}{G:Prop} (h:uD f a b c=some w) (k:∀ x y z,a=some x→b=some y→c=some z→f x y z=w→G):G:=let ⟨x,y,z,h1,h2,h3,h4⟩:=sA h; k x y z h1 h2 h3 h4
theorem au {α:Type}{b:Bool}{x:Option α}{z:α}:gd b x=some z→b=true ∧ x=some z:=Bool.casesOn b nn fun h=>⟨rfl,h⟩
theorem bA {α β:Type}{f:α→β}{a:Option α}{z:β}:a.map f=some z→∃ x,a=some x ∧ f x=z:=Option.casesOn a nn fun x h=>⟨x,rfl,Option.some.inj h⟩
theorem a6 {α β:Type}{f:α→Option β}{a:Option α}{z:β}:a.bind f=some z→∃ x,a=some x ∧ f x=some z:=Option.casesOn a nn fun x h=>⟨x,rfl,h⟩
theorem bZ {α β:Type}{f:α→β}{a:Option α}{z:β}{G:Prop} (h:a.map f=some z) (k:∀ x,a=some x→f x=z→G):G:=let ⟨x,h1,h2⟩:=bA h; k x h1 h2
theorem bT {α β:Type}{f:α→Option β}{a:Option α}{z:β}{G:Prop} (h:a.bind f=some z) (k:∀ x,a=some x→f x=some z→G):G:=let ⟨x,h1,h2⟩:=a6 h; k x h1 h2
theorem ag {a b:Bool}:(a && b)=true→a=true ∧ b=true:=Bool.casesOn a ft fun h=>⟨rfl,h⟩
theorem aX {a:Bool}:(!a)=true→a=false:=Bool.casesOn a (fun _=>rfl) ft
inductive EV where
 | name (x:Str) | const (k:Const) | slice (t:Option Expr × Option Expr × Option Expr) | lc | tup (ts:List Expr) | attr (t:Expr × Str × Pos) | sub (t:Expr × Expr) | call (t:Expr × List Expr × List Keyword) | bin (t:Expr × Operator × Expr) | lam (t:Arguments × Expr × Scope × Pos) | other
noncomputable def vw:Expr→EV
 | .Name x _=>.name x
 | .Constant k _ _=>.const k
 | .Slice a b c _=>.slice (a,b,c)
 | .ListComp ..=>.lc
 | .Tuple ts _ _=>.tup ts
 | .Attribute o x p=>.attr (o,x,p)
 | .Subscript o i _=>.sub (o,i)
 | .Call f as ks _=>.call (f,as,ks)
 | .BinOp l op r _=>.bin (l,op,r)
 | .Lambda ps e sc p=>.lam (ps,e,sc,p)
 | _=>.other
def AM (e:Expr):EV→Prop
 | .name x=>∃ p,e=.Name x p
 | .const k=>∃ a p,e=.Constant k a p
 | .slice t=>∃ p,e=.Slice t.1 t.2.1 t.2.2 p
 | .tup ts=>∃ k p,e=.Tuple ts k p
 | .attr t=>e=.Attribute t.1 t.2.1 t.2.2
 | .sub t=>∃ p,e=.Subscript t.1 t.2 p
 | .call t=>∃ p,e=.Call t.1 t.2.1 t.2.2 p
 | .bin t=>∃ p,e=.BinOp t.1 t.2.1 t.2.2 p
 | .lam t=>e=.Lambda t.1 t.2.1 t.2.2.1 t.2.2.2
 | _=>True
theorem AA (e:Expr):AM e (vw e):=by
 cases e <;> first | exact True.intro | exact ⟨_,rfl⟩ | exact ⟨_,_,rfl⟩ | rfl
theorem bI {e:Expr}{v:EV} (h:vw e=v):AM e v:=h ▸ AA e
noncomputable def d7 (e:Expr):Option Str:=match vw e with | .name x=>some x | _=>none
noncomputable def jB (e:Expr):Option Int:=match vw e with | .const (.int i)=>some i | _=>none
noncomputable def uy (e:Expr):Bool:=match vw e with | .const (.str _)=>true | _=>false
noncomputable def AJ (e:Expr):Bool:=match vw e with | .lc=>true | _=>false
noncomputable def vy (e:Expr):Bool:=match vw e with | .name _=>false | .call _=>false | .sub _=>false | _=>true
theorem b7 {e:Expr}{x:Str} (h:d7 e=some x):∃ p,e=.Name x p:=by
 unfold d7 at h
 cases q:vw e <;> rw [q] at h <;> first | exact nn h | skip
 exact Option.some.inj h ▸ bI q
set_option tactic.hygienic true in
theorem gX {e:Expr}{x:Int} (h:jB e=some x):∃ k p,e=.Constant (.int x) k p:=by
 unfold jB at h
 cases q:vw e <;> rw [q] at h <;> first | exact nn h | skip
 rename_i k; cases k <;> first | exact nn h | skip
 exact Option.some.inj h ▸ bI q
theorem mJ {e:Expr} (h:AJ e=false):∀ a b c d,e ≠ .ListComp a b c d:=by
 intro a b c d q; subst q; exact tf h
theorem qi {e:Expr} (h:vy e=false):(∃ x p,e=.Name x p) ∨ (∃ f as ks p,e=.Call f as ks p) ∨ ∃ o i p,e=.Subscript o i p:=by
 unfold vy at h
 cases q:vw e <;> rw [q] at h <;> first | exact tf h | skip
 ·exact .inl ⟨_,bI q⟩
 ·exact .inr (.inr ⟨_,_,bI q⟩)
 ·exact .inr (.inl ⟨_,_,_,bI q⟩)
noncomputable def bM (c:CE):List Expr→Option (List Nat)
 | []=>some []
 | e :: r=>gh List.cons ((d7 e).bind c.locW?) (bM c r)
noncomputable def tgt (c:CE) (e:Expr):Option (List Nat × Bool):=match d7 e with
 | some x=>(c.locW? x).map fun i=>([i],true)
 | none=>(match vw e with | .tup es=>(bM c es).map fun is=>(is,false) | _=>none)
noncomputable def CE.locC? (c:CE) (x:Str):Option Nat:=match c.names.lookup x with
 | some .cell | some .free=>c.names.findIdx? (·.1 == x)
 | _=>none
noncomputable def yK (c:CE) (p:Str × NameKind):Option (Option Nat):=match p.2 with
 | .free=>(c.locC? p.1).map some
 | .cell=>none
 | _=>some none
noncomputable def ff (c:CE) (sc:Scope):Option (List (Option Nat)):=gd (!(c.top == some sc.names)) (aP (yK c) sc.names)
noncomputable def nO (sc:Scope):Bool:=(match sc.kind with | .function=>true | _=>false) && decide ((sc.names.map (·.1)).Nodup)
noncomputable def AY:Operator→Bool
 | .Add | .Sub | .Mult | .FloorDiv | .Mod=>true
 | _=>false
noncomputable def bltName:List (Str × BN):=[("len",.len),("max",.max),("min",.min),("list",.list),("tuple",.tuple),("all",.all),("int",.int),("range",.range)]
noncomputable def bOk:BN→Bool
 | .len=>true
 | .min | .list | .range=>true
 | .max=>true
 | .tuple=>true
 | .all=>true
 | _=>false
noncomputable def tyName:List (Str × Ty):=[("int",.int),("bool",.bool),("tuple",.tuple),("list",.list)]
noncomputable def dM:List (Str × MN):=[("append",.append),("pop",.pop),("index",.index)
 ,("clear",.clear),("extend",.extend)
 ]
noncomputable def mOk:MN→Bool
 | _=>true
noncomputable def mkB (op:BoolOp) (x y:E):E:=match op with | .And=>.and x y | .Or=>.or x y
noncomputable def fT (op:BoolOp):List E→Option E
 | []=>none
 | [x]=>some x
 | x :: r=>(fT op r).map fun y=>mkB op x y
noncomputable def dE (op:CmpOp) (r:Expr):Bool:=!behindInMarks op r
noncomputable def dZ (e:Expr):Bool:=match vw e with
 | .name _=>true
 | .attr _=>true
 | .sub _=>true
 | .call t=>(match vw t.1 with | .attr _=>true | _=>false)
 | _=>false
set_option tactic.hygienic true in
theorem i9 {o:Expr}{x:Str}{env:Env}{act:Sem Value} (h:dZ o=true):attributeBase o x env act=act:=by
 unfold dZ at h
 cases q:vw o <;> rw [q] at h <;> first | exact ft h | skip
 ·obtain ⟨p,rfl⟩:=bI q; rfl
 ·have e:o=_:=bI q
  subst e; rfl
 ·obtain ⟨p,rfl⟩:=bI q; rfl
 ·obtain ⟨p,rfl⟩:=bI q
  rename_i t
  have h:(match vw t.1 with | .attr _=>true | _=>false)=true:=h
  cases q2:vw t.1 <;> rw [q2] at h <;> first | exact ft h | skip
  have e:t.1=_:=bI q2
  rw [e]; rfl
inductive CK where
 | setLen (a:Expr) | revl (a:Expr) | isi (a:Expr) (t:Str) | plain
noncomputable def Ay {α:Type} (f:Expr→Expr→Option α) (t:Expr × List Expr × List Keyword):Option α:=match t.2.1 with
 | [a]=>(match t.2.2 with | []=>f t.1 a | _=>none)
 | _=>none
theorem mD {α:Type}{f:Expr→Expr→Option α}{t:Expr × List Expr × List Keyword}{z:α} (h:Ay f t=some z):∃ a,t.2=([a],[]) ∧ f t.1 a=some z:=by
 obtain ⟨fn,as,ks⟩:=t
 rcases as with _ | ⟨a,_ | ⟨b,as⟩⟩
 ·exact nn h
 ·cases ks with
  | nil=>exact ⟨a,rfl,h⟩
  | cons=>exact nn h
 ·exact nn h
noncomputable def gW (e:Expr):Option (Str × Expr):=match vw e with
 | .call t=>Ay (fun f a=>(d7 f).map fun x=>(x,a)) t
 | _=>none
set_option tactic.hygienic true in
theorem iI {e:Expr}{t:Str × Expr} (h:gW e=some t):∃ fp p,e=.Call (.Name t.1 fp) [t.2] [] p:=by
 unfold gW at h
 cases q:vw e <;> rw [q] at h <;> first | exact nn h | skip
 rename_i u
 obtain ⟨a,h1,h2⟩:=mD h
 refine bZ h2 fun x h3 qx2=>?_; subst qx2
 obtain ⟨p,hp⟩:=bI q
 obtain ⟨fp,h4⟩:=b7 h3
 rw [h1,h4] at hp
 exact ⟨fp,p,hp⟩
noncomputable def ck1 (c:CE) (f:Str) (t:Str × Expr):CK:=match (f == ("len":Str) && (t.1 == ("set":Str) && (c.glob f && c.glob t.1))) with
 | true=>.setLen t.2
 | false=>(match (f == ("list":Str) && (t.1 == ("reversed":Str) && (c.glob f && c.glob t.1))) with | true=>.revl t.2 | false=>.plain)
noncomputable def ck2 (c:CE) (f:Str) (a:Expr) (t:Str):CK:=match (f == ("isinstance":Str) && (c.glob f && (c.glob t && !(t == ("__debug__":Str))))) with
 | true=>.isi a t
 | false=>.plain
noncomputable def jp (c:CE) (f:Str) (args:List Expr):CK:=match args with
 | [a]=>(match gW a with | some t=>ck1 c f t | none=>.plain)
 | [a,t]=>(match d7 t with | some x=>ck2 c f a x | none=>.plain)
 | _=>.plain
noncomputable def qP (c:CE) (t:Str):Option Ty:=match tyName.lookup t with
 | some ty=>some ty
 | none=>(match c.clss.lookup t with
  | some _=>some .inst
  | none=>(match c.excs.lookup t with
   | some C=>some (.exc C (c.excs.map (·.2)))
   | none=>gd (t == ("ValueError":Str)) (some (.val (c.excs.map (·.2))))))
noncomputable def iZ (c:CE) (f:Str) (as:List E):Option E:=match bltName.lookup f with
 | some b=>gd (bOk b && !c.hnd) (some (.blt b as))
 | none=>(match c.fns.lookup f with
  | some k=>some (.call k as)
  | none =>
   (match c.tfns.lookup f with
   | some k=>gd (c.top == some c.names) (some (.tcall k as))
   | none =>
   (c.clss.lookup f).map fun k=>.mk k as)
   )
noncomputable def mz (c:CE) (x:Str) (a:E) (as:List E):Option E:=match dM.lookup x with
 | some m=>some (.meth a m as)
 | none=>(c.mths.lookup x).map fun f=>.umeth a f as
noncomputable def u1:Const→Option E
 | .none=>some .none
 | .bool b=>some (.bool b)
 | .int i=>some (.int i)
 | .str s=>some (.str s)
 | _=>none
noncomputable def xr (c:CE) (x:Str):Option E:=gd (!(x == ("__debug__":Str)) && !(x == ("__classdict__":Str))) (match c.loc? x with
 | some i=>some (.loc i)
 | none=>gd (c.glob x) ((c.consts.lookup x).map .int))
noncomputable def zq:Operator→Bool | .Pow=>true | _=>false
noncomputable def zC (f:Expr→Option E) (l:Expr) (op:Operator) (r:Expr):Option E:=match AY op with
 | true=>gh (.bin op) (f l) (f r)
 | false=>gd (zq op) ((jB l).bind fun a=>(jB r).bind fun b=>gd (decide (0 ≤ a ∧ a ≤ 10 ∧ 0 ≤ b ∧ b ≤ 100)) (some (.pow a.toNat b.toNat)))
noncomputable def cUn (f:Expr→Option E) (op:UnaryOp) (x:Expr):Option E:=match op with
 | .Not=>(f x).map .not
 | .USub=>(f x).map .neg
 | _=>none
noncomputable def yV (f:Expr→Option E) (l:Expr) (ops:List CmpOp) (rs:List Expr):Option E:=match ops with
 | [op]=>(match rs with | [r]=>gd (dE op r) (gh (.cmp op) (f l) (f r)) | _=>none)
 | [o1,o2]=>(match rs with | [m,r]=>gd (dE o2 r) (uD (.cmp2 o1 o2) (f l) (f m) (f r)) | _=>none)
 | _=>none
noncomputable def uC (f:Expr→Option E) (v:Expr):Option Expr→Option Expr→Option Expr→Option E
 | some lo,none,none=>gh .slo (f v) (f lo)
 | none,some hi,none=>gh .shi (f v) (f hi)
 | _,_,_=>none
noncomputable def zO (f:Expr→Option E) (v i:Expr):Option E:=match vw i with
 | .slice t=>uC f v t.1 t.2.1 t.2.2
 | _=>gh .sub (f v) (f i)
noncomputable def xl (f:Expr→Option E) (ks:List (Option Expr)) (vs:List Expr):Option E:=match ks with
 | []=>(match vs with | []=>some .dict0 | _=>none)
 | [some k]=>(match vs with | [v]=>gh .dict1 (f k) (f v) | _=>none)
 | _=>none
noncomputable def mq (c:CE) (f:Expr→Option E) (x:Str) (args:List Expr):Option E:=match jp c x args with
 | .setLen a=>gd (!c.hnd) ((f a).map fun x=>.blt .setLen [x])
 | .revl a=>gd (!c.hnd) ((f a).map fun x=>.blt .revl [x])
 | .isi a t=>gh .isi (f a) (qP c t)
 | .plain=>gd (decide (args.length ≤ 8) && (c.glob x && !(x == ("__debug__":Str)))) ((aP f args).bind fun as=>iZ c x as)
noncomputable def zb (op:Operator) (a b:Option KX):Option KX:=match op with
 | .Add=>gh .add a b
 | .Mult=>gh .mul a b
 | .Mod=>gh .mod a b
 | _=>none
noncomputable def pa (c:CE) (p:Str) (sc:Scope) (x:Str):Option KX:=match (x == p) with
 | true=>some .par
 | false=>gd (sc.names.lookup x == some .free && !(x == ("__classdict__":Str))) ((c.locC? x).map .var)
noncomputable def oB:Nat→CE→Str→Scope→Expr→Option KX
 | 0,_,_,_,_=>none
 | n + 1,c,p,sc,e=>match vw e with
  | .const k=>(match k with | .int i=>some (.num i) | _=>none)
  | .name x=>gd (!(x == ("__debug__":Str))) (pa c p sc x)
  | .bin t=>zb t.2.1 (oB n c p sc t.1) (oB n c p sc t.2.2)
  | _=>none
noncomputable def AQ (ps:Arguments):Option Str:=match ps.args with
 | [a]=>gd (ps.posonlyargs.isEmpty && (ps.vararg.isNone && (ps.kwonlyargs.isEmpty && (ps.kw_defaults.isEmpty && (ps.kwarg.isNone && ps.defaults.isEmpty))))) (some a.arg)
 | _=>none
noncomputable def rC (c:CE) (f:Expr→Option E) (x:Str) (a:Expr) (kw:Option Str) (t:Arguments × Expr × Scope × Pos):Option E :=
 gd (kw == some ("key":Str) && (x == ("sorted":Str) && (c.glob x && (c.lam.isSome && (nO t.2.2.1 && (!t.2.2.1.isGenerator && (!t.2.2.1.isCoroutine && (ff c t.2.2.1).isSome)))))))
  ((AQ t.1).bind fun p=>gd (t.2.2.1.names.lookup p == some .local) (gh .srt (f a) (oB 10 c p t.2.2.1 t.2.1)))
noncomputable def po (c:CE) (f:Expr→Option E) (x:Str) (args:List Expr) (k:Keyword):Option E:=match args with
 | [a]=>(match vw k.value with
  | .const v=>(match v with | .none=>gd (k.arg == some ("default":Str) && (x == ("max":Str) && (c.glob x && !c.hnd))) ((f a).map .maxd) | _=>none)
  | .lam t=>rC c f x a k.arg t
  | _=>none)
 | _=>none
noncomputable def mV (c:CE) (f:Expr→Option E) (t:Expr × Str × Pos) (args:List Expr) (pos:Pos):Option E :=
 gd (decide (args.length ≤ 8) && (dZ t.1 && (t.2.2.endLine == pos.line))) ((f t.1).bind fun a=>(aP f args).bind fun as=>mz c t.2.1 a as)
noncomputable def s9 (f:Expr→Option E) (s:Str) (t:Expr × Str × Pos) (args:List Expr) (pos:Pos):Option E:=match args with
 | [a]=>gd (t.2.1 == ("join":Str) && (t.2.2.endLine == pos.line)) ((f a).map (.join s))
 | _=>none
noncomputable def tl (c:CE) (f:Expr→Option E) (fn:Expr) (args:List Expr) (ks:List Keyword) (pos:Pos):Option E:=match d7 fn with
 | some x=>(match ks with
  | []=>mq c f x args
  | [k]=>po c f x args k
  | _=>none)
 | none=>(match ks with
  | []=>(match vw fn with
   | .attr t =>
    (match vw t.1 with
    | .const k=>(match k with | .str s=>s9 f s t args pos | _=>none)
    | _=>mV c f t args pos)
   | _=>none)
  | _=>none)
noncomputable def ur:List Comprehension→Option (Expr × Expr × List Expr)
 | [g]=>gd (g.is_async == 0) (some (g.target,g.iter,g.ifs))
 | _=>none
noncomputable def vM (c:CE) (rec:CE→Expr→Option E) (elt:Expr) (gens:List Comprehension) (sc:Scope):Option E:=gd (nO sc) ((ur gens).bind fun t =>
 (rec c t.2.1).bind fun it=>(tgt (c.sub sc.names) t.1).bind fun tg=>(aP (rec (c.sub sc.names)) t.2.2).bind fun cs=>(rec (c.sub sc.names) elt).bind fun x=>(ff c sc).map fun fr=>.comp tg.1 tg.2 it cs x fr)
noncomputable def zj (rec:CE→Expr→Option E) (c:CE) (e:Expr):Option E:=match e with
 | .Constant k _ _=>u1 k
 | .Name x _=>xr c x
 | .BoolOp op vs _=>(aP (rec c) vs).bind (fT op)
 | .BinOp l op r _=>zC (rec c) l op r
 | .UnaryOp op x _=>cUn (rec c) op x
 | .Compare l ops rs _=>yV (rec c) l ops rs
 | .Subscript v i _=>zO (rec c) v i
 | .Attribute v x _=>gd (dZ v) (gh .attr (rec c v) (c.attrs.lookup x))
 | .List es _=>gd (decide (es.length ≤ 60)) ((aP (rec c) es).map .list)
 | .Tuple es _ _=>gd (decide (es.length ≤ 60)) ((aP (rec c) es).map .tup)
 | .Dict ks vs _=>xl (rec c) ks vs
 | .Call f args ks p=>tl c (rec c) f args ks p
 | .ListComp elt gens sc _=>vM c rec elt gens sc
 | _=>none
noncomputable def al:Nat→CE→Expr→Option E
 | 0=>fun _ _=>none
 | n + 1=>zj (al n)
noncomputable def yc:Expr→Bool
 | .Constant .. | .Name .. | .BoolOp .. | .BinOp .. | .UnaryOp .. | .Compare .. | .Subscript .. | .Attribute .. | .List .. | .Tuple .. | .Dict .. | .Call .. | .ListComp ..=>true
 | _=>false
theorem dk {n:Nat}{c:CE}{e:Expr}{a:E} (h:al n c e=some a):yc e=true:=by
 cases n with
 | zero=>exact nn h
 | succ n=>cases e <;> first | rfl | exact nn h
noncomputable def d8 (e:Expr):Bool:=match vw e with | .call _=>true | _=>false
noncomputable def cX (c:CE) (e:Expr):Option E:=(al 30 c e).bind fun a=>gd (!aN a || d8 e) (some a)
theorem fc {c:CE}{e:Expr}{a:E} (h:cX c e=some a):al 30 c e=some a ∧ (aN a=true→d8 e=true):=by
 refine bT h fun b h1 h2=>?_
 obtain ⟨h2,h3⟩:=au h2
 cases Option.some.inj h3
 exact ⟨h1,fun q=>by rw [q] at h2; exact h2⟩
noncomputable def yB (c:CE) (t e:Expr):Option S:=match vw t with
 | .name x=>gh .asg (c.locW? x) (cX c e)
 | .tup ts=>gd (!vy e) (gh .asgT (bM c ts) (al 30 c e))
 | .attr t=>uD .asgA (al 30 c t.1) (c.attrs.lookup t.2.1) (al 30 c e)
 | .sub t=>uD .asgI (al 30 c t.1) (al 30 c t.2) (al 30 c e)
 | _=>none
noncomputable def rM (e:Expr):Option Str:=match vw e with
 | .call t=>Ay (fun f a=>gd (uy a) (d7 f)) t
 | _=>none
noncomputable def pQ (e:Expr):Bool:=match vw e with | .tup _=>true | _=>false
noncomputable def cIt (c:CE) (t e:Expr):Option It :=
 match (gW e).bind fun p=>gd (p.1 == ("enumerate":Str) && (c.glob p.1 && (!c.hnd && pQ t))) (some p.2) with
 | some a=>(al 30 c a).map .enum
 | none =>
 (al 30 c e).map .e
noncomputable def w8 (rec:CE→Stmt→Option S) (c:CE) (s:Stmt):Option S:=match s with
 | .Expr e _=>gd (!AJ e) ((cX c e).map .expr)
 | .Return v _=>v.bind fun e=>(cX c e).map .ret
 | .Assign ts e _=>(match ts with | [t]=>yB c t e | _=>none)
 | .If t b o _=>uD .ifS (al 30 c t) (aP (rec c) b) (aP (rec c) o)
 | .While t b o _=>gd o.isEmpty (gh .whileS (al 30 c t) (aP (rec c) b))
 | .For t it b o _=>gd o.isEmpty (uD (fun tg x y=>.forS tg.1 tg.2 x y) (tgt c t) (cIt c t it) (aP (rec c) b))
 | .Raise (some e) none _=>(rM e).bind fun x=>gd (c.glob x && (!(x == ("__debug__":Str)) && !c.hnd)) ((c.excs.lookup x).map .raise)
 | .Pass _=>some .pass
 | _=>none
noncomputable def bP:Nat→CE→Stmt→Option S
 | 0=>fun _ _=>none
 | n + 1=>w8 (bP n)
noncomputable def CE.hand (c:CE):CE:={ c with fns:=c.hfns,clss:=[],mths:=[],attrs:=[],lam:=none,hnd:=true,top:=none,tfns:=[] }
noncomputable def Ab (c:CE) (b:List Stmt) (hs:List ExceptHandler):Option S:=match hs with
 | [.ExceptHandler (some t) (some n) (h0 :: h) _]=>(d7 t).bind fun x=>c.pe.bind fun p=>gd (x == p.1 && (c.glob x && (!(x == ("__debug__":Str)) && c.names.lookup n == some .local))) (uD (fun b i h=>S.tryS b (c.excs.map (·.2)) i h) (aP (bP 20 c) b) (c.locW? n) (aP (bP 20 c.hand) (h0 :: h)))
 | _=>none
noncomputable def mI (c:CE) (s:Stmt):Option S:=match s with
 | .Try b hs o fin _=>gd (o.isEmpty && fin.isEmpty) (Ab c b hs)
 | s=>(bP 20 c s).bind fun a=>gd (jJ a).isNone (some a)
end Mine
namespace Mine
open PySem PyProof.Rows
inductive F2 {α β:Type} (R:α→β→Prop):List α→List β→Prop
 | nil:F2 R [] []
 | cons {a b as bs}:R a b→F2 R as bs→F2 R (a :: as) (b :: bs)
section
variable {α β:Type}{R R':α→β→Prop}{as as':List α}{bs bs':List β}
theorem F2.mono (h:∀ a b,R a b→R' a b) (f:F2 R as bs):F2 R' as bs:=by
 induction f with
 | nil=>exact .nil
 | cons x _ ih=>exact .cons (h _ _ x) ih
theorem F2.length (f:F2 R as bs):as.length=bs.length:=by
 induction f with
 | nil=>rfl
 | cons _ _ ih=>exact congrArg (· + 1) ih
theorem F2.append (f:F2 R as bs) (r:F2 R as' bs'):F2 R (as ++ as') (bs ++ bs'):=by
 induction f with
 | nil=>exact r
 | cons x _ ih=>exact .cons x ih
theorem F2.get (f:F2 R as bs):∀ {i:Nat}{a:α},as[i]?=some a→∃ b,bs[i]?=some b ∧ R a b:=by
 induction f with
 | nil=>exact fun h=>nn h
 | cons x _ ih =>
  intro i a h
  cases i with
  | zero=>exact ⟨_,rfl,Option.some.inj h ▸ x⟩
  | succ i=>exact ih h
theorem F2.drop (f:F2 R as bs):∀ n,F2 R (as.drop n) (bs.drop n):=by
 induction f with
 | nil=>intro n; rw [List.drop_nil,List.drop_nil]; exact .nil
 | cons x r ih =>
  intro n
  cases n with
  | zero=>exact .cons x r
  | succ n=>exact ih n
theorem F2.take (f:F2 R as bs):∀ n,F2 R (as.take n) (bs.take n):=by
 induction f with
 | nil=>intro n; rw [List.take_nil,List.take_nil]; exact .nil
 | cons x r ih =>
  intro n
  cases n with
  | zero=>exact .nil
  | succ n=>exact .cons x (ih n)
theorem F2.reverse (f:F2 R as bs):F2 R as.reverse bs.reverse:=by
 induction f with
 | nil=>exact .nil
 | cons x _ ih=>rw [List.reverse_cons,List.reverse_cons]; exact ih.append (.cons x .nil)
theorem F2.set (f:F2 R as bs):∀ {n:Nat}{a:α}{b:β},R a b→F2 R (as.set n a) (bs.set n b):=by
 induction f with
 | nil=>exact fun _=>.nil
 | cons x r ih =>
  intro n a b h
  cases n with
  | zero=>exact .cons h r
  | succ n=>exact .cons x (ih h)
theorem F2.replicate {a:α}{b:β} (h:R a b) (n:Nat):F2 R (List.replicate n a) (List.replicate n b):=by
 induction n with
 | zero=>exact .nil
 | succ n ih=>exact .cons h ih
end
noncomputable def Imm (o:Obj):Prop:=(o.cls=.type "tuple" ∨ o.cls=.type "range" ∨ ∃ (C:Addr) (vs:Array Value),o.cls=.ref C ∧ o.data=.fields vs) ∧ (∀ (es:Array DictEntry) (n:Nat),o.data ≠ .dict es n) ∧ ∀ v:Option Value,o.data ≠ .cell v
mutual
noncomputable def RepV (as:List Addr) (h:Heap):V→Value→Prop
 | .none,x=>x=.none
 | .bool b,x=>x=.bool b
 | .int i,x=>∃ t,x=.int i t
 | .str s,x=>∃ t,x=.str s t
 | .tup vs,x=>∃ a items n,x=.ref a ∧ h.get? a=some { cls:=.type "tuple",data:=.seq items n } ∧ items.size ≤ 16777216 ∧ ah as h vs items.toList
 | .ref l,x=>∃ a,x=.ref a ∧ as[l]?=some a
 | .rng lo hi,x=>∃ a t u v,x=.ref a ∧ IsRange h a lo hi 1 t u v ∧ (-1000000 ≤ lo ∧ lo ≤ 1000000 ∧ -1000000 ≤ hi ∧ hi ≤ 1000000)
 | .exc c,x=>∃ a o vs,x=.ref a ∧ h.get? a=some o ∧ o.dict=none ∧ o.cls=.ref c ∧ o.data=.fields vs
noncomputable def ah (as:List Addr) (h:Heap):List V→List Value→Prop
 | [],xs=>xs=[]
 | v :: vs,xs=>∃ y ys,xs=y :: ys ∧ RepV as h v y ∧ ah as h vs ys
end
theorem ah.f2 {as:List Addr}{h:Heap}:∀ {vs:List V}{xs:List Value},ah as h vs xs ↔ F2 (RepV as h) vs xs
 | [],xs=>⟨fun e=>by rw [ah] at e; subst e; exact .nil,fun e=>by cases e; rw [ah]⟩
 | v :: vs,xs=>⟨fun e=>by
   rw [ah] at e
   obtain ⟨y,ys,rfl,h1,h2⟩:=e
   exact .cons h1 (ah.f2.mp h2),fun e=>by
   cases e with
   | cons h1 h2=>rw [ah]; exact ⟨_,_,rfl,h1,ah.f2.mpr h2⟩⟩
structure cR (as:List Addr) (h:Heap) (as':List Addr) (h':Heap):Prop where
 pre:∀ (i:Nat) (a:Addr),as[i]?=some a→as'[i]?=some a
 imm:∀ (a:Addr) (o:Obj),h.get? a=some o→Imm o→h'.get? a=some o
theorem gw {items:Array Value}{n:Nat}:Imm { cls:=.type "tuple",data:=.seq items n }:=⟨.inl rfl,fun _ _ e=>(nomatch e),fun _ e=>(nomatch e)⟩
theorem l7 {o:Obj}{C:Addr}{vs:Array Value} (hc:o.cls=.ref C) (hd:o.data=.fields vs):Imm o:=⟨.inr (.inr ⟨C,vs,hc,hd⟩),fun _ _ e=>(by rw [hd] at e; cases e),fun _ e=>(by rw [hd] at e; cases e)⟩
theorem pC {vs:Array Value}:Imm { cls:=.type "range",data:=.fields vs }:=⟨.inr (.inl rfl),fun _ _ e=>(nomatch e),fun _ e=>(nomatch e)⟩
mutual
theorem RepV.keep {as as':List Addr}{h h':Heap} (k:cR as h as' h'):∀ (v:V) (x:Value),RepV as h v x→RepV as' h' v x
 | .none,x,e=>by rw [RepV] at e ⊢; exact e
 | .bool b,x,e=>by rw [RepV] at e ⊢; exact e
 | .int i,x,e=>by rw [RepV] at e ⊢; exact e
 | .str s,x,e=>by rw [RepV] at e ⊢; exact e
 | .tup vs,x,e=>by
  rw [RepV] at e ⊢
  obtain ⟨a,items,n,rfl,ho,hz,hr⟩:=e
  exact ⟨a,items,n,rfl,k.imm _ _ ho gw,hz,ah.keep k _ _ hr⟩
 | .ref l,x,e=>by
  rw [RepV] at e ⊢
  obtain ⟨a,rfl,ha⟩:=e
  exact ⟨a,rfl,k.pre _ _ ha⟩
 | .rng lo hi,x,e=>by
  rw [RepV] at e ⊢
  obtain ⟨a,t,u,v,rfl,ho,hb⟩:=e
  exact ⟨a,t,u,v,rfl,k.imm _ _ ho pC,hb⟩
 | .exc c,x,e=>by
  rw [RepV] at e ⊢
  obtain ⟨a,o,vs,rfl,ho,hn,hc,hd⟩:=e
  exact ⟨a,o,vs,rfl,k.imm _ _ ho (l7 hc hd),hn,hc,hd⟩
theorem ah.keep {as as':List Addr}{h h':Heap} (k:cR as h as' h'):∀ (vs:List V) (xs:List Value),ah as h vs xs→ah as' h' vs xs
 | [],xs,e=>by rw [ah] at e ⊢; exact e
 | v :: vs,xs,e=>by
  rw [ah] at e ⊢
  obtain ⟨y,ys,rfl,h1,h2⟩:=e
  exact ⟨y,ys,rfl,RepV.keep k _ _ h1,ah.keep k _ _ h2⟩
end
structure Cfg where
 prog:Program
 w:World
 b:Heap
 C:Addr
 at':List (Nat × Str)
 scr:Obj
 tab:Addr
 hd:Option Addr:=none
noncomputable def lR (g:Cfg) (as:List Addr) (h:Heap) (e:Nat × V) (d:DictEntry):Prop :=
 ∃ x t,g.at'.lookup e.1=some x ∧ d.key=.str x t ∧ RepV as h e.2 d.val
noncomputable def oC (g:Cfg) (as:List Addr) (h:Heap) (o:AO) (a:Addr):Prop:=match o with
 | .lst vs=>∃ items,h.PlainList a items ∧ ah as h vs items.toList ∧ vs.length ≤ 16777216
 | .dI es=>∃ kvs,h.DictOf (intKind g.prog g.w) a kvs ∧ F2 (fun (e:Int × V) (x:Int × Value)=>e.1=x.1 ∧ RepV as h e.2 x.2) es kvs ∧ es.length ≤ 1000000 ∧ (a == sysModules)=false
 | .dT es=>∃ xs,h.DictOfH (tupleKind (intKind g.prog g.w)) a xs ∧ F2 (fun (e:List Int × V) (x:List Int × Addr × Value)=>e.1=x.1 ∧ RepV as h e.2 x.2.2) es xs ∧ es.length ≤ 1000000 ∧ (a == sysModules)=false
 | .inst d=>∃ dx,as[d]?=some dx ∧ h.get? a=some { cls:=.ref g.C,dict:=some dx,data:=.plain }
 | .att es=>∃ ents n,h.get? a=some { cls:=.type "dict",data:=.dict (List.toArray ents) n } ∧ F2 (lR g as h) es ents ∧ es.length ≤ 100
 | .frz vs=>∃ items n,h.get? a=some g.scr ∧ g.scr={ cls:=.type "list",data:=.seq items n } ∧ ah as h vs items.toList ∧ vs.length ≤ 16777216
 | .tab b=>a=g.tab ∧ ∃ ps:Array Value,h.get? a=some { cls:=.none,data:=.fields ps } ∧ (b=false→ps=#[])
noncomputable def Hnd (hd:Option Addr) (h:Heap):Prop:=∀ a,hd=some a→∃ o C vs,h.get? a=some o ∧ o.cls=.ref C ∧ o.data=.fields vs ∧ vs[2]?=some .none
theorem Hnd.keep {hd:Option Addr}{as as':List Addr}{h h':Heap} (x:Hnd hd h) (k:cR as h as' h'):Hnd hd h':=fun a e =>
 let ⟨o,C,vs,e1,e2,e3,e4⟩:=x a e; ⟨o,C,vs,k.imm _ _ e1 (l7 e2 e3),e2,e3,e4⟩
structure Rel (g:Cfg) (as:List Addr) (σ:Sto) (h:Heap):Prop where
 base:∀ (a:Addr) (o:Obj),g.b.get? a=some o→h.get? a=some o
 len:as.length=σ.length
 nd:as.Nodup
 new:∀ a ∈ as,g.b.get? a=none
 obj:∀ (i:Nat) (a:Addr) (o:AO),as[i]?=some a→σ[i]?=some o→oC g as h o a
 hnd:Hnd g.hd h
structure aF (own as:List Addr) (h:Heap) (as':List Addr) (h':Heap):Prop where
 pre:∃ t,as'=as ++ t ∧ ∀ a ∈ t,h.get? a=none
 ext:∀ (a:Addr) (o:Obj),h.get? a=some o→a ∉ own→a ∉ as→h'.get? a=some o
theorem aF.refl (own as:List Addr) (h:Heap):aF own as h as h:=⟨⟨[],by simp,by simp⟩,fun _ _ e _ _=>e⟩
theorem aF.mem {own as as':List Addr}{h h':Heap} (x:aF own as h as' h') {a:Addr} (ha:a ∈ as):a ∈ as':=by
 obtain ⟨⟨t,rfl,_⟩,_⟩:=x
 exact List.mem_append_left _ ha
theorem aF.get {own as as':List Addr}{h h':Heap} (x:aF own as h as' h') {i:Nat}{a:Addr} (ha:as[i]?=some a):as'[i]?=some a:=by
 obtain ⟨⟨t,rfl,_⟩,_⟩:=x
 rw [List.getElem?_append_left (by exact (List.getElem?_eq_some_iff.mp ha).1)]; exact ha
theorem aF.trans {own as as1 as2:List Addr}{h h1 h2:Heap} (x:aF own as h as1 h1) (y:aF own as1 h1 as2 h2) (nd:as2.Nodup) (off:∀ a ∈ own,a ∉ as2):aF own as h as2 h2:=by
 obtain ⟨⟨t,rfl,ht⟩,x2⟩:=x
 obtain ⟨⟨u,rfl,hu⟩,y2⟩:=y
 refine ⟨⟨t ++ u,by simp,fun a ha=>?_⟩,fun a o e h1 h3=>?_⟩
 ·rcases List.mem_append.mp ha with q | q
  ·exact ht a q
  ·cases e:h.get? a with
   | none=>rfl
   | some o =>
    have h1':a ∉ own:=fun z=>off a z (List.mem_append_right _ q)
    have h2':a ∉ as:=fun z=>(List.nodup_append.mp nd).2.2 a (List.mem_append_left _ z) a q rfl
    have:=x2 a o e h1' h2'
    rw [hu a q] at this; cases this
 ·refine y2 a o (x2 a o e h1 h3) h1 fun q=>?_
  rcases List.mem_append.mp q with q | q
  ·exact h3 q
  ·rw [ht a q] at e; cases e
theorem aF.shrink {own own' as as':List Addr}{h h':Heap} (x:aF own' as h as' h') (hs:∀ a ∈ own',a ∈ own ∨ h.get? a=none):aF own as h as' h' :=
 ⟨x.pre,fun a o e h1 h2=>x.ext a o e (fun q=>(hs a q).elim h1 fun z=>by rw [z] at e; cases e) h2⟩
theorem aF.grow {own own' as as':List Addr}{h h':Heap} (x:aF own as h as' h') (hs:∀ a ∈ own,a ∈ own'):aF own' as h as' h' :=
 ⟨x.pre,fun a o e h1 h2=>x.ext a o e (fun q=>h1 (hs a q)) h2⟩
theorem aF.of_ext {own as:List Addr}{h h':Heap} (k:∀ (a:Addr) (o:Obj),h.get? a=some o→h'.get? a=some o):aF own as h as h' :=
 ⟨⟨[],by simp,by simp⟩,fun a o e _ _=>k a o e⟩
theorem oC.there {g:Cfg}{as:List Addr}{h:Heap}{o:AO}{a:Addr} (r:oC g as h o a):∃ ob,h.get? a=some ob ∧ ¬ Imm ob:=by
 cases o with
 | lst vs =>
  obtain ⟨items,⟨n,e⟩,_⟩:=r
  exact ⟨_,e,fun q=>by rcases q.1 with q | q <;> simp at q⟩
 | dI es =>
  obtain ⟨kvs,⟨ob,es',ep,e,_,hd,_⟩,_⟩:=r
  exact ⟨_,e,fun q=>q.2.1 _ _ hd⟩
 | dT es =>
  obtain ⟨kvs,⟨ob,es',ep,e,_,hd,_⟩,_⟩:=r
  exact ⟨_,e,fun q=>q.2.1 _ _ hd⟩
 | inst d =>
  obtain ⟨dx,_,e⟩:=r
  exact ⟨_,e,fun q=>by rcases q.1 with q | q <;> simp at q⟩
 | att es =>
  obtain ⟨ents,n,e,_⟩:=r
  exact ⟨_,e,fun q=>q.2.1 _ _ rfl⟩
 | frz vs =>
  obtain ⟨items,n,e,q,_⟩:=r
  exact ⟨_,e,fun z=>by rw [q] at z; rcases z.1 with z | z <;> simp at z⟩
 | tab b =>
  obtain ⟨_,ps,e,_⟩:=r
  exact ⟨_,e,fun z=>by rcases z.1 with z | z <;> simp at z⟩
theorem Rel.there {g:Cfg}{as:List Addr} {σ:Sto}{h:Heap} (R:Rel g as σ h) {a:Addr} (ha:a ∈ as):∃ ob,h.get? a=some ob ∧ ¬ Imm ob:=by
 obtain ⟨i,hi,rfl⟩:=List.getElem_of_mem ha
 have hi':i < σ.length:=R.len ▸ hi
 exact (R.obj i as[i] σ[i] (by simp [hi]) (by simp [hi'])).there
theorem Rel.keep {g:Cfg}{own as as':List Addr} {σ:Sto}{h h':Heap} (R:Rel g as σ h) (x:aF own as h as' h') (ho:∀ a ∈ own,∀ o,h.get? a=some o→¬ Imm o):cR as h as' h' :=
 ⟨fun _ _=>x.get,fun a o e hi=>x.ext a o e (fun q=>ho a q o e hi) fun q=>by
  obtain ⟨ob,e',hn⟩:=R.there q
  rw [e] at e'; cases e'; exact hn hi⟩
theorem Rel.keep0 {g:Cfg}{as as':List Addr} {σ:Sto}{h h':Heap} (R:Rel g as σ h) (x:aF [] as h as' h'):cR as h as' h':=R.keep x (by simp)
theorem oC.keep {g:Cfg}{as as':List Addr}{h h':Heap}{o:AO}{a:Addr} (r:oC g as h o a) (k:cR as h as' h') (hk:∀ ob,h.get? a=some ob→h'.get? a=some ob):oC g as' h' o a:=by
 cases o with
 | lst vs =>
  obtain ⟨items,p,q,z⟩:=r
  exact ⟨items,p.at hk,ah.keep k _ _ q,z⟩
 | dI es =>
  obtain ⟨kvs,p,q,z⟩:=r
  exact ⟨kvs,p.at hk,q.mono fun _ _ y=>⟨y.1,RepV.keep k _ _ y.2⟩,z⟩
 | dT es =>
  obtain ⟨xs,⟨ob,es',ep,e,p1,p2,p3,p4,p5⟩,q,z⟩:=r
  refine ⟨xs,⟨ob,es',ep,hk _ e,p1,p2,p3,fun x hx=>?_,p5⟩,q.mono fun _ _ y=>⟨y.1,RepV.keep k _ _ y.2⟩,z⟩
  obtain ⟨o1,its,n1,e1,c1,d1,r1⟩:=p4 x hx
  exact ⟨o1,its,n1,k.imm _ _ e1 ⟨.inl c1,⟨fun _ _ z=>(by rw [d1] at z; cases z),fun _ z=>(by rw [d1] at z; cases z)⟩⟩,c1,d1,r1⟩
 | inst d =>
  obtain ⟨dx,p,q⟩:=r
  exact ⟨dx,k.pre _ _ p,hk _ q⟩
 | att es =>
  obtain ⟨ents,n,p,q,z⟩:=r
  exact ⟨ents,n,hk _ p,q.mono fun _ _ ⟨x,t,y1,y2,y3⟩=>⟨x,t,y1,y2,RepV.keep k _ _ y3⟩,z⟩
 | frz vs =>
  obtain ⟨items,n,e,q,w,z⟩:=r
  exact ⟨items,n,hk _ e,q,ah.keep k _ _ w,z⟩
 | tab b =>
  obtain ⟨e0,ps,e,q⟩:=r
  exact ⟨e0,ps,hk _ e,q⟩
theorem Rel.ext {g:Cfg}{as:List Addr} {σ:Sto}{h h':Heap} (R:Rel g as σ h) (k:∀ (a:Addr) (o:Obj),h.get? a=some o→h'.get? a=some o):Rel g as σ h' :=
 have K:cR as h as h':=⟨fun _ _ e=>e,fun a o e _=>k a o e⟩
 ⟨fun a o e=>k a o (R.base a o e),R.len,R.nd,R.new,fun i a o h1 h2=>(R.obj i a o h1 h2).keep K fun ob e=>k a ob e,R.hnd.keep K⟩
theorem Rel.push {g:Cfg}{as:List Addr} {σ:Sto}{h h':Heap}{o:AO}{a:Addr} (R:Rel g as σ h) (k:∀ (a:Addr) (o:Obj),h.get? a=some o→h'.get? a=some o) (hn:h.get? a=none) (ho:oC g (as ++ [a]) h' o a):Rel g (as ++ [a]) (σ ++ [o]) h':=by
 have R':=R.ext k
 have hna:a ∉ as:=fun q=>by obtain ⟨ob,e,_⟩:=R.there q; rw [hn] at e; cases e
 refine ⟨R'.base,by simp [R.len],?_,fun b hb=>?_,fun i b ob h1 h2=>?_,R'.hnd⟩
 ·exact List.nodup_append.mpr ⟨R.nd,by simp,fun x hx y hy e=>by simp at hy; subst hy; subst e; exact hna hx⟩
 ·rcases List.mem_append.mp hb with q | q
  ·exact R.new b q
  ·simp at q; subst q
   cases e:g.b.get? b with
   | none=>rfl
   | some o=>have:=R.base b o e; rw [hn] at this; cases this
 ·rcases Nat.lt_trichotomy i as.length with hi | hi | hi
  ·rw [List.getElem?_append_left hi] at h1
   rw [List.getElem?_append_left (R.len ▸ hi)] at h2
   exact (R'.obj i b ob h1 h2).keep ⟨fun j c e=>by rw [List.getElem?_append_left (List.getElem?_eq_some_iff.mp e).1]; exact e,fun _ _ e _=>e⟩ fun _ e=>e
  ·subst hi
   rw [R.len] at h2
   simp at h1 h2; subst h1; subst h2; exact ho
  ·rw [List.getElem?_eq_none (by simp; lia)] at h1; cases h1
theorem jV {as:List Addr}{h h':Heap}{a:Addr} (k:∀ (a:Addr) (o:Obj),h.get? a=some o→h'.get? a=some o) (hn:h.get? a=none):aF [] as h (as ++ [a]) h' :=
 ⟨⟨[a],rfl,fun b hb=>by simp at hb; subst hb; exact hn⟩,fun b o e _ _=>k b o e⟩
theorem Rel.upd {g:Cfg}{as:List Addr} {σ:Sto}{h h':Heap}{o:AO}{a:Addr}{l:Nat} (R:Rel g as σ h) (hl:as[l]?=some a) (k:∀ (b:Addr) (o:Obj),b ≠ a→h.get? b=some o→h'.get? b=some o)
  (ho:cR as h as h'→oC g as h' o a):cR as h as h' ∧ Rel g as (σ.set l o) h' ∧ aF [] as h as h':=by
 have ha:a ∈ as:=List.mem_of_getElem? hl
 obtain ⟨oa,ea,na⟩:=R.there ha
 have K:cR as h as h':=⟨fun _ _ e=>e,fun b ob e hi=>k b ob (fun q=>by subst q; rw [ea] at e; cases e; exact na hi) e⟩
 refine ⟨K,⟨fun b ob e=>k b ob (fun q=>?_) (R.base b ob e),by simp [R.len],R.nd,R.new,fun i b ob h1 h2=>?_,R.hnd.keep K⟩,⟨⟨[],by simp,by simp⟩,fun b ob e _ q=>k b ob (fun z=>q (z ▸ ha)) e⟩⟩
 ·subst q; rw [R.new _ ha] at e; cases e
 ·by_cases hi:i=l
  ·subst hi
   rw [hl] at h1; cases h1
   have hlt:i < σ.length:=by
    have:=(List.getElem?_eq_some_iff.mp hl).1; rw [R.len] at this; exact this
   rw [List.getElem?_set_self hlt] at h2; cases h2
   exact ho K
  ·rw [List.getElem?_set_ne (Ne.symm hi)] at h2
   refine (R.obj i b ob h1 h2).keep K fun oc e=>k b oc (fun q=>hi ?_) e
   subst q
   obtain ⟨j1,j2⟩:=List.getElem?_eq_some_iff.mp h1
   obtain ⟨j3,j4⟩:=List.getElem?_eq_some_iff.mp hl
   exact (List.getElem_inj R.nd).mp (j2.trans j4.symm)
structure az (g:Cfg) (env:Env) (as:List Addr) (fr:Fra) (h:Heap):Prop where
 kind:env.scope.kind=.function
 above:g.b.objs.size ≤ env.locals
 glob:env.globals=mainGlobals
 blt:env.builtins=builtinsNs
 len:fr.length=env.scope.names.length
 nd:(env.scope.names.map (·.1)).Nodup
 ns:∃ m,h.Ns env.locals m ∧ ∀ (i:Nat) (x:Str) (v:V),env.scope.names[i]?=some (x,.local)→fr[i]?=some (some v)→∃ val,m x=some val ∧ RepV as h v val
 cells:∀ (i:Nat) (x:Str) (k:NameKind),env.scope.names[i]?=some (x,k)→(k=.cell ∨ k=.free) →
  ∃ c cv,env.cells.lookup x=some c ∧ h.IsCell c cv ∧ (∀ v,fr[i]?=some (some v)→∃ val,cv=some val ∧ RepV as h v val)
 off:env.locals ∉ as
 offc:∀ x c,env.cells.lookup x=some c→c ∉ as ∧ c ≠ env.locals ∧ ∃ cv,h.IsCell c cv
 apart:∀ x y c,env.cells.lookup x=some c→env.cells.lookup y=some c→x=y
 newc:∀ x c,env.cells.lookup x=some c→g.b.get? c=none
noncomputable def ownOf (env:Env):List Addr:=env.locals :: env.cells.filterMap (fun p=>env.cells.lookup p.1)
set_option tactic.hygienic true in
theorem ar {α β:Type} [BEq α] [LawfulBEq α] {l:List (α × β)}{x:α}{y:β} (e:l.lookup x=some y):(x,y) ∈ l:=by
 induction l with
 | nil=>cases e
 | cons p r ih =>
  obtain ⟨a,b⟩:=p
  rw [List.lookup_cons] at e
  split at e
  ·rename_i q; cases e; rw [eq_of_beq q]; exact .head _
  ·exact .tail _ (ih e)
theorem iq {env:Env}{x:Str}{c:Addr} (e:env.cells.lookup x=some c):c ∈ ownOf env:=.tail _ (List.mem_filterMap.mpr ⟨(x,c),ar e,e⟩)
theorem bJ {env:Env}{a:Addr} (h:a ∈ ownOf env):a=env.locals ∨ ∃ x,env.cells.lookup x=some a:=by
 rcases List.mem_cons.mp h with q | q
 ·exact .inl q
 ·obtain ⟨p,_,e⟩:=List.mem_filterMap.mp q
  exact .inr ⟨_,e⟩
theorem az.offs {g:Cfg}{env:Env}{as:List Addr}{fr:Fra}{h:Heap} (F:az g env as fr h):∀ a ∈ ownOf env,a ∉ as:=fun a ha=>by
 rcases bJ ha with rfl | ⟨x,e⟩
 ·exact F.off
 ·exact (F.offc _ _ e).1
set_option tactic.hygienic true in
theorem az.keep {g:Cfg}{own:List Addr}{env:Env}{as as':List Addr}{fr:Fra}{h h':Heap} (F:az g env as fr h) (K:cR as h as' h') (x:aF own as h as' h') (ho:∀ a ∈ ownOf env,a ∉ own):az g env as' fr h':=by
 obtain ⟨⟨t,ht,hf⟩,hx⟩:=x
 obtain ⟨m,hm,hv⟩:=F.ns
 refine ⟨F.kind,F.above,F.glob,F.blt,F.len,F.nd,⟨m,hm.at' fun o e=>hx _ o e (ho _ (.head _)) F.off,fun i x v h1 h2=>?_⟩,fun i x k h1 h2=>?_,fun q=>?_,fun x c hc=>⟨fun q=>?_,(F.offc _ _ hc).2.1,?_⟩,F.apart,F.newc⟩
 ·obtain ⟨val,e1,e2⟩:=hv i x v h1 h2
  exact ⟨val,e1,RepV.keep K _ _ e2⟩
 ·obtain ⟨c,cv,e1,⟨o,e2,e2'⟩,e3⟩:=F.cells i x k h1 h2
  have hc:c ∈ ownOf env:=iq e1
  refine ⟨c,cv,e1,⟨o,hx _ _ e2 (ho _ hc) (F.offc _ _ e1).1,e2'⟩,fun v e=>?_⟩
  obtain ⟨val,e4,e5⟩:=e3 v e
  exact ⟨val,e4,RepV.keep K _ _ e5⟩
 ·rw [ht] at q
  rcases List.mem_append.mp q with q | q
  ·exact F.off q
  ·obtain ⟨o,es,ep,e,_⟩:=hm; rw [hf _ q] at e; cases e
 ·rw [ht] at q
  rcases List.mem_append.mp q with q | q
  ·exact (F.offc _ _ hc).1 q
  ·obtain ⟨cv,o,e,_⟩:=(F.offc _ _ hc).2.2; rw [hf _ q] at e; cases e
 ·obtain ⟨cv,o,e,e'⟩:=(F.offc _ _ hc).2.2
  exact ⟨cv,o,hx _ _ e (ho _ (iq hc)) (F.offc _ _ hc).1,e'⟩
where
 lookup_mem {α β:Type} [BEq α] [LawfulBEq α] {l:List (α × β)}{x:α}{y:β} (e:l.lookup x=some y):(x,y) ∈ l:=by
  induction l with
  | nil=>cases e
  | cons p r ih =>
   obtain ⟨a,b⟩:=p
   rw [List.lookup_cons] at e
   split at e
   ·rename_i q; cases e; rw [eq_of_beq q]; exact .head _
   ·exact .tail _ (ih e)
noncomputable def newsOf (b:Heap) (L:Addr) (h:Heap):List (Addr × Obj) :=
 (List.range h.objs.size).filterMap fun a=>if a ≠ L ∧ b.get? a=none then (h.get? a).map fun o=>(a,o) else none
set_option tactic.hygienic true in
theorem cD {b:Heap}{L:Addr}{h:Heap}{p:Addr × Obj}:p ∈ newsOf b L h ↔ h.get? p.1=some p.2 ∧ p.1 ≠ L ∧ b.get? p.1=none:=by
 unfold newsOf
 rw [List.mem_filterMap]
 constructor
 ·rintro ⟨a,_,e⟩
  split at e
  ·rename_i hc
   obtain ⟨o,e1,e2⟩:=Option.map_eq_some_iff.mp e
   subst e2
   exact ⟨e1,hc⟩
  ·cases e
 ·rintro ⟨e1,e2⟩
  refine ⟨p.1,List.mem_range.mpr (Heap.lt_size e1),?_⟩
  rw [if_pos e2,e1]; rfl
theorem eS (b:Heap) (L:Addr) (h:Heap):News b L h (newsOf b L h):=fun _ hp=>cD.mp hp
theorem az.fr {g:Cfg}{env:Env}{as:List Addr}{fr:Fra} {σ:Sto}{h:Heap} (F:az g env as fr h) (R:Rel g as σ h):∃ m,Fr g.b env.locals h m ∧ ∀ (i:Nat) (x:Str) (v:V),env.scope.names[i]?=some (x,.local)→fr[i]?=some (some v)→∃ val,m x=some val ∧ RepV as h v val :=
 let ⟨m,hm,hv⟩:=F.ns; ⟨m,⟨hm,R.base,F.above⟩,hv⟩
theorem d5 {b h h':Heap}{L:Addr}{m:Str→Option Value}{news:List (Addr × Obj)} (Fr':Fr b L h' m) (N:News b L h' news) (hs:∀ p ∈ newsOf b L h,p ∈ news) (hb:∀ (a:Addr) (o:Obj),b.get? a=some o→h.get? a=some o) :
  ∀ (a:Addr) (o:Obj),a ≠ L→h.get? a=some o→h'.get? a=some o:=fun a o hL e=>by
 cases q:b.get? a with
 | none=>exact (N (a,o) (hs _ (cD.mpr ⟨e,hL,q⟩))).1
 | some o' =>
  have:=hb a o' q
  rw [e] at this; cases this
  exact Fr'.keep _ _ q
theorem az.notImm {g:Cfg}{env:Env}{as:List Addr}{fr:Fra}{h:Heap} (F:az g env as fr h):∀ a ∈ [env.locals],∀ o,h.get? a=some o→¬ Imm o:=fun a ha o e hi=>by
 simp at ha; subst ha
 obtain ⟨m,⟨o',es,ep,e',d,_⟩,_⟩:=F.ns
 rw [e] at e'; cases e'
 exact hi.2.1 _ _ d
end Mine
namespace Mine
open PySem PyProof.Rows
theorem ja:entryFor table "proto.unchain"=some Builtin.«proto.unchain»:=entryFor_of_fast (by kernel_rfl)
inductive b8 (A:Around) (h:Heap):Prop
 | no (e:A.handled=none):b8 A h
 | is {a C:Addr}{o:Obj}{vs:Array Value} (e:A.handled=some (.ref a)) (ho:h.get? a=some o) (hc:o.cls=.ref C) (hd:o.data=.fields vs) (h2:vs[2]?=some .none):b8 A h
section
variable {prog:Program}{w:World}{A:Around}{E:Value→Shared→Prop}{s:Shared}
set_option tactic.hygienic true in
theorem fe {α:Type}{Q:α→Shared→Prop} (hh:b8 A s.heap)
  (h:∀ e h',(∀ (b:Addr) (o:Obj),s.heap.get? b=some o→h'.get? b=some o)→(∃ o,h'.get? e=some o ∧ o.cls=.type "StopIteration")→E (.ref e) { s with heap:=h' }):wpAny (model prog w) A (newExc (.type "StopIteration") [] >>= fun e=>(raiseNew e:Sem α)) Q E s:=by
 refine wpAny_bind ?_
 simp only [newExc,newTuple]
 refine wpAny_bind (wpAny_newObj_type ?_ (by size_fits))
 refine wpAny_bind (m:=firstArgMember _ _) (wpAny_of_eq (a:=Value.none) (by first | rfl | (simp only [firstArgMember]; rfl)) ?_)
 refine wpAny_newObj_type ?_ (by size_fits)
 have k2:∀ (o1 o2:Obj) (b:Addr) (o:Obj),s.heap.get? b=some o→((s.heap.push o1).push o2).get? b=some o:=fun o1 o2 b o e=>Heap.get?_push_of_some _ (Heap.get?_push_of_some _ e)
 unfold raiseNew
 refine wpAny_bind (wpAny_handled ?_)
 cases hh with
 | no hh =>
  rw [hh]
  exact wpAny_bind (wpAny_pure (wpAny_throw (h _ _ (k2 _ _) ⟨_,Heap.get?_push_size _ rfl,rfl⟩)))
 | is hh ho hc hd h2 =>
  rename_i a C o vs
  rw [hh]
  have hlt:=Heap.lt_size (Heap.get?_push_of_some { cls:=.type "tuple",data:=.seq ([]:List Value).toArray } ho)
  have hne:=Nat.ne_of_lt hlt
  dsimp only
  rw [if_pos (show (Value.ref a != Value.ref (s.heap.push { cls:=.type "tuple",data:=.seq ([]:List Value).toArray }).objs.size)=true from by
   show (!(Value.ref a == Value.ref _))=true
   rw [beq_eq_false_iff_ne.mpr (fun q=>hne (Value.ref.inj q))]; rfl)]
  refine wpAny_bind (wpAny_holding (wpAny_runValue (codeAny_builtin ja ?_)))
  show wpAny _ _ (field (.ref a) 2 >>= _) _ _ _
  refine wpAny_bind (wpAny_field (k2 _ _ _ _ ho) hd (x:=.none) h2 ?_)
  show wpAny _ _ (ret .none) _ _ _
  refine wpAny_pure ?_
  refine wpAny_bind (m:=setField (.ref _) 2 (.ref a)) (wpAny_setField (Heap.get?_push_size _ rfl) rfl (by simp; decide) (wpAny_throw ?_))
  refine h _ _ (fun b ob e=>?_) ⟨_,Heap.get?_update_self _ (Heap.get?_push_size _ rfl) rfl,rfl⟩
  rw [Heap.get?_update_other _ _ (fun q=>?_)]
  ·exact k2 _ _ _ _ e
  ·have h1:=Heap.lt_size (Heap.get?_push_of_some { cls:=.type "tuple",data:=.seq ([]:List Value).toArray } e)
   rw [← q] at h1
   exact Nat.lt_irrefl _ h1
theorem gq {Q:Option Value→Shared→Prop}{X:Value→Shared→Prop}{e:Addr} (h1:∃ o,s.heap.get? e=some o ∧ o.cls=.type "StopIteration") (hQ:Q none s) :
  wpAny (model prog w) A (do if (← isInstance (.ref e) (.type "StopIteration"))=true then pure none else throw (.ref e)) Q X s :=
 wpAny_bind (wpAny_isInstance (T:="StopIteration") (b:=true) h1 isSubtype_stop (wpAny_pure hQ))
theorem b8.upd {h:Heap}{it:Addr}{o:Obj}{t:String}{f:Obj→Obj} (hh:b8 A h) (ho:h.get? it=some o) (hc:o.cls=.type t):b8 A.in1 (h.update it f):=by
 cases hh with
 | no e=>exact .no e
 | is e ho' hc' hd' h2=>exact .is e ((Heap.get?_update_other _ _ (fun q=>by subst q; rw [ho] at ho'; cases ho'; rw [hc] at hc'; cases hc')).trans ho') hc' hd' h2
theorem b8.in1 {h:Heap} (hh:b8 A h):b8 A.in1 h:=by
 cases hh with
 | no e=>exact .no e
 | is e ho' hc' hd' h2=>exact .is e ho' hc' hd' h2
theorem b8.ext {h h':Heap} (hh:b8 A h) (k:∀ (b:Addr) (o:Obj),h.get? b=some o→(∀ t,o.cls ≠ .type t)→h'.get? b=some o):b8 A h':=by
 cases hh with
 | no e=>exact .no e
 | is e ho' hc' hd' h2=>exact .is e (k _ _ ho' fun t q=>by rw [hc'] at q; cases q) hc' hd' h2
theorem ti {it l:Addr}{i:Nat}{items:Array Value}{Q:Option Value→Shared→Prop} (hh:b8 A s.heap) (hit:s.heap.IsListIter it l i) (hl:s.heap.IsList l items) (hx:items[i]?=none)
  (hQ:∀ h',(∀ (b:Addr) (o:Obj),b ≠ it→s.heap.get? b=some o→h'.get? b=some o)→Q none { s with heap:=h' }):wpAny (model prog w) A (pyNext (.ref it)) Q E s:=by
 obtain ⟨o,ho,hc,hd⟩:=id hit
 obtain ⟨ol,hol,_,nl,hdl⟩:=hl
 unfold pyNext
 refine wpAny_bind (wpAny_attempt (wpAny_callSpecial?_slot (name:=Str.ofString "__next__") hit.typeIs slot_listiter_next (wpAny_call_entry slot_listiter_next hit.typeIs entry_listiter_next ?_ (args_listiter_next _))))
 show wpAny _ _ (field (.ref it) 0 >>= _) _ _ s
 refine wpAny_bind (wpAny_field ho hd (x:=.ref l) rfl ?_)
 show wpAny _ _ (if (Value.ref l == Value.none)=true then _ else _) _ _ s
 rw [if_neg (show ¬ ((Value.ref l == Value.none)=true) from Bool.false_ne_true)]
 show wpAny _ _ (field (.ref it) 1 >>= _) _ _ s
 refine wpAny_bind (wpAny_field ho hd (x:=.int i 0) rfl ?_)
 show wpAny _ _ (seqItems? (.ref l) >>= _) _ _ s
 refine wpAny_bind (wpAny_seqItems hol hdl ?_)
 simp only [Int.toNat_natCast,hx]
 refine wpAny_bind (wpAny_rule (wpAny_bind (wpAny_setField ho hd (by simp) ?_)))
 refine fe (hh.upd ho hc) fun e h' k ht=>gq ht (hQ h' fun b ob hb eb=>k b ob ?_)
 rw [Heap.get?_update_other _ _ (Ne.symm hb)]; exact eb
theorem kP {it l:Addr}{i:Nat}{items:Array Value}{Q:Option Value→Shared→Prop} (hh:b8 A s.heap) (hit:s.heap.IsTupleIter it l i) (hl:s.heap.IsTuple l items) (hx:items[i]?=none)
  (hQ:∀ h',(∀ (b:Addr) (o:Obj),b ≠ it→s.heap.get? b=some o→h'.get? b=some o)→Q none { s with heap:=h' }):wpAny (model prog w) A (pyNext (.ref it)) Q E s:=by
 obtain ⟨o,ho,hc,hd⟩:=id hit
 obtain ⟨ol,hol,_,nl,hdl⟩:=hl
 unfold pyNext
 refine wpAny_bind (wpAny_attempt (wpAny_callSpecial?_slot (name:=Str.ofString "__next__") hit.typeIs F.slot_tuple_iterator_next (wpAny_call_entry F.slot_tuple_iterator_next hit.typeIs F.entry_tuple_iterator_next ?_ (F.args_tuple_iterator_next_1 _))))
 show wpAny _ _ (field (.ref it) 0 >>= _) _ _ s
 refine wpAny_bind (wpAny_field ho hd (x:=.ref l) rfl ?_)
 show wpAny _ _ (if (Value.ref l == Value.none)=true then _ else _) _ _ s
 rw [if_neg (show ¬ ((Value.ref l == Value.none)=true) from Bool.false_ne_true)]
 show wpAny _ _ (field (.ref it) 1 >>= _) _ _ s
 refine wpAny_bind (wpAny_field ho hd (x:=.int i 0) rfl ?_)
 show wpAny _ _ (seqItems? (.ref l) >>= _) _ _ s
 refine wpAny_bind (wpAny_seqItems hol hdl ?_)
 simp only [Int.toNat_natCast,hx]
 refine wpAny_bind (wpAny_rule (wpAny_bind (wpAny_setField ho hd (by simp) ?_)))
 refine fe (hh.upd ho hc) fun e h' k ht=>gq ht (hQ h' fun b ob hb eb=>k b ob ?_)
 rw [Heap.get?_update_other _ _ (Ne.symm hb)]; exact eb
theorem oO {it:Addr}{x left step:Int}{Q:Option Value→Shared→Prop} (hh:b8 A s.heap) (hit:IsRangeIter s.heap it x left step) (hleft:left ≤ 0)
  (hQ:∀ h',(∀ (b:Addr) (o:Obj),b ≠ it→s.heap.get? b=some o→h'.get? b=some o)→Q none { s with heap:=h' }):wpAny (model prog w) A (pyNext (.ref it)) Q E s:=by
 have hT:s.TypeIs (.ref it) "range_iterator":=⟨_,hit,rfl⟩
 unfold pyNext
 refine wpAny_bind (wpAny_attempt (wpAny_callSpecial?_slot (name:=Str.ofString "__next__") hT F.slot_range_iterator_next (wpAny_call_entry F.slot_range_iterator_next hT F.entry_range_iterator_next ?_ (F.args_range_iterator_next_1 _))))
 show wpAny _ _ (field (.ref it) 0 >>= _) _ _ s
 refine wpAny_bind (wpAny_field hit rfl (x:=rawInt x) rfl ?_)
 show wpAny _ _ (field (.ref it) 1 >>= _) _ _ s
 refine wpAny_bind (wpAny_field hit rfl (x:=rawInt left) rfl ?_)
 show wpAny _ _ (field (.ref it) 2 >>= _) _ _ s
 refine wpAny_bind (wpAny_field hit rfl (x:=rawInt step) rfl ?_)
 show wpAny _ _ (if left ≤ 0 then _ else _) _ _ s
 rw [if_pos hleft]
 refine wpAny_bind (wpAny_rule (wpAny_bind ?_))
 exact fe hh.in1 fun e h' k ht=>gq ht (hQ h' fun b ob _ eb=>k b ob eb)
theorem j6 {env:Env}{elts:List Expr}{x1:Nat}{pos:Pos}{t:Addr}{items:Array Value}{Q:Unit→Shared→Prop} (hh:b8 A s.heap) (ht:s.heap.IsTuple t items)
  (hn:(assignEach elts env).length=items.size) (hstar:(assignEach elts env).findIdx? (·.1)=none)
  (h:∀ h',(∀ (b:Addr) (o:Obj),s.heap.get? b=some o→h'.get? b=some o)→wpAny (model prog w) A (assignInOrder ((assignEach elts env).map (·.2)) items.toList) Q E { s with heap:=h' }) :
  wpAny (model prog w) A (assign (.Tuple elts x1 pos) env (.ref t)) Q E s:=by
 have hlt:t ≠ s.heap.objs.size:=by obtain ⟨o,ho,_⟩:=ht; exact Nat.ne_of_lt (Heap.lt_size ho)
 rw [arm_assign_Tuple]
 refine wpAny_bind (wpAny_standAt ?_)
 unfold unpack
 rw [hn,hstar]
 refine wpAny_bind (wpAny_holding ?_)
 unfold unpackItems
 refine wpAny_bind ?_
 unfold notIterableAtAll
 refine wpAny_bind (wpAny_specialOf ht.typeIs F.slot_tuple_iter.lookup (wpAny_pure ?_))
 simp only [Bool.false_eq_true,if_false]
 refine wpAny_bind (wpAny_holding (wpAny_pyIter_tuple ht ?_))
 refine wpAny_bind (wpAny_holding (wpAny_draw_tuple hlt items.size 0 _ _ ⟨_,Heap.get?_push_size _ rfl,rfl,rfl⟩ (ht.push _) (Nat.le_of_eq (Nat.zero_add _)) fun h₁ hit₁ hs₁=>?_))
 rw [show List.take items.size (List.drop 0 items.toList)=items.toList from by rw [List.drop_zero]; exact List.take_of_length_le (Nat.le_of_eq Array.length_toList)]
 rw [if_neg (by simp)]
 have k1:∀ (b:Addr) (o:Obj),s.heap.get? b=some o→h₁.get? b=some o:=fun b o e=>hs₁.extBut b o (Nat.ne_of_lt (Heap.lt_size e)) (Heap.get?_push_of_some _ e)
 refine wpAny_bind (wpAny_holding (kP (hh.ext fun b o e _=>k1 b o e) hit₁ ((ht.push _).extBut hs₁.extBut hlt) (by simp) fun h₂ he₂=>?_))
 simp only [Option.isSome_none,Bool.false_eq_true,if_false]
 exact wpAny_pure (h h₂ fun b o e=>he₂ b o (Nat.ne_of_lt (Heap.lt_size e)) (k1 b o e))
end
end Mine
namespace Mine
open PySem PyProof.Rows
noncomputable def aJ (g:Cfg) (env:Env) (as:List Addr) (fr:Fra) (s:Shared) (v:V) (σ':Sto) (Q:Value→Shared→Prop):Prop :=
 ∀ (val:Value) (as':List Addr) (h':Heap) (tk:Nat),aF [env.locals] as s.heap as' h'→Rel g as' σ' h'→az g env as' fr h'→RepV as' h' v val→Q val { s with heap:=h',toks:=tk }
structure At (g:Cfg) (env:Env) (as:List Addr) (fr:Fra) (σ:Sto) (s:Shared):Prop where
 F:az g env as fr s.heap
 R:Rel g as σ s.heap
set_option tactic.hygienic true in
theorem uI {a b:Int} (h:nY a b):IntMulOk a b:=by
 have key:∀ (x:Int) (k:Nat),x.natAbs < 2 ^ k→Builtin.Int.intBits x ≤ k:=fun x k hx=>by
  unfold Builtin.Int.intBits
  split
  ·exact Nat.zero_le _
  ·rename_i h0
   have h0':x.natAbs ≠ 0:=by intro q; apply h0; simp; lia
   exact (Nat.log2_lt h0').mpr hx
 unfold IntMulOk
 rcases h with h | h | ⟨h,h'⟩
 ·have:=key a 64 h
  have e:decide (Builtin.Int.intBits a > shortFactorBits)=false:=decide_eq_false (Nat.not_lt.mpr this)
  rw [e]; simp
 ·have:=key b 64 h
  have e:decide (Builtin.Int.intBits b > shortFactorBits)=false:=decide_eq_false (Nat.not_lt.mpr this)
  rw [e]; simp
 ·have h1:=key a 333 (Nat.lt_of_lt_of_le h (by decide +kernel))
  have h2:=key b 333 (Nat.lt_of_lt_of_le h' (by decide +kernel))
  have e:Builtin.Int.intTooBig (Builtin.Int.intBits a + Builtin.Int.intBits b)=false:=by
   unfold Builtin.Int.intTooBig bitsLine
   have:(2:Nat) ^ 27=134217728:=by decide +kernel
   exact decide_eq_false (by lia)
  rw [e]; simp
set_option tactic.hygienic true in
theorem xm {x y:Int} (h:y.natAbs < 10 ^ 100):Builtin.divisionGoesByPylong x y=false:=by
 unfold Builtin.divisionGoesByPylong
 have h1:(if (y == 0)=true then 0 else y.natAbs.log2 / 30 + 1) ≤ 300:=by
  split
  ·exact Nat.zero_le _
  ·rename_i h0
   have h0':y.natAbs ≠ 0:=by intro q; apply h0; simp; lia
   have:y.natAbs.log2 < 333:=(Nat.log2_lt h0').mpr (Nat.lt_of_lt_of_le h (by decide +kernel))
   lia
 simp only [gt_iff_lt,decide_eq_false (Nat.not_lt.mpr h1),Bool.false_and]
theorem aA (h:Heap) (o:Obj):∀ (a:Addr) (o':Obj),h.get? a=some o'→(h.push o).get? a=some o':=fun _ _ e=>Heap.get?_push_of_some _ e
theorem new_none (h:Heap):h.get? h.objs.size=none:=by
 cases e:h.get? h.objs.size with
 | none=>rfl
 | some o=>exact absurd (Heap.lt_size e) (Nat.lt_irrefl _)
section
variable {g:Cfg}{env:Env}{A:Around}{X:Value→Shared→Prop}{s:Shared}{as:List Addr}{fr:Fra} {σ σ':Sto}{Q:Value→Shared→Prop}
theorem At.frame (T:At g env as fr σ s) {as':List Addr}{h':Heap} (x:aF [] as s.heap as' h'):az g env as' fr h' :=
 T.F.keep (T.R.keep0 x) x (by simp)
theorem aJ.use {v:V} (hQ:aJ g env as fr s v σ' Q) (T:At g env as fr σ s) {val:Value}{as':List Addr}{h':Heap}{tk:Nat} (x:aF [] as s.heap as' h') (R':Rel g as' σ' h') (r:RepV as' h' v val) :
  Q val { s with heap:=h',toks:=tk }:=hQ val as' h' tk (x.grow (by simp)) R' (T.frame x) r
theorem aJ.same {v:V} (hQ:aJ g env as fr s v σ Q) (T:At g env as fr σ s) {val:Value}{tk:Nat} (r:RepV as s.heap v val):Q val { s with toks:=tk }:=hQ.use T (aF.refl _ _ _) T.R r
theorem aJ.same' {v:V} (hQ:aJ g env as fr s v σ Q) (T:At g env as fr σ s) {val:Value} (r:RepV as s.heap v val):Q val s:=hQ.same (tk:=s.toks) T r
theorem aJ.int {i:Int} (hQ:aJ g env as fr s (.int i) σ Q) (T:At g env as fr σ s) {t:Tok}{tk:Nat}:Q (.int i t) { s with toks:=tk }:=hQ.same T (by rw [RepV]; exact ⟨_,rfl⟩)
theorem aJ.bool {b:Bool} (hQ:aJ g env as fr s (.bool b) σ Q) (T:At g env as fr σ s) {tk:Nat}:Q (.bool b) { s with toks:=tk }:=hQ.same T (by rw [RepV])
theorem aJ.bool' {b:Bool} (hQ:aJ g env as fr s (.bool b) σ Q) (T:At g env as fr σ s):Q (.bool b) s:=hQ.bool (tk:=s.toks) T
set_option tactic.hygienic true in
theorem aJ.new {xs:List V}{items:Array Value}{v:V}{tk:Nat}{h':Heap}{a:Addr} (hQ:aJ g env as fr s v σ' Q) (T:At g env as fr σ s) (k:∀ (a:Addr) (o':Obj),s.heap.get? a=some o'→h'.get? a=some o') (hn:s.heap.get? a=none)
  (hp:h'.PlainList a items) (r:ah as s.heap xs items.toList) (e:cQ xs σ=.ok v σ'):Q (.ref a) { s with heap:=h',toks:=tk }:=by
 unfold cQ at e
 split at e
 ·rename_i hz
  cases e
  have K:cR as s.heap (as ++ [a]) h':=⟨fun i b e=>by rw [List.getElem?_append_left (List.getElem?_eq_some_iff.mp e).1]; exact e,fun a o e _=>k a o e⟩
  refine hQ.use T (jV k hn) (T.R.push k hn ⟨items,hp,ah.keep K _ _ r,hz⟩) ?_
  rw [RepV]
  exact ⟨_,rfl,by rw [← T.R.len]; simp⟩
 ·cases e
theorem eA {xs:List V}{v:V} (e:cQ xs σ=.ok v σ'):xs.length ≤ 16777216:=by
 unfold cQ at e; split at e
 ·assumption
 ·cases e
theorem aJ.newH {xs:List V}{items:Array Value}{v:V}{tk:Nat} (hQ:aJ g env as fr s v σ' Q) (T:At g env as fr σ s)
  (r:ah as s.heap xs items.toList) (e:cQ xs σ=.ok v σ'):Q (.ref s.heap.objs.size) { s with heap:=s.heap.push { cls:=.type "list",data:=.seq items },toks:=tk } :=
 hQ.new T (aA _ _) (new_none _) ⟨0,Heap.get?_push_size _ rfl⟩ r e
set_option tactic.hygienic true in
theorem aJ.newN {xs:List V}{items:Array Value}{v:V}{tk n:Nat}{h':Heap}{a:Addr}{m m':Str→Option Value}{news:List (Addr × Obj)} (hQ:aJ g env as fr s v σ' Q) (T:At g env as fr σ s) (hm:s.heap.Ns env.locals m)
  (F':Fr g.b env.locals h' m') (hm':m'=m) (N':News g.b env.locals h' news) (hs:∀ p ∈ newsOf g.b env.locals s.heap,p ∈ news) (hin:(a,({ cls:=.type "list",data:=.seq items n }:Obj)) ∈ news) (hn:s.heap.get? a=none)
  (r:ah as s.heap xs items.toList) (e:cQ xs σ=.ok v σ'):Q (.ref a) { s with heap:=h',toks:=tk }:=by
 subst hm'
 have ext:=d5 F' N' hs T.R.base
 unfold cQ at e
 split at e
 ·rename_i hz
  cases e
  have x:aF [env.locals] as s.heap (as ++ [a]) h':=⟨⟨[a],rfl,fun b hb=>by simp at hb; subst hb; exact hn⟩,fun b o e h1 _=>ext b o (by simpa using h1) e⟩
  have K:=T.R.keep x T.F.notImm
  have hpl:h'.PlainList a items:=⟨n,(N' _ hin).1⟩
  have hL:env.locals ≠ a:=fun q=>(N' _ hin).2.1 q.symm
  have obj':∀ (i:Nat) (b:Addr) (o:AO),as[i]?=some b→σ[i]?=some o→oC g (as ++ [a]) h' o b:=fun i b o h1 h2 =>
   (T.R.obj i b o h1 h2).keep K fun ob e=>ext b ob (fun q=>T.F.off (q ▸ List.mem_of_getElem? h1)) e
  have hna:a ∉ as:=fun q=>by obtain ⟨ob,e,_⟩:=T.R.there q; rw [hn] at e; cases e
  have R':Rel g (as ++ [a]) (σ ++ [.lst xs]) h':=by
   refine ⟨F'.keep,by simp [T.R.len],?_,fun b hb=>?_,fun i b ob h1 h2=>?_,T.R.hnd.keep K⟩
   ·exact List.nodup_append.mpr ⟨T.R.nd,by simp,fun x hx y hy e=>by simp at hy; subst hy; subst e; exact hna hx⟩
   ·rcases List.mem_append.mp hb with q | q
    ·exact T.R.new b q
    ·simp at q; subst q; exact (N' _ hin).2.2
   ·rcases Nat.lt_trichotomy i as.length with hi | hi | hi
    ·rw [List.getElem?_append_left hi] at h1
     rw [List.getElem?_append_left (T.R.len ▸ hi)] at h2
     exact obj' i b ob h1 h2
    ·subst hi
     rw [T.R.len] at h2
     simp at h1 h2; subst h1; subst h2
     exact ⟨items,hpl,ah.keep K _ _ r,hz⟩
    ·rw [List.getElem?_eq_none (by simp; lia)] at h1; cases h1
  refine hQ (.ref a) (as ++ [a]) h' tk x R' ?_ ?_
  ·obtain ⟨m0,hm0,hv⟩:=T.F.ns
   have hmm:∀ x,m0 x=m' x:=fun x=>hm0.agree hm x
   refine ⟨T.F.kind,T.F.above,T.F.glob,T.F.blt,T.F.len,T.F.nd,⟨m',F'.ns,fun i x v h1 h2=>?_⟩,fun i x k h1 h2=>?_,fun q=>?_,fun x c hc=>⟨fun q=>?_,(T.F.offc _ _ hc).2.1,?_⟩,T.F.apart,T.F.newc⟩
   ·obtain ⟨val,e1,e2⟩:=hv i x v h1 h2
    exact ⟨val,by rw [← hmm]; exact e1,RepV.keep K _ _ e2⟩
   ·obtain ⟨c,cv,e1,⟨o,e2,e2'⟩,e3⟩:=T.F.cells i x k h1 h2
    refine ⟨c,cv,e1,⟨o,ext _ _ (T.F.offc _ _ e1).2.1 e2,e2'⟩,fun v e=>?_⟩
    obtain ⟨val,e4,e5⟩:=e3 v e
    exact ⟨val,e4,RepV.keep K _ _ e5⟩
   ·rcases List.mem_append.mp q with q | q
    ·exact T.F.off q
    ·simp at q; exact hL q
   ·rcases List.mem_append.mp q with q | q
    ·exact (T.F.offc _ _ hc).1 q
    ·simp at q; subst q
     obtain ⟨cv,o,e,_⟩:=(T.F.offc _ _ hc).2.2; rw [hn] at e; cases e
   ·obtain ⟨cv,o,e,e'⟩:=(T.F.offc _ _ hc).2.2
    exact ⟨cv,o,ext _ _ (T.F.offc _ _ hc).2.1 e,e'⟩
  ·rw [RepV]; exact ⟨_,rfl,by rw [← T.R.len]; simp⟩
 ·cases e
theorem At.byNews {h':Heap}{m:Str→Option Value}{news:List (Addr × Obj)} (T:At g env as fr σ s) (hm:s.heap.Ns env.locals m) (F':Fr g.b env.locals h' m) (N':News g.b env.locals h' news)
  (hs:∀ p ∈ newsOf g.b env.locals s.heap,p ∈ news):cR as s.heap as h' ∧ aF [env.locals] as s.heap as h' ∧ Rel g as σ h' ∧ az g env as fr h':=by
 have ext:=d5 F' N' hs T.R.base
 have x:aF [env.locals] as s.heap as h':=⟨⟨[],by simp,by simp⟩,fun b o e h1 _=>ext b o (by simpa using h1) e⟩
 have K:=T.R.keep x T.F.notImm
 refine ⟨K,x,⟨F'.keep,T.R.len,T.R.nd,T.R.new,fun i b o h1 h2=>(T.R.obj i b o h1 h2).keep K fun ob e=>ext b ob (fun q=>T.F.off (q ▸ List.mem_of_getElem? h1)) e,T.R.hnd.keep K⟩,?_⟩
 obtain ⟨m0,hm0,hv⟩:=T.F.ns
 have hmm:∀ x,m0 x=m x:=fun x=>hm0.agree hm x
 refine ⟨T.F.kind,T.F.above,T.F.glob,T.F.blt,T.F.len,T.F.nd,⟨m,F'.ns,fun i x v h1 h2=>?_⟩,fun i x k h1 h2=>?_,T.F.off,fun x c hc=>⟨(T.F.offc _ _ hc).1,(T.F.offc _ _ hc).2.1,?_⟩,T.F.apart,T.F.newc⟩
 ·obtain ⟨val,e1,e2⟩:=hv i x v h1 h2
  exact ⟨val,by rw [← hmm]; exact e1,RepV.keep K _ _ e2⟩
 ·obtain ⟨c,cv,e1,⟨o,e2,e2'⟩,e3⟩:=T.F.cells i x k h1 h2
  refine ⟨c,cv,e1,⟨o,ext _ _ (T.F.offc _ _ e1).2.1 e2,e2'⟩,fun v e=>?_⟩
  obtain ⟨val,e4,e5⟩:=e3 v e
  exact ⟨val,e4,RepV.keep K _ _ e5⟩
 ·obtain ⟨cv,o,e,e'⟩:=(T.F.offc _ _ hc).2.2
  exact ⟨cv,o,ext _ _ (T.F.offc _ _ hc).2.1 e,e'⟩
inductive uW (as:List Addr) (h:Heap) (l:Nat) (vs:List V):Value→Prop
 | mk (a:Addr) (items:Array Value) (n:Nat) (hl:as[l]?=some a) (ho:IsL h a items n) (hr:ah as h vs items.toList) (hz:vs.length ≤ 16777216) (hs:items.size=vs.length):uW as h l vs (.ref a)
theorem ib {l:Nat}{x:Value}{vs:List V}{h:Heap} (R:Rel g as σ h) (r:RepV as h (.ref l) x) (e:getL σ l=some vs):uW as h l vs x:=by
 rw [RepV] at r
 obtain ⟨a,rfl,ha⟩:=r
 unfold getL at e
 cases q:σ[l]? with
 | none=>rw [q] at e; exact nn e
 | some o =>
  rw [q] at e
  cases o <;> first | exact nn e | skip
  cases Option.some.inj e
  obtain ⟨items,⟨n,p⟩,hr,z⟩:=R.obj l a _ ha q
  exact ⟨a,items,n,ha,p,hr,z,by have:=(ah.f2.mp hr).length; rw [this,Array.length_toList]⟩
theorem nr {l:Nat}{x:Value}{vs:List V} (R:Rel g as σ s.heap) (r:RepV as s.heap (.ref l) x) (e:getL σ l=some vs) :
  ∃ a items n,x=.ref a ∧ as[l]?=some a ∧ IsL s.heap a items n ∧ ah as s.heap vs items.toList ∧ vs.length ≤ 16777216 ∧ items.size=vs.length:=by
 cases ib R r e with
 | mk a items n hl ho hr hz hs=>exact ⟨a,items,n,rfl,hl,ho,hr,hz,hs⟩
theorem ay {l:Nat}{x:Value}{vs:List V}{G:Prop} (R:Rel g as σ s.heap) (r:RepV as s.heap (.ref l) x) (e:getL σ l=some vs)
  (k:∀ a items n,x=.ref a→as[l]?=some a→IsL s.heap a items n→ah as s.heap vs items.toList→vs.length ≤ 16777216→items.size=vs.length→G):G :=
 let ⟨a,items,n,h1,h2,h3,h4,h5,h6⟩:=nr R r e; k a items n h1 h2 h3 h4 h5 h6
theorem gv {l:Nat}{vs:List V} (e:σ[l]?=some (.lst vs)):getL σ l=some vs:=by unfold getL; rw [e]
theorem kZ (x:Value):∀ (n:Nat) (acc:Array Value),(List.foldl (fun x1 x2=>x1 ++ x2) acc (List.replicate n #[x])).toList=acc.toList ++ List.replicate n x
 | 0,acc=>by simp
 | n + 1,acc=>by rw [List.replicate_succ,List.foldl_cons,kZ x n]; simp [List.replicate_succ]
theorem aw {v:V} {σ':Sto}{P:Prop} (h:RE.bad=.ok v σ'):P:=nomatch h
theorem cg {h:Heap}{i:Int}{x:Value} (r:RepV as h (.int i) x):∃ t,x=.int i t:=by rw [RepV] at r; exact r
theorem l6 {a b v:V}{f:Int→Int→RE} (e:wII a b f=.ok v σ'):∃ x y,a=.int x ∧ b=.int y ∧ f x y=.ok v σ':=by
 cases a <;> first | exact aw e | skip
 cases b <;> first | exact aw e | exact ⟨_,_,rfl,rfl,e⟩
theorem iM {o:Option (List V)}{f:List V→RE}{v:V} (e:(match o with | some xs=>f xs | none=>.bad)=.ok v σ'):∃ xs,o=some xs ∧ f xs=.ok v σ':=by
 cases o with
 | none=>exact aw e
 | some xs=>exact ⟨xs,rfl,e⟩
theorem eM {c:Prop} [Decidable c] {v:V}{r:RE} (e:(if c then r else .bad)=.ok v σ'):c ∧ r=.ok v σ':=by
 by_cases h:c
 ·rw [if_pos h] at e; exact ⟨h,e⟩
 ·rw [if_neg h] at e; exact aw e
theorem bx {v w:V} {τ:Sto} (e:RE.ok v τ=.ok w σ'):w=v ∧ σ'=τ:=by cases e; exact ⟨rfl,rfl⟩
theorem zE {a b v:V}{x y:Value} (T:At g env as fr σ s) (ha:RepV as s.heap a x) (hb:RepV as s.heap b y)
  (e:AN a b σ=.ok v σ') (hQ:aJ g env as fr s v σ' Q):wpAny (model g.prog g.w) A (binaryOp .Add x y) Q X s:=by
 cases a <;> first | exact aw e | skip
 ·cases b <;> first | exact aw e | skip
  obtain ⟨rfl,rfl⟩:=bx e
  obtain ⟨t,rfl⟩:=cg ha; obtain ⟨u,rfl⟩:=cg hb
  exact PyProof.Rows.add_int (hQ.int T)
 ·cases b <;> first | exact aw e | skip
  obtain ⟨hz,e⟩:=eM e
  obtain ⟨rfl,rfl⟩:=bx e
  rw [RepV] at ha hb; obtain ⟨t,rfl⟩:=ha; obtain ⟨u,rfl⟩:=hb
  refine PyProof.Rows.add_str (fun t' tk=>hQ.same T (by rw [RepV]; exact ⟨_,rfl⟩)) (Nat.le_trans hz (by decide))
 ·cases b <;> first | exact aw e | skip
  obtain ⟨xs,e1,e⟩:=iM e
  obtain ⟨ys,e2,e⟩:=iM e
  refine ay T.R ha e1 fun a1 i1 n1 qx _ p1 q1 _ z1=>?_; subst qx
  refine ay T.R hb e2 fun a2 i2 n2 qx _ p2 q2 _ z2=>?_; subst qx
  have hz:=eA e
  refine P.add_list p1 p2 (hQ.newH (tk:=s.toks) (xs:=xs ++ ys) T ?_ e) ?_
  ·rw [Array.toList_append]; exact ah.f2.mpr ((ah.f2.mp q1).append (ah.f2.mp q2))
  ·rw [z1,z2]; show _ ≤ 2 ^ 24; simpa using hz
set_option tactic.hygienic true in
theorem AC {a b v:V}{x y:Value} (T:At g env as fr σ s) (ha:RepV as s.heap a x) (hb:RepV as s.heap b y)
  (e:AL a b σ=.ok v σ') (hQ:aJ g env as fr s v σ' Q):wpAny (model g.prog g.w) A (binaryOp .Mult x y) Q X s:=by
 cases b <;> first | exact aw e | skip
 rename_i n
 obtain ⟨u,rfl⟩:=cg hb
 cases a <;> first | exact aw e | skip
 ·obtain ⟨hm,e⟩:=eM e
  obtain ⟨rfl,rfl⟩:=bx e
  obtain ⟨t,rfl⟩:=cg ha
  exact PyProof.Rows.mul_int (hQ.int T) (uI hm)
 ·rename_i l
  have e:yR (getL σ l) n σ=.ok v σ':=e
  rcases e1:getL σ l with _ | ⟨_ | ⟨x1,_ | ⟨x2,xs⟩⟩⟩ <;> rw [e1] at e
  ·exact aw e
  ·exact aw e
  ·obtain ⟨hlo,e⟩:=eM e
   refine ay T.R ha e1 fun a1 i1 n1 qx _ p1 q1 _ z1=>?_; subst qx
   have hz:=eA e
   rw [List.length_replicate] at hz
   obtain ⟨m,hF,_⟩:=T.F.fr T.R
   have hz1:i1.size=1:=by simpa using z1
   refine mul_list hF (eS _ _ _) p1 (by lia) (by lia) (by rw [hz1]; lia) fun h' F' N'=>?_
   rw [ah] at q1
   obtain ⟨y,ys,q2,q3,q4⟩:=q1
   rw [ah] at q4; subst q4
   have hi:i1=#[y]:=by apply Array.ext'; simpa using q2
   subst hi
   refine hQ.newN (tk:=s.toks) (xs:=List.replicate n.toNat x1) T hF.ns F' rfl N' (fun p hp=>.tail _ hp) (.head _) (new_none _) ?_ e
   have:(if (#[y]:Array Value).isEmpty=true then 0 else n.toNat)=n.toNat:=by simp
   rw [this,kZ]
   simpa using ah.f2.mpr (F2.replicate q3 n.toNat)
  ·exact aw e
theorem zn {op:Operator}{a b v:V}{x y:Value} (T:At g env as fr σ s) (ha:RepV as s.heap a x) (hb:RepV as s.heap b y)
  (e:oA op a b σ=.ok v σ') (hQ:aJ g env as fr s v σ' Q):wpAny (model g.prog g.w) A (binaryOp op x y) Q X s:=by
 cases op <;> first | exact aw e | exact zE T ha hb e hQ | exact AC T ha hb e hQ | skip
 ·obtain ⟨i,j,rfl,rfl,e'⟩:=l6 e
  obtain ⟨rfl,rfl⟩:=bx e'
  obtain ⟨t,rfl⟩:=cg ha; obtain ⟨u,rfl⟩:=cg hb
  exact PyProof.Rows.sub_int (hQ.int T)
 ·obtain ⟨i,j,rfl,rfl,e'⟩:=l6 e
  by_cases hm:j=0
  ·rw [if_pos hm] at e'; exact aw e'
  ·rw [if_neg hm] at e'
   obtain ⟨rfl,rfl⟩:=bx e'
   obtain ⟨t,rfl⟩:=cg ha; obtain ⟨u,rfl⟩:=cg hb
   exact PyProof.Rows.mod_int hm (hQ.int T)
 ·obtain ⟨i,j,rfl,rfl,e'⟩:=l6 e
  obtain ⟨hm,e'⟩:=eM e'
  obtain ⟨rfl,rfl⟩:=bx e'
  obtain ⟨t,rfl⟩:=cg ha; obtain ⟨u,rfl⟩:=cg hb
  exact PyProof.Rows.floordiv_int hm.1 (hQ.int T) (.inl (xm hm.2))
end
end Mine
namespace Mine
open PySem PyProof.Rows
structure bU (g:Cfg) (A:Around) (n:Nat):Prop where
 units:A.units + 20 * n + 60 ≤ 9900
 depth:A.depth + 4 * n + 20 ≤ 1000
 handled:A.handled=g.hd.map .ref
theorem bU.none {g:Cfg}{A:Around}{n:Nat} (h:bU g A n) (q:g.hd=.none):A.handled=.none:=by rw [h.handled,q]; rfl
theorem jw {g:Cfg}{A:Around}{as:List Addr} {σ:Sto}{h:Heap} (e:A.handled=g.hd.map .ref) (R:Rel g as σ h):b8 A h:=by
 cases q:g.hd with
 | none=>rw [q] at e; exact .no e
 | some a =>
  rw [q] at e
  obtain ⟨o,C,vs,e1,e2,e3,e4⟩:=R.hnd a q
  exact .is e e1 e2 e3 e4
set_option tactic.hygienic true in
theorem pf {α β:Type}{f:α→Option β}{x:α}{xs:List α}{ys:List β} (e:aP f (x :: xs)=some ys):∃ y r,f x=some y ∧ aP f xs=some r ∧ ys=y :: r:=by
 rw [kc] at e
 split at e
 ·rename_i y r h1 h2; cases e; exact ⟨y,r,h1,h2,rfl⟩
 ·cases e
section
variable {g:Cfg}{as:List Addr} {σ:Sto}{h:Heap}
theorem cn {α β:Type}{f:α→Option β}{x:α}{xs:List α}{ys:List β}{G:Prop} (e:aP f (x :: xs)=some ys) (k:∀ y r,f x=some y→aP f xs=some r→ys=y :: r→G):G:=let ⟨y,r,h1,h2,h3⟩:=pf e; k y r h1 h2 h3
theorem ee {f:V→Option PyData}{n:Nat} (hf:∀ v d x,f v=some d→RepV as h v x→∃ bs,Reads h x d bs ∧ d.canLay0=true ∧ d.depth ≤ n) :
  ∀ (vs:List V) (ds:List PyData) (xs:List Value),aP f vs=some ds→ah as h vs xs→∃ bs,ReadsAll h xs ds bs ∧ PyData.canLayAll0 ds=true ∧ PyData.depthAll ds ≤ n
 | [],ds,xs,e,r=>by
  rw [dC] at e; cases e; rw [ah] at r; subst r
  exact ⟨_,.nil,rfl,by simp [PyData.depthAll]⟩
 | v :: vs,ds,xs,e,r=>by
  refine cn e fun d r' e1 e2 qx4=>?_; subst qx4
  rw [ah] at r
  obtain ⟨y,ys,rfl,r1,r2⟩:=r
  obtain ⟨b1,h1,h2,h3⟩:=hf v d y e1 r1
  obtain ⟨b2,h4,h5,h6⟩:=ee hf vs r' ys e2 r2
  exact ⟨_,.cons h1 h4,by simp [PyData.canLayAll0,h2,h5],by simp [PyData.depthAll]; lia⟩
set_option tactic.hygienic true in
theorem eP (R:Rel g as σ h):∀ (n:Nat) (v:V) (d:PyData) (x:Value),toD n σ v=some d→RepV as h v x→∃ bs,Reads h x d bs ∧ d.canLay0=true ∧ d.depth ≤ n
 | 0,_,_,_,e,_=>nn e
 | n + 1,v,d,x,e,r=>by
  have ih:=eP R n
  have e:AX (toD n σ) σ v=some d:=e
  cases v with
  | none=>cases e; rw [RepV] at r; subst r; exact ⟨_,.none,rfl,Nat.zero_le _⟩
  | bool b=>cases e; rw [RepV] at r; subst r; exact ⟨_,.bool b,rfl,Nat.zero_le _⟩
  | int i=>cases e; rw [RepV] at r; obtain ⟨t,rfl⟩:=r; exact ⟨_,.int i t,rfl,Nat.zero_le _⟩
  | str s =>
   have e:(if PyData.strOk s then some (PyData.str s) else none)=some d:=e
   split at e
   ·rename_i ho; cases e; rw [RepV] at r; obtain ⟨t,rfl⟩:=r; exact ⟨_,.str s t,by simpa [PyData.canLay0] using ho,Nat.zero_le _⟩
   ·cases e
  | tup vs =>
   refine bZ e fun ds e1 qx2=>?_; subst qx2
   rw [RepV] at r
   obtain ⟨a,items,k,rfl,ho,_,hr⟩:=r
   obtain ⟨bs,h1,h2,h3⟩:=ee ih vs ds _ e1 hr
   exact ⟨_,.tuple ho rfl rfl h1,h2,Nat.succ_le_succ h3⟩
  | ref l =>
   have e:(match getL σ l with | some vs=>(aP (toD n σ) vs).map PyData.list | none=>none)=some d:=e
   cases hl:getL σ l with
   | none=>rw [hl] at e; exact nn e
   | some vs =>
    rw [hl] at e
    refine bZ e fun ds e1 qx2=>?_; subst qx2
    refine ay (s:={ heap:=h }) R r hl fun a items k qx _ ho hr _ _=>?_; subst qx
    obtain ⟨bs,h1,h2,h3⟩:=ee ih vs ds _ e1 hr
    exact ⟨_,.list ho rfl rfl h1,h2,Nat.succ_le_succ h3⟩
  | rng lo hi=>exact nn e
  | exc c=>exact nn e
end
theorem br {as:List Addr}{h:Heap}:∀ {vs:List V}{is:List Int}{xs:List Value},aB vs=some is→ah as h vs xs→IntsAre xs is
 | [],is,xs,e,r=>by
  unfold aB at e; rw [dC] at e; cases e; rw [ah] at r; subst r; exact .nil
 | v :: vs,is,xs,e,r=>by
  unfold aB at e
  refine cn e fun i r' e1 e2 qx4=>?_; subst qx4
  rw [ah] at r
  obtain ⟨y,ys,rfl,r1,r2⟩:=r
  cases v with
  | int j=>cases e1; rw [RepV] at r1; obtain ⟨t,rfl⟩:=r1; exact .cons _ _ (br (vs:=vs) e2 r2)
  | _=>cases e1
section
variable {g:Cfg}{env:Env}{A:Around}{X:Value→Shared→Prop}{s:Shared}{as:List Addr}{fr:Fra} {σ σ':Sto}{Q:Value→Shared→Prop}
set_option tactic.hygienic true in
theorem A4 {a b:V}{x y:Value}{r:Bool}{n:Nat} (T:At g env as fr σ s) (hA:bU g A n) (ha:RepV as s.heap a x) (hb:RepV as s.heap b y)
  (e:eqV σ a b=some r) (hQ:Q (.bool r) s):wpAny (model g.prog g.w) A (compareOp .Eq x y) Q X s:=by
 unfold eqV at e
 split at e
 ·rename_i da db e1 e2
  cases e
  obtain ⟨_,r1,c1,d1⟩:=eP T.R 5 a da x e1 ha
  obtain ⟨_,r2,c2,d2⟩:=eP T.R 5 b db y e2 hb
  exact SeqAt.compareEq_reads r1 r2 c1 c2 (by have:=hA.units; show _ < 9900; lia) hQ
 ·cases e
set_option tactic.hygienic true in
theorem A1 {a b:V}{x y:Value}{r:Bool}{n:Nat} (T:At g env as fr σ s) (hA:bU g A n) (ha:RepV as s.heap a x) (hb:RepV as s.heap b y)
  (e:eqV σ a b=some r) (hQ:Q (.bool (!r)) s):wpAny (model g.prog g.w) A (compareOp .NotEq x y) Q X s:=by
 unfold eqV at e
 split at e
 ·rename_i da db e1 e2
  cases e
  obtain ⟨_,r1,c1,d1⟩:=eP T.R 5 a da x e1 ha
  obtain ⟨_,r2,c2,d2⟩:=eP T.R 5 b db y e2 hb
  exact SeqAt.compareNe_reads r1 r2 c1 c2 (by have:=hA.units; show _ < 9900; lia) hQ
 ·cases e
theorem uj {is:List Int}{i:Int}:is.any (· == i)=decide (i ∈ is):=by
 induction is with
 | nil=>rfl
 | cons j r ih =>
  rw [List.any_cons,ih]
  by_cases h:j=i
  ·subst h; simp
  ·have h':¬ i=j:=fun q=>h q.symm
   simp [h,h']
structure Sys (g:Cfg):Prop where
 sys:sysModules < g.b.objs.size
theorem vq {h:Heap}{i:Int}:∀ {es:List (Int × V)}{kvs:List (Int × Value)},F2 (fun (e:Int × V) (x:Int × Value)=>e.1=x.1 ∧ RepV as h e.2 x.2) es kvs →
  (valueAt kvs i).isSome=es.any (fun e=>e.1 == i) ∧ ∀ v,es.lookup i=some v→∃ y,valueAt kvs i=some y ∧ RepV as h v y:=by
 intro es kvs f
 induction f with
 | nil=>exact ⟨rfl,fun v e=>by cases e⟩
 | @cons a b as' bs x r ih =>
  obtain ⟨h1,h2⟩:=x
  obtain ⟨k,v0⟩:=a
  obtain ⟨k',y0⟩:=b
  have h1':k=k':=h1
  subst h1'
  have e0:valueAt ((k,y0) :: bs) i=if k=i then some y0 else valueAt bs i:=by
   unfold valueAt
   rw [List.find?_cons]
   by_cases hk:k=i <;> simp [hk]
  rw [e0,List.lookup_cons,List.any_cons]
  by_cases hk:k=i
  ·subst hk; simpa using h2
  ·simp only [hk,if_false,Bool.false_or,beq_eq_false_iff_ne.mpr hk,show (i == k)=false from beq_eq_false_iff_ne.mpr (Ne.symm hk)]
   exact ih
theorem xi {h:Heap}{i:List Int}:∀ {es:List (List Int × V)}{xs:List (List Int × Addr × Value)},F2 (fun (e:List Int × V) (x:List Int × Addr × Value)=>e.1=x.1 ∧ RepV as h e.2 x.2.2) es xs →
  (atKey xs i).isSome=es.any (fun e=>e.1 == i) ∧ ∀ v,es.lookup i=some v→∃ p,atKey xs i=some p ∧ RepV as h v p.2:=by
 intro es xs f
 induction f with
 | nil=>exact ⟨rfl,fun v e=>by cases e⟩
 | @cons a b as' bs x r ih =>
  obtain ⟨h1,h2⟩:=x
  obtain ⟨k,v0⟩:=a
  obtain ⟨k',y0⟩:=b
  have h1':k=k':=h1
  subst h1'
  have e0:atKey ((k,y0) :: bs) i=if k=i then some y0 else atKey bs i:=by
   unfold atKey
   rw [List.find?_cons]
   by_cases hk:k=i <;> simp [hk]
  rw [e0,List.lookup_cons,List.any_cons]
  by_cases hk:k=i
  ·subst hk; simpa using h2
  ·simp only [hk,if_false,Bool.false_or,beq_eq_false_iff_ne.mpr hk,show (i == k)=false from beq_eq_false_iff_ne.mpr (Ne.symm hk)]
   exact ih
theorem g9 {ks:List V}{k:List Int}{x:Value}{h:Heap} (r:RepV as h (.tup ks) x) (e:aB ks=some k):∃ a,x=.ref a ∧ IsTupleKey (intKind g.prog g.w) h k a:=by
 rw [RepV] at r
 obtain ⟨a,items,n,rfl,ho,_,hr⟩:=r
 refine ⟨a,rfl,_,items,n,ho,rfl,rfl,?_⟩
 have:=br e hr
 clear ho hr e
 generalize items.toList=xs at this
 induction this with
 | nil=>exact .nil
 | cons n t _ ih=>exact .cons (intKind_is _ _ _ _) ih
inductive InC (σ:Sto) (r:Bool):V→V→Prop
 | lst {l:Nat}{i:Int}{vs:List V}{is:List Int} (hl:σ[l]?=some (.lst vs)) (e1:aB vs=some is) (e2:decide (i ∈ is)=r):InC σ r (.int i) (.ref l)
 | dI {l:Nat}{i:Int}{es:List (Int × V)} (hl:σ[l]?=some (.dI es)) (e2:(es.any fun e=>e.1 == i)=r):InC σ r (.int i) (.ref l)
 | dT {l:Nat}{ks:List V}{k:List Int}{es:List (List Int × V)} (hl:σ[l]?=some (.dT es)) (e1:aB ks=some k) (e2:(es.any fun e=>e.1 == k)=r):InC σ r (.tup ks) (.ref l)
set_option tactic.hygienic true in
theorem oQ {a c:V}{r:Bool} (e:inV σ a c=some r):InC σ r a c:=by
 cases c <;> first | exact nn e | skip
 rename_i l
 have e:inO σ[l]? a=some r:=e
 cases hl:σ[l]? with
 | none=>rw [hl] at e; exact nn e
 | some o =>
  rw [hl] at e
  cases o <;> first | exact nn e | skip
  ·cases a <;> first | exact nn e | skip
   refine bZ e fun is e1 e2=>?_
   exact .lst hl e1 e2
  ·cases a <;> first | exact nn e | skip
   exact .dI hl (Option.some.inj e)
  ·cases a <;> first | exact nn e | skip
   refine bZ e fun k e1 e2=>?_
   exact .dT hl e1 e2
theorem Bd {a c:V}{x y:Value}{r:Bool}{n:Nat} (G:Sys g) (T:At g env as fr σ s) (hA:bU g A n) (ha:RepV as s.heap a x) (hc:RepV as s.heap c y)
  (e:inV σ a c=some r) (hQ:aJ g env as fr s (.bool r) σ Q):wpAny (model g.prog g.w) A (compareOp .In x y) Q X s:=by
 cases oQ e with
 | lst hl e1 e2 =>
  refine ay T.R hc (gv hl) fun a1 items k qx _ ho hr _ _=>?_; subst qx
  rw [RepV] at ha; obtain ⟨t,rfl⟩:=ha
  have hi:=br e1 hr
  refine in_list_ints (vs:=items.toList) (by simpa using ho.isList) hi ?_
  rw [uj,e2]; exact hQ.bool' T
 | dI hl e2 =>
  subst e2
  rw [RepV] at ha; rw [RepV] at hc; obtain ⟨t,rfl⟩:=ha; obtain ⟨d,rfl,hd⟩:=hc
  obtain ⟨kvs,hk,hf,_,hns⟩:=T.R.obj _ _ _ hd hl
  refine wpAny_in_of (intKind_is _ _ _ t) hns hk.mapOf ?_
  rw [(vq hf).1]; exact hQ.bool T
 | dT hl e1 e2 =>
  obtain ⟨ta,rfl,hk⟩:=g9 (g:=g) ha e1
  rw [RepV] at hc; obtain ⟨d,rfl,hd⟩:=hc
  obtain ⟨xs,hx,hf,_,hns⟩:=T.R.obj _ _ _ hd hl
  refine wpAny_in_heap (knd:=tupleKind (intKind g.prog g.w)) (tupleKind_room_in1 (by have:=hA.units; show _ < 9900; lia)) hk hns hx ?_
  rw [(xi hf).1,e2]; exact hQ.bool T
theorem vI {a c:V}{x y:Value}{r:Bool} (G:Sys g) (T:At g env as fr σ s) (ha:RepV as s.heap a x) (hc:RepV as s.heap c y)
  (e:iG σ a c=some r) (hQ:aJ g env as fr s (.bool r) σ Q):wpAny (model g.prog g.w) A (compareOp .NotIn x y) Q X s:=by
 cases a <;> first | exact nn e | skip
 refine bZ e fun r0 e' qx2=>?_; subst qx2
 cases oQ e' with
 | lst hl e1 e2 =>
  refine ay T.R hc (gv hl) fun a1 items k qx _ ho hr _ _=>?_; subst qx
  rw [RepV] at ha; obtain ⟨t,rfl⟩:=ha
  have hi:=br e1 hr
  refine notin_list_ints (vs:=items.toList) (by simpa using ho.isList) hi ?_
  rw [uj,e2]; exact hQ.bool' T
 | dI hl e2 =>
  subst e2
  rw [RepV] at ha; rw [RepV] at hc; obtain ⟨t,rfl⟩:=ha; obtain ⟨d,rfl,hd⟩:=hc
  obtain ⟨kvs,hk,hf,_,hns⟩:=T.R.obj _ _ _ hd hl
  refine wpAny_notIn_of (intKind_is _ _ _ t) hns hk.mapOf ?_
  rw [(vq hf).1]; exact hQ.bool T
theorem iK {h:Heap}{v:V}{x:Value} (r:RepV as h v x):(x == Value.none)=isNone v:=by
 cases v with
 | none=>rw [RepV] at r; subst r; rfl
 | bool b=>rw [RepV] at r; subst r; rfl
 | int i=>rw [RepV] at r; obtain ⟨t,rfl⟩:=r; rfl
 | str i=>rw [RepV] at r; obtain ⟨t,rfl⟩:=r; rfl
 | tup i=>rw [RepV] at r; obtain ⟨t,_,_,rfl,_⟩:=r; rfl
 | ref i=>rw [RepV] at r; obtain ⟨t,rfl,_⟩:=r; rfl
 | rng i j=>rw [RepV] at r; obtain ⟨t,_,_,_,rfl,_⟩:=r; rfl
 | exc c=>rw [RepV] at r; obtain ⟨t,_,_,rfl,_⟩:=r; rfl
theorem jQ {op:CmpOp}{a b:V}{x y:Value}{r:Bool}{n:Nat} (G:Sys g) (T:At g env as fr σ s) (hA:bU g A n) (ha:RepV as s.heap a x) (hb:RepV as s.heap b y)
  (e:gP op a b σ=some r) (hQ:aJ g env as fr s (.bool r) σ Q):wpAny (model g.prog g.w) A (compareOp op x y) Q X s:=by
 unfold gP at e
 cases op with
 | Lt =>
  dsimp only at e; split at e
  ·cases e; rw [RepV] at ha hb; obtain ⟨t,rfl⟩:=ha; obtain ⟨u,rfl⟩:=hb; exact PyProof.Rows.lt_int (hQ.bool' T)
  ·cases e
 | LtE =>
  dsimp only at e; split at e
  ·cases e; rw [RepV] at ha hb; obtain ⟨t,rfl⟩:=ha; obtain ⟨u,rfl⟩:=hb; exact PyProof.Rows.le_int (hQ.bool' T)
  ·cases e
 | Gt =>
  dsimp only at e; split at e
  ·cases e; rw [RepV] at ha hb; obtain ⟨t,rfl⟩:=ha; obtain ⟨u,rfl⟩:=hb; exact PyProof.Rows.gt_int (hQ.bool' T)
  ·cases e
 | GtE =>
  dsimp only at e; split at e
  ·cases e; rw [RepV] at ha hb; obtain ⟨t,rfl⟩:=ha; obtain ⟨u,rfl⟩:=hb; exact PyProof.Rows.ge_int (hQ.bool' T)
  ·cases e
 | Eq =>
  dsimp only at e; split at e
  ·cases e; rw [RepV] at ha hb; obtain ⟨t,rfl⟩:=ha; obtain ⟨u,rfl⟩:=hb; exact PyProof.Rows.eq_int (hQ.bool' T)
  ·exact A4 T hA ha hb e (hQ.bool' T)
 | NotEq =>
  dsimp only at e; split at e
  ·cases e; rw [RepV] at ha hb; obtain ⟨t,rfl⟩:=ha; obtain ⟨u,rfl⟩:=hb; exact PyProof.Rows.ne_int (hQ.bool' T)
  ·obtain ⟨r',e1,rfl⟩:=Option.map_eq_some_iff.mp e
   exact A1 T hA ha hb e1 (hQ.bool' T)
 | Is =>
  dsimp only at e; split at e
  ·cases e; rw [RepV] at hb; subst hb
   exact is_none_gen (by rw [iK ha]; exact hQ.bool' T)
  ·cases e
 | IsNot =>
  dsimp only at e; split at e
  ·cases e; rw [RepV] at hb; subst hb
   exact isnot_none_gen (by rw [iK ha]; exact hQ.bool' T)
  ·cases e
 | In=>exact Bd G T hA ha hb e hQ
 | NotIn=>exact vI G T ha hb e hQ
end
end Mine
namespace Mine
open PySem PyProof.Rows
section
variable {g:Cfg}{env:Env}{A:Around}{X:Value→Shared→Prop}{s:Shared}{as:List Addr}{fr:Fra} {σ σ':Sto}{Q:Value→Shared→Prop}
theorem pZ {h:Heap}{vs:List V}{xs:List Value}{k:Int}{v:V} (r:ah as h vs xs) (e:nE vs k=some v) :
  ∃ y,RepV as h v y ∧ ((0 ≤ k ∧ k < vs.length ∧ xs[k.toNat]?=some y) ∨ (k < 0 ∧ -(vs.length:Int) ≤ k ∧ xs[(k + vs.length).toNat]?=some y)):=by
 unfold nE at e
 split at e
 ·obtain ⟨y,h1,h2⟩:=(ah.f2.mp r).get e
  have:=(List.getElem?_eq_some_iff.mp e).1
  exact ⟨y,h2,.inl ⟨by assumption,by lia,h1⟩⟩
 ·split at e
  ·obtain ⟨y,h1,h2⟩:=(ah.f2.mp r).get e
   exact ⟨y,h2,.inr ⟨by lia,by assumption,h1⟩⟩
  ·cases e
theorem qF {l:Nat}{x:Value}{vs:List V} (R:Rel g as σ s.heap) (r:RepV as s.heap (.ref l) x) (e:σ[l]?=some (.frz vs)) :
  ∃ a items n,x=.ref a ∧ as[l]?=some a ∧ IsL s.heap a items n ∧ ah as s.heap vs items.toList ∧ vs.length ≤ 16777216 ∧ items.size=vs.length:=by
 rw [RepV] at r
 obtain ⟨a,rfl,ha⟩:=r
 obtain ⟨items,n,e1,e2,q,z⟩:=R.obj l a _ ha e
 rw [e2] at e1
 exact ⟨a,items,n,rfl,ha,e1,q,z,by have:=(ah.f2.mp q).length; simpa using this.symm⟩
inductive xo (σ:Sto) (v:V):V→V→Prop
 | tup {vs:List V}{k:Int} (e:nE vs k=some v):xo σ v (.tup vs) (.int k)
 | lst {l:Nat}{vs:List V}{k:Int} (hl:σ[l]?=some (.lst vs) ∨ σ[l]?=some (.frz vs)) (e:nE vs k=some v):xo σ v (.ref l) (.int k)
 | dI {l:Nat}{es:List (Int × V)}{k:Int} (hl:σ[l]?=some (.dI es)) (e:es.lookup k=some v):xo σ v (.ref l) (.int k)
 | dT {l:Nat}{ks:List V}{k:List Int}{es:List (List Int × V)} (hl:σ[l]?=some (.dT es)) (he:aB ks=some k) (e:es.lookup k=some v):xo σ v (.ref l) (.tup ks)
set_option tactic.hygienic true in
theorem nb {a i v:V} (e:lf a i σ=some v):xo σ v a i:=by
 cases a <;> first | exact nn e | skip
 ·cases i <;> first | exact nn e | exact .tup e
 rename_i l
 have e:AV σ[l]? i=some v:=e
 cases hl:σ[l]? with
 | none=>rw [hl] at e; exact nn e
 | some o =>
  rw [hl] at e
  cases o <;> first | exact nn e | skip
  ·cases i <;> first | exact nn e | exact .lst (.inl hl) e
  ·cases i <;> first | exact nn e | exact .dI hl e
  ·cases i <;> first | exact nn e | skip
   refine bT e fun k e1 e2=>?_
   exact .dT hl e1 e2
  ·cases i <;> first | exact nn e | exact .lst (.inr hl) e
theorem uK {l:Nat}{x:Value}{vs:List V} (R:Rel g as σ s.heap) (r:RepV as s.heap (.ref l) x) (e:σ[l]?=some (.lst vs) ∨ σ[l]?=some (.frz vs)) :
  ∃ a items n,x=.ref a ∧ as[l]?=some a ∧ IsL s.heap a items n ∧ ah as s.heap vs items.toList ∧ vs.length ≤ 16777216 ∧ items.size=vs.length :=
 e.elim (fun e=>nr R r (gv e)) fun e=>qF R r e
theorem rN {a i v:V}{x y:Value}{n:Nat} (T:At g env as fr σ s) (hA:bU g A n) (ha:RepV as s.heap a x) (hi:RepV as s.heap i y)
  (e:lf a i σ=some v) (hQ:aJ g env as fr s v σ Q):wpAny (model g.prog g.w) A (getItem x y) Q X s:=by
 cases nb e with
 | @tup vs k e1 =>
  rw [RepV] at ha; rw [RepV] at hi
  obtain ⟨t,rfl⟩:=hi
  obtain ⟨ad,items,m,rfl,ho,hz,hr⟩:=ha
  obtain ⟨y,r,hh⟩:=pZ hr e1
  have hl:vs.length=items.size:=by have:=(ah.f2.mp hr).length; simpa using this
  refine PyProof.Rows.getItem_tuple (j:=if 0 ≤ k then k.toNat else (k + vs.length).toNat) (x:=y) ⟨_,ho,rfl,m,rfl⟩ ?_ ?_ ?_ ?_ (hQ.same' T r)
  ·rcases hh with hh | hh <;> lia
  ·rcases hh with hh | hh <;> lia
  ·unfold seqIndex?
   rcases hh with ⟨h1,h2,h3⟩ | ⟨h1,h2,h3⟩
   ·simp only [show ¬ k < 0 by lia,if_false,h1,if_true]
    rw [if_pos (by simp; lia)]
   ·simp only [h1,if_true,show ¬ 0 ≤ k by lia,if_false,← hl]
    rw [if_pos (by simp; lia)]
  ·rcases hh with ⟨h1,h2,h3⟩ | ⟨h1,h2,h3⟩
   ·rw [if_pos h1]; simpa using h3
   ·rw [if_neg (by lia)]; simpa using h3
 | lst hl e1 =>
  obtain ⟨ad,items,m,rfl,_,ho,hr,hz,hsz⟩:=uK T.R ha hl
  rw [RepV] at hi; obtain ⟨t,rfl⟩:=hi
  obtain ⟨y,r,hh⟩:=pZ hr e1
  rcases hh with ⟨h1,h2,h3⟩ | ⟨h1,h2,h3⟩
  ·exact wpAny_getItem_list ho.isList h1 (by lia) (by simpa using h3) (hQ.same' T r)
  ·exact wpAny_getItem_list_neg ho.isList h1 (by lia) (by lia) (by rw [hsz]; simpa using h3) (hQ.same' T r)
 | dI hl e1 =>
  rw [RepV] at ha; rw [RepV] at hi
  obtain ⟨t,rfl⟩:=hi
  obtain ⟨d,rfl,hd⟩:=ha
  obtain ⟨kvs,hk,hf,_⟩:=T.R.obj _ _ _ hd hl
  obtain ⟨y,h1,h2⟩:=(vq hf).2 v e1
  exact wpAny_getItem_of (intKind_is _ _ _ t) hk.mapOf h1 (hQ.same T h2)
 | dT hl he e1 =>
  obtain ⟨ta,rfl,hk⟩:=g9 (g:=g) hi he
  rw [RepV] at ha; obtain ⟨d,rfl,hd⟩:=ha
  obtain ⟨xs,hx,hf,_⟩:=T.R.obj _ _ _ hd hl
  obtain ⟨p,h1,h2⟩:=(xi hf).2 v e1
  exact wpAny_getItem_heap (knd:=tupleKind (intKind g.prog g.w)) (tupleKind_room_in1 (by have:=hA.units; show _ < 9900; lia)) hk hx h1 (hQ.same T h2)
theorem Ai {a i v:V}{x y:Value}{n:Nat}{ve ie:Expr} (T:At g env as fr σ s) (hA:bU g A n) (ha:RepV as s.heap a x) (hi:RepV as s.heap i y)
  (hs:∀ o i,subscripted ie false o i=operate [o,i] (getItem o i))
  (e:lf a i σ=some v) (hQ:aJ g env as fr s v σ Q):wpAny (model g.prog g.w) A (subscriptTail ve ie x y) Q X s:=by
 have hg:=rN (X:=X) T hA ha hi e hQ
 cases nb e with
 | tup e =>
  rw [RepV] at ha
  obtain ⟨ad,items,m,rfl,ho,hz,hr⟩:=ha
  exact tail_any (T:="tuple") ⟨_,ho,rfl⟩ F.slot_tuple_getitem.lookup hg (hs _ _)
 | lst hl e =>
  obtain ⟨ad,items,m,rfl,_,ho,_⟩:=uK T.R ha hl
  exact tail_any (T:="list") ⟨_,ho,rfl⟩ slot_list_getitem.lookup hg (hs _ _)
 | dI hl e =>
  rw [RepV] at ha; obtain ⟨d,rfl,hd⟩:=ha
  obtain ⟨kvs,hk,hf,_⟩:=T.R.obj _ _ _ hd hl
  exact tail_any (T:="dict") hk.typeIs slot_dict_getitem.lookup hg (hs _ _)
 | dT hl he e =>
  rw [RepV] at ha; obtain ⟨d,rfl,hd⟩:=ha
  obtain ⟨xs,hx,hf,_⟩:=T.R.obj _ _ _ hd hl
  exact tail_any (T:="dict") hx.typeIs slot_dict_getitem.lookup hg (hs _ _)
set_option tactic.hygienic true in
theorem zh {a:V}{x:Value}{i:Int} (G:Sys g) (T:At g env as fr σ s) (ha:RepV as s.heap a x) (e:sz a σ=some i) (hQ:aJ g env as fr s (.int i) σ Q) :
  wpAny (model g.prog g.w) A (call (.builtin "len") [x]) Q X s:=by
 unfold sz at e
 split at e
 ·rename_i vs
  cases e
  rw [RepV] at ha
  obtain ⟨ad,items,m,rfl,ho,hz,hr⟩:=ha
  have hl:vs.length=items.size:=by have:=(ah.f2.mp hr).length; simpa using this
  refine P.len_tuple ho (by lia) ?_
  rw [← hl]; exact hQ.int T
 ·split at e
  ·rename_i vs hl
   cases e
   refine ay T.R ha (gv hl) fun ad items m qx _ ho hr hz hsz=>?_; subst qx
   refine Calls.call_len_list ho.isList (by lia) ?_
   rw [hsz]; exact hQ.int T
  ·rename_i vs hl
   cases e
   obtain ⟨ad,items,m,rfl,_,ho,hr,hz,hsz⟩:=qF T.R ha hl
   refine Calls.call_len_list ho.isList (by lia) ?_
   rw [hsz]; exact hQ.int T
  ·rename_i es hl
   cases e
   rw [RepV] at ha; obtain ⟨d,rfl,hd⟩:=ha
   obtain ⟨kvs,hk,hf,hz⟩:=T.R.obj _ _ _ hd hl
   have:=hf.length
   refine call_len_dict hz.2 hk (by have:=hz.1; lia) ?_
   rw [← this]; exact hQ.int T
  ·cases e
 ·cases e
end
end Mine
namespace Mine
set_option backward.match.sparseCases false
open PySem PyProof.Rows
noncomputable def sC:Ty→Option Value
 | .int=>some (.type "int") | .bool=>some (.type "bool") | .tuple=>some (.type "tuple") | .list=>some (.type "list")
 | _=>none
section
variable {g:Cfg}{env:Env}{A:Around}{X:Value→Shared→Prop}{s:Shared}{as:List Addr}{fr:Fra} {σ σ':Sto}{Q:Value→Shared→Prop}
inductive KdX (h:Heap):Nat→Value→Prop
 | int (i:Int) (t:Tok):KdX h 0 (.int i t)
 | bool (b:Bool):KdX h 1 (.bool b)
 | str (x:Str) (t:Tok):KdX h 2 (.str x t)
 | tup (a:Addr) (o:Obj) (ho:h.get? a=some o) (hc:o.cls=.type "tuple"):KdX h 3 (.ref a)
 | lst (a:Addr) (o:Obj) (ho:h.get? a=some o) (hc:o.cls=.type "list"):KdX h 4 (.ref a)
theorem sS {a:V}{x:Value}{k:Nat} (R:Rel g as σ s.heap) (ha:RepV as s.heap a x) (e:tyK a σ=some k):KdX s.heap k x:=by
 cases a with
 | int i=>rw [RepV] at ha; rw [← Option.some.inj e]; exact ha.elim fun t q=>q ▸ .int _ _
 | bool b=>rw [RepV] at ha; rw [← Option.some.inj e,ha]; exact .bool _
 | str x=>rw [RepV] at ha; rw [← Option.some.inj e]; exact ha.elim fun t q=>q ▸ .str _ _
 | tup vs=>rw [RepV] at ha; rw [← Option.some.inj e]; exact ha.elim fun ad q=>q.elim fun items q=>q.elim fun n q=>q.1 ▸ .tup _ _ q.2.1 rfl
 | ref l =>
  refine (bA (show ((getL σ l).map fun _=>4)=some k from e)).elim fun vs q=>?_
  rw [← q.2]
  refine ay R ha q.1 fun ad items n q1 _ ho _ _ _=>?_
  exact q1 ▸ .lst _ _ ho rfl
 | _=>exact nn e
section
variable {k:Nat}{x:Value}{f:Nat→Bool}
theorem vL (kd:KdX s.heap k x) (h:∀ tk,Q (.bool (k == 0 || k == 1)) { s with toks:=tk }):wpAny (model g.prog g.w) A (call (.builtin "isinstance") [x,.type "int"]) Q X s:=by
 cases kd with
 | int i t=>exact IsiPair.int_int (h s.toks)
 | bool b=>exact IsiPair.bool_int (h s.toks)
 | str x t=>exact IsiPair.str_int (h _)
 | tup a o ho hc=>exact IsiPair.tuple_int ho hc (h _)
 | lst a o ho hc=>exact IsiPair.list_int ho hc (h _)
theorem sG (kd:KdX s.heap k x) (h:∀ tk,Q (.bool (k == 1)) { s with toks:=tk }):wpAny (model g.prog g.w) A (call (.builtin "isinstance") [x,.type "bool"]) Q X s:=by
 cases kd with
 | int i t=>exact IsiPair.int_bool (h _)
 | bool b=>exact IsiPair.bool_bool (h s.toks)
 | str x t=>exact IsiPair.str_bool (h _)
 | tup a o ho hc=>exact IsiPair.tuple_bool ho hc (h _)
 | lst a o ho hc=>exact IsiPair.list_bool ho hc (h _)
theorem pI (kd:KdX s.heap k x) (h:∀ tk,Q (.bool (k == 3)) { s with toks:=tk }):wpAny (model g.prog g.w) A (call (.builtin "isinstance") [x,.type "tuple"]) Q X s:=by
 cases kd with
 | int i t=>exact IsiPair.int_tuple (h _)
 | bool b=>exact IsiPair.bool_tuple (h _)
 | str x t=>exact IsiPair.str_tuple (h _)
 | tup a o ho hc=>exact IsiPair.tuple_tuple ho hc (h s.toks)
 | lst a o ho hc=>exact IsiPair.list_tuple ho hc (h _)
theorem wA (kd:KdX s.heap k x) (h:∀ tk,Q (.bool (k == 4)) { s with toks:=tk }):wpAny (model g.prog g.w) A (call (.builtin "isinstance") [x,.type "list"]) Q X s:=by
 cases kd with
 | int i t=>exact IsiPair.int_list (h _)
 | bool b=>exact IsiPair.bool_list (h _)
 | str x t=>exact IsiPair.str_list (h _)
 | tup a o ho hc=>exact IsiPair.tuple_list ho hc (h _)
 | lst a o ho hc=>exact IsiPair.list_list ho hc (h s.toks)
end
theorem Ae {t:Ty}{a:V}{x y:Value}{r:Bool} (T:At g env as fr σ s) (ha:RepV as s.heap a x) (e:uL t a σ=some r) (ht:sC t=some y) (hQ:aJ g env as fr s (.bool r) σ Q) :
  wpAny (model g.prog g.w) A (call (.builtin "isinstance") [x,y]) Q X s:=by
 have hq:∀ tk,Q (.bool r) { s with toks:=tk }:=fun tk=>hQ.bool (tk:=tk) T
 cases t with
 | int=>exact si (P:=fun y=>wpAny (model g.prog g.w) A (call (.builtin "isinstance") [x,y]) Q X s) ht ((bA e).elim fun k q=>vL (sS T.R ha q.1) (q.2 ▸ hq))
 | bool=>exact si (P:=fun y=>wpAny (model g.prog g.w) A (call (.builtin "isinstance") [x,y]) Q X s) ht ((bA e).elim fun k q=>sG (sS T.R ha q.1) (q.2 ▸ hq))
 | tuple=>exact si (P:=fun y=>wpAny (model g.prog g.w) A (call (.builtin "isinstance") [x,y]) Q X s) ht ((bA e).elim fun k q=>pI (sS T.R ha q.1) (q.2 ▸ hq))
 | list=>exact si (P:=fun y=>wpAny (model g.prog g.w) A (call (.builtin "isinstance") [x,y]) Q X s) ht ((bA e).elim fun k q=>wA (sS T.R ha q.1) (q.2 ▸ hq))
 | _=>exact nn ht
noncomputable def at0 (l:List Int) (i:Nat):Int:=l.getD i 0
theorem cC {xs:List Value}{is:List Int} (h:IntsAre xs is) (i:Nat) {v:Value} (e:xs[i]?=some v):∃ t,v=.int (at0 is i) t:=by
 induction h generalizing i with
 | nil=>simp at e
 | cons n t _ ih =>
  cases i with
  | zero=>simp at e; subst e; exact ⟨t,rfl⟩
  | succ i=>simpa [at0] using ih i (by simpa using e)
set_option tactic.hygienic true in
theorem ed (is:List Int) (x:Int):∀ k,k ≤ is.length →
  at0 (x :: is) (argBest (fun i j=>decide (at0 (x :: is) j < at0 (x :: is) i)) k)=(is.take k).foldl (fun a b=>if a < b then b else a) x
 | 0,_=>by simp [argBest,at0]
 | k + 1,hk=>by
  have ih:=ed is x k (by lia)
  have hlt:k < is.length:=by lia
  rw [List.take_succ_eq_append_getElem hlt,List.foldl_append,← ih]
  simp only [argBest,List.foldl_cons,List.foldl_nil]
  have e0:at0 (x :: is) (k + 1)=is[k]:=by simp [at0,hlt]
  split
  ·rename_i h
   have h':=of_decide_eq_true h
   rw [e0] at h'
   rw [if_pos h']; exact e0
  ·rename_i h
   have h':=of_decide_eq_false (Bool.eq_false_iff.mpr h)
   rw [e0] at h'
   rw [if_neg h']
set_option tactic.hygienic true in
theorem io (is:List Int) (x:Int):∀ k,k ≤ is.length →
  at0 (x :: is) (argBest (fun i j=>decide (at0 (x :: is) i < at0 (x :: is) j)) k)=(is.take k).foldl (fun a b=>if b < a then b else a) x
 | 0,_=>by simp [argBest,at0]
 | k + 1,hk=>by
  have ih:=io is x k (by lia)
  have hlt:k < is.length:=by lia
  rw [List.take_succ_eq_append_getElem hlt,List.foldl_append,← ih]
  simp only [argBest,List.foldl_cons,List.foldl_nil]
  have e0:at0 (x :: is) (k + 1)=is[k]:=by simp [at0,hlt]
  split
  ·rename_i h
   have h':=of_decide_eq_true h
   rw [e0] at h'
   rw [if_pos h']; exact e0
  ·rename_i h
   have h':=of_decide_eq_false (Bool.eq_false_iff.mpr h)
   rw [e0] at h'
   rw [if_neg h']
theorem gE {h h' h2:Heap}{wr:List Addr} (k1:∀ (a:Addr) (o:Obj),h.get? a=some o→h2.get? a=some o) (k:∀ (b:Addr) (o:Obj),b ∉ wr→h2.get? b=some o→h'.get? b=some o) (hw:∀ b ∈ wr,h.get? b=none) :
  ∀ (a:Addr) (o:Obj),h.get? a=some o→h'.get? a=some o:=fun a o e=>k a o (fun q=>by rw [hw a q] at e; cases e) (k1 a o e)
theorem zK {l:Nat}{x:Value}{is:List Int}{v:Int} (T:At g env as fr σ s) (hA:A.handled=none) (ha:RepV as s.heap (.ref l) x) (e1:(getL σ l).bind aB=some is) (e2:gV is=some v)
  (hQ:aJ g env as fr s (.int v) σ Q):wpAny (model g.prog g.w) A (call (.builtin "max") [x]) Q X s:=by
 obtain ⟨vs,e3,e4⟩:=Option.bind_eq_some_iff.mp e1
 refine ay T.R ha e3 fun ad items m qx hd ho hr hz hsz=>?_; subst qx
 have hi:=br e4 hr
 cases is with
 | nil=>cases e2
 | cons y ys =>
  cases e2
  have hlen:=hi.length
  simp at hlen
  have hne:ad ≠ s.heap.objs.size:=Nat.ne_of_lt (Heap.lt_size ho)
  refine call_max_walk (wpAny_pyIter_list ho.isList ?_)
  refine ⟨s.heap.objs.size,_,_,items.size,_,_,fun i j=>decide (at0 (y :: ys) j < at0 (y :: ys) i),rfl,Walks.list (A:=A.in1) hA s.heap.objs.size ad hne items,⟨⟨_,Heap.get?_push_size _ rfl,rfl,rfl⟩,ho.isList.push _⟩,?_,by lia,?_,?_⟩
  ·intro b hb
   rcases List.mem_cons.mp hb with rfl | hb
   ·rw [Heap.size_push]; exact Nat.lt_succ_self _
   ·rw [List.mem_singleton.mp hb,Heap.size_push]; exact Nat.lt_succ_of_lt (Heap.lt_size ho)
  ·intro i j vi vj s' Q' E' hvi hvj hq
   obtain ⟨t,rfl⟩:=cC hi i (by simpa using hvi)
   obtain ⟨u,rfl⟩:=cC hi j (by simpa using hvj)
   exact PyProof.Rows.gt_int hq
  ·intro v h' tk hv hk
   obtain ⟨t,rfl⟩:=cC hi _ (by simpa using hv)
   have e5:=ed ys y (items.size - 1) (by lia)
   rw [List.take_of_length_le (by lia)] at e5
   rw [e5]
   have kk:=gE (h:=s.heap) (aA _ _) hk (by intro b hb; rw [List.mem_singleton.mp hb]; exact new_none _)
   exact hQ.use T (aF.of_ext kk) (T.R.ext kk) (by rw [RepV]; exact ⟨_,rfl⟩)
theorem AD {l:Nat}{x:Value}{is:List Int}{v:Int} (T:At g env as fr σ s) (hA:A.handled=none) (ha:RepV as s.heap (.ref l) x) (e1:(getL σ l).bind aB=some is) (e2:wS is=some v)
  (hQ:aJ g env as fr s (.int v) σ Q):wpAny (model g.prog g.w) A (call (.builtin "min") [x]) Q X s:=by
 obtain ⟨vs,e3,e4⟩:=Option.bind_eq_some_iff.mp e1
 refine ay T.R ha e3 fun ad items m qx hd ho hr hz hsz=>?_; subst qx
 have hi:=br e4 hr
 cases is with
 | nil=>cases e2
 | cons y ys =>
  cases e2
  have hlen:=hi.length
  simp at hlen
  have hne:ad ≠ s.heap.objs.size:=Nat.ne_of_lt (Heap.lt_size ho)
  refine call_min_walk (wpAny_pyIter_list ho.isList ?_)
  refine ⟨s.heap.objs.size,_,_,items.size,_,_,fun i j=>decide (at0 (y :: ys) i < at0 (y :: ys) j),rfl,Walks.list (A:=A.in1) hA s.heap.objs.size ad hne items,⟨⟨_,Heap.get?_push_size _ rfl,rfl,rfl⟩,ho.isList.push _⟩,?_,by lia,?_,?_⟩
  ·intro b hb
   rcases List.mem_cons.mp hb with rfl | hb
   ·rw [Heap.size_push]; exact Nat.lt_succ_self _
   ·rw [List.mem_singleton.mp hb,Heap.size_push]; exact Nat.lt_succ_of_lt (Heap.lt_size ho)
  ·intro i j vi vj s' Q' E' hvi hvj hq
   obtain ⟨t,rfl⟩:=cC hi i (by simpa using hvi)
   obtain ⟨u,rfl⟩:=cC hi j (by simpa using hvj)
   exact PyProof.Rows.lt_int hq
  ·intro v h' tk hv hk
   obtain ⟨t,rfl⟩:=cC hi _ (by simpa using hv)
   have e5:=io ys y (items.size - 1) (by lia)
   rw [List.take_of_length_le (by lia)] at e5
   rw [e5]
   have kk:=gE (h:=s.heap) (aA _ _) hk (by intro b hb; rw [List.mem_singleton.mp hb]; exact new_none _)
   exact hQ.use T (aF.of_ext kk) (T.R.ext kk) (by rw [RepV]; exact ⟨_,rfl⟩)
end
end Mine
namespace Mine
open PySem PyProof.Rows PySem.W
theorem tu:typeLookup (.type "list_reverseiterator") "__len__"=pure none:=by rw [typeLookup_type,builtinLookup_eq_fast]; kernel_rfl
theorem wq:typeLookup (.type "list_reverseiterator") "__length_hint__"=pure (some (.builtin "list_reverseiterator.__length_hint__")):=by rw [typeLookup_type,builtinLookup_eq_fast]; kernel_rfl
section
variable {prog:Program}{w:World}{A:Around}{E:Value→Shared→Prop}{s:Shared}{r:Addr}
theorem sQ {Q:Bool→Shared→Prop} (hT:s.TypeIs (.ref r) "list_reverseiterator") (h:Q false s):wpAny (model prog w) A (Builtin.List.listLengthHint (.ref r)) Q E s:=by
 unfold Builtin.List.listLengthHint
 refine wpAny_bind (wpAny_specialOf hT tu ?_)
 refine wpAny_ite_split (fun hab=>absurd hab (by decide +kernel)) (fun _=>?_)
 refine wpAny_ite_split (fun hab=>absurd hab (by decide +kernel)) (fun _=>?_)
 refine wpAny_bind (wpAny_specialOf hT wq ?_)
 generalize hid:("list_reverseiterator.__length_hint__":String)=id0
 wp_delta
 rw [show splitId id0=some ("list_reverseiterator","__length_hint__") from by subst hid; decide +kernel]
 subst hid
 refine wpAny_bind (wpAny_isInstance (T:="list_reverseiterator") (b:=true) hT (by rw [isSubtype_type]; kernel_rfl) ?_)
 refine wpAny_ite_split (fun hab=>absurd hab (by decide)) (fun _=>?_)
 refine wpAny_ite_split (fun _=>?_) (fun hab=>absurd (by decide +kernel) hab)
 refine wpAny_ite_split (fun hab=>absurd hab (by decide +kernel)) (fun _=>?_)
 exact wpAny_pure h
theorem rB {items acc:Array Value} (h:ItemsOf (fun i v=>items[items.size - 1 - i]?=some v) acc items.size):acc.toList=items.toList.reverse:=by
 apply List.ext_getElem?
 intro i
 by_cases hi:i < items.size
 ·have h1:i < acc.size:=by rw [h.1]; exact hi
  have h2:=h.2 i acc[i] (by simp [h1])
  rw [List.getElem?_reverse (by simpa using hi)]
  simp only [Array.getElem?_toList,Array.length_toList]
  rw [h2]; simp [h1]
 ·rw [List.getElem?_eq_none (by simp; have:=h.1; lia),List.getElem?_eq_none (by simp; lia)]
theorem jA {l:Addr}{items:Array Value}{Q:Value→Shared→Prop} (hh:A.handled=none) (hr:s.heap.IsRevIter r l ((items.size:Int) - 1)) (hl:s.heap.IsList l items) (hz:items.size ≤ sizeLine)
  (hQ:∀ h' tk acc c',(∀ (b:Addr) (o:Obj),b ≠ r→s.heap.get? b=some o→h'.get? b=some o)→h'.get? s.heap.objs.size=some { cls:=.type "list",dict:=none,data:=.seq acc c',slots:=#[] }→acc.toList=items.toList.reverse →
   Q (.ref s.heap.objs.size) { s with heap:=h',toks:=tk }):wpAny (model prog w) A (call (.type "list") [.ref r]) Q E s:=by
 have hrl:r < s.heap.objs.size:=by obtain ⟨o,e,_⟩:=hr; exact Heap.lt_size e
 have hll:l < s.heap.objs.size:=by obtain ⟨o,e,_⟩:=hl; exact Heap.lt_size e
 have hne:l ≠ r:=fun q=>by
  obtain ⟨o,e,c,_⟩:=hr; obtain ⟨o',e',c',_⟩:=hl
  subst q; rw [e] at e'; cases e'; rw [c] at c'; simp at c'
 refine callType_codes (Q₁:=fun obj s₁=>obj=.ref s.heap.objs.size ∧ s₁={ s with heap:=s.heap.push { cls:=.type "list",data:=.seq #[] } }) PySem.F.called_list (PySem.F.typeCall_list_1 _) PySem.F.entry_list_init
  (code_list_new _ ⟨rfl,rfl⟩) fun obj s₁ h₁=>?_
 obtain ⟨rfl,rfl⟩:=h₁
 generalize hS0:s.heap.objs.size=S at *
 have hS:(s.heap.push { cls:=.type "list",data:=.seq #[] }).get? S=some { cls:=.type "list",data:=.seq #[] }:=by rw [← hS0]; exact Heap.get?_push_size _ rfl
 refine ⟨⟨_,hS,rfl⟩,PySem.F.args_list_init_2 _ _,?_⟩
 show wpAny _ _ (do let old ← Builtin.List.listItems (.ref S); Builtin.List.listUpdate (.ref S) (fun _=>#[]); letGo old.toList.reverse; Builtin.List.listExtendWith (.ref S) (.ref r) .none) _ _ _
 refine wpAny_bind ?_
 unfold Builtin.List.listItems
 refine wpAny_bind (wpAny_seqItems hS rfl (wpAny_pure ?_))
 show wpAny _ _ (updateSeq S (fun _=>#[]) >>= fun _=>letGo (#[]:Array Value).toList.reverse >>= fun _=>Builtin.List.listExtendWith (.ref S) (.ref r) .none) _ _ _
 refine wpAny_bind (wpAny_updateSeq hS rfl ?_)
 have hS₂:=Heap.get?_update_self (Obj.mapSeq (fun _=>(#[]:Array Value))) hS rfl
 refine wpAny_bind (wpAny_letGo ?_)
 generalize hH:((s.heap.push { cls:=.type "list",data:=.seq #[] }).update S (Obj.mapSeq (fun _=>(#[]:Array Value))))=H at *
 have k0:∀ (b:Addr) (o:Obj),s.heap.get? b=some o→H.get? b=some o:=fun b o e=>by
  rw [← hH,Heap.get?_update_other _ _ (by rw [← hS0]; exact Nat.ne_of_gt (Heap.lt_size e))]
  exact Heap.get?_push_of_some _ e
 have hrH:H.IsRevIter r l ((items.size:Int) - 1):=hr.at fun o e=>k0 _ o e
 have hlH:H.IsList l items:=hl.at fun o e=>k0 _ o e
 unfold Builtin.List.listExtendWith
 refine wpAny_bind (wpAny_typeOf (T:="list_reverseiterator") hrH.typeIs ?_)
 have h1:Builtin.List.listSameRef (.ref S) (.ref r)=false:=by simp [Builtin.List.listSameRef]; exact Nat.ne_of_gt hrl
 have h2:(Value.type "list_reverseiterator" == Value.type "list")=false:=by decide
 have h3:(Value.type "list_reverseiterator" == Value.type "tuple")=false:=by decide
 simp only [h1,h2,h3,Bool.or_false,Bool.false_eq_true,if_false]
 refine wpAny_bind (wpAny_pyIter_revIter hrH ?_)
 refine wpAny_bind (wpAny_holding (sQ hrH.typeIs ?_))
 have W:=(Walks.listRev (prog:=prog) (w:=w) (A:=A.in1.in1) hh r l hne items).toS
 have hSf:S ∉ [r,l]:=by
  intro hm
  rcases List.mem_cons.mp hm with e | hm
  ·exact absurd hrl (by rw [e]; exact Nat.lt_irrefl _)
  ·exact absurd hll (by rw [List.mem_singleton.mp hm]; exact Nat.lt_irrefl _)
 have key:∀ (R:Result→Shared→Prop) (h:Heap) (c₁ tk:Nat),(∀ h' tk acc c',(∀ (b:Addr) (o:Obj),b ≠ r→s.heap.get? b=some o→h'.get? b=some o)→h'.get? S=some { cls:=.type "list",dict:=none,data:=.seq acc c',slots:=#[] }→acc.toList=items.toList.reverse →
   R (.ok (.ret .none)) { s with heap:=h',toks:=tk })→(0 ≤ items.size ∧ h.IsRevIter r l ((items.size:Int) - 1 - ((0:Nat):Int)) ∧ h.IsList l items)→(∀ (b:Addr) (o:Obj),b ≠ S→H.get? b=some o→h.get? b=some o) →
   h.get? S=some { cls:=.type "list",data:=.seq #[] c₁ }→codeAny (model prog w) A.in1 (.builtin "list.extend.loop" ⟨[.ref S,.ref r,.none],[]⟩) R { s with heap:=h,toks:=tk }:=by
  intro R h c₁ tk hR hst hk hS₁
  refine codeAny_extend_loopS W hz S hSf .none items.size 0 _ #[] c₁ rfl (Nat.zero_le _) hst hS₁ (ItemsOf.nil _) fun s' acc' c' hm hS' hacc=>?_
  rw [Moved.eq_with hm]
  refine hR s'.heap s'.toks acc' c' (fun b o hb e=>hm.heap b o (fun hmem=>?_) (hk b o ?_ (k0 b o e))) hS' (rB hacc)
  ·rcases List.mem_cons.mp hmem with e' | hmem
   ·rw [e'] at e; exact absurd (Heap.lt_size e) (by rw [← hS0]; exact Nat.lt_irrefl _)
   ·exact hb (List.mem_singleton.mp hmem)
  ·rw [← hS0]; exact Nat.ne_of_lt (Heap.lt_size e)
 have st0:0 ≤ items.size ∧ H.IsRevIter r l ((items.size:Int) - 1 - ((0:Nat):Int)) ∧ H.IsList l items:=⟨Nat.zero_le _,by simpa using hrH,hlH⟩
 refine wpAny_ite_split (fun _=>?_) (fun _=>wpAny_pure ⟨plainId_quiet PySem.F.plain_extend_loop _,key _ _ _ _ (fun h' tk acc c' k e q=>⟨rfl,hQ h' tk acc c' k e q⟩) st0 (fun b o _ e=>e) hS₂⟩)
 refine wpAny_bind (wpAny_rule (wpAny_bind ?_))
 show wpAny _ _ (updateSeq S (·.push .none) >>= fun _=>updateSeq S (·.pop)) _ _ _
 refine wpAny_bind (wpAny_updateSeq hS₂ rfl ?_)
 have hS₃:=Heap.get?_update_self (Obj.mapSeq (·.push Value.none)) hS₂ rfl
 refine wpAny_updateSeq (hz:=by seq_fits) hS₃ rfl ?_
 have hS₄:=Heap.get?_update_self (Obj.mapSeq (·.pop)) hS₃ rfl
 have oth:∀ (b:Addr) (o:Obj),b ≠ S→H.get? b=some o→((H.update S (Obj.mapSeq (·.push Value.none))).update S (Obj.mapSeq (·.pop))).get? b=some o:=fun b o hb e=>by
  rw [Heap.get?_update_other _ _ (Ne.symm hb),Heap.get?_update_other _ _ (Ne.symm hb)]; exact e
 refine wpAny_pure ⟨plainId_quiet PySem.F.plain_extend_loop _,key _ _ _ _ (fun h' tk acc c' k e q=>⟨rfl,hQ h' tk acc c' k e q⟩) ⟨st0.1,st0.2.1.at fun o e=>oth _ o (Nat.ne_of_lt hrl) e,st0.2.2.at fun o e=>oth _ o (Nat.ne_of_lt hll) e⟩ oth hS₄⟩
end
end Mine
namespace Mine
set_option backward.match.sparseCases false
open PySem PyProof.Rows
noncomputable def mt:BN→Value
 | .len=>.builtin "len" | .max=>.builtin "max" | .min=>.builtin "min" | .all=>.builtin "all"
 | .list=>.type "list" | .tuple=>.type "tuple" | .int=>.type "int" | .range=>.type "range"
 | _=>.none
section
variable {g:Cfg}{env:Env}{A:Around}{X:Value→Shared→Prop}{s:Shared}{as:List Addr}{fr:Fra} {σ σ':Sto}{Q:Value→Shared→Prop}
theorem jm {lo hi:Int} (h:-1000000 ≤ lo ∧ lo ≤ 1000000 ∧ -1000000 ≤ hi ∧ hi ≤ 1000000):Builtin.Range.rangeSize lo hi 1=(((hi - lo).toNat:Nat):Int) ∧ Builtin.Range.small lo hi 1=true:=by
 constructor
 ·unfold Builtin.Range.rangeSize
  simp only [show (1:Int) > 0 from by lia,if_true]
  split
  ·rw [Int.toNat_of_nonneg (by lia)]; lia
  ·rw [Int.toNat_of_nonpos (by lia)]; rfl
 ·exact small_one (by lia) (by lia) (by lia) (by lia)
theorem oF {h:Heap}{lo hi:Int}{acc:Array Value} (hacc:ItemsOf (fun i v=>∃ t,v=Value.int (lo + (i:Int) * 1) t) acc (hi - lo).toNat):ah as h (iw lo hi) acc.toList:=by
 rw [ah.f2]
 have key:∀ (n k:Nat) (xs:List Value),xs.length=n→(∀ j v,xs[j]?=some v→∃ t,v=Value.int (lo + ((k + j:Nat):Int)) t)→F2 (RepV as h) ((List.range' k n).map fun (k:Nat)=>V.int (lo + (k:Int))) xs:=by
  intro n
  induction n with
  | zero=>intro k xs h1 _; simp at h1; subst h1; exact .nil
  | succ n ih =>
   intro k xs h1 h2
   cases xs with
   | nil=>simp at h1
   | cons x xs =>
    rw [List.range'_succ,List.map_cons]
    refine .cons ?_ (ih (k + 1) xs (by simpa using h1) fun j v e=>?_)
    ·obtain ⟨t,rfl⟩:=h2 0 x rfl
     rw [RepV]; exact ⟨t,by simp⟩
    ·obtain ⟨t,rfl⟩:=h2 (j + 1) v (by simpa using e)
     exact ⟨t,by congr 2; lia⟩
 unfold iw
 rw [List.range_eq_range']
 refine key _ 0 _ (by simpa using hacc.1) fun j v e=>?_
 obtain ⟨t,rfl⟩:=hacc.2 j v (by simpa using e)
 exact ⟨t,by simp⟩
set_option tactic.hygienic true in
theorem qp:∀ {vs:List V}{xs:List Value}{h:Heap}{b:Bool},u9 vs=some b→ah as h vs xs →
  ∃ bs:List Bool,xs=bs.map Value.bool ∧ b=bs.all id
 | [],xs,h,b,e,r=>by rw [u9] at e; cases e; rw [ah] at r; subst r; exact ⟨[],rfl,rfl⟩
 | v :: vs,xs,h,b,e,r=>by
  rw [ah] at r
  obtain ⟨y,ys,rfl,r1,r2⟩:=r
  cases v with
  | bool c =>
   rw [u9] at e
   split at e
   ·rename_i d hd
    cases e
    obtain ⟨bs,rfl,rfl⟩:=qp hd r2
    rw [RepV] at r1; subst r1
    exact ⟨c :: bs,rfl,by simp⟩
   ·cases e
  | _=>simp [u9] at e
theorem qk (bs:List Bool):(List.range bs.length).all (fun i=>bs.getD i true)=bs.all id:=by
 rw [Bool.eq_iff_iff,List.all_eq_true,List.all_eq_true]
 constructor
 ·intro h b hb
  obtain ⟨i,hi,rfl⟩:=List.getElem_of_mem hb
  have:=h i (List.mem_range.mpr hi)
  simpa [hi] using this
 ·intro h i hi
  have hi':=List.mem_range.mp hi
  have:=h bs[i] (List.getElem_mem hi')
  simpa [hi'] using this
theorem cN {h:Heap}{a:V}{xs:List Value} (r:ah as h [a] xs):∃ x,xs=[x] ∧ RepV as h a x:=by
 rw [ah] at r; obtain ⟨y,ys,rfl,r1,r2⟩:=r; rw [ah] at r2; subst r2; exact ⟨y,rfl,r1⟩
theorem rp {h:Heap}{a c:V}{xs:List Value} (r:ah as h [a,c] xs):∃ x y,xs=[x,y] ∧ RepV as h a x ∧ RepV as h c y:=by
 rw [ah] at r; obtain ⟨y,ys,rfl,r1,r2⟩:=r; obtain ⟨z,rfl,r3⟩:=cN r2; exact ⟨y,z,rfl,r1,r3⟩
theorem gH {o:Option V}{v:V} (e:cx σ o=.ok v σ'):o=some v ∧ σ'=σ:=by
 cases o with
 | none=>exact aw e
 | some w=>cases e; exact ⟨rfl,rfl⟩
section
variable {vs:List V}{xs:List Value}{v:V}{n:Nat}
theorem zi (G:Sys g) (T:At g env as fr σ s) (ha:ah as s.heap vs xs) (e:AS vs σ=.ok v σ') (hQ:aJ g env as fr s v σ' Q):wpAny (model g.prog g.w) A (call (.builtin "len") xs) Q X s:=by
 rcases vs with _ | ⟨a,_ | ⟨b,vs⟩⟩ <;> first | exact aw e | skip
 obtain ⟨h,rfl⟩:=gH e
 obtain ⟨x,rfl,r⟩:=cN ha
 refine bZ h fun i h1 qx2=>?_; subst qx2
 exact zh G T r h1 hQ
theorem m5 {f:List Int→Option Int} (e:o6 f vs σ=.ok v σ'):∃ l is i,vs=[.ref l] ∧ (getL σ l).bind aB=some is ∧ f is=some i ∧ v=.int i ∧ σ'=σ:=by
 rcases vs with _ | ⟨a,_ | ⟨b,vs⟩⟩
 ·exact aw e
 ·cases a <;> first | exact aw e | skip
  obtain ⟨h,rfl⟩:=gH e
  refine bZ h fun i h1 qx2=>?_; subst qx2
  refine bT h1 fun is h2 h3=>?_
  exact ⟨_,is,i,rfl,h2,h3,rfl,rfl⟩
 ·cases a <;> exact aw e
theorem zD (T:At g env as fr σ s) (hA:A.handled=none) (ha:ah as s.heap vs xs) (e:AR vs σ=.ok v σ') (hQ:aJ g env as fr s v σ' Q):wpAny (model g.prog g.w) A (call (.builtin "max") xs) Q X s:=by
 have one:o6 gV vs σ=.ok v σ'→wpAny (model g.prog g.w) A (call (.builtin "max") xs) Q X s:=fun e=>by
  obtain ⟨l,is,i,rfl,h1,h2,rfl,rfl⟩:=m5 e
  obtain ⟨x,rfl,r⟩:=cN ha
  exact zK T hA r h1 h2 hQ
 rcases vs with _ | ⟨a,_ | ⟨b,_ | ⟨c,vs⟩⟩⟩
 ·exact one e
 ·exact one e
 ·cases a <;> first | exact aw e | skip
  cases b <;> first | exact aw e | skip
  obtain ⟨x,y,rfl,r1,r2⟩:=rp ha
  cases e
  rw [RepV] at r1 r2; obtain ⟨t,rfl⟩:=r1; obtain ⟨u,rfl⟩:=r2
  obtain ⟨m,hF,_⟩:=T.F.fr T.R
  refine max_two_N hA hF (eS _ _ _) fun h' tk F' N'=>?_
  obtain ⟨K,x,R',FF⟩:=T.byNews hF.ns F' N' fun _ hp=>hp
  exact hQ _ _ _ tk x R' FF (by rw [RepV]; exact ⟨_,rfl⟩)
 ·exact one e
theorem zy (T:At g env as fr σ s) (hA:A.handled=none) (ha:ah as s.heap vs xs) (e:o6 wS vs σ=.ok v σ') (hQ:aJ g env as fr s v σ' Q):wpAny (model g.prog g.w) A (call (.builtin "min") xs) Q X s:=by
 obtain ⟨l,is,i,rfl,h1,h2,rfl,rfl⟩:=m5 e
 obtain ⟨x,rfl,r⟩:=cN ha
 exact AD T hA r h1 h2 hQ
set_option tactic.hygienic true in
theorem yy (T:At g env as fr σ s) (hA:A.handled=none) (ha:ah as s.heap vs xs) (e:yu vs σ=.ok v σ') (hQ:aJ g env as fr s v σ' Q):wpAny (model g.prog g.w) A (call (.type "list") xs) Q X s:=by
 rcases vs with _ | ⟨a,_ | ⟨b,vs⟩⟩ <;> first | exact aw e | skip
 obtain ⟨x,rfl,r⟩:=cN ha
 cases a <;> first | exact aw e | skip
 ·rename_i l
  obtain ⟨ys,h,e⟩:=iM (o:=getL σ l) (f:=fun xs=>cQ xs σ) e
  refine ay T.R r h fun ad items m qx hd ho hr hz hsz=>?_; subst qx
  refine call_list_seq ad (T:="list") (.inl rfl) ho rfl rfl (fun h' c' k hn=>?_) (by show _ ≤ 2 ^ 24; lia)
  exact hQ.new (tk:=s.toks) T k (new_none _) ⟨c',hn⟩ hr e
 ·rw [RepV] at r
  obtain ⟨ad,t,u,v',rfl,ho,hb⟩:=r
  obtain ⟨h1,h2⟩:=jm hb
  refine call_list_range hA ho h2 h1 (by lia) fun h' tk acc c' k hn hacc=>?_
  exact hQ.new T k (new_none _) ⟨c',hn⟩ (oF hacc) e
set_option tactic.hygienic true in
theorem vh (T:At g env as fr σ s) (ha:ah as s.heap vs xs) (e:uz vs σ=.ok v σ') (hQ:aJ g env as fr s v σ' Q):wpAny (model g.prog g.w) A (call (.type "tuple") xs) Q X s:=by
 rcases vs with _ | ⟨a,_ | ⟨b,vs⟩⟩ <;> first | exact aw e | skip
 obtain ⟨x,rfl,r⟩:=cN ha
 cases a <;> first | exact aw e | skip
 rename_i l
 obtain ⟨ys,h,e⟩:=iM (o:=getL σ l) (f:=fun xs=>.ok (.tup xs) σ) e
 obtain ⟨rfl,rfl⟩:=bx e
 refine ay T.R r h fun ad items m qx hd ho hr hz hsz=>?_; subst qx
 refine call_tuple_list ho.isList (fun h' k=>?_) (by show _ ≤ 2 ^ 24; lia)
 have kk:∀ (a:Addr) (o:Obj),s.heap.get? a=some o→(h'.push { cls:=.type "tuple",data:=.seq items }).get? a=some o:=fun a o e=>Heap.get?_push_of_some _ (k a o e)
 refine hQ.use (tk:=s.toks) T (aF.of_ext kk) (T.R.ext kk) ?_
 rw [RepV]
 exact ⟨_,items,0,rfl,Heap.get?_push_size _ rfl,by lia,ah.keep ⟨fun _ _ e=>e,fun a o e _=>kk a o e⟩ _ _ hr⟩
theorem zc (T:At g env as fr σ s) (hA:A.handled=none) (ha:ah as s.heap vs xs) (e:AP vs σ=.ok v σ') (hQ:aJ g env as fr s v σ' Q):wpAny (model g.prog g.w) A (call (.builtin "all") xs) Q X s:=by
 rcases vs with _ | ⟨a,_ | ⟨b,vs⟩⟩ <;> first | exact aw e | skip
 obtain ⟨x,rfl,r⟩:=cN ha
 cases a <;> first | exact aw e | skip
 obtain ⟨h,rfl⟩:=gH e
 refine bZ h fun bb h1 qx2=>?_; subst qx2
 refine bT h1 fun ys h2 h3=>?_
 refine ay T.R r h2 fun ad items m qx hd ho hr hz hsz=>?_; subst qx
 obtain ⟨bs,hbs,rfl⟩:=qp h3 hr
 have hne:ad ≠ s.heap.objs.size:=Nat.ne_of_lt (Heap.lt_size ho)
 have hlen:items.size=bs.length:=by have:=congrArg List.length hbs; simpa using this
 refine call_all_walk (wpAny_pyIter_list ho.isList ?_)
 refine ⟨s.heap.objs.size,_,_,items.size,_,_,fun i=>bs.getD i true,rfl,Walks.list (A:=A.in1) hA s.heap.objs.size ad hne items,⟨⟨_,Heap.get?_push_size _ rfl,rfl,rfl⟩,ho.isList.push _⟩,?_,?_⟩
 ·intro i v s' Q' E' hv hq
  have:(bs.map Value.bool)[i]?=some v:=by rw [← hbs]; simpa using hv
  rw [List.getElem?_map] at this
  refine bZ this fun b hb qx2=>?_; subst qx2
  have e6:bs.getD i true=b:=by simp [hb]
  exact wpAny_truthy_bool (by rw [← e6]; exact hq)
 ·intro h' tk hk
  rw [hlen,qk]
  have kk:=gE (h:=s.heap) (aA _ _) hk (by intro b hb; rw [List.mem_singleton.mp hb]; exact new_none _)
  exact hQ.use T (aF.of_ext kk) (T.R.ext kk) (by rw [RepV])
set_option tactic.hygienic true in
theorem ny {lo hi:Int} (e:yX lo hi σ=.ok v σ'):(-1000000 ≤ lo ∧ lo ≤ 1000000 ∧ -1000000 ≤ hi ∧ hi ≤ 1000000) ∧ v=.rng lo hi ∧ σ'=σ:=by
 unfold yX at e
 split at e
 ·rename_i h; cases e; exact ⟨h,rfl,rfl⟩
 ·exact aw e
theorem vn (T:At g env as fr σ s) (ha:ah as s.heap vs xs) (e:uM vs σ=.ok v σ') (hQ:aJ g env as fr s v σ' Q):wpAny (model g.prog g.w) A (call (.type "range") xs) Q X s:=by
 rcases vs with _ | ⟨a,_ | ⟨b,_ | ⟨c,vs⟩⟩⟩
 ·exact aw e
 ·cases a <;> first | exact aw e | skip
  obtain ⟨x,rfl,r⟩:=cN ha
  obtain ⟨hz,rfl,rfl⟩:=ny e
  rw [RepV] at r; obtain ⟨t,rfl⟩:=r
  refine call_range_1 ?_
  refine hQ.use T (aF.of_ext (aA _ _)) (T.R.ext (aA _ _)) ?_
  rw [RepV]; exact ⟨_,_,_,_,rfl,Heap.get?_push_size _ rfl,hz⟩
 ·cases a <;> first | exact aw e | skip
  cases b <;> first | exact aw e | skip
  obtain ⟨x,y,rfl,r1,r2⟩:=rp ha
  obtain ⟨hz,rfl,rfl⟩:=ny e
  rw [RepV] at r1 r2; obtain ⟨t,rfl⟩:=r1; obtain ⟨u,rfl⟩:=r2
  refine call_range_2 ?_
  refine hQ.use T (aF.of_ext (aA _ _)) (T.R.ext (aA _ _)) ?_
  rw [RepV]; exact ⟨_,_,_,_,rfl,Heap.get?_push_size _ rfl,hz⟩
 ·exact aw e
end
theorem zI {b:BN}{vs:List V}{xs:List Value}{v:V} (G:Sys g) (T:At g env as fr σ s) (hA:A.handled=none) (ha:ah as s.heap vs xs) (hb:bOk b=true)
  (e:gQ b vs σ=.ok v σ') (hQ:aJ g env as fr s v σ' Q):wpAny (model g.prog g.w) A (call (mt b) xs) Q X s:=by
 cases b with
 | len=>exact zi G T ha e hQ
 | max=>exact zD T hA ha e hQ
 | min=>exact zy T hA ha e hQ
 | list=>exact yy T hA ha e hQ
 | tuple=>exact vh T ha e hQ
 | all=>exact zc T hA ha e hQ
 | range=>exact vn T ha e hQ
 | _=>exact ft hb
end
end Mine
namespace Mine
open PySem PyProof.Rows PySem.W
noncomputable def yN (K:Frag) (D:Addr):Bool:=(clsIn K D).isSome && (findIn K (.ref D) "__getattribute__" == some (some (.builtin "BaseException.__getattribute__")) && (findIn K (.ref D) "__getattr__" == some none && (subIn K (.ref D) (.type "BaseException") == some true &&
 (findIn K (.ref D) "__class__" == some (some (.builtin "object.__class__")) && (specialIn K (.builtin "object.__class__") "__get__" == some (some (.builtin "getset_descriptor.__get__")) && (takesIn K (.builtin "object.__class__") == some true && mroIn K D (.type "object") == some true))))))
section
variable {prog:Program}{w:World}{A:Around}{E:Value→Shared→Prop}{s:Shared}{K:Frag}{x D:Addr}{ox:Obj}
theorem pd {Q:Option Value→Shared→Prop} (X:K.In s.heap) (I:InstAt s.heap x ox D none) (e:yN K D=true) (h:Q (some (.ref D)) { s with toks:=s.toks + 1 }):wpAny (model prog w) A (getAttr? (.ref x) "__class__") Q E s:=by
 obtain ⟨e0,e⟩:=ag e
 obtain ⟨e1,e⟩:=ag e
 obtain ⟨e2,e⟩:=ag e
 obtain ⟨e3,e⟩:=ag e
 obtain ⟨e4,e⟩:=ag e
 obtain ⟨e5,e⟩:=ag e
 obtain ⟨e6,e7⟩:=ag e
 have L0:=I.type (M:=model prog w)
 have L1:=looks_findIn (M:=model prog w) X (eq_of_beq e1)
 have L2:=looks_findIn (M:=model prog w) X (eq_of_beq e2)
 have L3:Looks (model prog w) s.heap (isInstance (.ref x) (.type "BaseException")) true:=L0.andThen (looks_subIn X (eq_of_beq e3))
 have hf:findObj K D none "__class__"=some (.bind (.builtin "getset_descriptor.__get__") (.builtin "object.__class__")):=by
  obtain ⟨cd,hc⟩:=Option.isSome_iff_exists.mp e0
  unfold findObj
  rw [hc,Option.bind_some,eq_of_beq e4,Option.bind_some]
  dsimp only
  rw [eq_of_beq e5,Option.bind_some]
  dsimp only
  rw [eq_of_beq e6]
  rfl
 have L4:=looks_find (M:=model prog w) X I hf
 obtain ⟨hh,g,d,t,os⟩:=s
 unfold getAttr? getAttrBy? getAttrBy
 refine wpAny_bind (wpAny_mkText (wpAny_bind (wpAny_attempt (wpAny_holding (wpAny_bind (L0.at (wpAny_bind (L1.at ?_))))))))
 show wpAny _ _ (getAttrByItsOwn _ _ _ _ _ _) _ _ _
 unfold getAttrByItsOwn hookBefore
 refine wpAny_bind (L2.at (wpAny_bind (wpAny_attempt (wpAny_holding ?_))))
 show wpAny _ _ (boundAndCalled _ _ _) _ _ _
 unfold boundAndCalled
 refine wpAny_bind (wpAny_of_eq (a:=(Value.builtin "BaseException.__getattribute__",[Value.ref x])) (F.attr_ValueError.ga.bind (.ref x)) ?_)
 refine wpAny_call (codeAny_call_builtin F.attr_ValueError.ga.plain F.entry_bexc_ga ?_)
 have hk:builtinKind "BaseException.__getattribute__"=some .slot:=by decide +kernel
 have hsplit:splitId "BaseException.__getattribute__"=some ("BaseException","__getattribute__"):=by decide +kernel
 have ha:=F.args_bexc_ga (.ref x) (.str "__class__" t)
 simp only [checkBuiltinCall,hk,hsplit]
 refine wpAny_bind (L3.at ?_)
 simp only [Bool.not_true,Bool.false_eq_true,if_false]
 refine wpAny_of_eq (a:=()) ha ?_
 unfold Builtin.«object.__getattribute__»
 refine wpAny_bind (wpAny_pure ?_)
 refine wpAny_bind (wpAny_pure ?_)
 refine wpAny_bind (L0.at (wpAny_bind (L4.at ?_)))
 show wpAny _ _ (holding [.builtin "object.__class__"] (PySem.call (.builtin "getset_descriptor.__get__") [.builtin "object.__class__",.ref x,.ref D]) >>= ret) _ _ _
 refine wpAny_bind (wpAny_holding (wpAny_call (class_get (s:=⟨hh,g,d,t + 1,os⟩) (ox:=ox) (od:=none) X I (eq_of_beq e7) ?_)))
 exact wpAny_pure (handed_on rfl (wpAny_pure h))
theorem mv {cd:ClassData} (h:clsIn K D=some cd):∃ o,K.lookup D=some o ∧ o.data=.cls cd:=by
 unfold clsIn at h
 cases q:K.lookup D with
 | none=>rw [q] at h; exact nn h
 | some o =>
  obtain ⟨a,b,c,d⟩:=o
  rw [q] at h
  cases c <;> first | exact nn h | exact ⟨_,rfl,congrArg Data.cls (Option.some.inj h)⟩
theorem fO {M:Model}{h:Heap} (X:K.In h) (e:(clsIn K D).isSome=true):Looks M h (isType (.ref D)) true:=by
 obtain ⟨cd,hc⟩:=Option.isSome_iff_exists.mp e
 obtain ⟨⟨a,b,c,d⟩,ho,rfl⟩:=mv hc
 intro A' Q' E' s' k q
 unfold isType loadHead
 exact wpAny_bind (wpAny_loadPart (k _ _ (X _ _ ho)) (wpAny_pure q))
theorem tS (e:yN K D=true):KitX K (.ref x) (.ref D) (fun h=>W.InstAt h x ox D none) where
 ty:=fun _ _ _ I=>I.type
 it:=fun M h X I=>fO X (ag e).1
 ne:=fun h tp dd its n sl X htp=>by
  obtain ⟨cd,hc⟩:=Option.isSome_iff_exists.mp (ag e).1
  refine Bool.eq_false_iff.mpr fun q=>?_
  cases beq_iff_eq.mp q
  obtain ⟨⟨a,b,c,d⟩,ho,rfl⟩:=mv hc
  rw [X _ _ ho] at htp; cases htp
 ca:=fun X I h=>pd X I e h
end
end Mine
namespace Mine
open PySem PyProof.Rows PySem.W
noncomputable def GV (g:Cfg) (x:Str) (v:Value):Prop :=
 ∃ mg mb,g.b.Ns mainGlobals mg ∧ g.b.Ns builtinsNs mb ∧ (mg x=some v ∨ (mg x=none ∧ mb x=some v))
noncomputable def dW (g:Cfg) (fa:Nat→Option Addr) (call:Nat→List V→Sto→RE) (n:Nat):Prop :=
 ∀ (k:Nat) (a:Addr) (vs:List V) (σ σ':Sto) (v:V),fa k=some a→call k vs σ=.ok v σ' →
 ∀ (A:Around) (s:Shared) (as:List Addr) (xs:List Value) (R:Result→Shared→Prop),bU g A n→Rel g as σ s.heap→g.b.objs.size ≤ s.heap.objs.size→ah as s.heap vs xs →
  (∀ (val:Value) (as':List Addr) (h':Heap) (tk:Nat),aF [] as s.heap as' h'→Rel g as' σ' h'→RepV as' h' v val→R (.ok (.ret val)) { s with heap:=h',toks:=tk }) →
  codeAny (model g.prog g.w) A (.call (.ref a) ⟨xs,[]⟩) R s
noncomputable def ip (g:Cfg) (K:Frag) (c:CE) (call:Nat→List V→Sto→RE) (n:Nat):Prop :=
 ∀ (f:Str) (k:Nat),c.tfns.lookup f=some k→∃ a,GV g f (.ref a) ∧ keepIn K (.ref a)=true ∧ ∀ (us:List V) (σ σ':Sto) (v:V),call k us σ=.ok v σ' →
 ∀ (A:Around) (s:Shared) (as:List Addr) (xs:List Value) (env:Env) (fr:Fra) (R:Result→Shared→Prop),bU g A n→A.frames=some [env]→env.frame=some env.locals→At g env as fr σ s→ah as s.heap us xs →
  (∀ (val:Value) (as':List Addr) (h':Heap) (tk:Nat),aF [env.locals] as s.heap as' h'→Rel g as' σ' h'→az g env as' fr h'→RepV as' h' v val→R (.ok (.ret val)) { s with heap:=h',toks:=tk }) →
  codeAny (model g.prog g.w) A (.call (.ref a) ⟨xs,[]⟩) R s
structure ck (g:Cfg) (K:Frag) (c:CE) (fa:Nat→Option Addr) (call:Nat→List V→Sto→RE) (n:Nat):Prop where
 ok:dW g fa call n
 t:ip g K c call n
noncomputable def z6:List Value:=[.type "ValueError",.type "Exception",.type "BaseException",.type "object"]
noncomputable def lQ (K:Frag) (P:Addr) (ds:List Nat):Bool:=(clsIn K P).isSome && (typeIn K (.ref P) == some (.type "type") && (subIn K (.type "type") (.type "tuple") == some false && (subIn K (.ref P) (.type "BaseException") == some true && ds.all (fun D=>subIn K (.ref D) (.ref P) == some true))))
structure u6 (g:Cfg) (K:Frag) (c:CE):Prop where
 k:∀ D ∈ c.excs.map (·.2),yN K D=true
 i:∀ x C,c.excs.lookup x=some C→GV g x (.ref C)
 r:∀ x C,c.excs.lookup x=some C→∃ mg,OwnCls x C z6 "ValueError.__new__" mg g.b
 o:∀ C ∈ c.excs.map (·.2),∀ D ∈ c.excs.map (·.2),kitOne K (.ref D) (.ref C)=some (D == C)
 v:GV g "ValueError" (.type "ValueError")
 w:∀ D ∈ c.excs.map (·.2),kitOne K (.ref D) (.type "ValueError")=some true
 p:∀ x P,c.pe=some (x,P)→GV g x (.ref P) ∧ lQ K P (c.excs.map (·.2))=true
structure bC (g:Cfg) (K:Frag) (c:CE) (fa:Nat→Option Addr):Prop where
 sys:Sys g
 kin:K.In g.b
 const:∀ x i,c.consts.lookup x=some i→∃ t,GV g x (.int i t)
 fn:∀ x k,c.fns.lookup x=some k→∃ a,GV g x (.ref a) ∧ fa k=some a ∧ keepIn K (.ref a)=true
 cls:∀ x k,c.clss.lookup x=some k→∃ fI,GV g x (.ref g.C) ∧ fa k=some fI ∧ keepIn K (.ref g.C)=true ∧ makesIn K g.C=true ∧ findIn K (.ref g.C) "__init__"=some (some (.ref fI)) ∧ isFn K (.ref fI)=true
 clsO:∀ x k,c.clss.lookup x=some k→isIn K (.ref g.C) g.C=true
 blt:∀ x b,bltName.lookup x=some b→GV g x (mt b)
 typ:∀ x t y,tyName.lookup x=some t→sC t=some y→GV g x y
 set:GV g "set" (.type "set")
 rev:GV g "reversed" (.type "reversed")
 en:GV g "enumerate" (.type "enumerate")
 sorted:GV g "sorted" (.builtin "sorted")
 hd:c.hnd=false→g.hd=none
 exc:u6 g K c
 isi:GV g "isinstance" (.builtin "isinstance")
 att:∀ x k,c.attrs.lookup x=some k→g.at'.lookup k=some x ∧ plainGet K g.C x=true ∧ ∃ at',findIn K (.ref g.C) x=some at' ∧ noGet K at'=true ∧ takerIn K g.C x=some none
 hasD:∀ x k,c.attrs.lookup x=some k→hasDictIn K g.C=true
 setA:∀ x k,c.attrs.lookup x=some k→findIn K (.ref g.C) "__setattr__"=some (some (.builtin "object.__setattr__")) ∧ plainOver K g.C=true
 lam:∀ a,c.lam=some a→∃ mg,g.b.Ns mainGlobals mg ∧ CodeHd g.b a g.tab ∧ g.b.NoLimit ∧ g.b.BuiltinsAt mg g.tab ∧ mainGlobals ≠ g.tab ∧ g.hd=none
 mth:∀ x f,c.mths.lookup x=some f→∃ a,fa f=some a ∧ plainGet K g.C x=true ∧ findIn K (.ref g.C) x=some (some (.ref a)) ∧ isFn K (.ref a)=true ∧ keepIn K (.ref a)=true ∧ ∀ k,g.at'.lookup k ≠ some x
structure aq (c:CE) (env:Env) (A:Around):Prop where
 f2:F2 (fun (p q:Str × NameKind)=>p.1=q.1 ∧ (p.2=q.2 ∨ (p.2=.free ∧ q.2=.cell))) c.names env.scope.names
 code:∀ a,c.lam=some a→env.code=.ref a
 top:c.top=some c.names→A.frames=some [env] ∧ env.frame=some env.locals
theorem bq {l:List (Str × NameKind)}{x:Str}{k:NameKind} (e:l.lookup x=some k):∃ i,l.findIdx? (fun p=>p.1 == x)=some i ∧ l[i]?=some (x,k):=by
 induction l with
 | nil=>cases e
 | cons p r ih =>
  obtain ⟨y,kk⟩:=p
  rw [List.lookup_cons] at e
  rw [List.findIdx?_cons]
  by_cases h:(x == y)=true
  ·rw [h] at e; simp only [Option.some.injEq] at e; subst e
   have h':=eq_of_beq h; subst h'
   exact ⟨0,by simp,rfl⟩
  ·simp only [h] at e
   obtain ⟨i,h1,h2⟩:=ih e
   have hb:(y == x)=false:=by
    cases q:y == x with
    | false=>rfl
    | true=>exact absurd (by rw [eq_of_beq q]; simp) h
   exact ⟨i + 1,by simp only [hb]; simp [h1],by simpa using h2⟩
theorem ba {l:List (Str × NameKind)} (nd:(l.map (·.1)).Nodup) {i:Nat}{x:Str}{k:NameKind} (e:l[i]?=some (x,k)):l.lookup x=some k:=by
 induction l generalizing i with
 | nil=>simp at e
 | cons p r ih =>
  obtain ⟨y,kk⟩:=p
  rw [List.lookup_cons]
  cases i with
  | zero=>simp at e; obtain ⟨rfl,rfl⟩:=e; simp
  | succ i =>
   simp at e nd
   have:(x == y)=false:=by
    cases q:x == y with
    | false=>rfl
    | true=>have q':=eq_of_beq q; subst q'; exact absurd (List.mem_of_getElem? e) (nd.1 k)
   rw [this]
   exact ih nd.2 e
theorem aq.get {c:CE}{env:Env}{A:Around} (N:aq c env A) {i:Nat}{x:Str}{k:NameKind} (e:c.names[i]?=some (x,k)):∃ k',env.scope.names[i]?=some (x,k') ∧ (k=k' ∨ (k=.free ∧ k'=.cell)):=by
 obtain ⟨⟨y,k'⟩,h1,h2,h3⟩:=F2.get N.f2 e
 have:x=y:=h2
 subst this
 exact ⟨k',h1,h3⟩
theorem aq.map {c:CE}{env:Env}{A:Around} (N:aq c env A):c.names.map (·.1)=env.scope.names.map (·.1):=by
 have:∀ {a b:List (Str × NameKind)},F2 (fun (p q:Str × NameKind)=>p.1=q.1 ∧ (p.2=q.2 ∨ (p.2=.free ∧ q.2=.cell))) a b→a.map (·.1)=b.map (·.1):=by
  intro a b h
  induction h with
  | nil=>rfl
  | cons x _ ih=>simp only [List.map_cons,ih]; rw [x.1]
 exact this N.f2
set_option tactic.hygienic true in
theorem vZ {c:CE}{x:Str}{i:Nat} (e:c.loc? x=some i):∃ k,c.names[i]?=some (x,k) ∧ (k=.local ∨ k=.cell ∨ k=.free):=by
 unfold CE.loc? at e
 split at e
 ·rename_i h; obtain ⟨j,h1,h2⟩:=bq h; rw [h1] at e; cases e; exact ⟨_,h2,.inl rfl⟩
 ·rename_i h; obtain ⟨j,h1,h2⟩:=bq h; rw [h1] at e; cases e; exact ⟨_,h2,.inr (.inl rfl)⟩
 ·rename_i h; obtain ⟨j,h1,h2⟩:=bq h; rw [h1] at e; cases e; exact ⟨_,h2,.inr (.inr rfl)⟩
 ·cases e
section
variable {g:Cfg}{K:Frag}{c:CE}{fa:Nat→Option Addr}{env:Env}{A:Around}{X:Value→Shared→Prop}{s:Shared}{as:List Addr}{fr:Fra} {σ σ':Sto}{Q:Value→Shared→Prop}
theorem cJ {x:Str}{v:Value} (T:At g env as fr σ s) (N:aq c env A) (hg:c.glob x=true) (hd:(x == ("__debug__":Str))=false) (G:GV g x v) (h:Q v s) {pos:Pos}:wpAny (model g.prog g.w) A (eval (.Name x pos) env) Q X s:=by
 unfold CE.glob at hg
 have hl:c.names.lookup x=some .globalImplicit:=eq_of_beq hg
 obtain ⟨i,_,h2⟩:=bq hl
 obtain ⟨k',h3,h4⟩:=N.get h2
 have hk:k'=.globalImplicit:=by
  rcases h4 with h4 | h4
  ·exact h4.symm
  ·cases h4.1
 subst hk
 have hx:env.kindOf x=some .globalImplicit:=ba T.F.nd h3
 obtain ⟨mg,mb,g1,g2,g3⟩:=G
 refine Calls.Name_function_global T.F.kind hx ?_ hd
 rcases g3 with g3 | ⟨g3,g4⟩
 ·exact Calls.loadGlobal_global (by rw [T.F.glob]; exact g1.keeps T.R.base) g3 h
 ·exact Calls.loadGlobal_builtin (by rw [T.F.glob]; exact g1.keeps T.R.base) g3 (by rw [T.F.blt]; exact g2.keeps T.R.base) g4 h
theorem zU {x:Str}{i:Nat}{v:V} (T:At g env as fr σ s) (N:aq c env A) (hl:c.loc? x=some i) (hd:(x == ("__debug__":Str))=false) (hc:(x == ("__classdict__":Str))=false) (e:fr[i]?=some (some v))
  (hQ:aJ g env as fr s v σ Q) {pos:Pos}:wpAny (model g.prog g.w) A (eval (.Name x pos) env) Q X s:=by
 obtain ⟨k,h1,h2⟩:=vZ hl
 obtain ⟨k',h3,h4⟩:=N.get h1
 have hx:env.kindOf x=some k':=ba T.F.nd h3
 refine wpAny_Name ?_ hd
 have hk:k'=.local ∨ k'=.cell ∨ k'=.free:=by
  rcases h4 with h4 | h4
  ·subst h4; exact h2
  ·exact .inr (.inl h4.2)
 rcases hk with rfl | rfl | rfl
 ·obtain ⟨m,hm,hv⟩:=T.F.ns
  obtain ⟨val,e1,e2⟩:=hv i x v h3 e
  exact wpAny_loadName_local T.F.kind hx hm e1 (hQ.same' T e2)
 ·obtain ⟨cc,cv,e1,e2,e3⟩:=T.F.cells i x _ h3 (.inl rfl)
  obtain ⟨val,rfl,e5⟩:=e3 v e
  exact wpAny_loadName_cell T.F.kind hx e1 e2 (hQ.same' T e5)
 ·obtain ⟨cc,cv,e1,e2,e3⟩:=T.F.cells i x _ h3 (.inr rfl)
  obtain ⟨val,rfl,e5⟩:=e3 v e
  exact wpAny_loadName_free T.F.kind hx e1 e2 (hQ.same' T e5) hc
end
end Mine
namespace Mine
open PySem PyProof.Rows PySem.W
noncomputable def bE (g:Cfg) (c0:CE) (call:Nat→List V→Sto→RE) (r n:Nat):Prop :=
 ∀ (names:List (Str × NameKind)) (e:Expr) (e':E),al n (c0.sub names) e=some e' →
 ∀ (env:Env) (A:Around) (X:Value→Shared→Prop) (s:Shared) (as:List Addr) (fr:Fra) (σ σ':Sto) (v:V) (Q:Value→Shared→Prop),
  aq (c0.sub names) env A→bU g A (r + 1)→At g env as fr σ s→evE call e' fr σ=.ok v σ'→aJ g env as fr s v σ' Q→wpAny (model g.prog g.w) A (eval e env) Q X s
noncomputable def nI (g:Cfg) (env:Env) (as:List Addr) (fr:Fra) (s:Shared) (b:Bool) (σ':Sto) (Q:Bool→Shared→Prop):Prop :=
 ∀ (as':List Addr) (h':Heap) (tk:Nat),aF [env.locals] as s.heap as' h'→Rel g as' σ' h'→az g env as' fr h'→Q b { s with heap:=h',toks:=tk }
noncomputable def k9 (g:Cfg) (c0:CE) (call:Nat→List V→Sto→RE) (r n:Nat):Prop :=
 ∀ (names:List (Str × NameKind)) (e:Expr) (e':E),al n (c0.sub names) e=some e' →
 ∀ (env:Env) (A:Around) (X:Value→Shared→Prop) (s:Shared) (as:List Addr) (fr:Fra) (σ σ':Sto) (b:Bool) (Q:Bool→Shared→Prop),
  aq (c0.sub names) env A→bU g A (r + 1)→At g env as fr σ s→evE call e' fr σ=.ok (.bool b) σ'→nI g env as fr s b σ' Q→wpAny (model g.prog g.w) A (isTrue e env (eval e env)) Q X s
theorem vN {r:RE}{k:V→Sto→RE}{v:V} {σ':Sto} (e:r.bind k=.ok v σ'):∃ u τ,r=.ok u τ ∧ k u τ=.ok v σ':=by
 cases r with
 | ok u τ=>exact ⟨u,τ,rfl,e⟩
 | ex x τ=>cases e
 | bad=>cases e
theorem binds_ok {r:RE}{k:V→Sto→REs}{v:List V} {σ':Sto} (e:r.binds k=.ok v σ'):∃ u τ,r=.ok u τ ∧ k u τ=.ok v σ':=by
 cases r with
 | ok u τ=>exact ⟨u,τ,rfl,e⟩
 | ex x τ=>cases e
 | bad=>cases e
theorem so {r:REs}{k:List V→Sto→RE}{v:V} {σ':Sto} (e:r.bind k=.ok v σ'):∃ u τ,r=.ok u τ ∧ k u τ=.ok v σ':=by
 cases r with
 | ok u τ=>exact ⟨u,τ,rfl,e⟩
 | ex x τ=>cases e
 | bad=>cases e
theorem o7 {r:REs}{k:List V→Sto→REs}{v:List V} {σ':Sto} (e:r.binds k=.ok v σ'):∃ u τ,r=.ok u τ ∧ k u τ=.ok v σ':=by
 cases r with
 | ok u τ=>exact ⟨u,τ,rfl,e⟩
 | ex x τ=>cases e
 | bad=>cases e
theorem aD {r:RE}{k:V→Sto→RE}{v:V} {σ':Sto}{P:Prop} (e:r.bind k=.ok v σ') (h:∀ u τ,r=.ok u τ→k u τ=.ok v σ'→P):P:=let ⟨u,τ,h1,h2⟩:=vN e; h u τ h1 h2
theorem jz {r:RE}{k:V→Sto→REs}{v:List V} {σ':Sto}{P:Prop} (e:r.binds k=.ok v σ') (h:∀ u τ,r=.ok u τ→k u τ=.ok v σ'→P):P:=let ⟨u,τ,h1,h2⟩:=binds_ok e; h u τ h1 h2
theorem bO {r:REs}{k:List V→Sto→RE}{v:V} {σ':Sto}{P:Prop} (e:r.bind k=.ok v σ') (h:∀ u τ,r=.ok u τ→k u τ=.ok v σ'→P):P:=let ⟨u,τ,h1,h2⟩:=so e; h u τ h1 h2
theorem qd {r:REs}{k:List V→Sto→REs}{v:List V} {σ':Sto}{P:Prop} (e:r.binds k=.ok v σ') (h:∀ u τ,r=.ok u τ→k u τ=.ok v σ'→P):P:=let ⟨u,τ,h1,h2⟩:=o7 e; h u τ h1 h2
section
variable {g:Cfg}{K:Frag}{c0:CE}{fa:Nat→Option Addr}{call:Nat→List V→Sto→RE}{env:Env}{A:Around}{X:Value→Shared→Prop}{s:Shared}{as:List Addr}{fr:Fra} {σ σ':Sto}{r n:Nat}
 {names:List (Str × NameKind)}
theorem At.step (T:At g env as fr σ s) {as':List Addr}{h':Heap}{tk:Nat} {σ':Sto} (R':Rel g as' σ' h') (F':az g env as' fr h'):At g env as' fr σ' { s with heap:=h',toks:=tk }:=⟨F',R'⟩
theorem At.keep (T:At g env as fr σ s) {as':List Addr}{h':Heap} (x:aF [env.locals] as s.heap as' h'):cR as s.heap as' h':=T.R.keep x T.F.notImm
theorem ao {as as1 as2:List Addr}{h h1 h2:Heap} {σ2:Sto} (x:aF [env.locals] as h as1 h1) (y:aF [env.locals] as1 h1 as2 h2) (R2:Rel g as2 σ2 h2) (F2':az g env as2 fr h2):aF [env.locals] as h as2 h2 :=
 x.trans y R2.nd (by intro a ha; simp at ha; subst ha; exact F2'.off)
theorem two {e1 e2:Expr}{a b:E}{u v:V} {τ:Sto}{Q:Value→Value→Shared→Prop} (IH:bE g c0 call r n) (h1:al n (c0.sub names) e1=some a) (h2:al n (c0.sub names) e2=some b)
  (N:aq (c0.sub names) env A) (hA:bU g A (r + 1)) (T:At g env as fr σ s) (ev1:evE call a fr σ=.ok u τ) (ev2:evE call b fr τ=.ok v σ')
  (hQ:∀ (x y:Value) (as':List Addr) (h':Heap) (tk:Nat),aF [env.locals] as s.heap as' h'→Rel g as' σ' h'→az g env as' fr h'→RepV as' h' u x→RepV as' h' v y→Q x y { s with heap:=h',toks:=tk }) :
  wpAny (model g.prog g.w) A (eval e1 env) (fun x s1=>wpAny (model g.prog g.w) A (eval e2 env) (fun y s2=>Q x y s2) X s1) X s:=by
 refine IH names e1 a h1 env A X s as fr σ τ u _ N hA T ev1 fun x as1 k1 tk1 st1 R1 F1 r1=>?_
 refine IH names e2 b h2 env A X _ as1 fr τ σ' v _ N hA ⟨F1,R1⟩ ev2 fun y as2 k2 tk2 st2 R2 F2' r2=>?_
 exact hQ x y as2 k2 tk2 (ao st1 st2 R2 F2') R2 F2' (RepV.keep (At.keep (s:={ s with heap:=k1,toks:=tk1 }) ⟨F1,R1⟩ st2) _ _ r1) r2
theorem aU {v:V}{Q:Value→Shared→Prop}{as':List Addr}{h':Heap}{tk:Nat} {τ:Sto} (hQ:aJ g env as fr s v σ' Q) (x:aF [env.locals] as s.heap as' h') (R':Rel g as' τ h') (F':az g env as' fr h') :
  aJ g env as' fr { s with heap:=h',toks:=tk } v σ' Q:=fun val as2 h2 tk2 st2 R2 F2' r2=>hQ val as2 h2 tk2 (ao x st2 R2 F2') R2 F2' r2
theorem jL {b:Bool}{Q:Bool→Shared→Prop}{as':List Addr}{h':Heap}{tk:Nat} {τ:Sto} (hQ:nI g env as fr s b σ' Q) (x:aF [env.locals] as s.heap as' h') (R':Rel g as' τ h') (F':az g env as' fr h') :
  nI g env as' fr { s with heap:=h',toks:=tk } b σ' Q:=fun as2 h2 tk2 st2 R2 F2'=>hQ as2 h2 tk2 (ao x st2 R2 F2') R2 F2'
theorem aZ {e:Expr}{e':E}{c:CE} (h:al n c e=some e'):∀ rest env,starEach (e :: rest) env=(false,eval e env) :: starEach rest env:=by
 intro rest env
 have hk:=dk h
 cases e <;> first | rfl | exact ft hk
theorem fZ (IH:bE g c0 call r n) {pos:Pos}:∀ (es:List Expr) (es':List E) (s:Shared) (as:List Addr) (σ σ':Sto) (vs:List V) (Q:List Value→Shared→Prop),
  aP (al n (c0.sub names)) es=some es'→aq (c0.sub names) env A→bU g A (r + 1)→At g env as fr σ s→cE call es' fr σ=.ok vs σ' →
  (∀ (xs:List Value) (as':List Addr) (h':Heap) (tk:Nat),aF [env.locals] as s.heap as' h'→Rel g as' σ' h'→az g env as' fr h'→ah as' h' vs xs→Q xs { s with heap:=h',toks:=tk }) →
  wpAny (model g.prog g.w) A (spliced (backTo pos (starEach es env))) Q X s
 | [],es',s,as,σ,σ',vs,Q,h,N,hA,T,ev,hQ=>by
  rw [dC] at h; cases h; rw [cE] at ev; cases ev
  exact wpAny_items_nil (hQ [] as s.heap s.toks (aF.refl _ _ _) T.R T.F (by rw [ah]))
 | e :: es,es',s,as,σ,σ',vs,Q,h,N,hA,T,ev,hQ=>by
  refine cn h fun a as' h1 h2 qx4=>?_; subst qx4
  rw [cE] at ev
  refine jz ev fun u τ e1 e2=>?_
  refine qd e2 fun us τ' e3 e4=>?_
  cases e4
  refine wpAny_items_cons ?_ (aZ h1 _ _)
  refine IH names e a h1 env A X s as fr σ τ u _ N hA T e1 fun x as1 k1 tk1 st1 R1 F1 r1=>?_
  refine fZ IH es as' _ as1 τ σ' us _ h2 N hA ⟨F1,R1⟩ e3 fun xs as2 k2 tk2 st2 R2 F2' r2=>?_
  refine hQ (x :: xs) as2 k2 tk2 (ao st1 st2 R2 F2') R2 F2' ?_
  rw [ah]
  exact ⟨x,xs,rfl,RepV.keep (At.keep (s:={ s with heap:=k1,toks:=tk1 }) ⟨F1,R1⟩ st2) _ _ r1,r2⟩
theorem fE (IH:bE g c0 call r n) {pos:Pos}{op:BoolOp}:∀ (es:List Expr) (es':List E) (b':E) (s:Shared) (as:List Addr) (σ σ':Sto) (v:V) (Q:Value→Shared→Prop),
  aP (al n (c0.sub names)) es=some es'→fT op es'=some b'→aq (c0.sub names) env A→bU g A (r + 1)→At g env as fr σ s→evE call b' fr σ=.ok v σ'→aJ g env as fr s v σ' Q →
  wpAny (model g.prog g.w) A (boolOp pos op (evalEach es env)) Q X s
 | [],es',b',s,as,σ,σ',v,Q,h,hf,N,hA,T,ev,hQ=>by rw [dC] at h; cases h; cases hf
 | [e],es',b',s,as,σ,σ',v,Q,h,hf,N,hA,T,ev,hQ=>by
  refine cn h fun a as' h1 h2 qx4=>?_; subst qx4
  rw [dC] at h2; cases h2
  have hf:a=b':=Option.some.inj hf
  subst hf
  show wpAny _ A (eval e env) Q X s
  exact IH names e a h1 env A X s as fr σ σ' v _ N hA T ev hQ
 | e :: e2 :: es,es',b',s,as,σ,σ',v,Q,h,hf,N,hA,T,ev,hQ=>by
  refine cn h fun a as' h1 h2 qx4=>?_; subst qx4
  refine cn h2 fun a2 as2' h3 h4 qx4=>?_; subst qx4
  have hf':∃ y,fT op (a2 :: as2')=some y ∧ b'=mkB op a y:=by
   have:fT op (a :: a2 :: as2')=(fT op (a2 :: as2')).map fun y=>mkB op a y:=rfl
   rw [this] at hf
   obtain ⟨y,q1,q2⟩:=Option.map_eq_some_iff.mp hf
   exact ⟨y,q1,q2.symm⟩
  obtain ⟨y,hy,rfl⟩:=hf'
  show wpAny _ A (do
   let v ← eval e env
   standAt pos
   let t ← holding [v] (truthy v)
   match op,t with
   | .And,false | .Or,true=>pure v
   | _,_=>boolOp pos op (evalEach (e2 :: es) env)) Q X s
  cases op with
  | And =>
   dsimp only [mkB] at ev
   refine aD ev fun u τ e5 e6=>?_
   refine wpAny_bind (IH names e a h1 env A X s as fr σ τ u _ N hA T e5 fun x as1 k1 tk1 st1 R1 F1 r1=>wpAny_bind (wpAny_standAt (wpAny_bind (wpAny_holding ?_))))
   split at e6
   ·rw [RepV] at r1; subst r1
    refine wpAny_truthy_bool ?_
    exact fE IH (e2 :: es) (a2 :: as2') y _ as1 τ σ' v Q h2 hy N hA ⟨F1,R1⟩ e6 (aU hQ st1 R1 F1)
   ·cases e6
    rw [RepV] at r1; subst r1
    refine wpAny_truthy_bool (wpAny_pure ?_)
    exact hQ _ as1 k1 tk1 st1 R1 F1 (by rw [RepV])
   ·cases e6
  | Or =>
   dsimp only [mkB] at ev
   refine aD ev fun u τ e5 e6=>?_
   refine wpAny_bind (IH names e a h1 env A X s as fr σ τ u _ N hA T e5 fun x as1 k1 tk1 st1 R1 F1 r1=>wpAny_bind (wpAny_standAt (wpAny_bind (wpAny_holding ?_))))
   split at e6
   ·rw [RepV] at r1; subst r1
    refine wpAny_truthy_bool ?_
    exact fE IH (e2 :: es) (a2 :: as2') y _ as1 τ σ' v Q h2 hy N hA ⟨F1,R1⟩ e6 (aU hQ st1 R1 F1)
   ·cases e6
    rw [RepV] at r1; subst r1
    refine wpAny_truthy_bool (wpAny_pure ?_)
    exact hQ _ as1 k1 tk1 st1 R1 F1 (by rw [RepV])
   ·cases e6
theorem ei (IH:k9 g c0 call r n) {op:BoolOp}:∀ (es:List Expr) (es':List E) (b':E) (s:Shared) (as:List Addr) (σ σ':Sto) (v:Bool) (Q:Bool→Shared→Prop),
  aP (al n (c0.sub names)) es=some es'→fT op es'=some b'→aq (c0.sub names) env A→bU g A (r + 1)→At g env as fr σ s→evE call b' fr σ=.ok (.bool v) σ'→nI g env as fr s v σ' Q →
  wpAny (model g.prog g.w) A (allTrue op es env) Q X s
 | [],es',b',s,as,σ,σ',v,Q,h,hf,N,hA,T,ev,hQ=>by rw [dC] at h; cases h; cases hf
 | [e],es',b',s,as,σ,σ',v,Q,h,hf,N,hA,T,ev,hQ=>by
  refine cn h fun a as' h1 h2 qx4=>?_; subst qx4
  rw [dC] at h2; cases h2
  have hf:a=b':=Option.some.inj hf
  subst hf
  show wpAny _ A (do
   match op,← isTrue e env (eval e env) with
   | .And,false=>pure false
   | .Or,true=>pure true
   | _,_=>allTrue op [] env) Q X s
  refine wpAny_bind (IH names e a h1 env A X s as fr σ σ' v _ N hA T ev fun as1 k1 tk1 st1 R1 F1=>?_)
  have hq:=hQ as1 k1 tk1 st1 R1 F1
  cases op <;> cases v <;> exact wpAny_pure hq
 | e :: e2 :: es,es',b',s,as,σ,σ',v,Q,h,hf,N,hA,T,ev,hQ=>by
  refine cn h fun a as' h1 h2 qx4=>?_; subst qx4
  refine cn h2 fun a2 as2' h3 h4 qx4=>?_; subst qx4
  have hf':∃ y,fT op (a2 :: as2')=some y ∧ b'=mkB op a y:=by
   have:fT op (a :: a2 :: as2')=(fT op (a2 :: as2')).map fun y=>mkB op a y:=rfl
   rw [this] at hf
   obtain ⟨y,q1,q2⟩:=Option.map_eq_some_iff.mp hf
   exact ⟨y,q1,q2.symm⟩
  obtain ⟨y,hy,rfl⟩:=hf'
  show wpAny _ A (do
   match op,← isTrue e env (eval e env) with
   | .And,false=>pure false
   | .Or,true=>pure true
   | _,_=>allTrue op (e2 :: es) env) Q X s
  cases op with
  | And =>
   dsimp only [mkB] at ev
   refine aD ev fun u τ e5 e6=>?_
   split at e6
   ·refine wpAny_bind (IH names e a h1 env A X s as fr σ τ true _ N hA T e5 fun as1 k1 tk1 st1 R1 F1=>?_)
    exact ei IH (e2 :: es) (a2 :: as2') y _ as1 τ σ' v Q h2 hy N hA ⟨F1,R1⟩ e6 (jL hQ st1 R1 F1)
   ·cases e6
    refine wpAny_bind (IH names e a h1 env A X s as fr σ _ false _ N hA T e5 fun as1 k1 tk1 st1 R1 F1=>wpAny_pure ?_)
    exact hQ as1 k1 tk1 st1 R1 F1
   ·cases e6
  | Or =>
   dsimp only [mkB] at ev
   refine aD ev fun u τ e5 e6=>?_
   split at e6
   ·refine wpAny_bind (IH names e a h1 env A X s as fr σ τ false _ N hA T e5 fun as1 k1 tk1 st1 R1 F1=>?_)
    exact ei IH (e2 :: es) (a2 :: as2') y _ as1 τ σ' v Q h2 hy N hA ⟨F1,R1⟩ e6 (jL hQ st1 R1 F1)
   ·cases e6
    refine wpAny_bind (IH names e a h1 env A X s as fr σ _ true _ N hA T e5 fun as1 k1 tk1 st1 R1 F1=>wpAny_pure ?_)
    exact hQ as1 k1 tk1 st1 R1 F1
   ·cases e6
end
end Mine
namespace Mine
set_option backward.match.sparseCases false
open PySem PyProof.Rows PySem.W
noncomputable def rQ:MN→String
 | .append=>"list.append" | .pop=>"list.pop" | .clear=>"list.clear" | .extend=>"list.extend" | .index=>"list.index"
section
variable {g:Cfg}{K:Frag}{env:Env}{A:Around}{X:Value→Shared→Prop}{s:Shared}{as:List Addr}{fr:Fra} {σ σ':Sto}{Q:Value→Shared→Prop}
theorem aJ.upd {v:V}{val:Value}{l:Nat}{a:Addr}{h':Heap}{tk:Nat}{ys:List V}{items:Array Value} (hQ:aJ g env as fr s v (dw σ l ys) Q) (T:At g env as fr σ s) (hl:as[l]?=some a)
  (k:∀ (b:Addr) (o:Obj),b ≠ a→s.heap.get? b=some o→h'.get? b=some o) (hp:h'.PlainList a items) (r:cR as s.heap as h'→ah as h' ys items.toList) (hz:ys.length ≤ 16777216) (rv:cR as s.heap as h'→RepV as h' v val) :
  Q val { s with heap:=h',toks:=tk }:=by
 obtain ⟨K,R',x⟩:=T.R.upd (o:=.lst ys) hl k fun K=>⟨items,hp,r K,hz⟩
 exact hQ.use T x R' (rv K)
theorem eI (h:Heap) (a:Addr) (f:Obj→Obj):∀ (b:Addr) (o:Obj),b ≠ a→h.get? b=some o→(h.update a f).get? b=some o:=fun b o hb e=>by rw [Heap.get?_update_other _ _ (Ne.symm hb)]; exact e
theorem ez {h:Heap}{a:Addr}{items:Array Value}{n:Nat} (ho:IsL h a items n) (f:Array Value→Array Value):(h.update a (Obj.mapSeq f)).PlainList a (f items):=⟨_,ho.update f⟩
set_option tactic.hygienic true in
theorem t9 {is:List Int} (h1:is.length ≤ 1000) (h2:∀ j ∈ is,j.natAbs < 1024):PyData.layable0 (.list (is.map .int))=true:=by
 have key:∀ is:List Int,(∀ j ∈ is,j.natAbs < 1024)→PyData.canLayAll0 (is.map .int)=true ∧ PyData.depthAll (is.map .int)=0 ∧ PyData.weightAll (is.map .int) ≤ 11 * is.length:=by
  intro is
  induction is with
  | nil=>intro _; exact ⟨rfl,rfl,Nat.le_refl _⟩
  | cons j r ih =>
   intro h
   obtain ⟨a,b,c⟩:=ih fun k hk=>h k (.tail _ hk)
   have hj:=h j (.head _)
   refine ⟨by simp [PyData.canLayAll0,PyData.canLay0,a],by simp [PyData.depthAll,PyData.depth,b],?_⟩
   simp only [List.map_cons,PyData.weightAll,PyData.weight,List.length_cons]
   have:(if (j == 0)=true then 0 else j.natAbs.log2 + 1) ≤ 10:=by
    split
    ·lia
    ·rename_i h0
     have h0':j.natAbs ≠ 0:=by intro q; apply h0; simp; lia
     exact (Nat.log2_lt h0').mpr hj
   lia
 obtain ⟨a,b,c⟩:=key is h2
 unfold PyData.layable0
 simp only [PyData.canLay0,a,PyData.depth,b,PyData.weight,Bool.true_and,Bool.and_eq_true,decide_eq_true_eq]
 have h20:(2:Nat) ^ 20=1048576:=by decide +kernel
 refine ⟨by lia,decide_eq_true ?_⟩
 rw [h20]; lia
section
variable {l:Nat}{ys vs:List V}{x:Value}{xs:List Value}{v:V}{n:Nat}
theorem sF (T:At g env as fr σ s) (L:uW as s.heap l ys x) (hs:ah as s.heap vs xs) (e:dA .append l ys vs σ=.ok v σ') (hQ:aJ g env as fr s v σ' Q):wpAny (model g.prog g.w) A (call (.builtin "list.append") (x :: xs)) Q X s:=by
 rcases vs with _ | ⟨v0,_ | ⟨v1,vs⟩⟩ <;> first | exact aw e | skip
 obtain ⟨hz,e⟩:=eM e
 obtain ⟨rfl,rfl⟩:=bx e
 obtain ⟨y,rfl,r1⟩:=cN hs
 cases L with
 | mk ad items k hd ho hr hz' hsz =>
  refine wpAny_list_append_plain ⟨k,ho⟩ (fun h' hp hsb=>?_) (by show _ ≤ 2 ^ 24; lia)
  refine hQ.upd (tk:=s.toks) T hd (fun b o hb e=>hsb.extBut b o hb e) hp (fun K=>?_) (by rw [List.length_append]; exact hz) (fun K=>by rw [RepV])
  rw [Array.toList_push]
  exact ah.f2.mpr ((ah.f2.mp (ah.keep K _ _ hr)).append (.cons (RepV.keep K _ _ r1) .nil))
theorem An (T:At g env as fr σ s) (L:uW as s.heap l ys x) (hs:ah as s.heap vs xs) (e:dA .pop l ys vs σ=.ok v σ') (hQ:aJ g env as fr s v σ' Q):wpAny (model g.prog g.w) A (call (.builtin "list.pop") (x :: xs)) Q X s:=by
 rcases vs with _ | ⟨v0,vs⟩ <;> first | exact aw e | skip
 rw [ah] at hs; subst hs
 have e:(match ys.getLast? with | some v=>RE.ok v (dw σ l ys.dropLast) | none=>.bad)=.ok v σ':=e
 cases hv:ys.getLast? with
 | none=>rw [hv] at e; exact aw e
 | some v0 =>
  rw [hv] at e
  obtain ⟨rfl,rfl⟩:=bx e
  cases L with
  | mk ad items k hd ho hr hz' hsz =>
   rw [List.getLast?_eq_getElem?] at hv
   obtain ⟨y,hy,ry⟩:=(ah.f2.mp hr).get hv
   have hy':items[items.size - 1]?=some y:=by rw [hsz,← Array.getElem?_toList]; exact hy
   refine call_meets F.slot_list_pop ⟨_,ho,rfl⟩ F.entry_list_pop (F.args_list_pop_1 _) (MeetsSeq.list_pop_last ad items k y hy' (by show _ ≤ 2 ^ 24; lia)) ⟨ho,?_⟩
   refine hQ.upd (tk:=s.toks) T hd (eI _ _ _) (ez ho _) (fun K=>?_) (by rw [List.length_dropLast]; lia) (fun K=>RepV.keep K _ _ ry)
   have hlt:items.size - 1 < items.size:=(Array.getElem?_eq_some_iff.mp hy').1
   have e1:(items.eraseIdxIfInBounds (items.size - 1)).toList=items.toList.take (items.size - 1):=by
    rw [Array.eraseIdxIfInBounds,dif_pos hlt,Array.toList_eraseIdx,show items.size - 1=items.toList.length - 1 from by rw [Array.length_toList],List.eraseIdx_length_sub_one,List.dropLast_eq_take]
   rw [e1,List.dropLast_eq_take,← hsz]
   exact ah.f2.mpr ((ah.f2.mp (ah.keep K _ _ hr)).take _)
theorem vY (T:At g env as fr σ s) (L:uW as s.heap l ys x) (hs:ah as s.heap vs xs) (e:dA .clear l ys vs σ=.ok v σ') (hQ:aJ g env as fr s v σ' Q):wpAny (model g.prog g.w) A (call (.builtin "list.clear") (x :: xs)) Q X s:=by
 rcases vs with _ | ⟨v0,vs⟩ <;> first | exact aw e | skip
 rw [ah] at hs; subst hs
 obtain ⟨rfl,rfl⟩:=bx e
 cases L with
 | mk ad items k hd ho hr hz' hsz =>
  refine call_meets F.slot_list_clear ⟨_,ho,rfl⟩ F.entry_list_clear (F.args_list_clear_1 _) (AutoSeq1.list_clear_list_0 ad items k (by show _ ≤ 2 ^ 24; lia)) ⟨ho,?_⟩
  exact hQ.upd (tk:=s.toks) T hd (eI _ _ _) (ez ho _) (fun K=>by rw [ah]) (Nat.zero_le _) (fun K=>by rw [RepV])
set_option tactic.hygienic true in
theorem sk (T:At g env as fr σ s) (L:uW as s.heap l ys x) (hs:ah as s.heap vs xs) (e:dA .extend l ys vs σ=.ok v σ') (hQ:aJ g env as fr s v σ' Q):wpAny (model g.prog g.w) A (call (.builtin "list.extend") (x :: xs)) Q X s:=by
 rcases vs with _ | ⟨v0,_ | ⟨v1,vs⟩⟩ <;> first | exact aw e | skip
 obtain ⟨y,rfl,r1⟩:=cN hs
 cases v0 <;> first | exact aw e | skip
 rename_i k2
 obtain ⟨zs,hk,e⟩:=iM (o:=getL σ k2) (f:=fun zs=>if ys.length + zs.length ≤ 16777216 ∧ k2 ≠ l then RE.ok .none (dw σ l (ys ++ zs)) else .bad) e
 obtain ⟨hz,e⟩:=eM e
 obtain ⟨rfl,rfl⟩:=bx e
 cases L with
 | mk ad items k hd ho hr hz' hsz =>
  cases ib T.R r1 hk with
  | mk ad2 items2 k2' hd2 ho2 hr2 hz2 hsz2 =>
   refine call_meets F.slot_list_extend ⟨_,ho,rfl⟩ F.entry_list_extend (F.args_list_extend_2 _ _) (AutoSeq1.list_extend_list_list_0 ad items k ad2 items2 k2' ?_ (by show _ ≤ 2 ^ 24; lia) (by show _ ≤ 2 ^ 24 + 1; lia)) ⟨ho,ho2,?_⟩
   ·simp [Builtin.List.listTooLong,sizeLine]; lia
   ·refine hQ.upd (tk:=s.toks) T hd (eI _ _ _) (ez ho _) (fun K=>?_) (by rw [List.length_append]; exact hz.1) (fun K=>by rw [RepV])
    rw [Array.toList_append]
    exact ah.f2.mpr ((ah.f2.mp (ah.keep K _ _ hr)).append (ah.f2.mp (ah.keep K _ _ hr2)))
set_option tactic.hygienic true in
theorem wH (T:At g env as fr σ s) (L:uW as s.heap l ys x) (hs:ah as s.heap vs xs) (e:dA .index l ys vs σ=.ok v σ') (hQ:aJ g env as fr s v σ' Q):wpAny (model g.prog g.w) A (call (.builtin "list.index") (x :: xs)) Q X s:=by
 rcases vs with _ | ⟨v0,_ | ⟨v1,vs⟩⟩ <;> first | exact aw e | skip
 obtain ⟨y,rfl,r1⟩:=cN hs
 cases v0 <;> first | exact aw e | skip
 rename_i i
 have e:(match aB ys with | some is=>if sh i is then RE.ok (.int (is.idxOf i)) σ else .bad | none=>.bad)=.ok v σ':=e
 cases hi:aB ys with
 | none=>rw [hi] at e; exact aw e
 | some is =>
  rw [hi] at e
  obtain ⟨hz,e⟩:=eM e
  obtain ⟨rfl,rfl⟩:=bx e
  obtain ⟨t,rfl⟩:=cg r1
  cases L with
  | mk ad items k hd ho hr hz' hsz=>exact index_list_ints (vs:=items.toList) (by simpa using ho.isList) (br hi hr) (t9 hz.2.1 hz.2.2) hz.1 (hQ.int T)
theorem yC {m:MN} (hm:mOk m=true) (T:At g env as fr σ s) (L:uW as s.heap l ys x) (hs:ah as s.heap vs xs) (e:dA m l ys vs σ=.ok v σ') (hQ:aJ g env as fr s v σ' Q):wpAny (model g.prog g.w) A (call (.builtin (rQ m)) (x :: xs)) Q X s:=by
 cases m with
 | append=>exact sF T L hs e hQ
 | pop=>exact An T L hs e hQ
 | clear=>exact vY T L hs e hQ
 | extend=>exact sk T L hs e hQ
 | index=>exact wH T L hs e hQ
theorem p8 {x:Str}{m:MN} (h:dM.lookup x=some m):Slot "list" x (rQ m) ∧ typeOf (.builtin (rQ m))=pure (.type "method_descriptor"):=by
 have:=az.keep.lookup_mem h
 rcases List.mem_cons.mp this with q | q
 ·cases q; exact ⟨slot_list_append,rfl⟩
 rcases List.mem_cons.mp q with q | q
 ·cases q; exact ⟨F.slot_list_pop,rfl⟩
 rcases List.mem_cons.mp q with q | q
 ·cases q; exact ⟨F.slot_list_index,rfl⟩
 rcases List.mem_cons.mp q with q | q
 ·cases q; exact ⟨F.slot_list_clear,rfl⟩
 ·cases List.mem_singleton.mp q; exact ⟨F.slot_list_extend,rfl⟩
end
set_option tactic.hygienic true in
theorem jF {u v:V}{f:Nat→List V→RE} (e:yW u σ f=.ok v σ'):∃ l xs,u=.ref l ∧ getL σ l=some xs ∧ f l xs=.ok v σ':=by
 cases u <;> first | exact aw e | skip
 rename_i l
 obtain ⟨xs,h1,h2⟩:=iM (o:=getL σ l) (f:=f l) e
 exact ⟨l,xs,rfl,h1,h2⟩
set_option tactic.hygienic true in
theorem rb {u v:V}{r:RE} (e:sb u σ r=.ok v σ'):∃ l d ents,u=.ref l ∧ σ[l]?=some (.inst d) ∧ σ[d]?=some (.att ents) ∧ r=.ok v σ':=by
 cases u <;> first | exact aw e | skip
 rename_i l
 have e:(match σ[l]? with | some o=>(match o with | .inst d=>(match σ[d]? with | some o=>(match o with | .att _=>r | _=>.bad) | none=>.bad) | _=>.bad) | none=>.bad)=.ok v σ':=e
 cases h1:σ[l]? with
 | none=>rw [h1] at e; exact aw e
 | some o =>
  rw [h1] at e
  cases o <;> first | exact aw e | skip
  rename_i d
  have e:(match σ[d]? with | some o=>(match o with | .att _=>r | _=>.bad) | none=>.bad)=.ok v σ':=e
  cases h2:σ[d]? with
  | none=>rw [h2] at e; exact aw e
  | some o =>
   rw [h2] at e
   cases o <;> first | exact aw e | skip
   exact ⟨l,d,_,rfl,h1,h2,e⟩
end
end Mine
namespace Mine
open PySem PyProof.Rows PySem.W
noncomputable def tU (g:Cfg) (env:Env) (as:List Addr) (fr:Fra) (s:Shared) (σ':Sto) (Q:Unit→Shared→Prop):Prop :=
 ∀ (as':List Addr) (h':Heap) (tk:Nat),aF [env.locals] as s.heap as' h'→Rel g as' σ' h'→az g env as' fr h'→Q () { s with heap:=h',toks:=tk }
section
variable {g:Cfg}{as:List Addr}{h h':Heap}
theorem tX {k:Int}{v:V}{y:Value}:∀ {es:List (Int × V)}{kvs:List (Int × Value)},F2 (fun (e:Int × V) (x:Int × Value)=>e.1=x.1 ∧ RepV as h e.2 x.2) es kvs→(kvs.map (·.1)).Nodup→RepV as h v y →
  F2 (fun (e:Int × V) (x:Int × Value)=>e.1=x.1 ∧ RepV as h e.2 x.2) (mU k v es) (stored kvs k y):=by
 intro es kvs f
 induction f with
 | nil=>intro _ r; simp only [putI_n,stored,List.any_nil,Bool.false_eq_true,if_false,List.nil_append]; exact .cons ⟨rfl,r⟩ .nil
 | @cons a b as' bs x f' ih =>
  intro nd r
  obtain ⟨k1,v1⟩:=a
  obtain ⟨k2,y1⟩:=b
  have h1:k1=k2:=x.1
  subst h1
  simp only [List.map_cons,List.nodup_cons] at nd
  by_cases hk:k1=k
  ·subst hk
   have e1:mU k1 v ((k1,v1) :: as')=(k1,v) :: as':=by simp [putI_n,mc]
   have e2:stored ((k1,y1) :: bs) k1 y=(k1,y) :: bs:=by
    unfold stored
    rw [if_pos (by simp)]
    rw [List.map_cons,if_pos rfl]
    congr 1
    refine (List.map_congr_left fun p hp=>?_).trans (List.map_id _)
    rw [if_neg (fun (q:p.1=k1)=>nd.1 (q ▸ List.mem_map.mpr ⟨p,hp,rfl⟩))]; rfl
   rw [e1,e2]
   exact .cons ⟨rfl,r⟩ f'
  ·have e1:mU k v ((k1,v1) :: as')=(k1,v1) :: mU k v as':=by simp [mc,hk]
   have e2:stored ((k1,y1) :: bs) k y=(k1,y1) :: stored bs k y:=by
    unfold stored
    by_cases ha:bs.any (fun kv=>decide (kv.1=k))=true
    ·rw [if_pos (by rw [List.any_cons,ha]; simp),if_pos ha,List.map_cons,if_neg hk]
    ·rw [if_neg (by rw [List.any_cons]; simp only [hk,decide_false,Bool.false_or]; exact ha),if_neg ha]; rfl
   rw [e1,e2]
   exact .cons x (ih nd.2 r)
theorem s3 {k:List Int}{v:V}{y:Value}{ka:Addr}:∀ {es:List (List Int × V)}{xs:List (List Int × Addr × Value)},F2 (fun (e:List Int × V) (x:List Int × Addr × Value)=>e.1=x.1 ∧ RepV as h e.2 x.2.2) es xs→(xs.map (·.1)).Nodup→RepV as h v y →
  F2 (fun (e:List Int × V) (x:List Int × Addr × Value)=>e.1=x.1 ∧ RepV as h e.2 x.2.2) (ly k v es) (storedH xs k ka y):=by
 intro es xs f
 induction f with
 | nil=>intro _ r; simp only [putT_n,storedH,atKey,List.find?_nil,Option.map_none,Option.isSome_none,Bool.false_eq_true,if_false,List.nil_append]; exact .cons ⟨rfl,r⟩ .nil
 | @cons a b as' bs x f' ih =>
  intro nd r
  obtain ⟨k1,v1⟩:=a
  obtain ⟨k2,y1⟩:=b
  have h1:k1=k2:=x.1
  subst h1
  simp only [List.map_cons,List.nodup_cons] at nd
  by_cases hk:k1=k
  ·subst hk
   have e1:ly k1 v ((k1,v1) :: as')=(k1,v) :: as':=by simp [putT_n,mh]
   have e2:storedH ((k1,y1) :: bs) k1 ka y=(k1,y1.1,y) :: bs:=by
    unfold storedH
    rw [if_pos (by simp [atKey])]
    rw [List.map_cons]
    have e3:putAt k1 y (k1,y1)=(k1,y1.1,y):=by simp [putAt]
    rw [e3]
    congr 1
    exact map_putAt_of_not_mem bs k1 y nd.1
   rw [e1,e2]
   exact .cons ⟨rfl,r⟩ f'
  ·have e1:ly k v ((k1,v1) :: as')=(k1,v1) :: ly k v as':=by
    have:(k1 == k)=false:=beq_eq_false_iff_ne.mpr hk
    simp [mh,this]
   have e0:atKey ((k1,y1) :: bs) k=atKey bs k:=by
    unfold atKey
    rw [List.find?_cons]
    simp [hk]
   have e2:storedH ((k1,y1) :: bs) k ka y=(k1,y1) :: storedH bs k ka y:=by
    unfold storedH
    rw [e0]
    by_cases ha:(atKey bs k).isSome=true
    ·rw [if_pos ha,if_pos ha,List.map_cons]
     have:putAt k y (k1,y1)=(k1,y1):=by simp [putAt,hk]
     rw [this]
    ·rw [if_neg ha,if_neg ha]; rfl
   rw [e1,e2]
   exact .cons x (ih nd.2 r)
end
theorem mi {k:Int}{v:V}:∀ {es:List (Int × V)},(mU k v es).length ≤ es.length + 1
 | []=>by simp [putI_n,mc]
 | e :: r=>by
  rw [mc]; split
  ·simp
  ·have:=mi (k:=k) (v:=v) (es:=r); simp; lia
theorem my {k:List Int}{v:V}:∀ {es:List (List Int × V)},(ly k v es).length ≤ es.length + 1
 | []=>by simp [putT_n,mh]
 | e :: r=>by
  rw [mh]; split
  ·simp
  ·have:=my (k:=k) (v:=v) (es:=r); simp; lia
section
variable {g:Cfg}{K:Frag}{env:Env}{A:Around}{X:Value→Shared→Prop}{s:Shared}{as:List Addr}{fr:Fra} {σ σ':Sto}
theorem tU.use {Q:Unit→Shared→Prop} (hQ:tU g env as fr s σ' Q) (T:At g env as fr σ s) {as':List Addr}{h':Heap}{tk:Nat} (x:aF [] as s.heap as' h') (R':Rel g as' σ' h'):Q () { s with heap:=h',toks:=tk } :=
 hQ as' h' tk (x.grow (by simp)) R' (T.frame x)
inductive za (σ:Sto) (v:V):V→V→Sto→Prop
 | lst {l:Nat}{ys:List V}{k:Int} (hl:σ[l]?=some (.lst ys)) (hz:0 ≤ k ∧ k < ys.length):za σ v (.ref l) (.int k) (dw σ l (ys.set k.toNat v))
 | dI {l:Nat}{es:List (Int × V)}{k:Int} (hl:σ[l]?=some (.dI es)) (hz:es.length < 1000000):za σ v (.ref l) (.int k) (σ.set l (.dI (mU k v es)))
 | dT {l:Nat}{ks:List V}{k:List Int}{es:List (List Int × V)} (hl:σ[l]?=some (.dT es)) (he:aB ks=some k) (hz:es.length < 1000000):za σ v (.ref l) (.tup ks) (σ.set l (.dT (ly k v es)))
theorem lW {α:Type}{p:Prop} [Decidable p] {a b:α} (e:(if p then some a else none)=some b):p ∧ a=b:=by
 by_cases h:p
 ·rw [if_pos h] at e; exact ⟨h,Option.some.inj e⟩
 ·rw [if_neg h] at e; exact nn e
set_option tactic.hygienic true in
theorem n4 {a i v:V} (e:dz a i v σ=some σ'):za σ v a i σ':=by
 cases a <;> first | exact nn e | skip
 rename_i l
 have e:AH σ[l]? l i v σ=some σ':=e
 cases hl:σ[l]? with
 | none=>rw [hl] at e; exact nn e
 | some o =>
  rw [hl] at e
  cases o <;> first | exact nn e | skip
  ·cases i <;> first | exact nn e | skip
   obtain ⟨hz,rfl⟩:=lW e
   exact .lst hl hz
  ·cases i <;> first | exact nn e | skip
   obtain ⟨hz,rfl⟩:=lW e
   exact .dI hl hz
  ·cases i <;> first | exact nn e | skip
   refine bT e fun k e1 e2=>?_
   obtain ⟨hz,rfl⟩:=lW e2
   exact .dT hl e1 hz
theorem pR {a i v:V}{x y z:Value}{n:Nat}{Q:Unit→Shared→Prop} (T:At g env as fr σ s) (hA:bU g A n) (ha:RepV as s.heap a x) (hi:RepV as s.heap i y) (hv:RepV as s.heap v z)
  (e:dz a i v σ=some σ') (hQ:tU g env as fr s σ' Q):wpAny (model g.prog g.w) A (setItem x y z) Q X s:=by
 cases n4 e with
 | @lst l ys k hl hz =>
  refine ay T.R ha (gv hl) fun ad items m qx hd ho hr hz' hsz=>?_; subst qx
  rw [RepV] at hi; obtain ⟨t,rfl⟩:=hi
  refine ki_setAt ho hz.1 (by lia) (by lia) ?_
  obtain ⟨K,R',xx⟩:=T.R.upd (o:=.lst (ys.set k.toNat v)) (h':=s.heap.update ad (Obj.mapSeq (·.setIfInBounds k.toNat z))) hd (eI _ _ _) fun K=>⟨_,ez ho _,by
   rw [Array.toList_setIfInBounds]
   exact ah.f2.mpr ((ah.f2.mp (ah.keep K _ _ hr)).set (RepV.keep K _ _ hv)),by simpa using hz'⟩
  exact hQ.use (tk:=s.toks) T xx R'
 | @dI l es k hl hz =>
  rw [RepV] at ha; rw [RepV] at hi
  obtain ⟨t,rfl⟩:=hi
  obtain ⟨d,rfl,hd⟩:=ha
  obtain ⟨kvs,hk,hf,hle⟩:=T.R.obj _ _ _ hd hl
  have hnd:(kvs.map (·.1)).Nodup:=by obtain ⟨_,_,_,_,_,_,_,_,q⟩:=hk; exact q
  refine wpAny_setItem_pairs (intKind_is _ _ k t) hk (fun h' hd' hsb=>?_) ?_
  ·obtain ⟨K,R',xx⟩:=T.R.upd (o:=.dI (mU k v es)) (h':=h') hd (fun b o hb e=>hsb.extBut b o hb e) fun K=>⟨_,hd',tX (hf.mono fun _ _ q=>⟨q.1,RepV.keep K _ _ q.2⟩) hnd (RepV.keep K _ _ hv),Nat.le_trans mi (by lia),hle.2⟩
   exact hQ.use T xx R'
  ·have:=hf.length; show _ ≤ 2 ^ 24; lia
 | @dT l ks k es hl he hz =>
  obtain ⟨ta,rfl,hk⟩:=g9 (g:=g) hi he
  rw [RepV] at ha; obtain ⟨d,rfl,hd⟩:=ha
  obtain ⟨xs,hx,hf,hle⟩:=T.R.obj _ _ _ hd hl
  have hnd:(xs.map (·.1)).Nodup:=by obtain ⟨_,_,_,_,_,_,_,_,q⟩:=hx; exact q
  refine wpAny_setItem_heap (knd:=tupleKind (intKind g.prog g.w)) (tupleKind_room_in1 (by have:=hA.units; show _ < 9900; lia)) hk hx (fun h' hd' hsb=>?_) ?_
  ·obtain ⟨K,R',xx⟩:=T.R.upd (o:=.dT (ly k v es)) (h':=h') hd (fun b o hb e=>hsb.extBut b o hb e) fun K=>⟨_,hd',s3 (hf.mono fun _ _ q=>⟨q.1,RepV.keep K _ _ q.2⟩) hnd (RepV.keep K _ _ hv),Nat.le_trans my (by lia),hle.2⟩
   exact hQ.use T xx R'
  ·have:=hf.length; show _ ≤ 2 ^ 24; lia
end
end Mine
namespace Mine
open PySem PyProof.Rows PySem.W
section
variable {g:Cfg}{K:Frag}{c0:CE}{fa:Nat→Option Addr}{call:Nat→List V→Sto→RE}{env:Env}{A:Around}{X:Value→Shared→Prop}{s:Shared}{as:List Addr}{fr:Fra} {σ σ':Sto}{Q:Value→Shared→Prop}
theorem xV {h:Heap}{v:V}{x:Value} (r:RepV as h v x):handedIn x=true:=by
 cases v with
 | none=>rw [RepV] at r; subst r; rfl
 | bool b=>rw [RepV] at r; subst r; rfl
 | int i=>rw [RepV] at r; obtain ⟨t,rfl⟩:=r; rfl
 | str i=>rw [RepV] at r; obtain ⟨t,rfl⟩:=r; rfl
 | tup i=>rw [RepV] at r; obtain ⟨t,_,_,rfl,_⟩:=r; rfl
 | ref i=>rw [RepV] at r; obtain ⟨t,rfl,_⟩:=r; rfl
 | rng i j=>rw [RepV] at r; obtain ⟨t,_,_,_,rfl,_⟩:=r; rfl
 | exc c=>rw [RepV] at r; obtain ⟨t,_,_,rfl,_⟩:=r; rfl
noncomputable def bv (g:Cfg):Prop:=∀ k k' x,g.at'.lookup k=some x→g.at'.lookup k'=some x→k=k'
theorem nu {h:Heap}{es:List (Nat × V)}{ents:List DictEntry} (f:F2 (lR g as h) es ents):ents.any (·.refKey)=false:=by
 induction f with
 | nil=>rfl
 | cons x _ ih =>
  obtain ⟨nm,t,_,e,_⟩:=x
  rw [List.any_cons,ih,Bool.or_false]
  unfold DictEntry.refKey
  rw [e]
theorem ni {h:Heap}{k:Nat}{x:Str} (I:bv g) (hx:g.at'.lookup k=some x):∀ {es:List (Nat × V)}{ents:List DictEntry},F2 (lR g as h) es ents →
  (∀ v,es.lookup k=some v→∃ y,W.getL x ents=some (some y) ∧ RepV as h v y) ∧ (W.getL x ents).isSome=true:=by
 intro es ents f
 have hs:=nu f
 refine ⟨?_,?_⟩
 ·intro v hv
  have key:∃ d,ents.find? (·.key.isStr x)=some d ∧ RepV as h v d.val:=by
   clear hs
   induction f with
   | nil=>cases hv
   | @cons a b as' bs r f' ih =>
    obtain ⟨k1,v1⟩:=a
    obtain ⟨nm,t,e1,e2,e3⟩:=r
    rw [List.lookup_cons] at hv
    rw [List.find?_cons]
    by_cases hk:k=k1
    ·subst hk
     simp at hv; subst hv
     have:nm=x:=by rw [hx] at e1; exact (Option.some.inj e1).symm
     subst this
     have:b.key.isStr nm=true:=by rw [e2]; simp [Value.isStr]
     rw [this]; exact ⟨b,rfl,e3⟩
    ·have hb:(k == k1)=false:=beq_eq_false_iff_ne.mpr hk
     rw [hb] at hv
     have:b.key.isStr x=false:=by
      rw [e2]
      simp only [Value.isStr,beq_eq_false_iff_ne]
      intro q; subst q; exact hk (I k k1 nm hx e1)
     rw [this]; exact ih hv
  obtain ⟨d,h1,h2⟩:=key
  exact ⟨d.val,by unfold W.getL; rw [h1],h2⟩
 ·unfold W.getL
  split
  ·rfl
  ·rw [hs]; rfl
theorem kN {h:Heap}{x:Str} (hx:∀ k,g.at'.lookup k ≠ some x):∀ {es:List (Nat × V)}{ents:List DictEntry},F2 (lR g as h) es ents→W.getL x ents=some none:=by
 intro es ents f
 have hs:=nu f
 have key:ents.find? (·.key.isStr x)=none:=by
  clear hs
  induction f with
  | nil=>rfl
  | @cons a b as' bs r f' ih =>
   obtain ⟨nm,t,e1,e2,e3⟩:=r
   rw [List.find?_cons]
   have:b.key.isStr x=false:=by
    rw [e2]
    simp only [Value.isStr,beq_eq_false_iff_ne]
    intro q; subst q; exact hx _ e1
   rw [this]; exact ih
 unfold W.getL
 rw [key]
 simp only [hs]; rfl
theorem tz {l d:Nat}{x:Value} (R:Rel g as σ s.heap) (r:RepV as s.heap (.ref l) x) (e:σ[l]?=some (.inst d)) :
  ∃ a dx,x=.ref a ∧ as[l]?=some a ∧ as[d]?=some dx ∧ s.heap.get? a=some (instObj g.C dx):=by
 rw [RepV] at r
 obtain ⟨a,rfl,ha⟩:=r
 obtain ⟨dx,h1,h2⟩:=R.obj l a _ ha e
 exact ⟨a,dx,rfl,ha,h1,h2⟩
theorem dh {l d:Nat}{x:Value}{G:Prop} (R:Rel g as σ s.heap) (r:RepV as s.heap (.ref l) x) (e:σ[l]?=some (.inst d)) (k:∀ a dx,x=.ref a→as[l]?=some a→as[d]?=some dx→s.heap.get? a=some (instObj g.C dx)→G):G:=let ⟨a,dx,h1,h2,h3,h4⟩:=tz R r e; k a dx h1 h2 h3 h4
theorem jK {d:Nat}{dx:Addr}{es:List (Nat × V)} (R:Rel g as σ s.heap) (hd:as[d]?=some dx) (e:σ[d]?=some (.att es)) :
  ∃ ents n,s.heap.get? dx=some (W.dictOf ents n) ∧ F2 (lR g as s.heap) es ents ∧ es.length ≤ 100:=R.obj d dx _ hd e
set_option tactic.hygienic true in
theorem xe {a v:V}{k:Nat}{x:Value}{nm:Str}{ex:Bool} (G:bC g K c0 fa) (I:bv g) (T:At g env as fr σ s) (ha:RepV as s.heap a x) (hk:c0.attrs.lookup nm=some k) (e:jb a k σ=some v) (hQ:aJ g env as fr s v σ Q) :
  wpAny (model g.prog g.w) A (getAttr x nm ex) Q X s:=by
 unfold jb at e
 split at e
 case h_2=>cases e
 rename_i l
 split at e
 case h_2=>cases e
 rename_i d hl
 split at e
 case h_2=>cases e
 rename_i es hd
 refine dh T.R ha hl fun ad dx qx2 h1 h2 h3=>?_; subst qx2
 obtain ⟨ents,n,h4,h5,_⟩:=jK T.R h2 hd
 obtain ⟨q1,q2,at',q3,q4,_⟩:=G.att nm k hk
 obtain ⟨y,h6,h7⟩:=(ni I q1 h5).1 v e
 obtain ⟨m,hF,_⟩:=T.F.fr T.R
 exact get_own (X₀:=G.kin) hF (K:=K) (C:=g.C) (ox:=instObj g.C dx) ⟨h3,rfl,rfl,h4⟩ q2 (G.hasD nm k hk) q3 q4 h6 (xV h7) (hQ.same T h7)
theorem vS {d:Addr}{o o':Obj}:∀ {l:List (Addr × Obj)},(d,o) ∈ l→(l.map (·.1)).Nodup→Upd d o o' l (l.map fun p=>if p.1=d then (d,o') else p):=by
 intro l
 induction l with
 | nil=>intro h _; cases h
 | cons p r ih =>
  intro hm nd
  simp only [List.map_cons,List.nodup_cons] at nd
  by_cases hp:p.1=d
  ·have hpo:p=(d,o):=by
    rcases List.mem_cons.mp hm with q | q
    ·exact q.symm
    ·exact absurd (List.mem_map.mpr ⟨_,q,rfl⟩) (by have:=nd.1; rw [hp] at this; exact this)
   subst hpo
   have hr:∀ q ∈ r,q.1 ≠ d:=fun q hq e=>nd.1 (List.mem_map.mpr ⟨q,hq,e⟩)
   have:r.map (fun p=>if p.1=d then (d,o') else p)=r:=by
    refine (List.map_congr_left fun q hq=>?_).trans (List.map_id _)
    rw [if_neg (hr q hq)]; rfl
   rw [List.map_cons,this,if_pos rfl]
   exact .head hr
  ·rw [List.map_cons,if_neg hp]
   refine .tail hp (ih ?_ nd.2)
   rcases List.mem_cons.mp hm with q | q
   ·exact absurd (by rw [← q]) hp
   ·exact q
set_option tactic.hygienic true in
theorem jX (b:Heap) (L:Addr) (h:Heap):((newsOf b L h).map (·.1)).Nodup:=by
 unfold newsOf
 generalize hl:List.range h.objs.size=l
 have nd:l.Nodup:=by rw [← hl]; exact List.nodup_range
 clear hl
 induction l with
 | nil=>simp
 | cons a r ih =>
  rw [List.nodup_cons] at nd
  rw [List.filterMap_cons]
  split
  ·exact ih nd.2
  ·rename_i p hp
   rw [List.map_cons,List.nodup_cons]
   refine ⟨fun q=>?_,ih nd.2⟩
   obtain ⟨p',hp',e⟩:=List.mem_map.mp q
   obtain ⟨a',ha',e'⟩:=List.mem_filterMap.mp hp'
   have k1:p.1=a:=by
    split at hp
    ·obtain ⟨o,_,e2⟩:=Option.map_eq_some_iff.mp hp; rw [← e2]
    ·cases hp
   have k2:p'.1=a':=by
    split at e'
    ·obtain ⟨o,_,e2⟩:=Option.map_eq_some_iff.mp e'; rw [← e2]
    ·cases e'
   exact nd.1 (by rw [← k1,← e,k2]; exact ha')
theorem we {h:Heap}{k:Nat}{x:Str}{v:V}{y:Value}{hs:Int}{t:Tok} (I:bv g) (hx:g.at'.lookup k=some x) (r:RepV as h v y):∀ {es:List (Nat × V)}{ents:List DictEntry},F2 (lR g as h) es ents →
  F2 (lR g as h) (sB k v es) (W.putL x hs (.str x t) y ents):=by
 intro es ents f
 induction f with
 | nil=>exact .cons ⟨x,t,hx,rfl,r⟩ .nil
 | @cons a b as' bs q f' ih =>
  obtain ⟨k1,v1⟩:=a
  obtain ⟨nm,u,e1,e2,e3⟩:=q
  rw [W.putL,ug]
  by_cases hk:k1=k
  ·subst hk
   have:nm=x:=by rw [hx] at e1; exact (Option.some.inj e1).symm
   subst this
   have h1:b.key.isStr nm=true:=by rw [e2]; simp [Value.isStr]
   rw [if_pos h1,if_pos (by simp)]
   exact .cons ⟨nm,u,hx,e2,r⟩ f'
  ·have h1:¬ b.key.isStr x=true:=by
    rw [e2]
    simp only [Value.isStr,beq_iff_eq]
    intro q; subst q; exact hk (I k1 k nm e1 hx)
   rw [if_neg h1,if_neg (by simpa using hk)]
   exact .cons ⟨nm,u,e1,e2,e3⟩ ih
theorem jk {k:Nat}{v:V}:∀ {es:List (Nat × V)},(sB k v es).length ≤ es.length + 1
 | []=>by simp [yb]
 | e :: r=>by
  rw [ug]; split
  ·simp
  ·have:=jk (k:=k) (v:=v) (es:=r); simp; lia
theorem At.updN {h':Heap}{m:Str→Option Value}{l:Nat}{a:Addr}{o:AO}{ob ob':Obj} (T:At g env as fr σ s) (hm:s.heap.Ns env.locals m) (hl:as[l]?=some a) (ho:s.heap.get? a=some ob)
  (F':Fr g.b env.locals h' m) (N':News g.b env.locals h' ((newsOf g.b env.locals s.heap).map fun p=>if p.1=a then (a,ob') else p))
  (hr:cR as s.heap as h'→h'.get? a=some ob'→oC g as h' o a):cR as s.heap as h' ∧ aF [env.locals] as s.heap as h' ∧ Rel g as (σ.set l o) h' ∧ az g env as fr h':=by
 have haL:a ≠ env.locals:=fun q=>T.F.off (q ▸ List.mem_of_getElem? hl)
 have hab:g.b.get? a=none:=T.R.new a (List.mem_of_getElem? hl)
 have hin:(a,ob) ∈ newsOf g.b env.locals s.heap:=cD.mpr ⟨ho,haL,hab⟩
 have ha':h'.get? a=some ob':=(N' (a,ob') (List.mem_map.mpr ⟨(a,ob),hin,by simp⟩)).1
 have ext:∀ (b:Addr) (o:Obj),b ≠ env.locals→b ≠ a→s.heap.get? b=some o→h'.get? b=some o:=fun b o hb hba e=>by
  cases q:g.b.get? b with
  | none=>exact (N' (b,o) (List.mem_map.mpr ⟨(b,o),cD.mpr ⟨e,hb,q⟩,by rw [if_neg hba]⟩)).1
  | some o' =>
   have:=T.R.base b o' q
   rw [e] at this; cases this
   exact F'.keep _ _ q
 have x:aF [env.locals] as s.heap as h':=⟨⟨[],by simp,by simp⟩,fun b o e h1 h2=>ext b o (by simpa using h1) (fun q=>h2 (q ▸ List.mem_of_getElem? hl)) e⟩
 have K:=T.R.keep x T.F.notImm
 refine ⟨K,x,⟨F'.keep,by simp [T.R.len],T.R.nd,T.R.new,fun i b oo h1 h2=>?_,T.R.hnd.keep K⟩,?_⟩
 ·by_cases hi:i=l
  ·subst hi
   rw [hl] at h1; cases h1
   have hlt:i < σ.length:=by have:=(List.getElem?_eq_some_iff.mp hl).1; rw [T.R.len] at this; exact this
   rw [List.getElem?_set_self hlt] at h2; cases h2
   exact hr K ha'
  ·rw [List.getElem?_set_ne (Ne.symm hi)] at h2
   refine (T.R.obj i b oo h1 h2).keep K fun oc e=>ext b oc (fun q=>T.F.off (q ▸ List.mem_of_getElem? h1)) (fun q=>hi ?_) e
   subst q
   obtain ⟨j1,j2⟩:=List.getElem?_eq_some_iff.mp h1
   obtain ⟨j3,j4⟩:=List.getElem?_eq_some_iff.mp hl
   exact (List.getElem_inj T.R.nd).mp (j2.trans j4.symm)
 ·obtain ⟨m0,hm0,hv⟩:=T.F.ns
  have hmm:∀ x,m0 x=m x:=fun x=>hm0.agree hm x
  have hca:∀ x c,env.cells.lookup x=some c→c ≠ a:=fun x c hc q=>(T.F.offc x c hc).1 (q ▸ List.mem_of_getElem? hl)
  refine ⟨T.F.kind,T.F.above,T.F.glob,T.F.blt,T.F.len,T.F.nd,⟨m,F'.ns,fun i x v h1 h2=>?_⟩,fun i x k h1 h2=>?_,T.F.off,fun x c hc=>⟨(T.F.offc _ _ hc).1,(T.F.offc _ _ hc).2.1,?_⟩,T.F.apart,T.F.newc⟩
  ·obtain ⟨val,e1,e2⟩:=hv i x v h1 h2
   exact ⟨val,by rw [← hmm]; exact e1,RepV.keep K _ _ e2⟩
  ·obtain ⟨c,cv,e1,⟨o,e2,e2'⟩,e3⟩:=T.F.cells i x k h1 h2
   refine ⟨c,cv,e1,⟨o,ext _ _ (T.F.offc _ _ e1).2.1 (hca _ _ e1) e2,e2'⟩,fun v e=>?_⟩
   obtain ⟨val,e4,e5⟩:=e3 v e
   exact ⟨val,e4,RepV.keep K _ _ e5⟩
  ·obtain ⟨cv,o,e,e'⟩:=(T.F.offc _ _ hc).2.2
   exact ⟨cv,o,ext _ _ (T.F.offc _ _ hc).2.1 (hca _ _ hc) e,e'⟩
set_option tactic.hygienic true in
theorem qV {a v:V}{k:Nat}{x z:Value}{nm:Str}{Q:Unit→Shared→Prop} (G:bC g K c0 fa) (I:bv g) (T:At g env as fr σ s) (ha:RepV as s.heap a x) (hv:RepV as s.heap v z) (hk:c0.attrs.lookup nm=some k) (e:dq a k v σ=some σ') (hQ:tU g env as fr s σ' Q) :
  wpAny (model g.prog g.w) A (setAttr x nm z) Q X s:=by
 unfold dq at e
 split at e
 case h_2=>cases e
 rename_i l
 split at e
 case h_2=>cases e
 rename_i d hl
 split at e
 case h_2=>cases e
 rename_i es hd
 split at e
 case isFalse=>cases e
 rename_i hz
 cases e
 refine dh T.R ha hl fun ad dx qx2 h1 h2 h3=>?_; subst qx2
 obtain ⟨ents,n,h4,h5,_⟩:=jK T.R h2 hd
 obtain ⟨q1,q2,at',q3,q4,q5⟩:=G.att nm k hk
 obtain ⟨m,hF,_⟩:=T.F.fr T.R
 have haL:dx ≠ env.locals:=fun q=>T.F.off (q ▸ List.mem_of_getElem? h2)
 have hin:(dx,W.dictOf ents n) ∈ newsOf g.b env.locals s.heap:=cD.mpr ⟨h4,haL,T.R.new dx (List.mem_of_getElem? h2)⟩
 have f':=fun (h:Heap) (K:cR as s.heap as h)=>we (hs:=PyData.keyHash g.w.params nm) (t:=s.toks + 1) I q1 (RepV.keep K _ _ hv) (h5.mono fun _ _ ⟨x,t,y1,y2,y3⟩=>⟨x,t,y1,y2,RepV.keep K _ _ y3⟩)
 have hlen:(W.putL nm (PyData.keyHash g.w.params nm) (.str nm (s.toks + 1)) z ents).length ≤ 1000:=by
  have:=(f' s.heap ⟨fun _ _ e=>e,fun _ _ e _=>e⟩).length
  have:=jk (k:=k) (v:=v) (es:=es)
  lia
 refine set_dict (X₀:=G.kin) hF (eS _ _ _) (K:=K) (C:=g.C) (ox:=instObj g.C dx) ⟨h3,rfl,rfl,h4⟩ rfl (G.setA nm k hk).1 (G.setA nm k hk).2 q5 (G.hasD nm k hk) (ni I q1 h5).2 rfl (vS hin (jX _ _ _)) hlen fun h' F' N'=>?_
 obtain ⟨K',x',R',FF⟩:=T.updN (o:=.att (sB k v es)) hF.ns h2 h4 F' N' fun K' hob=>⟨_,_,hob,f' h' K',Nat.le_trans jk (by lia)⟩
 exact hQ as h' _ x' R' FF
end
end Mine
namespace Mine
open PySem PyProof.Rows PySem.W
theorem pB (a:Value):argsOk "max" ⟨[a],[(Str.ofString "default",.none)]⟩:=by unfold argsOk; kernel_rfl
section
variable {prog:Program}{w:World}{A:Around}{R:Result→Shared→Prop}{I:Addr}{fp wr:List Addr}{n:Nat}{P:Nat→Value→Prop}{St:Nat→Heap→Prop}{kw:List (Str × Value)}
theorem rR (W:Walks prog w A.in1 I fp wr n P St) (bt:Nat→Nat→Bool) (hcmp:CmpOf prog w A.in1 .Gt P bt) (S:Addr) (hSf:S ∉ fp) :
  ∀ (k j:Nat) (s:Shared) (vb:Value) (c:Nat),n - (j + 1)=k→j + 1 ≤ n→St (j + 1) s.heap→P (argBest bt j) vb →
  s.heap.get? S=some { cls:=.type "list",dict:=none,data:=.seq #[vb,vb] c,slots:=#[] } →
  (∀ v h' tk,P (argBest bt (n - 1)) v→(∀ b o,b ∉ wr→b ≠ S→s.heap.get? b=some o→h'.get? b=some o)→R (.ok (.ret v)) { s with heap:=h',toks:=tk }) →
  codeAny (model prog w) A (.builtin "max.loop" ⟨[.ref I,.none,.ref S],kw⟩) R s:=by
 have hSw:S ∉ wr:=fun h=>hSf (W.sub _ h)
 have hname:(toString "max" ++ toString ".loop":String)="max.loop":=by decide
 intro k
 induction k with
 | zero =>
  intro j s vb c hk hj hst hPb hS hR
  have hin:j + 1=n:=by lia
  refine codeAny_builtin F.entry_max_loop ?_
  rw [Around.under_plainId F.plain_max_loop _]
  show wpAny _ A.in1 (seqItems? (.ref S) >>= _) _ _ s
  refine wpAny_bind (wpAny_seqItems hS rfl ?_)
  show wpAny _ A.in1 (tryCatch (pyNext (.ref I)) _ >>= _) _ _ s
  refine wpAny_bind (wpAny_tryCatch (W.done s _ _ (hin ▸ hst) fun h' tk hk'=>?_))
  have hS':=hk' S _ hSw hS
  show wpAny _ A.in1 (updateSeq S (fun _=>#[]) >>= _) _ _ _
  refine wpAny_bind ?_
  refine wpAny_updateSeq hS' rfl (wpAny_bind (wpAny_letGo (wpAny_pure ?_)))
  refine hR vb _ tk (by rw [← hin]; exact hPb) fun b o hbw hbS e=>(Heap.get?_update_other _ _ (Ne.symm hbS)).trans (hk' b o hbw e)
 | succ k ih =>
  intro j s vb c hk hj hst hPb hS hR
  have hlt:j + 1 < n:=by lia
  refine codeAny_builtin F.entry_max_loop ?_
  rw [Around.under_plainId F.plain_max_loop _]
  show wpAny _ A.in1 (seqItems? (.ref S) >>= _) _ _ s
  refine wpAny_bind (wpAny_seqItems hS rfl ?_)
  show wpAny _ A.in1 (tryCatch (pyNext (.ref I)) _ >>= _) _ _ s
  refine wpAny_bind (wpAny_tryCatch (W.item (j + 1) s _ _ hlt hst fun v h' tk hP hst' hk'=>?_))
  have hS':=hk' S _ hSw hS
  show wpAny _ A.in1 (tryCatch (holding [v,v] (richCompare .Gt v vb >>= _)) _ >>= _) _ _ _
  refine wpAny_bind (wpAny_tryCatch (wpAny_holding (wpAny_bind (hcmp (j + 1) (argBest bt j) v vb _ _ _ hP hPb ?_))))
  refine wpAny_bind (wpAny_holding (wpAny_truthy_bool ?_))
  refine wpAny_bind (wpAny_letGo (wpAny_pure ?_))
  cases hb:bt (j + 1) (argBest bt j) with
  | true =>
   simp only [if_true]
   refine wpAny_bind ?_
   refine wpAny_updateSeq hS' rfl (wpAny_bind (wpAny_letGo ?_))
   rw [hname]
   refine wpAny_pure ⟨plainId_quiet F.plain_max_loop _,ih (j + 1) _ v _ (by lia) hlt (W.frame _ _ _ hst' fun b hbf o e=>?_) (by simp only [argBest,hb,if_true]; exact hP) (Heap.get?_update_self _ hS' rfl)
    fun v' h'' tk'' hP' hk''=>?_⟩
   ·exact (Heap.get?_update_other _ _ (fun h:S=b=>hSf (by rw [h]; exact hbf))).trans e
   ·exact hR v' h'' tk'' hP' fun b o hbw hbS e=>hk'' b o hbw hbS ((Heap.get?_update_other _ _ (Ne.symm hbS)).trans (hk' b o hbw e))
  | false =>
   simp only [Bool.false_eq_true,if_false]
   refine wpAny_bind (wpAny_letGo ?_)
   rw [hname]
   refine wpAny_pure ⟨plainId_quiet F.plain_max_loop _,ih (j + 1) _ vb c (by lia) hlt hst' (by simp only [argBest,hb,Bool.false_eq_true,if_false]; exact hPb) hS' fun v' h'' tk'' hP' hk''=>?_⟩
   exact hR v' h'' tk'' hP' fun b o hbw hbS e=>hk'' b o hbw hbS (hk' b o hbw e)
theorem hY (W:Walks prog w A.in1 I fp wr n P St) (bt:Nat→Nat→Bool) (hcmp:CmpOf prog w A.in1 .Gt P bt) (S:Addr) (hSf:S ∉ fp) (hn:0 < n) {s:Shared}{c:Nat} (hst:St 0 s.heap)
  (hS:s.heap.get? S=some { cls:=.type "list",dict:=none,data:=.seq #[] c,slots:=#[] })
  (hR:∀ v h' tk,P (argBest bt (n - 1)) v→(∀ b o,b ∉ wr→b ≠ S→s.heap.get? b=some o→h'.get? b=some o)→R (.ok (.ret v)) { s with heap:=h',toks:=tk }) :
  codeAny (model prog w) A (.builtin "max.loop" ⟨[.ref I,.none,.ref S],kw⟩) R s:=by
 have hSw:S ∉ wr:=fun h=>hSf (W.sub _ h)
 have hname:(toString "max" ++ toString ".loop":String)="max.loop":=by decide
 refine codeAny_builtin F.entry_max_loop ?_
 rw [Around.under_plainId F.plain_max_loop _]
 show wpAny _ A.in1 (seqItems? (.ref S) >>= _) _ _ s
 refine wpAny_bind (wpAny_seqItems hS rfl ?_)
 show wpAny _ A.in1 (tryCatch (pyNext (.ref I)) _ >>= _) _ _ s
 refine wpAny_bind (wpAny_tryCatch (W.item 0 s _ _ hn hst fun v h' tk hP hst' hk'=>?_))
 have hS':=hk' S _ hSw hS
 show wpAny _ A.in1 (updateSeq S (fun _=>#[v,v]) >>= _) _ _ _
 refine wpAny_bind ?_
 refine wpAny_updateSeq hS' rfl ?_
 rw [hname]
 refine wpAny_pure ⟨plainId_quiet F.plain_max_loop _,rR W bt hcmp S hSf _ 0 _ v _ rfl hn (W.frame _ _ _ hst' fun b hbf o e=>?_) hP (Heap.get?_update_self _ hS' rfl) fun v' h'' tk'' hP' hk''=>?_⟩
 ·exact (Heap.get?_update_other _ _ (fun h:S=b=>hSf (by rw [h]; exact hbf))).trans e
 ·exact hR v' h'' tk'' hP' fun b o hbw hbS e=>hk'' b o hbw hbS ((Heap.get?_update_other _ _ (Ne.symm hbS)).trans (hk' b o hbw e))
theorem iB (W:Walks prog w A.in1 I fp wr 0 P St) (S:Addr) (hSf:S ∉ fp) {s:Shared}{c:Nat} (hst:St 0 s.heap)
  (hS:s.heap.get? S=some { cls:=.type "list",dict:=none,data:=.seq #[] c,slots:=#[] })
  (hR:∀ h' tk,(∀ b o,b ∉ wr→b ≠ S→s.heap.get? b=some o→h'.get? b=some o)→R (.ok (.ret .none)) { s with heap:=h',toks:=tk }) :
  codeAny (model prog w) A (.builtin "max.loop" ⟨[.ref I,.none,.ref S],[("default",.none)]⟩) R s:=by
 refine codeAny_builtin F.entry_max_loop ?_
 rw [Around.under_plainId F.plain_max_loop _]
 show wpAny _ A.in1 (seqItems? (.ref S) >>= _) _ _ s
 refine wpAny_bind (wpAny_seqItems hS rfl ?_)
 show wpAny _ A.in1 (tryCatch (pyNext (.ref I)) _ >>= _) _ _ s
 refine wpAny_bind (wpAny_tryCatch (W.done s _ _ hst fun h' tk hk'=>?_))
 show wpAny _ A.in1 (rule _ >>= _) _ _ _
 exact wpAny_bind (wpAny_rule (wpAny_pure (hR h' tk fun b o hbw _ e=>hk' b o hbw e)))
end
section
variable {prog:Program}{w:World}{A:Around}{E:Value→Shared→Prop}{s:Shared}
theorem iD {x:Value}{Q:Value→Shared→Prop}
  (h:wpAny (model prog w) A.in1 (pyIter x) (fun it s₂=>∃ I fp wr n P St bt,it=.ref I ∧ Walks prog w A.in1 I fp wr n P St ∧ St 0 s₂.heap ∧ (∀ b ∈ fp,b < s₂.heap.objs.size) ∧ CmpOf prog w A.in1 .Gt P bt ∧
   (∀ v h' tk,0 < n→P (argBest bt (n - 1)) v→(∀ b o,b ∉ wr→s₂.heap.get? b=some o→h'.get? b=some o)→Q v { s₂ with heap:=h',toks:=tk }) ∧
   (∀ h' tk,n=0→(∀ b o,b ∉ wr→s₂.heap.get? b=some o→h'.get? b=some o)→Q .none { s₂ with heap:=h',toks:=tk })) E s) :
  wpAny (model prog w) A (call (.builtin "max") [x] [(Str.ofString "default",.none)]) Q E s:=by
 have hname:(toString "max" ++ toString ".loop":String)="max.loop":=by decide
 refine kmk_tree F.kind_max F.plain_max F.entry_max (pB _) ?_
 show wpAny _ A.in1 (Builtin.Builtins.bindParams "max" ["key","default"] 0 ⟨[],[(Str.ofString "default",.none)]⟩ >>= _) _ _ s
 refine wpAny_bind (wpAny_of_eq (show Builtin.Builtins.bindParams "max" ["key","default"] 0 ⟨[],[(Str.ofString "default",.none)]⟩=pure [none,some .none] from rfl) ?_)
 refine wpAny_bind (wpAny_pure ?_)
 refine wpAny_bind (wpAny_mono h (fun it s₂ h₂=>?_) fun _ _ e=>e)
 obtain ⟨I,fp,wr,n,P,St,bt,rfl,W,hst,hfp,hcmp,hQ,hQ0⟩:=h₂
 refine wpAny_bind (wpAny_newObj_type ?_)
 have hSf:s₂.heap.objs.size ∉ fp:=fun hm=>Nat.lt_irrefl _ (hfp _ hm)
 rw [hname]
 refine wpAny_pure ⟨plainId_quiet F.plain_max_loop _,?_⟩
 rcases Nat.eq_zero_or_pos n with hn | hn
 ·subst hn
  refine iB W s₂.heap.objs.size hSf (W.frame _ _ _ hst fun b _ o e=>Heap.get?_push_of_some _ e) (Heap.get?_push_size _ rfl) fun h' tk hk=>?_
  exact hQ0 h' tk rfl fun b o hbw e=>hk b o hbw (Nat.ne_of_lt (Heap.lt_size e)) (Heap.get?_push_of_some _ e)
 ·refine hY W bt hcmp s₂.heap.objs.size hSf hn (W.frame _ _ _ hst fun b _ o e=>Heap.get?_push_of_some _ e) (Heap.get?_push_size _ rfl) fun v h' tk hP hk=>?_
  exact hQ v h' tk hn hP fun b o hbw e=>hk b o hbw (Nat.ne_of_lt (Heap.lt_size e)) (Heap.get?_push_of_some _ e)
end
section
variable {g:Cfg}{env:Env}{A:Around}{X:Value→Shared→Prop}{s:Shared}{as:List Addr}{fr:Fra} {σ σ':Sto}{Q:Value→Shared→Prop}
theorem xk {l:Nat}{x:Value}{is:List Int}{v:V} (T:At g env as fr σ s) (hA:A.handled=none) (ha:RepV as s.heap (.ref l) x) (e1:(getL σ l).bind aB=some is)
  (e2:v=match gV is with | some i=>V.int i | none=>V.none)
  (hQ:aJ g env as fr s v σ Q):wpAny (model g.prog g.w) A (call (.builtin "max") [x] [(Str.ofString "default",.none)]) Q X s:=by
 obtain ⟨vs,e3,e4⟩:=Option.bind_eq_some_iff.mp e1
 refine ay T.R ha e3 fun ad items m qx hd ho hr hz hsz=>?_; subst qx
 have hi:=br e4 hr
 have hlen:=hi.length
 have hne:ad ≠ s.heap.objs.size:=Nat.ne_of_lt (Heap.lt_size ho)
 refine iD (wpAny_pyIter_list ho.isList ?_)
 refine ⟨s.heap.objs.size,_,_,items.size,_,_,fun i j=>decide (at0 is j < at0 is i),rfl,Walks.list (A:=A.in1) hA s.heap.objs.size ad hne items,⟨⟨_,Heap.get?_push_size _ rfl,rfl,rfl⟩,ho.isList.push _⟩,?_,?_,?_,?_⟩
 ·intro b hb
  rcases List.mem_cons.mp hb with rfl | hb
  ·rw [Heap.size_push]; exact Nat.lt_succ_self _
  ·rw [List.mem_singleton.mp hb,Heap.size_push]; exact Nat.lt_succ_of_lt (Heap.lt_size ho)
 ·intro i j vi vj s' Q' E' hvi hvj hq
  obtain ⟨t,rfl⟩:=cC hi i (by simpa using hvi)
  obtain ⟨u,rfl⟩:=cC hi j (by simpa using hvj)
  exact PyProof.Rows.gt_int hq
 ·intro v' h' tk hn hv hk
  obtain ⟨t,rfl⟩:=cC hi _ (by simpa using hv)
  cases is with
  | nil=>rw [Array.length_toList] at hlen; rw [hlen] at hn; exact absurd hn (Nat.lt_irrefl _)
  | cons y ys =>
   simp at hlen
   have e5:=ed ys y (items.size - 1) (by lia)
   rw [List.take_of_length_le (by lia)] at e5
   rw [e5]
   have kk:=gE (h:=s.heap) (aA _ _) hk (by intro b hb; rw [List.mem_singleton.mp hb]; exact new_none _)
   exact hQ.use T (aF.of_ext kk) (T.R.ext kk) (by rw [e2]; show RepV _ _ (.int _) _; rw [RepV]; exact ⟨_,rfl⟩)
 ·intro h' tk hn hk
  cases is with
  | nil =>
   have kk:=gE (h:=s.heap) (aA _ _) hk (by intro b hb; rw [List.mem_singleton.mp hb]; exact new_none _)
   exact hQ.use T (aF.of_ext kk) (T.R.ext kk) (by rw [e2]; show RepV _ _ .none _; rw [RepV])
  | cons y ys=>rw [Array.length_toList,hn] at hlen; cases hlen
end
end Mine
namespace Mine
set_option backward.match.sparseCases false
open PySem PyProof.Rows PySem.W
theorem jH {σ σ':Sto}{o:Option V}{v:V} (e:cx σ o=.ok v σ'):o=some v ∧ σ'=σ:=by
 unfold cx at e; split at e
 ·cases e; exact ⟨rfl,rfl⟩
 ·cases e
theorem qX {σ σ':Sto}{o:Option Bool}{v:V} (e:dY σ o=.ok v σ'):∃ b,o=some b ∧ v=.bool b ∧ σ'=σ:=by
 unfold dY at e; split at e
 ·cases e; exact ⟨_,rfl,rfl,rfl⟩
 ·cases e
theorem eW {σ σ':Sto}{o:Option Bool}{v:V}{G:Prop} (e:dY σ o=.ok v σ') (k:∀ b,o=some b→v=.bool b→σ'=σ→G):G:=let ⟨b,h1,h2,h3⟩:=qX e; k b h1 h2 h3
section
variable {g:Cfg}{K:Frag}{c0:CE}{fa:Nat→Option Addr}{call:Nat→List V→Sto→RE}{env:Env}{A:Around}{X:Value→Shared→Prop}{s:Shared}{as:List Addr}{fr:Fra} {σ σ':Sto}{r n:Nat}
 {names:List (Str × NameKind)}{Q:Value→Shared→Prop}{v:V}
theorem rA {l:Nat}{x:Value}{vs ys:List V}{sl:Addr}{vl vu vst:Value}{lo hi st:Option Int}{ve ie:Expr} (T:At g env as fr σ s) (ha:RepV as s.heap (.ref l) x) (e:getL σ l=some vs)
  (hs:s.heap.IsSliceOf sl vl vu vst) (pl:IsPart vl lo) (pu:IsPart vu hi) (ps:IsPart vst st) (h0:st ≠ some 0)
  (hy:∀ items:Array Value,ah as s.heap vs items.toList→ah as s.heap ys (slicePick items lo hi st).toList)
  (en:cQ ys σ=.ok v σ')
  (hsub:∀ o i,∃ ops,subscripted ie false o i=operate ops (getItem o i)) (hQ:aJ g env as fr s v σ' Q):wpAny (model g.prog g.w) A (subscriptTail ve ie x (.ref sl)) Q X s:=by
 refine ay T.R ha e fun a items m qx ha' ho hr hz hsz=>?_; subst qx
 refine tail_any (T:="list") ⟨_,ho,rfl⟩ slot_list_getitem.lookup ?_ (hsub _ _).choose_spec
 have hr':=hy items hr
 have hl:(slicePick items lo hi st).size=ys.length:=by have:=(ah.f2.mp hr').length; simpa using this.symm
 refine wpAny_getItem_list_slice ho.isList hs pl pu ps h0 ?_ ?_
 ·exact hQ.newH (tk:=s.toks) T hr' en
 ·rw [hsz]; exact hz
noncomputable def aO (g:Cfg) (c0:CE) (call:Nat→List V→Sto→RE) (r:Nat) (names:List (Str × NameKind)) (e:Expr) (e':E):Prop :=
 ∀ (env:Env) (A:Around) (X:Value→Shared→Prop) (s:Shared) (as:List Addr) (fr:Fra) (σ σ':Sto) (v:V) (Q:Value→Shared→Prop),
  aq (c0.sub names) env A→bU g A (r + 1)→At g env as fr σ s→evE call e' fr σ=.ok v σ'→aJ g env as fr s v σ' Q→wpAny (model g.prog g.w) A (eval e env) Q X s
noncomputable def kA (g:Cfg) (c0:CE) (call:Nat→List V→Sto→RE) (r:Nat) (names:List (Str × NameKind)) (e:Expr) (e':E):Prop :=
 ∀ (env:Env) (A:Around) (X:Value→Shared→Prop) (s:Shared) (as:List Addr) (fr:Fra) (σ σ':Sto) (b:Bool) (Q:Bool→Shared→Prop),
  aq (c0.sub names) env A→bU g A (r + 1)→At g env as fr σ s→evE call e' fr σ=.ok (.bool b) σ'→nI g env as fr s b σ' Q→wpAny (model g.prog g.w) A (isTrue e env (eval e env)) Q X s
theorem xd {k p}:aO g c0 call r names (.Constant .none k p) .none:=fun env A X s as fr σ σ' v Q N hA T ev hQ=>by
 obtain ⟨rfl,rfl⟩:=bx ev
 exact Constant_none (hQ.same' T (by rw [RepV]))
theorem yH {b k p}:aO g c0 call r names (.Constant (.bool b) k p) (.bool b):=fun env A X s as fr σ σ' v Q N hA T ev hQ=>by
 obtain ⟨rfl,rfl⟩:=bx ev
 exact Constant_bool (hQ.bool' T)
theorem zT {b k p}:aO g c0 call r names (.Constant (.int b) k p) (.int b):=fun env A X s as fr σ σ' v Q N hA T ev hQ=>by
 obtain ⟨rfl,rfl⟩:=bx ev
 exact wpAny_Constant_int (hQ.int T)
theorem Av {b k p}:aO g c0 call r names (.Constant (.str b) k p) (.str b):=fun env A X s as fr σ σ' v Q N hA T ev hQ=>by
 obtain ⟨rfl,rfl⟩:=bx ev
 exact wpAny_Constant_str (hQ.same T (by rw [RepV]; exact ⟨_,rfl⟩))
theorem zL {x:Str}{i p} (hl:(c0.sub names).loc? x=some i) (hd:(x == ("__debug__":Str))=false) (hc:(x == ("__classdict__":Str))=false):aO g c0 call r names (.Name x p) (.loc i):=fun env A X s as fr σ σ' v Q N hA T ev hQ=>by
 have ev:(match fr[i]? with | some (some v)=>RE.ok v σ | _=>.bad)=.ok v σ':=ev
 rcases he:fr[i]? with _ | _ | v' <;> rw [he] at ev
 ·exact aw ev
 ·exact aw ev
 ·obtain ⟨rfl,rfl⟩:=bx ev
  exact zU T N hl hd hc he hQ
theorem wK {x:Str}{i p} (G:bC g K c0 fa) (hg:(c0.sub names).glob x=true) (hd:(x == ("__debug__":Str))=false) (hk:c0.consts.lookup x=some i):aO g c0 call r names (.Name x p) (.int i):=fun env A X s as fr σ σ' v Q N hA T ev hQ=>by
 obtain ⟨rfl,rfl⟩:=bx ev
 obtain ⟨t,ht⟩:=G.const x i hk
 exact cJ T N hg hd ht (hQ.same' T (by rw [RepV]; exact ⟨_,rfl⟩))
theorem zp {l rt op a b p} (IH:bE g c0 call r n) (h1:al n (c0.sub names) l=some a) (h2:al n (c0.sub names) rt=some b):aO g c0 call r names (.BinOp l op rt p) (.bin op a b):=fun env A X s as fr σ σ' v Q N hA T ev hQ=>by
 refine aD ev fun u τ e1 e2=>?_
 refine aD e2 fun w τ' e3 e4=>?_
 exact wpAny_BinOp (two IH h1 h2 N hA T e1 e3 fun x y as' h' tk st R' F' r1 r2=>zn (T.step R' F') r1 r2 e4 (aU hQ st R' F'))
theorem Ao {a b k1 p1 k2 p2 p} (ha:0 ≤ a ∧ a ≤ 10 ∧ 0 ≤ b ∧ b ≤ 100):aO g c0 call r names (.BinOp (.Constant (.int a) k1 p1) .Pow (.Constant (.int b) k2 p2) p) (.pow a.toNat b.toNat):=fun env A X s as fr σ σ' v Q N hA T ev hQ=>by
 obtain ⟨rfl,rfl⟩:=bx ev
 have h64:a.natAbs < 2 ^ 64:=by
  have:(2:Nat)^64=18446744073709551616:=by decide +kernel
  lia
 refine wpAny_BinOp (wpAny_Constant_int (wpAny_Constant_int (pow_int_small ha.2.2.1 (by lia) h64 ?_)))
 have:((a.toNat:Nat):Int)=a:=Int.toNat_of_nonneg ha.1
 rw [this] at hQ
 exact hQ.int T
theorem zB {x a p} (IH:bE g c0 call r n) (h1:al n (c0.sub names) x=some a):aO g c0 call r names (.UnaryOp .USub x p) (.neg a):=fun env A X s as fr σ σ' v Q N hA T ev hQ=>by
 refine aD ev fun u τ e1 e2=>?_
 refine UnaryOp_ (IH names x a h1 env A X s as fr σ τ u _ N hA T e1 fun val as' h' tk st R' F' r1=>?_)
 split at e2
 ·cases e2
  rw [RepV] at r1; obtain ⟨t,rfl⟩:=r1
  exact PyProof.Rows.neg_int ((aU (tk:=tk) hQ st R' F').int (T.step R' F'))
 ·cases e2
theorem zH {x a p} (IH:bE g c0 call r n) (h1:al n (c0.sub names) x=some a):aO g c0 call r names (.UnaryOp .Not x p) (.not a):=fun env A X s as fr σ σ' v Q N hA T ev hQ=>by
 refine aD ev fun u τ e1 e2=>?_
 refine UnaryOp_ (IH names x a h1 env A X s as fr σ τ u _ N hA T e1 fun val as' h' tk st R' F' r1=>?_)
 split at e2
 ·cases e2
  rw [RepV] at r1; subst r1
  exact not_of (wpAny_truthy_bool ((aU (tk:=tk) hQ st R' F').bool' (T.step R' F')))
 ·cases e2
set_option tactic.hygienic true in
theorem zz {x a p} (IH:k9 g c0 call r n) (h1:al n (c0.sub names) x=some a):kA g c0 call r names (.UnaryOp .Not x p) (.not a):=fun env A X s as fr σ σ' v Q N hA T ev hQ=>by
 refine aD ev fun u τ e1 e2=>?_
 split at e2
 ·rename_i b
  cases e2
  exact isTrue_not (IH names x a h1 env A X s as fr σ _ b _ N hA T e1 fun as' h' tk st R' F'=>hQ as' h' tk st R' F')
 ·cases e2
theorem ub {op vs es b' p} (IH:bE g c0 call r n) (h1:aP (al n (c0.sub names)) vs=some es) (h2:fT op es=some b'):aO g c0 call r names (.BoolOp op vs p) b':=fun env A X s as fr σ σ' v Q N hA T ev hQ =>
 fE IH vs es b' s as σ σ' v Q h1 h2 N hA T ev hQ
theorem sM {op vs es b' p} (IH:k9 g c0 call r n) (h1:aP (al n (c0.sub names)) vs=some es) (h2:fT op es=some b'):kA g c0 call r names (.BoolOp op vs p) b':=fun env A X s as fr σ σ' v Q N hA T ev hQ =>
 wpAny_isTrue_BoolOp (ei IH vs es b' s as σ σ' v Q h1 h2 N hA T ev hQ)
theorem gy {op:CmpOp}{rt:Expr} (h:dE op rt=true):behindInMarks op rt=false:=by
 unfold dE at h; simpa using h
theorem Az {l rt op a b p} (G:bC g K c0 fa) (IH:bE g c0 call r n) (hm:dE op rt=true) (h1:al n (c0.sub names) l=some a) (h2:al n (c0.sub names) rt=some b):aO g c0 call r names (.Compare l [op] [rt] p) (.cmp op a b):=fun env A X s as fr σ σ' v Q N hA T ev hQ=>by
 refine aD ev fun u τ e1 e2=>?_
 refine aD e2 fun w τ' e3 e4=>?_
 refine eW e4 fun b' e5 qx2 qx3=>?_; subst qx2; subst qx3
 exact wpAny_Compare1 (two IH h1 h2 N hA T e1 e3 fun x y as' h' tk st R' F' r1 r2=>jQ G.sys (T.step R' F') hA r1 r2 e5 (aU hQ st R' F')) (gy hm)
theorem zN {l rt op a b p} (G:bC g K c0 fa) (IH:bE g c0 call r n) (hm:dE op rt=true) (h1:al n (c0.sub names) l=some a) (h2:al n (c0.sub names) rt=some b):kA g c0 call r names (.Compare l [op] [rt] p) (.cmp op a b):=fun env A X s as fr σ σ' v Q N hA T ev hQ=>by
 refine aD ev fun u τ e1 e2=>?_
 refine aD e2 fun w τ' e3 e4=>?_
 refine eW e4 fun b' e5 e6 qx3=>?_; subst qx3
 cases e6
 refine wpAny_isTrue_Compare1 (two IH h1 h2 N hA T e1 e3 fun x y as' h' tk st R' F' r1 r2=>?_) (gy hm)
 refine jQ G.sys (T.step (tk:=tk) R' F') hA r1 r2 e5 fun val as2 h2 tk2 st2 R2 F2' r3=>?_
 rw [RepV] at r3; subst r3
 exact wpAny_truthy_bool (hQ as2 h2 tk2 (ao st st2 R2 F2') R2 F2')
theorem fN {o1 o2:CmpOp}{m rt:Expr} (h:dE o2 rt=true):lastMarks [o1,o2] [m,rt]=false:=by
 have:=gy h; simpa [lastMarks] using this
set_option tactic.hygienic true in
theorem yq {l m rt o1 o2 a b d p} (G:bC g K c0 fa) (IH:bE g c0 call r n) (hm:dE o2 rt=true) (h1:al n (c0.sub names) l=some a) (h2:al n (c0.sub names) m=some b) (h3:al n (c0.sub names) rt=some d) :
  aO g c0 call r names (.Compare l [o1,o2] [m,rt] p) (.cmp2 o1 o2 a b d):=fun env A X s as fr σ σ' v Q N hA T ev hQ=>by
 refine aD ev fun u τ e1 e2=>?_
 refine aD e2 fun w τ' e3 e4=>?_
 refine Compare_chain (wpAny_mono (two (Q:=fun x y s2=>wpAny (model g.prog g.w) A (compareOp o1 x y) (fun c s₂=>wpAny (model g.prog g.w) A (truthy c)
   (fun t s₃=>if t then wpAny (model g.prog g.w) A (compareChain p y [o2] [eval rt env]) Q X s₃ else Q c s₃) X s₂) X s2) IH h1 h2 N hA T e1 e3 fun x y as' h' tk st R' F' r1 r2=>?_) (fun x s1 h=>chain_link h) fun _ _ h=>h) (fN hm)
 split at e4
 ·rename_i e5
  refine jQ G.sys (T.step (tk:=tk) R' F') hA r1 r2 e5 fun val as2 h2' tk2 st2 R2 F2' r3=>?_
  rw [RepV] at r3; subst r3
  refine wpAny_truthy_bool ?_
  refine aD e4 fun z τ2 e6 e7=>?_
  refine eW e7 fun b' e8 qx2 qx3=>?_; subst qx2; subst qx3
  refine chain_last (IH names rt d h3 env A X _ as2 fr τ' _ z _ N hA ⟨F2',R2⟩ e6 fun val as3 h3 tk3 st3 R3 F3 r4=>?_)
  have kp:=At.keep (s:={ s with heap:=h',toks:=tk }) ⟨F',R'⟩ st2
  have kp2:=At.keep (s:={ s with heap:=h2',toks:=tk2 }) ⟨F2',R2⟩ st3
  have st13:=ao st (ao st2 st3 R3 F3) R3 F3
  exact jQ G.sys (T.step (tk:=tk3) R3 F3) hA (RepV.keep kp2 _ _ (RepV.keep kp _ _ r2)) r4 e8 (aU (s:=s) (tk:=tk3) hQ st13 R3 F3)
 ·rename_i e5
  cases e4
  refine jQ G.sys (T.step (tk:=tk) R' F') hA r1 r2 e5 fun val as2 h2' tk2 st2 R2 F2' r3=>?_
  have r3':=r3
  rw [RepV] at r3; subst r3
  refine wpAny_truthy_bool ?_
  exact hQ _ as2 h2' tk2 (ao st st2 R2 F2') R2 F2' r3'
 ·cases e4
set_option tactic.hygienic true in
theorem yp {l m rt o1 o2 a b d p} (G:bC g K c0 fa) (IH:bE g c0 call r n) (hm:dE o2 rt=true) (h1:al n (c0.sub names) l=some a) (h2:al n (c0.sub names) m=some b) (h3:al n (c0.sub names) rt=some d) :
  kA g c0 call r names (.Compare l [o1,o2] [m,rt] p) (.cmp2 o1 o2 a b d):=fun env A X s as fr σ σ' v Q N hA T ev hQ=>by
 refine aD ev fun u τ e1 e2=>?_
 refine aD e2 fun w τ' e3 e4=>?_
 refine isTrue_chain (wpAny_mono (two (Q:=fun x y s2=>wpAny (model g.prog g.w) A (compareOp o1 x y) (fun c s₂=>wpAny (model g.prog g.w) A (truthy c)
   (fun t s₃=>if t then wpAny (model g.prog g.w) A (testChain p y [o2] [eval rt env]) Q X s₃ else Q false s₃) X s₂) X s2) IH h1 h2 N hA T e1 e3 fun x y as' h' tk st R' F' r1 r2=>?_) (fun x s1 h=>test_link h) fun _ _ h=>h) (fN hm)
 split at e4
 ·rename_i e5
  refine jQ G.sys (T.step (tk:=tk) R' F') hA r1 r2 e5 fun val as2 h2' tk2 st2 R2 F2' r3=>?_
  rw [RepV] at r3; subst r3
  refine wpAny_truthy_bool ?_
  refine aD e4 fun z τ2 e6 e7=>?_
  refine eW e7 fun b' e8 e9 qx3=>?_; subst qx3
  cases e9
  refine test_last (IH names rt d h3 env A X _ as2 fr τ' _ z _ N hA ⟨F2',R2⟩ e6 fun val as3 h3 tk3 st3 R3 F3 r4=>?_)
  have kp:=At.keep (s:={ s with heap:=h',toks:=tk }) ⟨F',R'⟩ st2
  have kp2:=At.keep (s:={ s with heap:=h2',toks:=tk2 }) ⟨F2',R2⟩ st3
  have st13:=ao st (ao st2 st3 R3 F3) R3 F3
  refine jQ G.sys (T.step (tk:=tk3) R3 F3) hA (RepV.keep kp2 _ _ (RepV.keep kp _ _ r2)) r4 e8 fun val as4 h4 tk4 st4 R4 F4 r5=>?_
  rw [RepV] at r5; subst r5
  exact wpAny_truthy_bool (hQ as4 h4 tk4 (ao st13 st4 R4 F4) R4 F4)
 ·rename_i e5
  cases e4
  refine jQ G.sys (T.step (tk:=tk) R' F') hA r1 r2 e5 fun val as2 h2' tk2 st2 R2 F2' r3=>?_
  rw [RepV] at r3; subst r3
  exact wpAny_truthy_bool (hQ as2 h2' tk2 (ao st st2 R2 F2') R2 F2')
 ·cases e4
theorem rq {i:Expr}{b:E}{c:CE} (h:al n c i=some b):∀ o x,subscripted i false o x=operate [o,x] (getItem o x):=by
 have hk:=dk h
 cases i <;> first | (intros; rfl) | exact ft hk
theorem AB {va i a b p} (IH:bE g c0 call r n) (h1:al n (c0.sub names) va=some a) (h2:al n (c0.sub names) i=some b):aO g c0 call r names (.Subscript va i p) (.sub a b):=fun env A X s as fr σ σ' v Q N hA T ev hQ=>by
 refine aD ev fun u τ e1 e2=>?_
 refine aD e2 fun w τ' e3 e4=>?_
 obtain ⟨e5,rfl⟩:=jH e4
 exact Subscript_ (two IH h1 h2 N hA T e1 e3 fun x y as' h' tk st R' F' r1 r2=>Ai (T.step R' F') hA r1 r2 (rq h2) e5 (aU hQ st R' F'))
end
end Mine
namespace Mine
open PySem PyProof.Rows PySem.W
theorem Rel.pushAt {g:Cfg}{as:List Addr} {σ:Sto}{h h':Heap}{o:AO}{a:Addr} (R:Rel g as σ h) (k:∀ (b:Addr) (o:Obj),b ≠ a→h.get? b=some o→h'.get? b=some o) (ha:a ∉ as) (hb:g.b.get? a=none)
  (hi:∀ ob,h.get? a=some ob→¬ Imm ob) (ho:cR as h (as ++ [a]) h'→oC g (as ++ [a]) h' o a):cR as h (as ++ [a]) h' ∧ Rel g (as ++ [a]) (σ ++ [o]) h':=by
 have K:cR as h (as ++ [a]) h':=⟨fun j c e=>by rw [List.getElem?_append_left (List.getElem?_eq_some_iff.mp e).1]; exact e,fun b ob e im=>k b ob (fun q=>by subst q; exact hi ob e im) e⟩
 refine ⟨K,⟨fun b ob e=>k b ob (fun q=>by subst q; rw [hb] at e; cases e) (R.base b ob e),by simp [R.len],?_,fun b hb'=>?_,fun i b ob h1 h2=>?_,R.hnd.keep K⟩⟩
 ·exact List.nodup_append.mpr ⟨R.nd,by simp,fun x hx y hy e=>by simp at hy; subst hy; subst e; exact ha hx⟩
 ·rcases List.mem_append.mp hb' with q | q
  ·exact R.new b q
  ·simp at q; subst q; exact hb
 ·rcases Nat.lt_trichotomy i as.length with hi' | hi' | hi'
  ·rw [List.getElem?_append_left hi'] at h1
   rw [List.getElem?_append_left (R.len ▸ hi')] at h2
   exact (R.obj i b ob h1 h2).keep K fun oc e=>k b oc (fun q=>ha (q ▸ List.mem_of_getElem? h1)) e
  ·subst hi'
   rw [R.len] at h2
   simp at h1 h2; subst h1; subst h2; exact ho K
  ·rw [List.getElem?_eq_none (by simp; lia)] at h1; cases h1
section
variable {g:Cfg}{K:Frag}{c0:CE}{fa:Nat→Option Addr}{call:Nat→List V→Sto→RE}{env:Env}{A:Around}{X:Value→Shared→Prop}{s:Shared}{as:List Addr}{fr:Fra} {σ σ':Sto}{r n:Nat}
 {names:List (Str × NameKind)}{Q:Value→Shared→Prop}{v:V}
theorem az.there {h:Heap} (F:az g env as fr h):∃ o,h.get? env.locals=some o:=by
 obtain ⟨m,⟨o,es,ep,e,_⟩,_⟩:=F.ns; exact ⟨o,e⟩
theorem At.notNew (T:At g env as fr σ s):s.heap.objs.size ≠ env.locals ∧ s.heap.objs.size ∉ as ∧ g.b.get? s.heap.objs.size=none:=by
 refine ⟨fun q=>?_,fun q=>?_,?_⟩
 ·obtain ⟨o,e⟩:=T.F.there; have:=Heap.lt_size e; rw [q] at this; exact Nat.lt_irrefl _ this
 ·obtain ⟨o,e,_⟩:=T.R.there q; have:=Heap.lt_size e; exact Nat.lt_irrefl _ this
 ·cases e:g.b.get? s.heap.objs.size with
  | none=>rfl
  | some o=>have:=T.R.base _ _ e; rw [new_none] at this; cases this
theorem At.push (T:At g env as fr σ s) (o:Obj):At g env as fr σ { s with heap:=s.heap.push o } :=
 have x:aF [] as s.heap as (s.heap.push o):=aF.of_ext (aA _ _)
 ⟨T.frame x,T.R.ext (aA _ _)⟩
theorem bD (as:List Addr) (h:Heap) (o:Obj) (own:List Addr):aF own as h as (h.push o):=aF.of_ext (aA _ _)
theorem az.alter {as':List Addr}{h h':Heap}{d:Addr} (F:az g env as fr h) (K:cR as h as' h') (hk:∀ (b:Addr) (o:Obj),b ≠ d→h.get? b=some o→h'.get? b=some o) (hL:env.locals ≠ d) (hc:∀ x c,env.cells.lookup x=some c→c ≠ d)
  (has:∀ a ∈ as',a ∈ as ∨ a=d):az g env as' fr h':=by
 obtain ⟨m,hm,hv⟩:=F.ns
 refine ⟨F.kind,F.above,F.glob,F.blt,F.len,F.nd,⟨m,hm.at' fun o e=>hk _ o hL e,fun i x v h1 h2=>?_⟩,fun i x k h1 h2=>?_,fun q=>?_,fun x c hc'=>⟨fun q=>?_,(F.offc _ _ hc').2.1,?_⟩,F.apart,F.newc⟩
 ·obtain ⟨val,e1,e2⟩:=hv i x v h1 h2
  exact ⟨val,e1,RepV.keep K _ _ e2⟩
 ·obtain ⟨c,cv,e1,⟨o,e2,e2'⟩,e3⟩:=F.cells i x k h1 h2
  refine ⟨c,cv,e1,⟨o,hk _ _ (hc _ _ e1) e2,e2'⟩,fun v e=>?_⟩
  obtain ⟨val,e4,e5⟩:=e3 v e
  exact ⟨val,e4,RepV.keep K _ _ e5⟩
 ·rcases has _ q with q | q
  ·exact F.off q
  ·exact hL q
 ·rcases has _ q with q | q
  ·exact (F.offc _ _ hc').1 q
  ·exact hc _ _ hc' q
 ·obtain ⟨cv,o,e,e'⟩:=(F.offc _ _ hc').2.2
  exact ⟨cv,o,hk _ _ (hc _ _ hc') e,e'⟩
theorem At.cellNew (T:At g env as fr σ s):∀ x c,env.cells.lookup x=some c→c ≠ s.heap.objs.size:=fun x c hc q=>by
 obtain ⟨cv,o,e,_⟩:=(T.F.offc _ _ hc).2.2
 have:=Heap.lt_size e; rw [q] at this; exact Nat.lt_irrefl _ this
theorem yF {va a x k p} (G:bC g K c0 fa) (I:bv g) (IH:bE g c0 call r n) (hb:dZ va=true) (h1:al n (c0.sub names) va=some a) (hk:c0.attrs.lookup x=some k):aO g c0 call r names (.Attribute va x p) (.attr a k):=fun env A X s as fr σ σ' v Q N hA T ev hQ=>by
 refine aD ev fun u τ e1 e2=>?_
 obtain ⟨e5,rfl⟩:=jH e2
 refine Attribute_any_ (IH names va a h1 env A X s as fr σ _ u _ N hA T e1 fun val as' h' tk st R' F' r1=>xe G I (T.step (tk:=tk) R' F') r1 hk e5 (aU hQ st R' F')) ?_
 have:=i9 (x:=x) (env:=env) (act:=eval va env) hb
 show (attributeBase va x env (eval va env) >>= _)=_
 rw [this]
theorem xQ {es es' p} (IH:bE g c0 call r n) (h1:aP (al n (c0.sub names)) es=some es'):aO g c0 call r names (.List es p) (.list es'):=fun env A X s as fr σ σ' v Q N hA T ev hQ=>by
 refine bO ev fun u τ e1 e2=>?_
 refine wpAny_List (fZ IH es es' s as σ τ u _ h1 N hA T e1 fun xs as' h' tk st R' F' r1=>?_)
 have hl:=(ah.f2.mp r1).length
 refine ⟨by rw [← hl]; exact eA e2,?_⟩
 exact (aU (tk:=tk) hQ st R' F').newH (tk:=tk) (T.step R' F') (xs:=u) (items:=xs.toArray) (by simpa using r1) e2
set_option tactic.hygienic true in
theorem zl {es es' k p} (IH:bE g c0 call r n) (h1:aP (al n (c0.sub names)) es=some es'):aO g c0 call r names (.Tuple es k p) (.tup es'):=fun env A X s as fr σ σ' v Q N hA T ev hQ=>by
 refine bO ev fun u τ e1 e2=>?_
 split at e2
 case isFalse=>cases e2
 rename_i hlen
 cases e2
 refine wpAny_Tuple (fZ IH es es' s as σ _ u _ h1 N hA T e1 fun xs as' h' tk st R' F' r1=>?_)
 have hl:=(ah.f2.mp r1).length
 refine ⟨by rw [← hl]; show _ ≤ 2 ^ 24; lia,?_⟩
 have T':=T.step (tk:=tk) R' F'
 have x:aF [] as' h' as' (h'.push { cls:=.type "tuple",data:=.seq xs.toArray }):=aF.of_ext (aA _ _)
 refine (aU (tk:=tk) hQ st R' F').use (tk:=tk) T' x (R'.ext (aA _ _)) ?_
 rw [RepV]
 exact ⟨_,xs.toArray,0,rfl,Heap.get?_push_size _ rfl,by simp; lia,by simpa using ah.keep (R'.keep0 x) _ _ r1⟩
set_option tactic.hygienic true in
theorem zW {va lo a b p p'} (IH:bE g c0 call r n) (h1:al n (c0.sub names) va=some a) (h2:al n (c0.sub names) lo=some b):aO g c0 call r names (.Subscript va (.Slice (some lo) none none p') p) (.slo a b):=fun env A X s as fr σ σ' v Q N hA T ev hQ=>by
 refine aD ev fun u τ e1 e2=>?_
 refine aD e2 fun w τ' e3 e4=>?_
 refine Subscript_ (IH names va a h1 env A X s as fr σ τ u _ N hA T e1 fun x as1 k1 tk1 st1 R1 F1 r1=>?_)
 refine wpAny_Slice (wpAny_evalPart_some (IH names lo b h2 env A X _ as1 fr τ τ' w _ N hA ⟨F1,R1⟩ e3 fun y as2 k2 tk2 st2 R2 F2' r2=>?_))
 refine wpAny_pure (wpAny_pure ?_)
 have r1':=RepV.keep (At.keep (s:={ s with heap:=k1,toks:=tk1 }) ⟨F1,R1⟩ st2) _ _ r1
 split at e4
 case h_2=>cases e4
 rename_i l k
 split at e4
 case h_2=>cases e4
 rename_i xs hx
 split at e4
 case isFalse=>cases e4
 rename_i hk
 have T2:At g env as2 fr τ' { s with heap:=k2,toks:=tk2 }:=⟨F2',R2⟩
 have T3:=T2.push { cls:=.type "slice",data:=.fields #[y,.none,.none] }
 have kp:=R2.keep0 (bD as2 k2 { cls:=.type "slice",data:=.fields #[y,.none,.none] } [])
 refine rA (lo:=some k) T3 (RepV.keep kp _ _ r1') hx (Heap.IsSliceOf.new k2 y .none .none) ?_ .none .none (by simp) (fun items hi=>?_) e4 (fun _ _=>⟨_,rfl⟩) ?_
 ·rw [RepV] at r2; obtain ⟨t,rfl⟩:=r2; exact .int _ _
 ·obtain ⟨k',rfl⟩:=Int.eq_ofNat_of_zero_le hk
  show ah _ _ _ (slicePick items (some (k':Int)) none none).toList
  rw [slicePick_from']
  simpa using ah.f2.mpr ((ah.f2.mp hi).drop k')
 ·exact fun val as3 h3 tk3 st3 R3 F3 r3=>hQ val as3 h3 tk3 (ao st1 (ao st2 (ao (g:=g) (fr:=fr) (bD as2 k2 _ _) st3 R3 F3) R3 F3) R3 F3) R3 F3 r3
set_option tactic.hygienic true in
theorem Ag {va lo a b p p'} (IH:bE g c0 call r n) (h1:al n (c0.sub names) va=some a) (h2:al n (c0.sub names) lo=some b):aO g c0 call r names (.Subscript va (.Slice none (some lo) none p') p) (.shi a b):=fun env A X s as fr σ σ' v Q N hA T ev hQ=>by
 refine aD ev fun u τ e1 e2=>?_
 refine aD e2 fun w τ' e3 e4=>?_
 refine Subscript_ (IH names va a h1 env A X s as fr σ τ u _ N hA T e1 fun x as1 k1 tk1 st1 R1 F1 r1=>?_)
 refine wpAny_Slice (wpAny_pure (wpAny_evalPart_some (IH names lo b h2 env A X _ as1 fr τ τ' w _ N hA ⟨F1,R1⟩ e3 fun y as2 k2 tk2 st2 R2 F2' r2=>?_)))
 refine wpAny_pure ?_
 have r1':=RepV.keep (At.keep (s:={ s with heap:=k1,toks:=tk1 }) ⟨F1,R1⟩ st2) _ _ r1
 split at e4
 case h_2=>cases e4
 rename_i l k
 split at e4
 case h_2=>cases e4
 rename_i xs hx
 split at e4
 case isFalse=>cases e4
 rename_i hk
 have T2:At g env as2 fr τ' { s with heap:=k2,toks:=tk2 }:=⟨F2',R2⟩
 have T3:=T2.push { cls:=.type "slice",data:=.fields #[.none,y,.none] }
 have kp:=R2.keep0 (bD as2 k2 { cls:=.type "slice",data:=.fields #[.none,y,.none] } [])
 refine rA (hi:=some k) T3 (RepV.keep kp _ _ r1') hx (Heap.IsSliceOf.new k2 .none y .none) .none ?_ .none (by simp) (fun items hi=>?_) e4 (fun _ _=>⟨_,rfl⟩) ?_
 ·rw [RepV] at r2; obtain ⟨t,rfl⟩:=r2; exact .int _ _
 ·obtain ⟨k',rfl⟩:=Int.eq_ofNat_of_zero_le hk
  show ah _ _ _ (slicePick items none (some (k':Int)) none).toList
  rw [slicePick_upto']
  simpa using ah.f2.mpr ((ah.f2.mp hi).take k')
 ·exact fun val as3 h3 tk3 st3 R3 F3 r3=>hQ val as3 h3 tk3 (ao st1 (ao st2 (ao (g:=g) (fr:=fr) (bD as2 k2 _ _) st3 R3 F3) R3 F3) R3 F3) R3 F3 r3
theorem At.notSys (G:Sys g) (T:At g env as fr σ s):(s.heap.objs.size == sysModules)=false:=by
 obtain ⟨o,e⟩:=T.F.there
 have h1:=Heap.lt_size e
 have h2:=T.F.above
 have h3:=G.sys
 cases q:s.heap.objs.size == sysModules with
 | false=>rfl
 | true =>
  have:=eq_of_beq q
  rw [this] at h1
  exact absurd (Nat.lt_of_lt_of_le h3 h2) (Nat.lt_asymm h1)
theorem vE {p} (G:bC g K c0 fa):aO g c0 call r names (.Dict [] [] p) .dict0:=fun env A X s as fr σ σ' v Q N hA T ev hQ=>by
 obtain ⟨rfl,rfl⟩:=bx ev
 refine wpAny_Dict_empty ?_
 have x:aF [] as s.heap (as ++ [s.heap.objs.size]) (s.heap.push { cls:=.type "dict",data:=.dict #[] }):=jV (aA _ _) (new_none _)
 refine hQ.use (tk:=s.toks) T x (T.R.push (aA _ _) (new_none _) ⟨[],Heap.DictOfH.new _,.nil,by simp,T.notSys G.sys⟩) ?_
 rw [RepV]
 exact ⟨_,rfl,by rw [← T.R.len]; simp⟩
set_option tactic.hygienic true in
theorem vB {ke va a b p} (G:bC g K c0 fa) (IH:bE g c0 call r n) (h1:al n (c0.sub names) ke=some a) (h2:al n (c0.sub names) va=some b):aO g c0 call r names (.Dict [some ke] [va] p) (.dict1 a b):=fun env A X s as fr σ σ' v Q N hA T ev hQ=>by
 refine aD ev fun u τ e1 e2=>?_
 refine aD e2 fun w τ' e3 e4=>?_
 split at e4
 case h_2=>cases e4
 rename_i i
 cases e4
 have T1:=T.push { cls:=.type "dict",data:=.dict #[] }
 have nn:=T.notNew
 have hd0:=Heap.DictOf.new (knd:=intKind g.prog g.w) s.heap
 refine wpAny_Dict_walk (knd:=intKind g.prog g.w) rfl rfl (by simp) (by simp) (pairTrees_cons_walk (two IH h1 h2 N hA T1 e1 e3 fun x y as' h' tk st R' F' r1 r2=>pairTrees_nil_walk ?_))
 rw [RepV] at r1; obtain ⟨t,rfl⟩:=r1
 have hda:s.heap.objs.size ∉ as':=by
  obtain ⟨⟨t',rfl,ht⟩,_⟩:=st
  intro q
  rcases List.mem_append.mp q with q | q
  ·exact nn.2.1 q
  ·have:=ht _ q; rw [Heap.get?_push_size _ rfl] at this; cases this
 refine ⟨[(i,y)],⟨intKind_is _ _ _ _,rfl,trivial⟩,?_,fun h2' hd' hs'=>?_⟩
 ·exact hd0.at fun o e=>st.ext _ _ e (by simpa using nn.1) nn.2.1
 have hk:∀ (b:Addr) (o:Obj),b ≠ s.heap.objs.size→h'.get? b=some o→h2'.get? b=some o:=fun b o hb e=>by rw [hs'.2 b hb]; exact e
 have hni:∀ ob,h'.get? s.heap.objs.size=some ob→¬ Imm ob:=fun ob e hi=>by
  have:=st.ext _ _ (Heap.get?_push_size s.heap (o:={ cls:=.type "dict",data:=.dict #[] }) rfl) (by simpa using nn.1) nn.2.1
  rw [e] at this; cases this
  exact hi.2.1 _ _ rfl
 obtain ⟨K',R2⟩:=R'.pushAt (o:=.dI [(i,w)]) hk hda nn.2.2 hni fun kk=>⟨_,hd',by
  show F2 _ _ [(i,y)]
  exact .cons ⟨rfl,RepV.keep kk _ _ r2⟩ .nil,by simp,T.notSys G.sys⟩
 have st2:aF [env.locals] as s.heap (as' ++ [s.heap.objs.size]) h2':=by
  obtain ⟨⟨t',rfl,ht⟩,hx⟩:=st
  refine ⟨⟨t' ++ [s.heap.objs.size],by simp,fun a ha=>?_⟩,fun b o e hb hb'=>hk b o (fun q=>by subst q; rw [new_none] at e; cases e) (hx b o (aA _ _ _ _ e) hb hb')⟩
  rcases List.mem_append.mp ha with q | q
  ·cases e:s.heap.get? a with
   | none=>rfl
   | some o=>have:=ht a q; rw [aA _ _ _ _ e] at this; cases this
  ·simp at q; subst q; exact new_none _
 have F2':az g env (as' ++ [s.heap.objs.size]) fr h2':=F'.alter K' hk (Ne.symm nn.1) T.cellNew (by intro a ha; rcases List.mem_append.mp ha with q | q; exact .inl q; simp at q; exact .inr q)
 refine hQ _ _ h2' _ st2 R2 F2' ?_
 rw [RepV]
 exact ⟨_,rfl,by rw [← R'.len]; simp⟩
end
end Mine
namespace Mine
open PySem PyProof.Rows PySem.W
section
variable {g:Cfg}{K:Frag}{c0:CE}{fa:Nat→Option Addr}{call:Nat→List V→Sto→RE}{env:Env}{A:Around}{X:Value→Shared→Prop}{s:Shared}{as:List Addr}{fr:Fra} {σ σ':Sto}{r n:Nat}
 {names:List (Str × NameKind)}{Q:Value→Shared→Prop}{v:V}
theorem qm {pos:Pos}{c:CE}:∀ {es:List Expr}{es':List E},aP (al n c) es=some es'→(backTo pos (starEach es env)).any (·.1)=false
 | [],_,_=>rfl
 | e :: es,es',h=>by
  refine cn h fun a as' h1 h2 qx4=>?_; subst qx4
  rw [aZ h1]
  show (false || (backTo pos (starEach es env)).any (·.1))=false
  rw [qm h2]; rfl
theorem aY {pos:Pos}{f:Value}{first:List Value} (IH:bE g c0 call r n) (hk:∀ h:Heap,(∀ (a:Addr) (o:Obj),g.b.get? a=some o→h.get? a=some o)→∃ k,(k=Keeper.frame ∨ k=Keeper.machine ∨ k=Keeper.boundFrame) ∧ Looks (model g.prog g.w) h (keeperOf f) k)
  {es:List Expr}{es':List E}{vs:List V} (h1:aP (al n (c0.sub names)) es=some es') (N:aq (c0.sub names) env A) (hA:bU g A (r + 1)) (T:At g env as fr σ s) (ev:cE call es' fr σ=.ok vs σ')
  (hQ:∀ (xs:List Value) (as':List Addr) (h':Heap) (tk:Nat),aF [env.locals] as s.heap as' h'→Rel g as' σ' h'→az g env as' fr h'→ah as' h' vs xs→wpAny (model g.prog g.w) A (PySem.call f (first ++ xs)) Q X { s with heap:=h',toks:=tk }) :
  wpAny (model g.prog g.w) A (callWith pos f first (backTo pos (starEach es env)) []) Q X s:=by
 refine callWith_of (P:=fun h=>∀ (a:Addr) (o:Obj),g.b.get? a=some o→h.get? a=some o) (by rw [qm h1]; rfl) hk ?_
 have fin:∀ (xs:List Value) (as':List Addr) (h':Heap) (tk:Nat),aF [env.locals] as s.heap as' h'→Rel g as' σ' h'→az g env as' fr h'→ah as' h' vs xs →
  (∀ (a:Addr) (o:Obj),g.b.get? a=some o→({ s with heap:=h',toks:=tk }:Shared).heap.get? a=some o) ∧ wpAny (model g.prog g.w) A (PySem.call f (first ++ (⟨xs,[]⟩:Args).pos) (⟨xs,[]⟩:Args).kw) Q X { s with heap:=h',toks:=tk } :=
  fun xs as' h' tk st R' F' r'=>⟨R'.base,hQ xs as' h' tk st R' F' r'⟩
 cases es with
 | nil =>
  rw [dC] at h1; cases h1; rw [cE] at ev; cases ev
  exact PySem.evalArgs_none (fin [] as s.heap s.toks (aF.refl _ _ _) T.R T.F (by rw [ah]))
 | cons e es =>
  have key:=fZ (A:=A) (X:=X) (pos:=pos) IH (e :: es) es' s as σ σ' vs (fun xs s'=>(∀ (a:Addr) (o:Obj),g.b.get? a=some o→s'.heap.get? a=some o) ∧ wpAny (model g.prog g.w) A (PySem.call f (first ++ (⟨xs,[]⟩:Args).pos) (⟨xs,[]⟩:Args).kw) Q X s') h1 N hA T ev fin
  refine cn h1 fun a as' h3 h4 qx4=>?_; subst qx4
  rw [aZ h3] at key ⊢
  exact Calls.evalArgs_plain key
theorem eQ (id:String):∀ h:Heap,∃ k,(k=Keeper.frame ∨ k=Keeper.machine ∨ k=Keeper.boundFrame) ∧ Looks (model g.prog g.w) h (keeperOf (.builtin id)) k:=fun h=>⟨.machine,.inr (.inl rfl),.now⟩
theorem kY (id:String):∀ h:Heap,∃ k,(k=Keeper.frame ∨ k=Keeper.machine ∨ k=Keeper.boundFrame) ∧ Looks (model g.prog g.w) h (keeperOf (.type id)) k:=fun h=>⟨.machine,.inr (.inl rfl),.now⟩
theorem sm (b:BN) (hb:bOk b=true):∀ h:Heap,∃ k,(k=Keeper.frame ∨ k=Keeper.machine ∨ k=Keeper.boundFrame) ∧ Looks (model g.prog g.w) h (keeperOf (mt b)) k:=by
 cases b <;> first | exact ft hb | exact eQ _ | exact kY _
theorem iQ {α:Type}{P:α→Bool}{x:Str}{b:α}:∀ {l:List (Str × α)},l.all (fun q=>P q.2)=true→l.lookup x=some b→P b=true
 | [],_,e=>nn e
 | q :: l,h,e=>by
  obtain ⟨h1,h2⟩:=ag (show (P q.2 && l.all fun q=>P q.2)=true from h)
  obtain ⟨y,c⟩:=q
  rw [List.lookup_cons] at e
  cases hq:x == y <;> rw [hq] at e
  ·exact iQ h2 e
  ·exact Option.some.inj e ▸ h1
theorem fu {f:Value} (G:bC g K c0 fa) (hk:keepIn K f=true):∀ h:Heap,(∀ (a:Addr) (o:Obj),g.b.get? a=some o→h.get? a=some o)→∃ k,(k=Keeper.frame ∨ k=Keeper.machine ∨ k=Keeper.boundFrame) ∧ Looks (model g.prog g.w) h (keeperOf f) k :=
 fun h hb=>keeps_K hk h (G.kin.keeps hb)
theorem Ak {f:Str}{fp p:Pos}{b es es'} (G:bC g K c0 fa) (IH:bE g c0 call r n) (hg:(c0.sub names).glob f=true) (hd:(f == ("__debug__":Str))=false) (hb:bltName.lookup f=some b) (hne:bOk b=true) (hh:c0.hnd=false) (h1:aP (al n (c0.sub names)) es=some es') :
  aO g c0 call r names (.Call (.Name f fp) es [] p) (.blt b es'):=fun env A X s as fr σ σ' v Q N hA T ev hQ=>by
 refine bO ev fun us τ e1 e2=>?_
 refine wpAny_Call_NameR (cJ T N hg hd (G.blt f b hb) ?_)
 refine aY IH (fun h _=>?_) h1 N hA T e1 fun xs as' h' tk st R' F' r'=>?_
 ·exact sm b hne h
 ·exact zI G.sys (T.step (tk:=tk) R' F') (hA.none (G.hd hh)) r' hne e2 (aU hQ st R' F')
theorem bU.less {m k:Nat} (h:bU g A (m + k)):bU g A m:=by
 have h1:=h.units; have h2:=h.depth
 exact ⟨by lia,by lia,h.handled⟩
theorem az.size {h:Heap} (F:az g env as fr h):g.b.objs.size ≤ h.objs.size:=by
 obtain ⟨o,e⟩:=F.there
 exact Nat.le_trans F.above (Nat.le_of_lt (Heap.lt_size e))
theorem iJ {as':List Addr}{h':Heap}{tk:Nat} {τ:Sto}{val:Value}{as2:List Addr}{h2:Heap}{tk2:Nat} (hQ:aJ g env as fr s v σ' Q) (st:aF [env.locals] as s.heap as' h') (R':Rel g as' τ h') (F':az g env as' fr h')
  (st2:aF [] as' h' as2 h2) (R2:Rel g as2 σ' h2) (r2:RepV as2 h2 v val):Q val { s with heap:=h2,toks:=tk2 } :=
 (aU (tk:=tk) hQ st R' F').use (tk:=tk2) (s:={ s with heap:=h',toks:=tk }) ⟨F',R'⟩ st2 R2 r2
theorem yd {f:Str}{fp p:Pos}{k es es'} (G:bC g K c0 fa) (C:dW g fa call r) (IH:bE g c0 call r n) (hg:(c0.sub names).glob f=true) (hd:(f == ("__debug__":Str))=false) (hb:c0.fns.lookup f=some k) (h1:aP (al n (c0.sub names)) es=some es') :
  aO g c0 call r names (.Call (.Name f fp) es [] p) (.call k es'):=fun env A X s as fr σ σ' v Q N hA T ev hQ=>by
 refine bO ev fun us τ e1 e2=>?_
 obtain ⟨a,hv,hfa,hkp⟩:=G.fn f k hb
 refine wpAny_Call_NameR (cJ T N hg hd hv ?_)
 refine aY IH (fu G hkp) h1 N hA T e1 fun xs as' h' tk st R' F' r'=>?_
 refine wpAny_call (C k a us τ σ' v hfa e2 A _ as' xs _ (hA.less (k:=1)) R' F'.size r' fun val as2 h2 tk2 st2 R2 r2=>?_)
 exact iJ (s:=s) (tk:=tk) (tk2:=tk2) hQ st R' F' st2 R2 r2
theorem pA {r:RE} (e:noX r=.ok v σ'):r=.ok v σ':=by
 cases r with
 | ok=>exact e
 | ex=>cases e
 | bad=>cases e
theorem vV {f:Str}{fp p:Pos}{k es es'} (G:bC g K c0 fa) (C:ip g K c0 call r) (IH:bE g c0 call r n) (hg:(c0.sub names).glob f=true) (hd:(f == ("__debug__":Str))=false) (hb:c0.tfns.lookup f=some k) (ht:c0.top=some names) (h1:aP (al n (c0.sub names)) es=some es') :
  aO g c0 call r names (.Call (.Name f fp) es [] p) (.tcall k es'):=fun env A X s as fr σ σ' v Q N hA T ev hQ=>by
 refine bO ev fun us τ e1 e2=>?_
 obtain ⟨a,hv,hkp,hc⟩:=C f k hb
 obtain ⟨hfr,hf⟩:=N.top ht
 refine wpAny_Call_NameR (cJ T N hg hd hv ?_)
 refine aY IH (fu G hkp) h1 N hA T e1 fun xs as' h' tk st R' F' r'=>?_
 exact wpAny_call (hc us τ σ' v (pA e2) A _ as' xs env fr _ (hA.less (k:=1)) hfr hf ⟨F',R'⟩ r' (aU (tk:=tk) hQ st R' F'))
set_option tactic.hygienic true in
theorem qn {ds:List Nat}{u:V}{b:Bool}{f:Nat→Bool} (e:zt u ds f=some b):∃ D,u=.exc D ∧ D ∈ ds ∧ b=f D:=by
 cases u <;> first | exact nn e | skip
 rename_i D
 by_cases h:ds.contains D
 ·exact ⟨D,rfl,List.contains_iff_mem.mp h,(Option.some.inj ((if_pos h).symm.trans e)).symm⟩
 ·exact nn ((if_neg h).symm.trans e)
theorem uN {D:Addr}{cv val:Value}{b:Bool} (G:bC g K c0 fa) (hD:D ∈ c0.excs.map (·.2)) (e:kitOne K (.ref D) cv=some b) (T:At g env as fr σ s) (r:RepV as s.heap (.exc D) val) (hQ:aJ g env as fr s (.bool b) σ Q) :
  wpAny (model g.prog g.w) A (PySem.call (.builtin "isinstance") [val,cv]) Q X s:=by
 rw [RepV] at r
 obtain ⟨a,o,vs,rfl,ho,hn,hc,hd⟩:=r
 refine kia_one (tS (ox:=o) (G.exc.k D hD)) (G.kin.keeps T.R.base) ⟨ho,hc,?_,?_⟩ e (by simp) fun tk=>hQ.bool T
 ·unfold notCls; rw [hd]
 ·rw [hn]; trivial
set_option tactic.hygienic true in
set_option backward.match.sparseCases false in
theorem t8 {u:V}{b:Bool} (e:uL .inst u σ=some b):∃ l d,u=.ref l ∧ σ[l]?=some (.inst d) ∧ b=true:=by
 cases u <;> first | exact nn e | skip
 rename_i l
 have e:(match σ[l]? with | some (.inst _)=>some true | _=>none)=some b:=e
 split at e
 ·rename_i d hd; exact ⟨l,d,rfl,hd,(Option.some.inj e).symm⟩
 ·exact nn e
theorem yo {t:Str}{ty:Ty} (G:bC g K c0 fa) (ht:qP c0 t=some ty):∃ cv,GV g t cv ∧ ∀ {env:Env}{A:Around}{X:Value→Shared→Prop}{s:Shared}{as:List Addr}{fr:Fra} {σ:Sto}{u:V}{b:Bool}{Q:Value→Shared→Prop}{val:Value},At g env as fr σ s→uL ty u σ=some b→RepV as s.heap u val→aJ g env as fr s (.bool b) σ Q→wpAny (model g.prog g.w) A (PySem.call (.builtin "isinstance") [val,cv]) Q X s:=by
 unfold qP at ht
 cases hl:tyName.lookup t with
 | some ty' =>
  rw [hl] at ht
  rw [← Option.some.inj ht]
  have this:∀ q ∈ tyName,∃ y,sC q.2=some y:=by
   intro q hq
   simp only [tyName,List.mem_cons,List.not_mem_nil,or_false] at hq
   rcases hq with rfl | rfl | rfl | rfl <;> exact ⟨_,rfl⟩
  exact (this _ (az.keep.lookup_mem hl)).elim fun y hy=>⟨y,G.typ t ty' y hl hy,fun T e r hQ=>Ae T r e hy hQ⟩
 | none =>
  rw [hl] at ht
  cases hc:c0.clss.lookup t with
  | some k =>
   rw [hc] at ht
   rw [← Option.some.inj ht]
   refine ⟨_,(G.cls t k hc).elim fun _ h=>h.1,fun T e r hQ=>?_⟩
   obtain ⟨l,d,rfl,hd,rfl⟩:=t8 e
   refine dh T.R r hd fun ad dx qx2 hl hdd ho'=>?_; subst qx2
   refine isi_call (K:=K) (t:=.ref g.C) (G.kin.keeps T.R.base) (fun M=>?_) (G.clsO t k hc) (by simp) (hQ.bool' T)
   obtain ⟨ob,hob,_⟩:=T.R.there (List.mem_of_getElem? hdd)
   exact InstAt.type (od:=some ob) (x:=ad) (ox:=instObj g.C dx) ⟨ho',rfl,rfl,hob⟩
  | none =>
   rw [hc] at ht
   cases hx:c0.excs.lookup t with
   | some C =>
    rw [hx] at ht
    rw [← Option.some.inj ht]
    refine ⟨_,G.exc.i t C hx,fun T e r hQ=>?_⟩
    obtain ⟨D,rfl,hD,rfl⟩:=qn e
    exact uN G hD (G.exc.o C (List.mem_map.mpr ⟨_,ar hx,rfl⟩) D hD) T r hQ
   | none =>
    rw [hx] at ht
    have h0:=au ht
    rw [← Option.some.inj h0.2,show t=_ from eq_of_beq h0.1]
    refine ⟨_,G.exc.v,fun T e r hQ=>?_⟩
    obtain ⟨D,rfl,hD,rfl⟩:=qn e
    exact uN G hD (G.exc.w D hD) T r hQ
theorem zg {a:Expr}{t:Str}{x ty p fp tp} (G:bC g K c0 fa) (IH:bE g c0 call r n) (hg:(c0.sub names).glob "isinstance"=true) (hgt:(c0.sub names).glob t=true) (ht:qP c0 t=some ty) (hdt:(t == ("__debug__":Str))=false) (h1:al n (c0.sub names) a=some x) :
  aO g c0 call r names (.Call (.Name "isinstance" fp) [a,.Name t tp] [] p) (.isi x ty):=fun env A X s as fr σ σ' v Q N hA T ev hQ=>by
 refine aD ev fun u τ e1 e2=>?_
 refine eW e2 fun b e3 qx2 qx3=>?_; subst qx2; subst qx3
 refine wpAny_Call_NameR (cJ T N hg rfl G.isi ?_)
 refine Calls.callWith_builtin (by rw [aZ h1]; rfl) ?_
 rw [aZ h1]
 refine Calls.evalArgs_plain ?_
 have hrw:(false,eval a env) :: (backTo p (starEach [.Name t tp] env))=backTo p (starEach (a :: [.Name t tp]) env):=by rw [aZ h1]; rfl
 show wpAny _ A (spliced ((false,eval a env) :: (backTo p (starEach [.Name t tp] env)))) _ X s
 rw [hrw]
 refine wpAny_items_cons ?_ (aZ h1 _ _)
 refine IH names a x h1 env A X s as fr σ _ u _ N hA T e1 fun val as' h' tk st R' F' r'=>?_
 have T':=T.step (tk:=tk) R' F'
 exact (yo G ht).elim fun cv hi=>wpAny_items_cons (cJ T' N hgt hdt hi.1 (wpAny_items_nil (hi.2 T' e3 r' (aU hQ st R' F'))))
set_option tactic.hygienic true in
theorem yr {a:Expr}{x p fp k p1 kp} (G:bC g K c0 fa) (IH:bE g c0 call r n) (hg:(c0.sub names).glob "max"=true) (hh:c0.hnd=false) (h1:al n (c0.sub names) a=some x) :
  aO g c0 call r names (.Call (.Name "max" fp) [a] [⟨some "default",.Constant .none k p1,kp⟩] p) (.maxd x):=fun env A X s as fr σ σ' v Q N hA T ev hQ=>by
 refine aD ev fun u τ e1 e2=>?_
 show wpAny _ A (eval (.Name "max" fp) env >>= fun f=>callWith p f [] (backTo p (starEach [a] env)) (backToKw p (keywordEach [⟨some "default",.Constant .none k p1,kp⟩] env))) Q X s
 refine wpAny_bind (cJ T N hg rfl (G.blt "max" .max rfl) ?_)
 refine callWith_kw ?_ (by rw [aZ h1]; rfl) (by rw [aZ h1]; rfl) rfl rfl
 refine wpAny_items_cons ?_ (aZ h1 _ _)
 refine IH names a x h1 env A X s as fr σ τ u _ N hA T e1 fun val as' h' tk st R' F' r'=>wpAny_items_nil ?_
 have T':=T.step (tk:=tk) R' F'
 have fin:∀ is l,u=.ref l→(getL τ l).bind aB=some is→(v=match gV is with | some i=>V.int i | none=>V.none)→σ'=τ →
   wpAny (model g.prog g.w) A (PySem.call (.builtin "max") [val] [(Str.ofString "default",.none)]) Q X { s with heap:=h',toks:=tk }:=fun is l hu hi hv hs=>by
  subst hu; subst hs
  exact xk T' (hA.none (G.hd hh)) r' hi hv (aU hQ st R' F')
 have fin':∀ is l,u=.ref l→(getL τ l).bind aB=some is→(v=match gV is with | some i=>V.int i | none=>V.none)→σ'=τ →
   wpAny (model g.prog g.w) A (evalAll ((backToKw p (keywordEach [⟨some "default",.Constant .none k p1,kp⟩] env)).map (·.2)))
   (fun kvs s₂=>wpAny (model g.prog g.w) A (PySem.call (.builtin "max") [val] (((backToKw p (keywordEach [⟨some "default",.Constant .none k p1,kp⟩] env)).filterMap (·.1)).zip kvs)) Q X s₂) X { s with heap:=h',toks:=tk }:=fun is l hu hi hv hs=>by
  have:=fin is l hu hi hv hs
  show wpAny _ A (do let v ← (do let v ← eval (.Constant .none k p1) env; standAt p; pure v); return v :: (← holding [v] (evalAll []))) _ X _
  refine wpAny_bind (wpAny_bind (Constant_none (wpAny_bind (wpAny_standAt (wpAny_pure (wpAny_bind (wpAny_holding (wpAny_pure (wpAny_pure ?_)))))))))
  exact this
 split at e2
 case h_2=>cases e2
 rename_i l
 split at e2
 ·rename_i hi
  cases e2
  exact fin' [] l rfl hi rfl rfl
 ·rename_i is hne hi
  obtain ⟨e3,rfl⟩:=jH e2
  obtain ⟨i,e4,rfl⟩:=Option.map_eq_some_iff.mp e3
  exact fin' is l rfl hi (by rw [e4]) rfl
 ·cases e2
end
end Mine
namespace Mine
open PySem PyProof.Rows PySem.W
theorem rd (is:List Int):(firstMet (fun i=>is.getD i 0) is.length)=eE is:=by
 unfold firstMet eE
 have:(List.range is.length).map (fun i=>is.getD i 0)=is:=by
  apply List.ext_getElem
  ·simp
  ·intro i h1 h2; simp at h1; simp [h1]
 rw [this]; rfl
set_option tactic.hygienic true in
theorem nC {u v:V} {τ σ':Sto} (e:gQ .setLen [u] τ=.ok v σ'):∃ l is,u=.ref l ∧ (getL τ l).bind aB=some is ∧ is.length ≤ 1000 ∧ v=.int (eE is).length ∧ σ'=τ:=by
 cases u <;> try (simp only [gQ,xC,xN] at e; cases e)
 rename_i l
 simp only [gQ,xC,xN] at e
 split at e
 ·rename_i is hi
  split at e
  ·cases e; exact ⟨l,is,rfl,hi,by assumption,rfl,rfl⟩
  ·cases e
 ·cases e
set_option tactic.hygienic true in
theorem r8 {u v:V} {τ σ':Sto} (e:gQ .revl [u] τ=.ok v σ'):∃ l xs,u=.ref l ∧ getL τ l=some xs ∧ cQ xs.reverse τ=.ok v σ':=by
 cases u <;> try (simp only [gQ,xC,xN] at e; cases e)
 rename_i l
 simp only [gQ,xC,xN] at e
 split at e
 ·rename_i is hi
  exact ⟨l,is,rfl,hi,e⟩
 ·cases e
section
variable {g:Cfg}{K:Frag}{c0:CE}{fa:Nat→Option Addr}{call:Nat→List V→Sto→RE}{env:Env}{A:Around}{X:Value→Shared→Prop}{s:Shared}{as:List Addr}{fr:Fra} {σ σ':Sto}{r n:Nat}
 {names:List (Str × NameKind)}{Q:Value→Shared→Prop}{v:V}
theorem l4 {f:Str}{fp p:Pos}{a:Expr}{x:E}{fv:Value}{u:V} (IH:bE g c0 call r n) (hg:(c0.sub names).glob f=true) (hd:(f == ("__debug__":Str))=false) (hv:GV g f fv) (hk:∃ id,fv=.builtin id ∨ fv=.type id)
  (h1:al n (c0.sub names) a=some x) (N:aq (c0.sub names) env A) (hA:bU g A (r + 1)) (T:At g env as fr σ s) (ev:evE call x fr σ=.ok u σ')
  (hQ:∀ (y:Value) (as':List Addr) (h':Heap) (tk:Nat),aF [env.locals] as s.heap as' h'→Rel g as' σ' h'→az g env as' fr h'→RepV as' h' u y→wpAny (model g.prog g.w) A (PySem.call fv [y]) Q X { s with heap:=h',toks:=tk }) :
  wpAny (model g.prog g.w) A (eval (.Call (.Name f fp) [a] [] p) env) Q X s:=by
 refine wpAny_Call_NameR (cJ T N hg hd hv ?_)
 have h1':aP (al n (c0.sub names)) [a]=some [x]:=by rw [kc,h1]; rfl
 refine aY IH (fun h _=>?_) h1' N hA T (vs:=[u]) (σ':=σ') ?_ fun xs as' h' tk st R' F' r'=>?_
 ·obtain ⟨id,q | q⟩:=hk <;> rw [q]
  ·exact eQ id h
  ·exact kY id h
 ·rw [cE]; dsimp only; rw [ev]; simp [cE,RE.binds_ok,REs.binds_ok]
 ·rw [ah] at r'
  obtain ⟨y,ys,rfl,r1,r2⟩:=r'
  rw [ah] at r2; subst r2
  exact hQ y as' h' tk st R' F' r1
theorem kn {p:Pos}{f:Expr}{x:Expr}{kw:List Keyword}{pos:Pos}{Q:List Value→Shared→Prop} (h:wpAny (model g.prog g.w) A (eval (.Call f [x] kw pos) env) (fun v s'=>Q [v] s') X s):wpAny (model g.prog g.w) A (spliced (backTo p (starEach [.Call f [x] kw pos] env))) Q X s :=
 wpAny_items_cons (wpAny_mono h (fun v s' h'=>wpAny_items_nil h') fun _ _ h=>h)
theorem s8 {a:Expr}{x p fp p1 fp1} (G:bC g K c0 fa) (IH:bE g c0 call r n) (hg:(c0.sub names).glob "len"=true) (hg1:(c0.sub names).glob "set"=true) (hh:c0.hnd=false) (h1:al n (c0.sub names) a=some x) :
  aO g c0 call r names (.Call (.Name "len" fp) [.Call (.Name "set" fp1) [a] [] p1] [] p) (.blt .setLen [x]):=fun env A X s as fr σ σ' v Q N hA T ev hQ=>by
 refine bO ev fun us τ e1 e2=>?_
 rw [cE] at e1
 refine jz e1 fun u τ1 e3 e4=>?_
 rw [cE] at e4
 cases e4
 refine wpAny_Call_NameR (cJ T N hg rfl (G.blt "len" .len rfl) ?_)
 show wpAny _ A (callWith p (.builtin "len") [] _ []) Q X s
 refine Calls.callWith_builtin rfl (Calls.evalArgs_plain ?_)
 refine kn (p:=p) (l4 IH hg1 rfl G.set ⟨_,.inr rfl⟩ h1 N hA T e3 fun y as' h' tk st R' F' r'=>?_)
 have T':=T.step (tk:=tk) R' F'
 obtain ⟨l,is,rfl,hi,hlen,rfl,rfl⟩:=nC e2
 obtain ⟨vs,h2,h3⟩:=Option.bind_eq_some_iff.mp hi
 refine ay (s:={ s with heap:=h',toks:=tk }) R' r' h2 fun ad items m qx hd ho hr hz hsz=>?_; subst qx
 have hints:=br h3 hr
 have hl:=hints.length
 rw [Array.length_toList] at hl
 refine call_set_list (hA.none (G.hd hh)) ho.isList hints (by show _ < 4096; lia) fun h2' tk2 hS hk=>?_
 rw [hl,rd] at hS
 obtain ⟨o,es,ep,t,q1,q2,q3,q4,q5,q6,q7,q8⟩:=hS
 refine call_len_set q1 q2 q3 q7 ?_ ?_
 ·have:es.size < 4096:=q6
  have h63:(2:Int) ^ 63=9223372036854775808:=by decide +kernel
  lia
 ·rw [q8]
  have kk:∀ (b:Addr) (o:Obj),h'.get? b=some o→h2'.get? b=some o:=fun b o e=>hk b o (Heap.lt_size e) e
  exact (aU (tk:=tk) hQ st R' F').use (tk:=tk2 + 1 + 1) T' (aF.of_ext kk) (R'.ext kk) (by rw [RepV]; exact ⟨_,rfl⟩)
theorem xu {a:Expr}{x p fp p1 fp1} (G:bC g K c0 fa) (IH:bE g c0 call r n) (hg:(c0.sub names).glob "list"=true) (hg1:(c0.sub names).glob "reversed"=true) (hh:c0.hnd=false) (h1:al n (c0.sub names) a=some x) :
  aO g c0 call r names (.Call (.Name "list" fp) [.Call (.Name "reversed" fp1) [a] [] p1] [] p) (.blt .revl [x]):=fun env A X s as fr σ σ' v Q N hA T ev hQ=>by
 refine bO ev fun us τ e1 e2=>?_
 rw [cE] at e1
 refine jz e1 fun u τ1 e3 e4=>?_
 rw [cE] at e4
 cases e4
 refine wpAny_Call_NameR (cJ T N hg rfl (G.blt "list" .list rfl) ?_)
 show wpAny _ A (callWith p (.type "list") [] _ []) Q X s
 refine PySem.callWith_type rfl (Calls.evalArgs_plain ?_)
 refine kn (p:=p) (l4 IH hg1 rfl G.rev ⟨_,.inr rfl⟩ h1 N hA T e3 fun y as' h' tk st R' F' r'=>?_)
 have T':=T.step (tk:=tk) R' F'
 obtain ⟨l,xs,rfl,h2,h3⟩:=r8 e2
 refine ay (s:={ s with heap:=h',toks:=tk }) R' r' h2 fun ad items m qx hd ho hr hz hsz=>?_; subst qx
 refine call_reversed_list ho.isList ?_
 have hne:ad ≠ h'.objs.size:=Nat.ne_of_lt (Heap.lt_size ho)
 refine jA (hA.none (G.hd hh)) ⟨_,Heap.get?_push_size _ rfl,rfl,rfl⟩ (ho.isList.push _) (by rw [hsz]; exact hz) fun h2' tk2 acc c' hk hacc he=>?_
 have kk:∀ (b:Addr) (o:Obj),h'.get? b=some o→h2'.get? b=some o:=fun b o e=>hk b o (Nat.ne_of_lt (Heap.lt_size e)) (aA _ _ _ _ e)
 have hnn:h'.get? (h'.push (revObj ad ((items.size:Int) - 1))).objs.size=none:=by
  cases e:h'.get? (h'.push (revObj ad ((items.size:Int) - 1))).objs.size with
  | none=>rfl
  | some o=>have:=Heap.lt_size e; rw [Heap.size_push] at this; exact absurd (Nat.lt_of_succ_lt this) (Nat.lt_irrefl _)
 refine (aU (tk:=tk) hQ st R' F').new (tk:=tk2) (xs:=xs.reverse) (items:=acc) T' kk hnn ⟨c',hacc⟩ ?_ h3
 rw [he]
 exact ah.f2.mpr (ah.f2.mp hr).reverse
end
end Mine
namespace Mine
open PySem PyProof.Rows PySem.W
section
variable {g:Cfg}{K:Frag}{c0:CE}{fa:Nat→Option Addr}{call:Nat→List V→Sto→RE}{env:Env}{A:Around}{X:Value→Shared→Prop}{s:Shared}{as:List Addr}{fr:Fra} {σ σ':Sto}{r n:Nat}
 {names:List (Str × NameKind)}{Q:Value→Shared→Prop}{v:V}
theorem At.pushN {h':Heap}{a:Addr}{o:AO} (T:At g env as fr σ s) {as1:List Addr} {σ1:Sto} (x:aF [env.locals] as s.heap as1 h') (R':Rel g as1 σ1 h') (F':az g env as1 fr h') (hn:s.heap.get? a=none) (ha:a ∉ as1)
  (hb:g.b.get? a=none) (hL:a ≠ env.locals) (hc:∀ y c,env.cells.lookup y=some c→c ≠ a) (hi:∀ ob,h'.get? a=some ob→¬ Imm ob) (ho:oC g (as1 ++ [a]) h' o a) :
  aF [env.locals] as s.heap (as1 ++ [a]) h' ∧ Rel g (as1 ++ [a]) (σ1 ++ [o]) h' ∧ az g env (as1 ++ [a]) fr h':=by
 obtain ⟨K',R2⟩:=R'.pushAt (h':=h') (o:=o) (a:=a) (fun _ _ _ e=>e) ha hb hi (fun _=>ho)
 refine ⟨?_,R2,F'.alter (d:=a) K' (fun _ _ _ e=>e) (Ne.symm hL) hc (by intro b hb'; rcases List.mem_append.mp hb' with q | q; exact .inl q; simp at q; exact .inr q)⟩
 obtain ⟨⟨t,rfl,ht⟩,hx⟩:=x
 refine ⟨⟨t ++ [a],by simp,fun b hb'=>?_⟩,hx⟩
 rcases List.mem_append.mp hb' with q | q
 ·exact ht b q
 ·simp at q; subst q; exact hn
theorem ma {f:Str}{fp p:Pos}{k es es'}{us:List V} {τ:Sto} (G:bC g K c0 fa) (IH:bE g c0 call r n) (hg:(c0.sub names).glob f=true) (hd:(f == ("__debug__":Str))=false) (hb:c0.clss.lookup f=some k) (h1:aP (al n (c0.sub names)) es=some es')
  (N:aq (c0.sub names) env A) (hA:bU g A (r + 1)) (T:At g env as fr σ s) (e1:cE call es' fr σ=.ok us τ)
  (H:∀ (fI:Addr) (xs:List Value) (as':List Addr) (h':Heap) (tk:Nat) (dx x:Addr) (h2:Heap),fa k=some fI→aF [env.locals] as s.heap as' h'→Rel g as' τ h'→aF [env.locals] as' h' (as' ++ [dx] ++ [x]) h2→Rel g (as' ++ [dx] ++ [x]) (τ ++ [.att []] ++ [.inst τ.length]) h2→az g env (as' ++ [dx] ++ [x]) fr h2 →
   ah (as' ++ [dx] ++ [x]) h2 (.ref (τ.length + 1) :: us) (.ref x :: xs)→bU g (A.under (.builtin "type.__call__" ⟨.ref g.C :: xs,[]⟩)) r →
   codeAny (model g.prog g.w) (A.under (.builtin "type.__call__" ⟨.ref g.C :: xs,[]⟩)) (.call (.ref fI) ⟨.ref x :: xs,[]⟩) (InitBack x fun r s'=>match r with | .ok (.ret v)=>Q v s' | .ok _=>False | .error e=>X e s') { s with heap:=h2,toks:=tk }) :
  wpAny (model g.prog g.w) A (eval (.Call (.Name f fp) es [] p) env) Q X s:=by
 obtain ⟨fI,hv,hfa,hkp,hmk,hin,hfn⟩:=G.cls f k hb
 refine wpAny_Call_NameR (cJ T N hg hd hv ?_)
 refine aY IH (fu G hkp) h1 N hA T e1 fun xs as' h' tk st R' F' r'=>?_
 have T':At g env as' fr τ { s with heap:=h',toks:=tk }:=⟨F',R'⟩
 obtain ⟨m,hF,_⟩:=F'.fr R'
 refine call_cls (L:=env.locals) (h₀:=g.b) (news:=newsOf g.b env.locals h') hF G.kin (eS _ _ _) hmk hin hfn fun x dx h2 F2 N2 hlt hlt2=>?_
 obtain ⟨K1,st1,R1,F1⟩:=T'.byNews hF.ns F2 N2 (fun p hp=>.tail _ (.tail _ hp))
 have nx:=N2 _ (.head _)
 have nd:=N2 _ (.tail _ (.head _))
 have fresh:∀ b,dx ≤ b→b ≠ env.locals→g.b.get? b=none→h'.get? b=none:=fun b hb hL hg'=>by
  cases e:h'.get? b with
  | none=>rfl
  | some o=>exact absurd (Nat.lt_of_lt_of_le (hlt (b,o) (cD.mpr ⟨e,hL,hg'⟩)) hb) (Nat.lt_irrefl _)
 have fd:=fresh dx (Nat.le_refl _) nd.2.1 nd.2.2
 have fx:=fresh x (Nat.le_of_lt hlt2) nx.2.1 nx.2.2
 have notin:∀ b,h'.get? b=none→b ∉ as':=fun b hb q=>by obtain ⟨o,e,_⟩:=R'.there q; rw [hb] at e; cases e
 have cellne:∀ b,h'.get? b=none→∀ y c,env.cells.lookup y=some c→c ≠ b:=fun b hb y c hc q=>by
  subst q; obtain ⟨cv,o,e,_⟩:=(F'.offc _ _ hc).2.2; rw [hb] at e; cases e
 obtain ⟨st2,R2,F2'⟩:=T'.pushN (a:=dx) (o:=.att []) st1 R1 F1 fd (notin _ fd) nd.2.2 nd.2.1 (cellne _ fd) (fun ob e hi=>by rw [nd.1] at e; cases e; exact hi.2.1 _ _ rfl) ⟨[],0,nd.1,.nil,by simp⟩
 have hlen:as'.length=τ.length:=R'.len
 obtain ⟨st3,R3,F3⟩:=T'.pushN (a:=x) (o:=.inst τ.length) st2 R2 F2' fx (by
   intro q; rcases List.mem_append.mp q with q | q
   ·exact notin _ fx q
   ·simp at q; rw [q] at hlt2; exact Nat.lt_irrefl _ hlt2) nx.2.2 nx.2.1 (cellne _ fx) (fun ob e hi=>by rw [nx.1] at e; cases e; rcases hi.1 with q | q <;> simp at q) ⟨dx,by rw [← hlen]; simp,nx.1⟩
 have hroom:bU g (A.under (.builtin "type.__call__" ⟨.ref g.C :: xs,[]⟩)) r:=⟨by have:=hA.units; rw [units_under_make]; lia,by have:=hA.depth; rw [depth_under_make]; lia,hA.handled⟩
 have K3:cR as' h' (as' ++ [dx] ++ [x]) h2:=R'.keep st3 F'.notImm
 refine H fI xs as' h' tk dx x h2 hfa st R' st3 R3 F3 ?_ hroom
 rw [ah]
 exact ⟨_,_,rfl,by rw [RepV]; exact ⟨x,rfl,by rw [← hlen]; simp⟩,ah.keep K3 _ _ r'⟩
set_option tactic.hygienic true in
theorem Be {f:Str}{fp p:Pos}{k es es'} (G:bC g K c0 fa) (C:dW g fa call r) (IH:bE g c0 call r n) (hg:(c0.sub names).glob f=true) (hd:(f == ("__debug__":Str))=false) (hb:c0.clss.lookup f=some k) (h1:aP (al n (c0.sub names)) es=some es') :
  aO g c0 call r names (.Call (.Name f fp) es [] p) (.mk k es'):=fun env A X s as fr σ σ' v Q N hA T ev hQ=>by
 refine bO ev fun us τ e1 e2=>?_
 have e2':∃ σ2,call k (.ref (τ.length + 1) :: us) (τ ++ [.att []] ++ [.inst τ.length])=.ok .none σ2 ∧ v=.ref (τ.length + 1) ∧ σ'=σ2:=by
  rw [List.append_assoc]
  split at e2
  ·rename_i σ2 hq; cases e2; exact ⟨_,hq,rfl,rfl⟩
  ·cases e2
  ·cases e2
  ·cases e2
 obtain ⟨_,e3,rfl,rfl⟩:=e2'
 refine ma G IH hg hd hb h1 N hA T e1 fun fI xs as' h' tk dx x h2 hfa st R' st3 R3 F3 href hroom=>?_
 refine C k fI _ _ σ' .none hfa e3 _ _ (as' ++ [dx] ++ [x]) (.ref x :: xs) _ hroom R3 F3.size href fun val as4 h4 tk4 st4 R4 r4=>?_
 rw [RepV] at r4; subst r4
 refine ⟨rfl,?_⟩
 have K4:=R3.keep0 st4
 have F4:=F3.keep K4 st4 (by simp)
 have st34:=ao st3 (st4.grow (own':=[env.locals]) (by simp)) R4 F4
 rw [ah] at href
 obtain ⟨_,_,hq,href,_⟩:=href
 cases hq
 exact hQ (.ref x) as4 h4 tk4 (ao st st34 R4 F4) R4 F4 (RepV.keep K4 _ _ href)
theorem i0 {o:Expr}{x:Str}{apos pos:Pos}{args:List Expr}{args':List E}{c:CE} (e1:attributeBase o x env (eval o env)=eval o env) (hl:args.length ≤ 8) (hp:(apos.endLine == pos.line)=true) (h1:aP (al n c) args=some args') :
  eval (.Call (.Attribute o x apos) args [] pos) env=(do
   let ov ← eval o env
   standAt apos.atName
   let (f,first) ← holding [ov] (getMethod ov x (do return (← importBound o env).getD true))
   callWith pos f first (backTo pos (starEach args env)) []):=by
 have e2:methodCallForm (args.length + ([]:List Keyword).length) (backTo pos (starEach args env)) (backToKw pos (keywordEach [] env))=true:=by
  show methodCallForm (args.length + 0) (backTo pos (starEach args env)) []=true
  unfold methodCallForm
  have:=qm (env:=env) (pos:=pos) h1
  have ha:(backTo pos (starEach args env)).all (fun x=>!x.1)=true:=by
   rw [List.all_eq_true]; intro y hy
   rw [List.any_eq_false] at this
   simpa using this y hy
  rw [ha]
  have:args.length + 0 + 0 < 30:=by lia
  show (true && true && decide (args.length + 0 + 0 < 30))=true
  rw [decide_eq_true this]; rfl
 show (attributeBase o x env (eval o env) >>= fun ov=>standAt apos.atName >>= fun _=>methodCall o x apos pos env ov (args.length + ([]:List Keyword).length) (backTo pos (starEach args env)) (backToKw pos (keywordEach [] env)))=_
 rw [e1]
 unfold methodCall
 rw [e2]
 unfold methodCallPos calleeOf
 rw [hp]
 rfl
theorem yM {o:Expr}{x:Str}{apos p:Pos}{a es es' m} (IH:bE g c0 call r n) (hb:dZ o=true) (hl:es.length ≤ 8) (hp:(apos.endLine == p.line)=true)
  (h0:al n (c0.sub names) o=some a) (h1:aP (al n (c0.sub names)) es=some es') (hml:dM.lookup x=some m) :
  aO g c0 call r names (.Call (.Attribute o x apos) es [] p) (.meth a m es'):=fun env A X s as fr σ σ' v Q N hA T ev hQ=>by
 refine MethodCall_ (pl:=do return (← importBound o env).getD true) ?_ (i0 (i9 hb) hl hp h1)
 refine aD ev fun u τ e1 e2=>?_
 obtain ⟨l,xs,rfl,hx,e2⟩:=jF e2
 refine bO e2 fun us τ' e3 e4=>?_
 obtain ⟨l',xs',hll,hx',e5⟩:=jF e4
 cases hll
 refine IH names o a h0 env A X s as fr σ τ _ _ N hA T e1 fun val as' h' tk st R' F' r'=>?_
 have T':At g env as' fr τ { s with heap:=h',toks:=tk }:=⟨F',R'⟩
 obtain ⟨hslot,hty⟩:=p8 hml
 cases ib R' r' hx with
 | mk ad items mm hd ho hr hz hsz =>
  refine getMethod_list_of hslot hty ho.isList ⟨_,ho,rfl⟩ ?_
  refine aY IH (fun h _=>eQ _ h) h1 N hA T' e3 fun xs as2 h2 tk2 st2 R2 F2' r2=>?_
  have T2:At g env as2 fr τ' { s with heap:=h2,toks:=tk2 }:=⟨F2',R2⟩
  exact yC (iQ (P:=mOk) (l:=dM) rfl hml) T2 (ib R2 (RepV.keep (T'.keep st2) _ _ r') hx') r2 e5 (aU (s:=s) (tk:=tk2) hQ (ao st st2 R2 F2') R2 F2')
theorem pF {xs:List V}{v:V} (e:vv xs σ=.ok v σ'):∃ x,xs=[.str x] ∧ v=.str x ∧ σ'=σ:=by
 rcases xs with _ | ⟨a,_ | ⟨b,xs⟩⟩
 ·exact aw e
 ·cases a <;> first | exact aw e | skip
  obtain ⟨rfl,rfl⟩:=bx e
  exact ⟨_,rfl,rfl,rfl⟩
 ·cases a <;> exact aw e
theorem w5 {sp:Str}{k:Nat}{p1 apos p:Pos}{e:Expr}{a:E} (IH:bE g c0 call r n) (hp:(apos.endLine == p.line)=true) (h1:al n (c0.sub names) e=some a) :
  aO g c0 call r names (.Call (.Attribute (.Constant (.str sp) k p1) "join" apos) [e] [] p) (.join sp a):=fun env A X s as fr σ σ' v Q N hA T ev hQ=>by
 refine aD ev fun u τ e1 e2=>?_
 obtain ⟨l,xs,rfl,hx,e2⟩:=jF e2
 obtain ⟨x,rfl,rfl,rfl⟩:=pF e2
 have hm:aP (al n (c0.sub names)) [e]=some [a]:=by rw [kc,h1]; rfl
 have hes:cE call [a] fr σ=.ok [.ref l] σ':=by show (evE call a fr σ).binds _=_; rw [e1]; rfl
 refine MethodCall_ (pl:=do return (← importBound (.Constant (.str sp) k p1) env).getD true) ?_ (i0 rfl (by decide:1 ≤ 8) hp hm)
 refine wpAny_Constant_str (GM.join ?_)
 refine aY (s:={ s with toks:=s.toks + 1 }) (first:=[.str sp s.toks]) IH (fun h _=>eQ _ h) hm N hA ⟨T.F,T.R⟩ hes fun ys as' h' tk st R' F' r'=>?_
 rw [ah] at r'
 obtain ⟨y,ys,rfl,r1,r2⟩:=r'
 rw [ah] at r2; subst r2
 cases ib R' r1 hx with
 | mk ad items mm hd ho hr hz hsz =>
  rw [ah] at hr
  obtain ⟨z,zs,hi,r3,r4⟩:=hr
  rw [ah] at r4; subst r4
  rw [RepV] at r3
  obtain ⟨t,rfl⟩:=r3
  have hi':items=#[.str x t]:=by apply Array.ext'; simpa using hi
  subst hi'
  refine wpAny_call_entry F.slot_str_join (typeIs_str _ _ _) F.entry_str_join ?_ (F.args_str_join_2 _ _)
  obtain ⟨other,hj⟩:=join_tree sp s.toks ad
  show wpAny _ _ (Builtin.«str.join» ⟨[.str sp s.toks,.ref ad],[]⟩) _ _ _
  rw [hj]
  refine wpAny_bind (wpAny_typeOf (show ({ s with heap:=h',toks:=tk }:Shared).TypeIs (.ref ad) "list" from ⟨_,ho,rfl⟩) ?_)
  rw [if_pos (by decide)]
  refine wpAny_bind (wpAny_seqItems ho rfl ?_)
  show wpAny _ _ (do rule "str.join.same-object"; ret (Value.str x t)) _ _ _
  refine wpAny_bind (wpAny_rule (wpAny_pure ?_))
  exact ⟨_,rfl,hQ (.str x t) as' h' tk st R' F' (by rw [RepV]; exact ⟨t,rfl⟩)⟩
theorem vf {o:Expr}{x:Str}{apos p:Pos}{a es es' f} (G:bC g K c0 fa) (C:dW g fa call r) (IH:bE g c0 call r n) (hb:dZ o=true) (hl:es.length ≤ 8) (hp:(apos.endLine == p.line)=true)
  (h0:al n (c0.sub names) o=some a) (h1:aP (al n (c0.sub names)) es=some es') (hf:c0.mths.lookup x=some f) :
  aO g c0 call r names (.Call (.Attribute o x apos) es [] p) (.umeth a f es'):=fun env A X s as fr σ σ' v Q N hA T ev hQ=>by
 refine MethodCall_ (pl:=do return (← importBound o env).getD true) ?_ (i0 (i9 hb) hl hp h1)
 refine aD ev fun u τ e1 e2=>?_
 obtain ⟨l,d,ents,rfl,hd,he,e2⟩:=rb e2
 refine bO e2 fun us τ' e3 e4=>?_
 refine IH names o a h0 env A X s as fr σ τ _ _ N hA T e1 fun val as' h' tk st R' F' r'=>?_
 have T':At g env as' fr τ { s with heap:=h',toks:=tk }:=⟨F',R'⟩
 obtain ⟨fad,hfa,hpg,hfi,hfn,hkp,hna⟩:=G.mth x f hf
 refine dh (s:={ s with heap:=h',toks:=tk }) R' r' hd fun ad dx qx2 h2 h3 h4=>?_; subst qx2
 obtain ⟨es0,nn,h5,h6,_⟩:=jK (s:={ s with heap:=h',toks:=tk }) R' h3 he
 obtain ⟨m,hF,_⟩:=F'.fr R'
 refine method_inst (L:=env.locals) (h₀:=g.b) (m:=m) (es:=es0) (n:=nn) (ox:=instObj g.C dx) hF G.kin ⟨h4,rfl,rfl,h5⟩ hpg hfi hfn (kN hna h6) ?_
 refine aY (first:=[.ref ad]) IH (fu G hkp) h1 N hA T' e3 fun xs as2 h2' tk2 st2 R2 F2' r2=>?_
 have r3:=RepV.keep (T'.keep st2) _ _ r'
 refine wpAny_call (C f fad _ τ' σ' v hfa e4 A _ as2 (.ref ad :: xs) _ (hA.less (k:=1)) R2 F2'.size (by rw [ah]; exact ⟨_,_,rfl,r3,r2⟩) fun val as3 h3' tk3 st3 R3 r4=>?_)
 exact iJ (s:=s) (tk:=tk2) (tk2:=tk3) hQ (ao st st2 R2 F2') R2 F2' st3 R3 r4
end
end Mine
namespace Mine
open PySem PyProof.Rows PySem.W
noncomputable def mW (src:Src) (I:Addr) (i:Nat) (as:List Addr) (h:Heap):Prop:=match src with
 | .live l=>∃ a,as[l]?=some a ∧ h.IsListIter I a i
 | .tup vs=>∃ a items n,h.get? a=some { cls:=.type "tuple",data:=.seq items n } ∧ ah as h vs items.toList ∧ h.IsTupleIter I a i
 | .rng lo hi=>IsRangeIter h I (lo + (i:Int) * 1) (((hi - lo).toNat:Int) - (i:Nat)) 1
 | .enum _=>False
theorem mW.there {src:Src}{I:Addr}{i:Nat}{as:List Addr}{h:Heap} (it:mW src I i as h):∃ o,h.get? I=some o ∧ ¬ Imm o:=by
 cases src with
 | live l =>
  obtain ⟨a,_,o,e,hc,_⟩:=it
  exact ⟨o,e,fun q=>by rcases q.1 with q | q <;> rw [hc] at q <;> simp at q⟩
 | tup vs =>
  obtain ⟨a,_,_,_,_,o,e,hc,_⟩:=it
  exact ⟨o,e,fun q=>by rcases q.1 with q | q <;> rw [hc] at q <;> simp at q⟩
 | rng lo hi=>exact ⟨_,it,fun q=>by rcases q.1 with q | q <;> simp at q⟩
 | enum l=>exact it.elim
theorem mW.keep {src:Src}{I:Addr}{i:Nat}{as as':List Addr}{h h':Heap} (it:mW src I i as h) (K:cR as h as' h') (hI:∀ o,h.get? I=some o→h'.get? I=some o):mW src I i as' h':=by
 cases src with
 | live l =>
  obtain ⟨a,e1,o,e2,e3⟩:=it
  exact ⟨a,K.pre _ _ e1,o,hI _ e2,e3⟩
 | tup vs =>
  obtain ⟨a,items,n,e1,e2,o,e3,e4⟩:=it
  exact ⟨a,items,n,K.imm _ _ e1 gw,ah.keep K _ _ e2,o,hI _ e3,e4⟩
 | rng lo hi=>exact hI _ it
 | enum l=>exact it.elim
theorem Rel.other {g:Cfg}{as:List Addr} {σ:Sto}{h h':Heap}{I:Addr} (R:Rel g as σ h) (k:∀ (b:Addr) (o:Obj),b ≠ I→h.get? b=some o→h'.get? b=some o) (hI:I ∉ as) (hb:g.b.get? I=none) (hi:∀ o,h.get? I=some o→¬ Imm o) :
  cR as h as h' ∧ Rel g as σ h':=by
 have K:cR as h as h':=⟨fun _ _ e=>e,fun b o e im=>k b o (fun q=>by subst q; exact hi o e im) e⟩
 exact ⟨K,⟨fun b o e=>k b o (fun q=>by subst q; rw [hb] at e; cases e) (R.base b o e),R.len,R.nd,R.new,fun i b o h1 h2=>(R.obj i b o h1 h2).keep K fun ob e=>k b ob (fun q=>hI (q ▸ List.mem_of_getElem? h1)) e,R.hnd.keep K⟩⟩
section
variable {g:Cfg}{env:Env}{A:Around}{X:Value→Shared→Prop}{s:Shared}{as:List Addr}{fr:Fra} {σ σ':Sto}
theorem pL {src:Src}{I:Addr}{i:Nat}{v:V}{Q:Option Value→Shared→Prop} (R:Rel g as σ s.heap) (it:mW src I i as s.heap) (hI:I ∉ as) (hb:g.b.get? I=none) (e:a8 σ i src=some (some v))
  (hQ:∀ val h' tk,(∀ (b:Addr) (o:Obj),b ≠ I→s.heap.get? b=some o→h'.get? b=some o)→cR as s.heap as h'→Rel g as σ h'→mW src I (i + 1) as h'→RepV as h' v val→Q (some val) { s with heap:=h',toks:=tk }) :
  wpAny (model g.prog g.w) A (pyNext (.ref I)) Q X s:=by
 have hth:=it.there
 have hni:∀ o,s.heap.get? I=some o→¬ Imm o:=fun o e=>by obtain ⟨o',e',n⟩:=hth; rw [e] at e'; cases e'; exact n
 cases src with
 | live l =>
  obtain ⟨a,e1,e2⟩:=it
  obtain ⟨xs,e3,e4⟩:=Option.map_eq_some_iff.mp e
  have r0:RepV as s.heap (.ref l) (.ref a):=by rw [RepV]; exact ⟨a,rfl,e1⟩
  refine ay R r0 e3 fun a' items n q hd ho hr hz hsz=>?_
  cases q
  obtain ⟨val,h1,h2⟩:=(ah.f2.mp hr).get e4
  refine wpAny_pyNext_list_item e2 ho.isList (by simpa using h1) fun h' hit hs=>?_
  have k:∀ (b:Addr) (o:Obj),b ≠ I→s.heap.get? b=some o→h'.get? b=some o:=fun b o hb e=>by rw [hs.2 b hb]; exact e
  obtain ⟨K,R'⟩:=R.other k hI hb hni
  exact hQ val h' s.toks k K R' ⟨a,e1,hit⟩ (RepV.keep K _ _ h2)
 | tup vs =>
  obtain ⟨a,items,n,e1,e2,e3⟩:=it
  simp only [a8,Option.some.injEq] at e
  obtain ⟨val,h1,h2⟩:=(ah.f2.mp e2).get e
  refine wpAny_pyNext_tuple_item e3 ⟨_,e1,rfl,n,rfl⟩ (by simpa using h1) fun h' hit hs=>?_
  have k:∀ (b:Addr) (o:Obj),b ≠ I→s.heap.get? b=some o→h'.get? b=some o:=fun b o hb e=>by rw [hs.2 b hb]; exact e
  obtain ⟨K,R'⟩:=R.other k hI hb hni
  exact hQ val h' s.toks k K R' ⟨a,items,n,K.imm _ _ e1 gw,ah.keep K _ _ e2,hit⟩ (RepV.keep K _ _ h2)
 | rng lo hi =>
  simp only [a8,Option.some.injEq,iw] at e
  have hlt:i < (hi - lo).toNat:=by
   have:=(List.getElem?_eq_some_iff.mp e).1; simpa using this
  have hv:v=.int (lo + (i:Int)):=by
   rw [List.getElem?_map,List.getElem?_range hlt] at e
   simpa using e.symm
  subst hv
  refine wpAny_pyNext_range_item it (by lia) fun h' hit hs=>?_
  have k:∀ (b:Addr) (o:Obj),b ≠ I→s.heap.get? b=some o→h'.get? b=some o:=fun b o hb e=>by rw [hs.2 b hb]; exact e
  obtain ⟨K,R'⟩:=R.other k hI hb hni
  have e1:lo + (i:Int) * 1 + 1=lo + ((i + 1:Nat):Int) * 1:=by lia
  have e2:((hi - lo).toNat:Int) - (i:Nat) - 1=((hi - lo).toNat:Int) - ((i + 1:Nat):Int):=by lia
  rw [e1,e2] at hit
  exact hQ _ h' _ k K R' hit (by rw [RepV]; exact ⟨_,by rw [Int.mul_one]⟩)
 | enum l=>exact it.elim
theorem qQ {src:Src}{I:Addr}{i:Nat}{Q:Option Value→Shared→Prop} (hA:A.handled=g.hd.map .ref) (R:Rel g as σ s.heap) (it:mW src I i as s.heap) (hI:I ∉ as) (hb:g.b.get? I=none) (hsm:∀ lo hi,src=.rng lo hi→i ≤ (hi - lo).toNat)
  (hst':∀ vs,src=.tup vs→i ≤ vs.length) (e:a8 σ i src=some none)
  (hQ:∀ h' tk,(∀ (b:Addr) (o:Obj),b ≠ I→s.heap.get? b=some o→h'.get? b=some o)→cR as s.heap as h'→Rel g as σ h'→Q none { s with heap:=h',toks:=tk }) :
  wpAny (model g.prog g.w) A (pyNext (.ref I)) Q X s:=by
 have hth:=it.there
 have hni:∀ o,s.heap.get? I=some o→¬ Imm o:=fun o e=>by obtain ⟨o',e',n⟩:=hth; rw [e] at e'; cases e'; exact n
 have fin:∀ h' tk,(∀ (b:Addr) (o:Obj),b ≠ I→s.heap.get? b=some o→h'.get? b=some o)→Q none { s with heap:=h',toks:=tk }:=fun h' tk k=>by
  obtain ⟨K,R'⟩:=R.other k hI hb hni
  exact hQ h' tk k K R'
 cases src with
 | live l =>
  obtain ⟨a,e1,e2⟩:=it
  obtain ⟨xs,e3,e4⟩:=Option.map_eq_some_iff.mp e
  have r0:RepV as s.heap (.ref l) (.ref a):=by rw [RepV]; exact ⟨a,rfl,e1⟩
  refine ay R r0 e3 fun a' items n q hd ho hr hz hsz=>?_
  cases q
  refine ti (jw hA R) e2 ho.isList ?_ fun h' hs=>fin h' s.toks hs
  rw [Array.getElem?_eq_none_iff,hsz]
  exact List.getElem?_eq_none_iff.mp e4
 | tup vs =>
  obtain ⟨a,items,n,e1,e2,e3⟩:=it
  simp only [a8,Option.some.injEq] at e
  have h3:vs.length=items.size:=(ah.f2.mp e2).length
  refine kP (jw hA R) e3 ⟨_,e1,rfl,n,rfl⟩ ?_ fun h' hs=>fin h' s.toks hs
  rw [Array.getElem?_eq_none_iff,← h3]
  exact List.getElem?_eq_none_iff.mp e
 | rng lo hi =>
  simp only [a8,Option.some.injEq,iw] at e
  have h1:=List.getElem?_eq_none_iff.mp e
  rw [List.length_map,List.length_range] at h1
  have h2:=hsm lo hi rfl
  have:i=(hi - lo).toNat:=by lia
  subst this
  exact oO (jw hA R) it (by lia) fun h' hs=>fin h' s.toks hs
 | enum l=>exact it.elim
theorem lJ {v:V}{x:Value}{src:Src}{Q:Value→Shared→Prop} (T:At g env as fr σ s) (r:RepV as s.heap v x) (hs:gK v=some src) (hl:∀ l,src=.live l→∃ xs,getL σ l=some xs)
  (hQ:∀ o,At g env as fr σ { s with heap:=s.heap.push o }→mW src s.heap.objs.size 0 as (s.heap.push o)→Q (.ref s.heap.objs.size) { s with heap:=s.heap.push o }):wpAny (model g.prog g.w) A (pyIter x) Q X s:=by
 cases v with
 | ref l =>
  cases hs
  obtain ⟨xs,e⟩:=hl l rfl
  refine ay T.R r e fun a items n qx hd ho hr hz hsz=>?_; subst qx
  exact wpAny_pyIter_list ho.isList (hQ _ (T.push _) ⟨a,hd,⟨_,Heap.get?_push_size _ rfl,rfl,rfl⟩⟩)
 | tup vs =>
  cases hs
  have r':=r
  rw [RepV] at r
  obtain ⟨a,items,n,rfl,ho,hz,hr⟩:=r
  refine wpAny_pyIter_tuple ⟨_,ho,rfl,n,rfl⟩ (hQ _ (T.push _) ⟨a,items,n,aA _ _ _ _ ho,ah.keep (T.R.keep0 (bD as s.heap _ [])) _ _ hr,⟨_,Heap.get?_push_size _ rfl,rfl,rfl⟩⟩)
 | rng lo hi =>
  cases hs
  rw [RepV] at r
  obtain ⟨a,t,u,v,rfl,ho,hb⟩:=r
  obtain ⟨h1,h2⟩:=jm hb
  refine wpAny_pyIter_range ho h2 (hQ _ (T.push _) ?_)
  show IsRangeIter _ _ (lo + ((0:Nat):Int) * 1) (((hi - lo).toNat:Int) - ((0:Nat):Int)) 1
  rw [h1]
  have e1:lo + ((0:Nat):Int) * 1=lo:=by simp
  have e2:(((hi - lo).toNat:Int) - ((0:Nat):Int))=((hi - lo).toNat:Int):=by simp
  rw [e1,e2]
  exact Heap.get?_push_size _ rfl
 | _=>cases hs
end
end Mine
namespace Mine
open PySem PyProof.Rows PySem.W
set_option tactic.hygienic true in
theorem gf {c:CE}{x:Str}{i:Nat} (e:c.locW? x=some i):∃ k,c.names[i]?=some (x,k) ∧ (k=.local ∨ k=.cell):=by
 unfold CE.locW? at e
 split at e
 ·rename_i h; obtain ⟨j,h1,h2⟩:=bq h; rw [h1] at e; cases e; exact ⟨_,h2,.inl rfl⟩
 ·rename_i h; obtain ⟨j,h1,h2⟩:=bq h; rw [h1] at e; cases e; exact ⟨_,h2,.inr rfl⟩
 ·cases e
theorem gO {l:List (Str × NameKind)} (nd:(l.map (·.1)).Nodup) {i j:Nat}{x:Str}{k k':NameKind} (e:l[i]?=some (x,k)) (e':l[j]?=some (x,k')):i=j:=by
 obtain ⟨h1,h2⟩:=List.getElem?_eq_some_iff.mp e
 obtain ⟨h3,h4⟩:=List.getElem?_eq_some_iff.mp e'
 have e1:(l.map (·.1))[i]'(by simpa using h1)=x:=by simp [h2]
 have e2:(l.map (·.1))[j]'(by simpa using h3)=x:=by simp [h4]
 exact (List.getElem_inj nd).mp (e1.trans e2.symm)
section
variable {g:Cfg}{env:Env}{A:Around}{X:Value→Shared→Prop}{s:Shared}{as:List Addr}{fr:Fra} {σ σ':Sto}{c:CE}{own:List Addr}
noncomputable def yn (c:CE) (env:Env) (own:List Addr):Prop:=env.locals ∈ own ∧ (∀ (i:Nat) (x:Str),c.names[i]?=some (x,.cell)→∀ a,env.cells.lookup x=some a→a ∈ own) ∧ ∀ a ∈ own,a ∈ ownOf env
theorem dJ (c:CE) (env:Env):yn c env (ownOf env):=⟨.head _,fun _ _ _ _ e=>iq e,fun _ h=>h⟩
theorem tw {c:CE}{env:Env} (h:∀ x ∈ c.names,x.2 ≠ .cell):yn c env [env.locals]:=⟨.head _,fun i x e=>absurd rfl (h (x,.cell) (List.mem_of_getElem? e)),fun a ha=>by simp at ha; subst ha; exact .head _⟩
noncomputable def iC (g:Cfg) (env:Env) (own:List Addr) (as:List Addr) (σ:Sto) (s:Shared) (fr:Fra) (Q:Unit→Shared→Prop):Prop :=
 ∀ (as':List Addr) (h':Heap) (tk:Nat),aF own as s.heap as' h'→cR as s.heap as' h'→Rel g as' σ h'→az g env as' fr h'→Q () { s with heap:=h',toks:=tk }
theorem ic {x:Str}{i:Nat}{v:V}{val:Value}{Q:Unit→Shared→Prop} (T:At g env as fr σ s) (N:aq c env A) (O:yn c env own) (hl:c.locW? x=some i) (r:RepV as s.heap v val)
  (hQ:iC g env own as σ s (fr.set i (some v)) Q):wpAny (model g.prog g.w) A (storeName env x val) Q X s:=by
 obtain ⟨k,h1,h2⟩:=gf hl
 obtain ⟨k',h3,h4⟩:=N.get h1
 have hk:k'=k:=by
  rcases h4 with h4 | h4
  ·exact h4.symm
  ·rcases h2 with q | q <;> rw [q] at h4 <;> cases h4.1
 subst hk
 have hx:env.kindOf x=some k':=ba T.F.nd h3
 have hi:i < fr.length:=by rw [T.F.len]; exact (List.getElem?_eq_some_iff.mp h3).1
 rcases h2 with rfl | rfl
 ·obtain ⟨m,hm,hv⟩:=T.F.ns
  refine wpAny_storeName_local hx hm (fun h' hns hs=>?_) (hp:=by rw [T.F.kind]; rfl)
  have k:∀ (b:Addr) (o:Obj),b ≠ env.locals→s.heap.get? b=some o→h'.get? b=some o:=fun b o hb e=>by rw [hs.2 b hb]; exact e
  have x0:aF [env.locals] as s.heap as h':=⟨⟨[],by simp,by simp⟩,fun b o e hb _=>k b o (by simpa using hb) e⟩
  have K:=T.R.keep x0 T.F.notImm
  have hLb:g.b.get? env.locals=none:=by
   cases e:g.b.get? env.locals with
   | none=>rfl
   | some o=>exact absurd (Heap.lt_size e) (Nat.not_lt.mpr T.F.above)
  obtain ⟨_,R'⟩:=T.R.other k T.F.off hLb (fun o e=>T.F.notImm _ (.head _) o e)
  refine hQ as h' _ (x0.grow (by intro a ha; simp at ha; subst ha; exact O.1)) K R' ?_
  refine ⟨T.F.kind,T.F.above,T.F.glob,T.F.blt,by rw [List.length_set]; exact T.F.len,T.F.nd,⟨_,hns,fun j y w e1 e2=>?_⟩,fun j y kk e1 e2=>?_,T.F.off,fun y c' hc'=>⟨(T.F.offc _ _ hc').1,(T.F.offc _ _ hc').2.1,?_⟩,T.F.apart,T.F.newc⟩
  ·by_cases hy:y=x
   ·subst hy
    have:=gO T.F.nd h3 e1; subst this
    rw [List.getElem?_set_self hi] at e2
    simp only [Option.some.injEq] at e2; subst e2
    exact ⟨val,by simp,RepV.keep K _ _ r⟩
   ·have hij:i ≠ j:=fun q=>by subst q; rw [h3] at e1; cases e1; exact hy rfl
    rw [List.getElem?_set_ne hij] at e2
    obtain ⟨val',q1,q2⟩:=hv j y w e1 e2
    exact ⟨val',by simp [hy,q1],RepV.keep K _ _ q2⟩
  ·obtain ⟨cc,cv,q1,⟨o,q2,q2'⟩,q3⟩:=T.F.cells j y kk e1 e2
   have hij:i ≠ j:=fun q=>by subst q; rw [h3] at e1; cases e1; rcases e2 with e2 | e2 <;> cases e2
   refine ⟨cc,cv,q1,⟨o,k _ _ (T.F.offc _ _ q1).2.1 q2,q2'⟩,fun w e=>?_⟩
   rw [List.getElem?_set_ne hij] at e
   obtain ⟨val',q4,q5⟩:=q3 w e
   exact ⟨val',q4,RepV.keep K _ _ q5⟩
  ·obtain ⟨cv,o,e,e'⟩:=(T.F.offc _ _ hc').2.2
   exact ⟨cv,o,k _ _ (T.F.offc _ _ hc').2.1 e,e'⟩
 ·obtain ⟨cc,cv,q1,q2,q3⟩:=T.F.cells i x _ h3 (.inl rfl)
  refine wpAny_storeName_cell T.F.kind hx q1 q2 fun h' hc' hs=>?_
  have k:∀ (b:Addr) (o:Obj),b ≠ cc→s.heap.get? b=some o→h'.get? b=some o:=fun b o hb e=>by rw [hs.2 b hb]; exact e
  have hni:∀ o,s.heap.get? cc=some o→¬ Imm o:=fun o e hi=>by
   obtain ⟨o',e',hd⟩:=q2
   rw [e] at e'; cases e'
   exact hi.2.2 _ hd
  have hoff:=T.F.offc _ _ q1
  have hcb:g.b.get? cc=none:=T.F.newc _ _ q1
  obtain ⟨K,R'⟩:=T.R.other k hoff.1 hcb hni
  have hmem:cc ∈ own:=O.2.1 _ _ h1 _ q1
  refine hQ as h' s.toks ⟨⟨[],by simp,by simp⟩,fun b o e hb _=>k b o (fun q=>hb (q ▸ hmem)) e⟩ K R' ?_
  obtain ⟨m,hm,hv⟩:=T.F.ns
  refine ⟨T.F.kind,T.F.above,T.F.glob,T.F.blt,by rw [List.length_set]; exact T.F.len,T.F.nd,⟨m,hm.at' fun o e=>k _ o (Ne.symm hoff.2.1) e,fun j y w e1 e2=>?_⟩,fun j y kk e1 e2=>?_,T.F.off,fun y c' hc'=>⟨(T.F.offc _ _ hc').1,(T.F.offc _ _ hc').2.1,?_⟩,T.F.apart,T.F.newc⟩
  ·have hij:i ≠ j:=fun q=>by subst q; rw [h3] at e1; cases e1
   rw [List.getElem?_set_ne hij] at e2
   obtain ⟨val',p1,p2⟩:=hv j y w e1 e2
   exact ⟨val',p1,RepV.keep K _ _ p2⟩
  ·by_cases hy:y=x
   ·subst hy
    have:=gO T.F.nd h3 e1; subst this
    refine ⟨cc,some val,q1,hc',fun w e=>?_⟩
    rw [List.getElem?_set_self hi] at e
    simp only [Option.some.injEq] at e; subst e
    exact ⟨val,rfl,RepV.keep K _ _ r⟩
   ·have hij:i ≠ j:=fun q=>by subst q; rw [h3] at e1; cases e1; exact hy rfl
    obtain ⟨c2,cv2,p1,⟨o,p2,p2'⟩,p3⟩:=T.F.cells j y kk e1 e2
    have hcc:c2 ≠ cc:=fun q=>by subst q; exact hy (T.F.apart _ _ _ p1 q1)
    refine ⟨c2,cv2,p1,⟨o,k _ _ hcc p2,p2'⟩,fun w e=>?_⟩
    rw [List.getElem?_set_ne hij] at e
    obtain ⟨val',p4,p5⟩:=p3 w e
    exact ⟨val',p4,RepV.keep K _ _ p5⟩
  ·obtain ⟨cv2,o,e,e'⟩:=(T.F.offc _ _ hc').2.2
   by_cases hcc:c'=cc
   ·subst hcc; exact ⟨_,hc'⟩
   ·exact ⟨cv2,o,k _ _ hcc e,e'⟩
theorem iC.of {fr':Fra} {σ1:Sto}{as':List Addr}{h':Heap}{tk:Nat}{Q:Unit→Shared→Prop} (O:∀ a ∈ own,a ∈ ownOf env) (hQ:iC g env own as σ' s fr' Q) (x:aF own as s.heap as' h') (K:cR as s.heap as' h') :
  iC g env own as' σ' { s with heap:=h',toks:=tk } fr' Q:=fun as2 h2 tk2 x2 K2 R2 F2' =>
 hQ as2 h2 tk2 (x.trans x2 R2.nd fun a ha=>F2'.offs a (O a ha)) ⟨fun i a e=>K2.pre _ _ (K.pre _ _ e),fun a o e hi=>K2.imm _ _ (K.imm _ _ e hi) hi⟩ R2 F2'
theorem n8 {elts:List Expr}{is:List Nat} (h:bM c elts=some is):(assignEach elts env).length=is.length ∧ (assignEach elts env).findIdx? (·.1)=none:=by
 induction elts generalizing is with
 | nil=>rw [bM] at h; cases h; exact ⟨rfl,rfl⟩
 | cons e r ih =>
  refine b9 (show gh List.cons ((d7 e).bind c.locW?) (bM c r)=some is from h) fun i js h1 h2 qx4=>?_; subst qx4
  refine bT h1 fun x h3 h4=>?_
  obtain ⟨p,rfl⟩:=b7 h3
  obtain ⟨a,b⟩:=ih h2
  refine ⟨congrArg Nat.succ a,?_⟩
  show List.findIdx? _ ((false,assign (.Name x p) env) :: assignEach r env)=none
  rw [List.findIdx?_cons,b]; rfl
theorem ky (N:aq c env A) (O:yn c env own) {Q:Unit→Shared→Prop}:∀ (elts:List Expr) (is:List Nat) (vs:List V) (vals:List Value) (s:Shared) (fr:Fra) (as:List Addr),bM c elts=some is→At g env as fr σ s→ah as s.heap vs vals→vs.length=is.length →
  iC g env own as σ s ((is.zip vs).foldl (fun f p=>f.set p.1 (some p.2)) fr) Q→wpAny (model g.prog g.w) A (assignInOrder ((assignEach elts env).map (·.2)) vals) Q X s
 | [],is,vs,vals,s,fr,as,h,T,r,hl,hQ=>by
  rw [bM] at h; cases h
  cases vs with
  | nil =>
   rw [ah] at r; subst r
   exact wpAny_pure (hQ as s.heap s.toks (aF.refl _ _ _) ⟨fun _ _ e=>e,fun _ _ e _=>e⟩ T.R T.F)
  | cons a b=>simp at hl
 | e :: elts,is,vs,vals,s,fr,as,h,T,r,hl,hQ=>by
  refine b9 (show gh List.cons ((d7 e).bind c.locW?) (bM c elts)=some is from h) fun i js h1' h2 qx4=>?_; subst qx4
  refine bT h1' fun x h3 h1=>?_
  obtain ⟨p,rfl⟩:=b7 h3
  cases vs with
  | nil=>exact nomatch hl
  | cons v vs =>
   rw [ah] at r
   obtain ⟨y,ys,rfl,r1,r2⟩:=r
   show wpAny _ A (do holding ys (assign (.Name x p) env y); assignInOrder ((assignEach elts env).map (·.2)) ys) Q X s
   refine wpAny_bind (wpAny_holding (wpAny_assign_Name (ic T N O h1 r1 fun as' h' tk st K R' F'=>?_)))
   exact ky N O elts js vs ys _ _ as' h2 ⟨F',R'⟩ (ah.keep K _ _ r2) (Nat.succ.inj hl) (iC.of (σ1:=σ) O.2.2 hQ st K)
set_option tactic.hygienic true in
theorem gi {target:Expr}{tg:List Nat}{one:Bool}{v:V}{val:Value}{fr':Fra}{Q:Unit→Shared→Prop} (hA:A.handled=g.hd.map .ref) (T:At g env as fr σ s) (N:aq c env A) (O:yn c env own) (ht:tgt c target=some (tg,one)) (r:RepV as s.heap v val)
  (e:bw tg one v fr=some fr') (hQ:iC g env own as σ s fr' Q):wpAny (model g.prog g.w) A (assign target env val) Q X s:=by
 unfold tgt at ht
 cases hn:d7 target with
 | some x =>
  rw [hn] at ht
  refine bZ ht fun i h1 h2=>?_
  obtain ⟨p,rfl⟩:=b7 hn
  cases h2
  have e':(if i < fr.length then some (fr.set i (some v)) else none)=some fr':=e
  split at e'
  ·cases e'
   exact wpAny_assign_Name (ic T N O h1 r hQ)
  ·exact nn e'
 | none =>
  rw [hn] at ht
  cases hv:vw target <;> rw [hv] at ht <;> first | exact nn ht | skip
  rename_i ts
  refine bZ ht fun is h1 h2=>?_
  obtain ⟨kk,tp,rfl⟩:=bI hv
  cases h2
  cases v <;> first | exact nn e | skip
  rename_i vs
  have e':(if vs.length=tg.length ∧ tg.all (· < fr.length) then some ((tg.zip vs).foldl (fun f p=>f.set p.1 (some p.2)) fr) else none)=some fr':=e
  split at e'
  ·rename_i hc
   cases e'
   rw [RepV] at r
   obtain ⟨a,items,n,rfl,ho,hz,hr⟩:=r
   obtain ⟨q1,q2⟩:=n8 (env:=env) h1
   have hl:=(ah.f2.mp hr).length
   refine j6 (jw hA T.R) ⟨_,ho,rfl,n,rfl⟩ (by rw [q1,← hc.1]; exact hl) q2 fun h' k=>?_
   have x0:aF [] as s.heap as h':=aF.of_ext k
   have K:=T.R.keep0 x0
   exact ky N O _ _ vs items.toList { s with heap:=h' } fr as h1 ⟨T.frame x0,T.R.ext k⟩ (ah.keep K _ _ hr) hc.1 (iC.of (tk:=s.toks) (σ1:=σ) O.2.2 hQ (x0.grow (fun _ h=>nomatch h)) K)
  ·exact nn e'
theorem AU {src:Src}{I:Addr}{i:Nat}{target:Expr}{val:Value}{Q:Unit→Shared→Prop} (it:mW src I i as s.heap) (h:Q () s):wpAny (model g.prog g.w) A (letOwnedTupleGo target (.ref I) val) Q X s:=by
 have key:∃ o n vs,s.heap.get? I=some o ∧ o.cls=.type n ∧ o.data=.fields vs ∧ (["enumerate","zip","dict_itemiterator","dict_reverseitemiterator","odict_iterator","itertools.zip_longest","itertools.pairwise"].contains n)=false:=by
  cases src with
  | live l=>obtain ⟨a,_,o,e,hc,hd⟩:=it; exact ⟨o,_,_,e,hc,hd,by decide⟩
  | tup vs=>obtain ⟨a,_,_,_,_,o,e,hc,hd⟩:=it; exact ⟨o,_,_,e,hc,hd,by decide⟩
  | rng lo hi=>exact ⟨_,_,_,it,rfl,rfl,by decide⟩
  | enum l=>exact it.elim
 obtain ⟨o,n,vs,h1,h2,h3,h4⟩:=key
 have main:wpAny (model g.prog g.w) A (do
  let (.ref r,.ref a):=(Value.ref I,val) | return
  let o ← load r
  match o.cls,o.data with
  | .type n,.fields vs =>
   if ["enumerate","zip","dict_itemiterator","dict_reverseitemiterator","odict_iterator","itertools.zip_longest","itertools.pairwise"].contains n && vs[0]? == some (rawInt a) then
    rule "for.unpacks-the-owned-tuple"
    updateField r 0 .none
  | _,_=>pure ():Sem Unit) Q X s:=by
  cases val with
  | ref a =>
   refine wpAny_bind (wpAny_load h1 ?_)
   rw [h2,h3]
   simp only [h4,Bool.false_and,Bool.false_eq_true,if_false]
   exact wpAny_pure h
  | _=>exact wpAny_pure h
 cases target <;> first | exact wpAny_pure h | exact main
end
section
variable {prog:Program}{w:World}{A:Around}{R:Result→Shared→Prop}{s:Shared}
theorem ji {target it body orelse env} (I:Nat→Shared→Prop)
  (turn:∀ n s,I n s→wpAny (model prog w) A (pyNext it) (fun r s₁=>match r with
   | none=>wpAny (model prog w) A (execs orelse env) (fun f s₃=>R (.ok f) s₃) (notedBy (model prog w) A env fun e s'=>R (.error e) s') s₁
   | some v=>wpAny (model prog w) A (letOwnedTupleGo target it v) (fun _ s₁=>wpAny (model prog w) A (assign target env v) (fun _ s₂=>wpAny (model prog w) A (execs body env) (fun f s₃=>match f with
     | .next | .cont=>∃ m,m < n ∧ I m s₃
     | .brk=>R (.ok .next) s₃
     | .ret v=>R (.ok (.ret v)) s₃) (notedBy (model prog w) A env fun e s'=>R (.error e) s') s₂) (notedBy (model prog w) A env fun e s'=>R (.error e) s') s₁) (notedBy (model prog w) A env fun e s'=>R (.error e) s') s₁) (notedBy (model prog w) A env fun e s'=>R (.error e) s') s)
  (n:Nat) (h:I n s):codeAny (model prog w) A (.forLoop target it body orelse env) R s:=by
 refine codeAny_loop' rfl I (fun n s hI=>?_) n h
 show wpAny _ _ ((forTurn target it body orelse env).onRaise (fun x=>do noteFrame x env; theTreesLotGoes x)) _ _ s
 refine wpAny_noted ?_
 simp only [forTurn]
 refine wpAny_bind (wpAny_standAt (wpAny_bind (wpAny_onRaise (wpAny_mono (turn n s hI) (fun r s₁ h₁=>?_) fun _ _ h'=>wpAny_standAt h'))))
 cases r with
 | none=>exact wpAny_pure (.inr ⟨rfl,codeAny_block h₁⟩)
 | some v =>
  refine wpAny_bind (wpAny_mono h₁ (fun _ s₁ h₁=>?_) fun _ _ h'=>h')
  refine wpAny_bind (wpAny_mono h₁ (fun _ s₂ h₂=>wpAny_bind (wpAny_mono h₂ (fun f s₃ h₃=>?_) fun _ _ h'=>h')) fun _ _ h'=>h')
  cases f with
  | next=>exact wpAny_pure (.inl ⟨rfl,h₃⟩)
  | cont=>exact wpAny_pure (.inl ⟨rfl,h₃⟩)
  | brk=>exact wpAny_pure h₃
  | ret v=>exact wpAny_pure h₃
theorem pV {elt target iter:Expr}{ifs:List Expr}{scope:Scope}{pos:Pos}{it acc:Value}{env:Env} (I:Nat→Shared→Prop)
  (turn:∀ n s,I n s→wpAny (model prog w) A (pyNext it) (fun r s₁=>match r with
   | none=>R (.ok .next) s₁
   | some v=>wpAny (model prog w) A (letOwnedTupleGo target it v) (fun _ s₁=>wpAny (model prog w) A (assign target env v) (fun _ s₂ =>
     wpAny (model prog w) A (forIn ifs true fun c r=>if r=true then do let ok ← isTrue c env (eval c env); pure (ForInStep.yield ok) else pure (ForInStep.yield r)) (fun ok s₃ =>
      if ok=true then wpAny (model prog w) A (eval elt env) (fun x s₄ =>
       wpAny (model prog w) A (call (.builtin "list.append") [acc,x]) (fun _ s₅=>∃ m,m < n ∧ I m s₅) (notedBy (model prog w) A env fun e s'=>R (.error e) s') s₄) (notedBy (model prog w) A env fun e s'=>R (.error e) s') s₃
      else ∃ m,m < n ∧ I m s₃) (notedBy (model prog w) A env fun e s'=>R (.error e) s') s₂) (notedBy (model prog w) A env fun e s'=>R (.error e) s') s₁) (notedBy (model prog w) A env fun e s'=>R (.error e) s') s₁) (notedBy (model prog w) A env fun e s'=>R (.error e) s') s)
  (n:Nat) (h:I n s) :
  codeAny (model prog w) A (.compLoop (.ListComp elt [⟨target,iter,ifs,0⟩] scope pos) 0 it acc env) R s:=by
 refine codeAny_loop rfl I (fun n s hI=>?_) n h
 show wpAny _ A ((compTurn (.ListComp elt [⟨target,iter,ifs,0⟩] scope pos) 0 it acc env).onRaise (fun x=>do noteFrame x env; theTreesLotGoes x)) _ _ s
 refine wpAny_noted ?_
 rw [compTurn_list]
 refine wpAny_bind (wpAny_standAt (wpAny_bind (wpAny_mono (turn n s hI) (fun r s₁ h₁=>?_) fun _ _ h'=>h')))
 cases r with
 | none=>exact wpAny_pure h₁
 | some v =>
  refine wpAny_bind (wpAny_mono h₁ (fun _ s₁ h₁=>?_) fun _ _ h'=>h')
  refine wpAny_bind (wpAny_mono h₁ (fun _ s₂ h₂=>wpAny_bind (wpAny_mono h₂ (fun ok s₃ h₃=>?_) fun _ _ h'=>h')) fun _ _ h'=>h')
  cases ok with
  | false=>exact wpAny_pure ⟨rfl,h₃⟩
  | true =>
   exact wpAny_bind (wpAny_bind (wpAny_mono h₃ (fun x s₄ h₄=>wpAny_bind (wpAny_mono h₄ (fun _ s₅ h₅=>wpAny_pure (wpAny_pure ⟨rfl,h₅⟩)) fun _ _ h'=>h')) fun _ _ h'=>h'))
end
end Mine
namespace Mine
open PySem PyProof.Rows PySem.W
noncomputable def fb (i:Nat):Src→Prop
 | .live _=>True
 | .tup vs=>i ≤ vs.length
 | .rng lo hi=>i ≤ (hi - lo).toNat
 | .enum _=>True
theorem fb.tup {i:Nat}{src:Src} (h:fb i src):∀ vs,src=.tup vs→i ≤ vs.length:=fun vs e=>by subst e; exact h
theorem fb.rng {i:Nat}{src:Src} (h:fb i src):∀ lo hi,src=.rng lo hi→i ≤ (hi - lo).toNat:=fun lo hi e=>by subst e; exact h
theorem fb.zero {src:Src}:fb 0 src:=by cases src <;> first | trivial | exact Nat.zero_le _
theorem fb.next {σ:Sto}{i:Nat}{src:Src}{v:V} (h:a8 σ i src=some (some v)):fb (i + 1) src:=by
 cases src with
 | live l=>trivial
 | tup vs=>exact (List.getElem?_eq_some_iff.mp (Option.some.inj h)).1
 | rng lo hi =>
  have:=(List.getElem?_eq_some_iff.mp (Option.some.inj h)).1
  unfold iw at this
  rw [List.length_map,List.length_range] at this
  exact this
 | enum l=>trivial
theorem jl {α:Type}{o:Option (Option V)}{bad fin z:α}{k:V→α}{G:Prop} (e:kE o bad fin k=z) (hb:bad=z→G) (h1:o=some none→fin=z→G) (h2:∀ v,o=some (some v)→k v=z→G):G :=
 fR e (fun _=>hb) fun p hp e=>fR e (fun q=>h1 (hp.trans (congrArg some q))) fun v q=>h2 v (hp.trans (congrArg some q))
theorem rr {α:Type}{o:Option Src} {σ:Sto}{bad z:α}{f:Src→Nat→α}{G:Prop} (e:wo o σ bad f=z) (hb:bad=z→G) (h:∀ src n,o=some src→(∃ m,nV σ src=some m)→f src n=z→G):G :=
 fR e (fun _=>hb) fun src hs e=>fR e (fun _=>hb) fun n hn e=>h src _ hs ⟨n,hn⟩ e
theorem rO {α:Type}{v:V} {σ:Sto}{bad z:α}{f:Src→Nat→α}{G:Prop} (e:zG v σ bad f=z) (hb:bad=z→G) (h:∀ src n,gK v=some src→(∀ l,src=.live l→∃ xs,getL σ l=some xs)→f src n=z→G):G :=
 rr e hb fun src n hs hn e=>h src n hs (fun l q=>by
  subst q
  obtain ⟨m,hn⟩:=hn
  obtain ⟨xs,hx,_⟩:=Option.map_eq_some_iff.mp hn
  exact ⟨xs,hx⟩) e
theorem rm {Ψ:List V→Sto→Prop}{a b:List V}{s t:Sto} (e:REs.ok a s=.ok b t) (h:Ψ b t):Ψ a s:=by cases e; exact h
section
variable {tg:List Nat}{one:Bool}{cond elt:Fra→Sto→RE}{src:Src}{n i:Nat}{fr:Fra} {σ σ':Sto}{acc ys:List V}{G:Prop}
theorem xt {α:Type}{r:RE}{k:V→Sto→Option α}{z:α} (e:r.opt k=some z) (h:∀ v τ,r=.ok v τ→k v τ=some z→G):G :=
 RE.casesOn (motive:=fun t=>r=t→t.opt k=some z→G) r h (fun _ _ _ q=>nn q) (fun _ q=>nn q) rfl e
theorem vt {α:Type}{c:V}{a b:Option α}{z:α} (e:xw c a b=some z) (h1:c=.bool true→a=some z→G) (h2:c=.bool false→b=some z→G):G:=by
 cases c with
 | bool p=>cases p with
  | true=>exact h1 rfl e
  | false=>exact h2 rfl e
 | _=>exact nn e
theorem k8 {v:V}{t:Fra × List V × Sto} (Ψ:Fra × List V × Sto→Prop) (e:l5 tg one cond elt v fr σ acc=some t) (hΨ:Ψ t)
  (h:∀ fr1,bw tg one v fr=some fr1→(∀ G2:Prop,(∀ τ y υ,cond fr1 σ=.ok (.bool true) τ→elt fr1 τ=.ok y υ→Ψ (fr1,acc ++ [y],υ)→G2)→(∀ τ,cond fr1 σ=.ok (.bool false) τ→Ψ (fr1,acc,τ)→G2)→G2)→G):G :=
 (a6 e).elim fun fr1 e=>h fr1 e.1 fun _ h1 h2=>xt e.2 fun _ τ q e=>vt e
  (fun p e=>xt e fun y υ q2 e=>h1 τ y υ (p ▸ q) q2 (Option.some.inj e ▸ hΨ)) fun p e=>h2 τ (p ▸ q) (Option.some.inj e ▸ hΨ)
theorem rG (Ψ:List V→Sto→Prop) (ev:d6 tg one cond elt src n i fr σ acc=.ok ys σ') (hΨ:Ψ ys σ') (h1:a8 σ i src=some none→Ψ acc σ→G)
  (h2:∀ n' v t,n' < n→a8 σ i src=some (some v)→l5 tg one cond elt v fr σ acc=some t→d6 tg one cond elt src n' (i + 1) t.1 t.2.2 t.2.1=.ok ys σ'→G):G:=by
 cases n with
 | zero=>exact nomatch ev
 | succ n=>exact jl ev (fun q=>nomatch q) (fun o e=>h1 o (rm e hΨ)) fun v o e=>fR e (fun _ q=>nomatch q) fun t ht e=>h2 n v t (Nat.lt_succ_self _) o ht e
theorem oX:∀ (n i:Nat) (fr:Fra) (σ:Sto) (acc:List V),d6 tg one cond elt src n i fr σ acc=.ok ys σ'→acc.length ≤ ys.length:=by
 intro n
 induction n with
 | zero=>exact fun _ _ _ _ ev=>nomatch ev
 | succ n ih =>
  exact fun i fr σ acc ev=>jl ev (fun q=>nomatch q) (fun _ e=>rm (Ψ:=fun a _=>a.length ≤ ys.length) e (Nat.le_refl _)) fun v _ e=>fR e (fun _ q=>nomatch q) fun t ht e =>
   k8 (fun t=>t.2.1.length ≤ ys.length) ht (ih _ _ _ _ e) fun fr1 _ k=>k _ (fun _ y _ _ _ h=>Nat.le_trans (by rw [List.length_append]; exact Nat.le_add_right _ _) h) fun _ _ h=>h
end
structure CX (g:Cfg) (env cenv:Env) (s:Shared) (I D:Addr):Prop where
 IL:I ≠ env.locals
 DL:D ≠ env.locals
 CL:cenv.locals ≠ env.locals
 IC:I ≠ cenv.locals
 DC:D ≠ cenv.locals
 ID:I ≠ D
 ce:∀ x c,env.cells.lookup x=some c→c ≠ I ∧ c ≠ D ∧ c ≠ cenv.locals
 cc:∀ x c,cenv.cells.lookup x=some c→c ≠ I ∧ c ≠ D
 Ib:g.b.get? I=none
 Db:g.b.get? D=none
 Cb:g.b.get? cenv.locals=none
 In:s.heap.get? I=none
 Dn:s.heap.get? D=none
 Cn:s.heap.get? cenv.locals=none
structure CI (g:Cfg) (env cenv:Env) (fr frc:Fra) (s:Shared) (as:List Addr) (src:Src) (I D:Addr) (i:Nat) (acc:List V) (as1:List Addr) (σ:Sto) (h:Heap):Prop where
 st:aF [env.locals] as s.heap as1 h
 R:Rel g as1 σ h
 F:az g env as1 fr h
 Fc:az g cenv as1 frc h
 it:mW src I i as1 h
 acc:∃ items,h.PlainList D items ∧ ah as1 h acc items.toList
 offI:I ∉ as1
 offD:D ∉ as1
section
variable {g:Cfg}{K:Frag}{c0:CE}{fa:Nat→Option Addr}{call:Nat→List V→Sto→RE}{env cenv:Env}{A:Around}{X:Value→Shared→Prop}{s:Shared}{as:List Addr}{fr frc:Fra} {σ σ':Sto}{r n:Nat}
 {names:List (Str × NameKind)}{src:Src}{I D:Addr}{i:Nat}{acc:List V}{as1:List Addr}{h:Heap}
theorem jO {h:Heap}{C:Addr}{m:Str→Option Value} (hm:h.Ns C m):∀ o,h.get? C=some o→¬ Imm o:=fun o e hi=>by
 obtain ⟨o',es,ep,e',d,_⟩:=hm
 cases Option.some.inj (e.symm.trans e')
 exact hi.2.1 _ _ d
theorem dy {items:Array Value} (p:h.PlainList D items):∀ o,h.get? D=some o→¬ Imm o:=fun o e hi=>by
 obtain ⟨n,e'⟩:=p; rw [e] at e'; cases e'; rcases hi.1 with q | q <;> simp at q
theorem CI.step {frc':Fra}{as2:List Addr} {σ2:Sto}{h2:Heap} (Z:CX g env cenv s I D) (C:CI g env cenv fr frc s as src I D i acc as1 σ h) (x:aF [cenv.locals] as1 h as2 h2) (R2:Rel g as2 σ2 h2) (Fc2:az g cenv as2 frc' h2) :
  CI g env cenv fr frc' s as src I D i acc as2 σ2 h2:=by
 have K2:cR as1 h as2 h2:=C.R.keep x C.Fc.notImm
 have F2:az g env as2 fr h2:=C.F.keep K2 x (by
  intro a ha q; simp at q; subst q
  rcases bJ ha with q | ⟨y,q⟩
  ·exact Z.CL q
  ·exact (Z.ce _ _ q).2.2 rfl)
 obtain ⟨items,p1,p2⟩:=C.acc
 have there:∀ b o,h.get? b=some o→b ∉ as1→b ∉ as2:=fun b o e hb q=>by
  obtain ⟨⟨t,rfl,ht⟩,_⟩:=x
  rcases List.mem_append.mp q with q | q
  ·exact hb q
  ·rw [ht b q] at e; cases e
 refine ⟨?_,R2,F2,Fc2,C.it.keep K2 fun o e=>x.ext I o e (by simpa using Z.IC) C.offI,⟨items,p1.at fun o e=>x.ext D o e (by simpa using Z.DC) C.offD,ah.keep K2 _ _ p2⟩,?_,?_⟩
 ·have a1:aF [env.locals,cenv.locals] as s.heap as1 h:=C.st.grow (by intro a ha; simp at ha; subst ha; simp)
  have a2:aF [env.locals,cenv.locals] as1 h as2 h2:=x.grow (by intro a ha; simp at ha; subst ha; simp)
  exact (a1.trans a2 R2.nd (by intro a ha; simp at ha; rcases ha with rfl | rfl; exact F2.off; exact Fc2.off)).shrink (by
   intro a ha; simp at ha; rcases ha with rfl | rfl
   ·exact .inl (by simp)
   ·exact .inr Z.Cn)
 ·obtain ⟨o,e,_⟩:=C.it.there; exact there _ _ e C.offI
 ·obtain ⟨m,e⟩:=p1; exact there _ _ e C.offD
theorem CI.other {h2:Heap}{d:Addr}{j:Nat}{acc':List V} (Z:CX g env cenv s I D) (C:CI g env cenv fr frc s as src I D i acc as1 σ h) (hd:d=I ∨ d=D) (k:∀ (b:Addr) (o:Obj),b ≠ d→h.get? b=some o→h2.get? b=some o)
  (hit:mW src I j as1 h2) (hacc:cR as1 h as1 h2→∃ items,h2.PlainList D items ∧ ah as1 h2 acc' items.toList):CI g env cenv fr frc s as src I D j acc' as1 σ h2:=by
 obtain ⟨items,p1,p2⟩:=C.acc
 have hoff:d ∉ as1:=by rcases hd with rfl | rfl; exact C.offI; exact C.offD
 have hb:g.b.get? d=none:=by rcases hd with rfl | rfl; exact Z.Ib; exact Z.Db
 have hni:∀ o,h.get? d=some o→¬ Imm o:=by
  rcases hd with rfl | rfl
  ·intro o e; obtain ⟨o',e',q⟩:=C.it.there; rw [e] at e'; cases e'; exact q
  ·exact dy p1
 obtain ⟨K2,R2⟩:=C.R.other k hoff hb hni
 have hL:env.locals ≠ d:=by rcases hd with rfl | rfl; exact Ne.symm Z.IL; exact Ne.symm Z.DL
 have hC:cenv.locals ≠ d:=by rcases hd with rfl | rfl; exact Ne.symm Z.IC; exact Ne.symm Z.DC
 have hn:s.heap.get? d=none:=by rcases hd with rfl | rfl; exact Z.In; exact Z.Dn
 refine ⟨?_,R2,C.F.alter K2 k hL (fun y c q=>?_) (fun a ha=>.inl ha),C.Fc.alter K2 k hC (fun y c q=>?_) (fun a ha=>.inl ha),hit,hacc K2,C.offI,C.offD⟩
 ·have a2:aF [env.locals,d] as1 h as1 h2:=⟨⟨[],by simp,by simp⟩,fun b o e hb _=>k b o (by intro q; subst q; simp at hb) e⟩
  have a1:aF [env.locals,d] as s.heap as1 h:=C.st.grow (by intro a ha; simp at ha; subst ha; simp)
  exact (a1.trans a2 R2.nd (by intro a ha; simp at ha; rcases ha with rfl | rfl; exact C.F.off; exact hoff)).shrink (by
   intro a ha; simp at ha; rcases ha with rfl | rfl
   ·exact .inl (by simp)
   ·exact .inr hn)
 ·rcases hd with rfl | rfl
  ·exact (Z.ce _ _ q).1
  ·exact (Z.ce _ _ q).2.1
 ·rcases hd with rfl | rfl
  ·exact (Z.cc _ _ q).1
  ·exact (Z.cc _ _ q).2
theorem gn {M:Model}{env:Env}{Q:Bool→Shared→Prop}:∀ (ifs:List Expr),Q false s →
  wpAny M A (forIn ifs false fun c r=>if r=true then do let ok ← isTrue c env (eval c env); pure (ForInStep.yield ok) else pure (ForInStep.yield r)) Q X s
 | [],h=>wpAny_pure h
 | c :: ifs,h=>by
  rw [List.forIn_cons]
  simp only [Bool.false_eq_true,if_false]
  exact wpAny_bind (wpAny_pure (gn ifs h))
theorem gJ (IT:k9 g c0 call r n):∀ (ifs:List Expr) (cs:List E) (s:Shared) (as:List Addr) (σ σ':Sto) (b:Bool) (Q:Bool→Shared→Prop),aP (al n (c0.sub names)) ifs=some cs→aq (c0.sub names) env A→bU g A (r + 1) →
  At g env as fr σ s→dS (la call cs) fr σ=.ok (.bool b) σ'→nI g env as fr s b σ' Q →
  wpAny (model g.prog g.w) A (forIn ifs true fun c r=>if r=true then do let ok ← isTrue c env (eval c env); pure (ForInStep.yield ok) else pure (ForInStep.yield r)) Q X s
 | [],cs,s,as,σ,σ',b,Q,h,N,hA,T,ev,hQ=>by
  rw [dC] at h; cases h
  cases (show RE.ok (.bool true) σ=_ from ev)
  exact wpAny_pure (hQ as s.heap s.toks (aF.refl _ _ _) T.R T.F)
 | c :: ifs,cs,s,as,σ,σ',b,Q,h,N,hA,T,ev,hQ=>by
  refine cn h fun a cs' h1 h2 qx4=>?_; subst qx4
  rw [w3,wu] at ev
  refine aD ev fun u τ e1 e2=>?_
  rw [List.forIn_cons]
  simp only [if_true]
  split at e2
  ·refine wpAny_bind (wpAny_bind (IT names c a h1 env A X s as fr σ τ true _ N hA T e1 fun as1 k1 tk1 st1 R1 F1=>wpAny_pure ?_))
   exact gJ IT ifs cs' _ as1 τ σ' b Q h2 N hA ⟨F1,R1⟩ e2 (jL hQ st1 R1 F1)
  ·cases e2
   refine wpAny_bind (wpAny_bind (IT names c a h1 env A X s as fr σ _ false _ N hA T e1 fun as1 k1 tk1 st1 R1 F1=>wpAny_pure ?_))
   exact gn ifs (hQ as1 k1 tk1 st1 R1 F1)
  ·cases e2
inductive xg (g:Cfg) (env cenv:Env) (fr:Fra) (s:Shared) (as:List Addr) (src:Src) (I D:Addr) (tg:List Nat) (one:Bool) (cd el:Fra→Sto→RE) (ys:List V) (σ':Sto):Nat→Shared→Prop
 | mk {k i:Nat}{frc:Fra} {σ:Sto}{acc:List V}{as1:List Addr}{h:Heap}{tk:Nat} (ev:d6 tg one cd el src k i frc σ acc=.ok ys σ') (le:fb i src) (C:CI g env cenv fr frc s as src I D i acc as1 σ h):xg g env cenv fr s as src I D tg one cd el ys σ' k { s with heap:=h,toks:=tk }
set_option tactic.hygienic true in
theorem n0 {elt target iter:Expr}{ifs:List Expr}{scope:Scope}{pos:Pos}{tg:List Nat}{one:Bool}{cs:List E}{x':E}{ys:List V}{RR:Result→Shared→Prop}
  (IH:bE g c0 call r n) (IT:k9 g c0 call r n) (Z:CX g env cenv s I D) (N:aq (c0.sub names) cenv A) (hA:bU g A (r + 1)) (hnc:∀ x ∈ names,x.2 ≠ .cell) (hys:ys.length ≤ 16777216)
  (ht:tgt (c0.sub names) target=some (tg,one)) (h2:aP (al n (c0.sub names)) ifs=some cs) (h3:al n (c0.sub names) elt=some x') {k:Nat}{h:Heap}{tk:Nat}
  (ev:d6 tg one (dS (la call cs)) (evE call x') src k i frc σ acc=.ok ys σ') (le:fb i src) (C:CI g env cenv fr frc s as src I D i acc as1 σ h)
  (hR:∀ frc' i' as2 h1 h' tk',CI g env cenv fr frc' s as src I D i' ys as2 σ' h1→(∀ (b:Addr) (o:Obj),b ≠ I→h1.get? b=some o→h'.get? b=some o)→RR (.ok .next) { s with heap:=h',toks:=tk' }) :
  codeAny (model g.prog g.w) A (.compLoop (.ListComp elt [⟨target,iter,ifs,0⟩] scope pos) 0 (.ref I) (.ref D) cenv) RR { s with heap:=h,toks:=tk }:=by
 refine pV (xg g env cenv fr s as src I D tg one (dS (la call cs)) (evE call x') ys σ') ?_ k ⟨ev,le,C⟩
 rintro k _ ⟨ev,le,C⟩
 rename_i i frc σ acc as1 h tk
 refine rG (fun ys σ'=>∀ frc' i' as2 h1 h' tk',CI g env cenv fr frc' s as src I D i' ys as2 σ' h1→(∀ (b:Addr) (o:Obj),b ≠ I→h1.get? b=some o→h'.get? b=some o)→RR (.ok .next) { s with heap:=h',toks:=tk' }) ev hR (fun e hR=>?_) (fun k' v t hk e ec ev'=>?_)
 ·exact qQ hA.handled C.R C.it C.offI Z.Ib le.rng le.tup e fun h' tk' kk K' R'=>hR _ _ _ _ h' tk' C kk
 ·refine pL C.R C.it C.offI Z.Ib e fun val h1 tk1 kk1 K1 R1 it1 r1=>?_
  have C1:=C.other (acc':=acc) Z (.inl rfl) kk1 it1 fun K=>C.acc.elim fun items p=>⟨items,p.1.at fun o e=>kk1 _ _ (Ne.symm Z.ID) e,ah.keep K _ _ p.2⟩
  refine k8 (fun t=>d6 tg one (dS (la call cs)) (evE call x') src k' (i + 1) t.1 t.2.2 t.2.1=.ok ys σ') ec ev' fun fr' hb hc=>?_
  refine AU (s:={ s with heap:=h1,toks:=tk1 }) it1 ?_
  refine gi (own:=[cenv.locals]) (s:={ s with heap:=h1,toks:=tk1 }) hA.handled ⟨C1.Fc,C1.R⟩ N (tw hnc) ht r1 hb fun as2 h2' tk2 st2 K2 R2 F2=>?_
  have C2:=C1.step Z st2 R2 F2
  refine hc _ (fun τ y υ hc1 hc2 run'=>?_) fun τ hc1 run'=>?_
  ·refine gJ IT ifs cs { s with heap:=h2',toks:=tk2 } as2 _ τ true _ h2 N hA ⟨C2.Fc,C2.R⟩ hc1 fun as3 h3' tk3 st3 R3 F3=>?_
   have C3:=C2.step Z st3 R3 F3
   rw [if_pos rfl]
   refine IH names elt x' h3 cenv A _ { s with heap:=h3',toks:=tk3 } as3 fr' τ υ y _ N hA ⟨C3.Fc,C3.R⟩ hc2 fun val2 as4 h4 tk4 st4 R4 F4 r4=>?_
   have C4:=C3.step Z st4 R4 F4
   refine C4.acc.elim fun items p=>?_
   have hl:=(ah.f2.mp p.2).length
   have hl2:=oX _ _ _ _ _ run'
   rw [List.length_append] at hl2
   have hsz:items.size=acc.length:=by rw [hl]; rfl
   refine wpAny_list_append_plain p.1 (fun h5 hp5 hs5=>?_) (by show _ ≤ 2 ^ 24; simp at hl2; lia)
   have k5:∀ (b:Addr) (o:Obj),b ≠ D→h4.get? b=some o→h5.get? b=some o:=fun b o hb e=>hs5.extBut b o hb e
   have kD:cR as4 h4 as4 h5:=⟨fun _ _ e=>e,fun b o e im=>k5 b o (fun q=>dy p.1 o (q ▸ e) im) e⟩
   exact ⟨k',hk,run',.next e,C4.other (acc':=acc ++ [y]) Z (.inr rfl) k5 (C4.it.keep kD fun o e=>k5 _ _ Z.ID e) fun K=>⟨_,hp5,by
    rw [Array.toList_push]
    exact ah.f2.mpr ((ah.f2.mp (ah.keep K _ _ p.2)).append (.cons (RepV.keep K _ _ r4) .nil))⟩⟩
  ·refine gJ IT ifs cs { s with heap:=h2',toks:=tk2 } as2 _ τ false _ h2 N hA ⟨C2.Fc,C2.R⟩ hc1 fun as3 h3' tk3 st3 R3 F3=>?_
   rw [if_neg Bool.false_ne_true]
   exact ⟨k',hk,run',.next e,C2.step Z st3 R3 F3⟩
end
end Mine
namespace Mine
open PySem PyProof.Rows PySem.W
noncomputable def ig (env:Env):List (Str × NameKind)→List (Str × Addr)→List (Str × Addr)
 | [],acc=>acc
 | p :: r,acc=>ig env r (if p.2 == .free then (match env.cells.lookup p.1 with | some c=>(p.1,c) :: acc | none=>acc) else acc)
noncomputable def kg (env:Env) (x:Str × NameKind) (r:List (Str × Addr)):Sem (ForInStep (List (Str × Addr))) :=
 if (x.2 == .free)=true then do let a ← cellOf env x.1; pure (ForInStep.yield ((x.1,a) :: r)) else pure (ForInStep.yield r)
theorem gS {env:Env}:∀ (names:List (Str × NameKind)) (acc:List (Str × Addr)),(∀ p ∈ names,p.2=.free→∃ c,env.cells.lookup p.1=some c) →
  (forIn names acc (kg env):Sem (List (Str × Addr)))=pure (ig env names acc)
 | [],acc,_=>rfl
 | p :: r,acc,h=>by
  rw [List.forIn_cons]
  by_cases hp:(p.2 == NameKind.free)=true
  ·obtain ⟨c,hc⟩:=h p (.head _) (eq_of_beq hp)
   have e1:cellOf env p.1=pure c:=by unfold cellOf; rw [hc]
   have e2:kg env p acc=pure (ForInStep.yield ((p.1,c) :: acc)):=by
    unfold kg; rw [if_pos hp,e1]; rfl
   rw [e2]
   have:=gS r ((p.1,c) :: acc) fun q hq=>h q (.tail _ hq)
   rw [ig,if_pos hp,hc]
   exact this
  ·have e2:kg env p acc=pure (ForInStep.yield acc):=by
    unfold kg; rw [if_neg hp]
   rw [e2]
   have:=gS r acc fun q hq=>h q (.tail _ hq)
   rw [ig,if_neg hp]
   exact this
theorem pM {env:Env}{sc:Scope} (h:∀ p ∈ sc.names,p.2=.free→∃ c,env.cells.lookup p.1=some c):closureFor sc env=pure (ig env sc.names []):=by
 have:=gS sc.names [] h
 unfold closureFor
 show (forIn sc.names ([]:List (Str × Addr)) _ >>= fun cs=>pure cs)=_
 exact (congrArg (· >>= fun cs=>(pure cs:Sem (List (Str × Addr)))) this)
set_option tactic.hygienic true in
theorem dQ {env:Env}:∀ (names:List (Str × NameKind)) (acc:List (Str × Addr)),(∀ x c,acc.lookup x=some c→env.cells.lookup x=some c)→∀ x c,(ig env names acc).lookup x=some c→env.cells.lookup x=some c
 | [],acc,h,x,c,e=>h x c e
 | p :: r,acc,h,x,c,e=>by
  rw [ig] at e
  refine dQ r _ (fun y d e'=>?_) x c e
  split at e'
  ·split at e'
   ·rename_i c' hc
    rw [List.lookup_cons] at e'
    split at e'
    ·rename_i q; cases e'; rw [eq_of_beq q]; exact hc
    ·exact h y d e'
   ·exact h y d e'
  ·exact h y d e'
set_option tactic.hygienic true in
theorem fj {env:Env}:∀ (names:List (Str × NameKind)) (acc:List (Str × Addr)) (x:Str),(∀ p ∈ names,p.2=.free→∃ c,env.cells.lookup p.1=some c)→((x,NameKind.free) ∈ names ∨ ∃ c,acc.lookup x=some c)→∃ c,(ig env names acc).lookup x=some c
 | [],acc,x,_,h=>h.elim (fun q=>by cases q) id
 | p :: r,acc,x,hn,h=>by
  rw [ig]
  refine fj r _ x (fun q hq=>hn q (.tail _ hq)) ?_
  rcases h with h | ⟨c,hc⟩
  ·rcases List.mem_cons.mp h with q | q
   ·subst q
    obtain ⟨c,hc⟩:=hn _ (.head _) rfl
    refine .inr ⟨c,?_⟩
    have hc':env.cells.lookup x=some c:=hc
    have hff:(NameKind.free == NameKind.free)=true:=rfl
    simp only [hff,if_true,hc',List.lookup_cons]; simp
   ·exact .inl q
  ·refine .inr ?_
   split
   ·split
    ·rename_i c' _
     rw [List.lookup_cons]
     split
     ·exact ⟨_,rfl⟩
     ·exact ⟨c,hc⟩
    ·exact ⟨c,hc⟩
   ·exact ⟨c,hc⟩
set_option tactic.hygienic true in
theorem jj {c:CE}{x:Str}{i:Nat} (e:c.locC? x=some i):∃ k,c.names[i]?=some (x,k) ∧ (k=.cell ∨ k=.free):=by
 unfold CE.locC? at e
 split at e
 ·rename_i h; obtain ⟨j,h1,h2⟩:=bq h; rw [h1] at e; cases e; exact ⟨_,h2,.inl rfl⟩
 ·rename_i h; obtain ⟨j,h1,h2⟩:=bq h; rw [h1] at e; cases e; exact ⟨_,h2,.inr rfl⟩
 ·cases e
theorem co {α β:Type}{f:α→Option β}:∀ {l:List α}{l':List β},aP f l=some l'→l.length=l'.length ∧ ∀ (i:Nat) (a:α),l[i]?=some a→∃ b,l'[i]?=some b ∧ f a=some b
 | [],l',h=>by rw [dC] at h; cases h; exact ⟨rfl,fun i a e=>by simp at e⟩
 | x :: r,l',h=>by
  refine cn h fun y ys h1 h2 qx4=>?_; subst qx4
  obtain ⟨q1,q2⟩:=co h2
  refine ⟨by simp [q1],fun i a e=>?_⟩
  cases i with
  | zero=>simp at e; subst e; exact ⟨y,rfl,h1⟩
  | succ i=>simp at e; simpa using q2 i a e
section
variable {g:Cfg}{c:CE}{env:Env}{A:Around}{s:Shared}{as:List Addr}{fr:Fra} {σ:Sto}{frm:List (Option Nat)}{sc:Scope}
theorem gj (N:aq c env A) (F:az g env as fr s.heap) (hf:ff c sc=some frm):∀ p ∈ sc.names,p.2=.free→∃ a,env.cells.lookup p.1=some a:=fun p hp hk=>by
 obtain ⟨i,hi,rfl⟩:=List.getElem_of_mem hp
 obtain ⟨o,h1,h2⟩:=(co (au hf).2).2 i _ (List.getElem?_eq_getElem hi)
 unfold yK at h2
 rw [hk] at h2
 obtain ⟨j,h3,_⟩:=Option.map_eq_some_iff.mp h2
 obtain ⟨k,h4,h5⟩:=jj h3
 obtain ⟨k',h6,h7⟩:=N.get h4
 have hk':k'=.cell ∨ k'=.free:=by
  rcases h7 with q | q
  ·subst q; exact h5
  ·exact .inl q.2
 obtain ⟨a,cv,e,_⟩:=F.cells j _ k' h6 hk'
 exact ⟨a,e⟩
theorem dH (hf:ff c sc=some frm):∀ x ∈ sc.names,x.2 ≠ .cell:=fun p hp hk=>by
 obtain ⟨i,hi,rfl⟩:=List.getElem_of_mem hp
 obtain ⟨o,h1,h2⟩:=(co (au hf).2).2 i _ (List.getElem?_eq_getElem hi)
 unfold yK at h2
 rw [hk] at h2; cases h2
theorem gb (h:nO sc=true):sc.kind=.function ∧ (sc.names.map (·.1)).Nodup:=by
 unfold nO at h
 simp only [Bool.and_eq_true,decide_eq_true_eq] at h
 refine ⟨?_,h.2⟩
 have:=h.1
 split at this
 ·assumption
 ·cases this
set_option tactic.hygienic true in
theorem eV {env:Env}:∀ names:List (Str × NameKind),F2 (fun (p q:Str × NameKind)=>p.1=q.1 ∧ (p.2=q.2 ∨ (p.2=.free ∧ q.2=.cell))) names
  (names.map fun (n,k)=>if (k == NameKind.free && env.scope.kind == .function && env.kindOf n == some .cell)=true then (n,NameKind.cell) else (n,k))
 | []=>.nil
 | (n,k) :: r=>by
  rw [List.map_cons]
  refine .cons ?_ (eV r)
  dsimp only
  split
  ·rename_i h
   simp only [Bool.and_eq_true] at h
   exact ⟨rfl,.inr ⟨eq_of_beq h.1.1,rfl⟩⟩
  ·exact ⟨rfl,.inl rfl⟩
theorem n9 {C:Addr}{h':Heap}{m:Str→Option Value} (T:At g env as fr σ s) (N:aq c env A) (hf:ff c sc=some frm) (ho:nO sc=true) (hC:s.heap.get? C=none) (hCb:g.b.objs.size ≤ C) (k:∀ (a:Addr) (o:Obj),s.heap.get? a=some o→h'.get? a=some o) (hns:h'.Ns C m) :
  az g (compEnvC sc (ig env sc.names []) C env) as (dU fr frm) h' ∧ aq (c.sub sc.names) (compEnvC sc (ig env sc.names []) C env) A:=by
 obtain ⟨hk,hnd⟩:=gb ho
 have hl:=(co (au hf).2).1
 have free:=gj N T.F hf
 have hcl:∀ x a,(ig env sc.names []).lookup x=some a→env.cells.lookup x=some a:=dQ sc.names [] (fun x a e=>by cases e)
 have K:cR as s.heap as h':=⟨fun _ _ e=>e,fun a o e _=>k a o e⟩
 have hN:aq (c.sub sc.names) (compEnvC sc (ig env sc.names []) C env) A:=⟨eV sc.names,fun a e=>N.code a e,fun (q:c.top=some sc.names)=>by have h0:=(au hf).1; rw [q] at h0; simp at h0⟩
 have hN':=hN.map
 have inv:∀ (i:Nat) (x:Str) (kk:NameKind),(compEnvC sc (ig env sc.names []) C env).scope.names[i]?=some (x,kk)→∃ k0,sc.names[i]?=some (x,k0) ∧ (k0=kk ∨ (k0=.free ∧ kk=.cell)):=fun i x kk e=>by
  have hlen:=F2.length hN.f2
  have hi:i < sc.names.length:=by
   have h1:=(List.getElem?_eq_some_iff.mp e).1
   have h2:sc.names.length=(compEnvC sc (ig env sc.names []) C env).scope.names.length:=hlen
   lia
  obtain ⟨q,h1,h2,h3⟩:=F2.get hN.f2 (i:=i) (a:=sc.names[i]) (List.getElem?_eq_getElem hi)
  rw [e] at h1; cases h1
  refine ⟨sc.names[i].2,?_,h3⟩
  rw [List.getElem?_eq_getElem hi]
  exact congrArg some (Prod.ext h2 rfl)
 refine ⟨⟨hk,hCb,T.F.glob,T.F.blt,?_,?_,⟨m,hns,fun i x v e1 e2=>?_⟩,fun i x kk e1 e2=>?_,fun q=>?_,fun x a e=>⟨(T.F.offc _ _ (hcl _ _ e)).1,fun q=>?_,?_⟩,fun x y a e1 e2=>T.F.apart x y a (hcl _ _ e1) (hcl _ _ e2),fun x a e=>T.F.newc x a (hcl _ _ e)⟩,hN⟩
 ·show (dU fr frm).length=_
  rw [show (compEnvC sc (ig env sc.names []) C env).scope.names.length=sc.names.length from (F2.length hN.f2).symm]
  simp [dU,hl]
 ·rw [← hN']; exact hnd
 ·obtain ⟨k0,q1,q2⟩:=inv i x _ e1
  have:k0=.local:=by
   rcases q2 with q | q
   ·exact q
   ·cases q.2
  subst this
  obtain ⟨o,h1,h2⟩:=(co (au hf).2).2 i _ q1
  unfold yK at h2; cases h2
  unfold dU at e2
  rw [List.getElem?_map,h1] at e2
  simp at e2
 ·obtain ⟨k0,q1,q2⟩:=inv i x _ e1
  have hk0:k0=.free:=by
   rcases q2 with q | q
   ·subst q
    rcases e2 with e2 | e2
    ·exact absurd e2 (dH hf _ (List.mem_of_getElem? q1))
    ·exact e2
   ·exact q.1
  subst hk0
  obtain ⟨o,h1,h2⟩:=(co (au hf).2).2 i _ q1
  unfold yK at h2
  obtain ⟨j,h3,rfl⟩:=Option.map_eq_some_iff.mp h2
  obtain ⟨k1,h4,h5⟩:=jj h3
  obtain ⟨k',h6,h7⟩:=N.get h4
  have hk':k'=.cell ∨ k'=.free:=by
   rcases h7 with q | q
   ·subst q; exact h5
   ·exact .inl q.2
  obtain ⟨a,cv,p1,⟨ob,p2,p2'⟩,p3⟩:=T.F.cells j _ k' h6 hk'
  obtain ⟨a',ha'⟩:=fj sc.names [] x free (.inl (List.mem_of_getElem? q1))
  have:=hcl _ _ ha'
  rw [p1] at this; cases this
  refine ⟨a,cv,ha',⟨ob,k _ _ p2,p2'⟩,fun v e=>?_⟩
  unfold dU at e
  rw [List.getElem?_map,h1] at e
  simp only [Option.map_some,Option.some.injEq] at e
  have e':fr[j]?=some (some v):=by
   cases q:fr[j]? with
   | none=>rw [q] at e; cases e
   | some w=>rw [q] at e; exact congrArg some e
  obtain ⟨val,p4,p5⟩:=p3 v e'
  exact ⟨val,p4,RepV.keep K _ _ p5⟩
 ·obtain ⟨ob,e,_⟩:=T.R.there q
  have e':s.heap.get? C=some ob:=e
  rw [hC] at e'; cases e'
 ·obtain ⟨cv,o,e',_⟩:=(T.F.offc _ _ (hcl _ _ e)).2.2
  have q':a=C:=q
  rw [q',hC] at e'; cases e'
 ·obtain ⟨cv,o,e',e''⟩:=(T.F.offc _ _ (hcl _ _ e)).2.2
  exact ⟨cv,o,k _ _ e',e''⟩
end
end Mine
namespace Mine
open PySem PyProof.Rows PySem.W
section
variable {g:Cfg}{K:Frag}{c0:CE}{fa:Nat→Option Addr}{call:Nat→List V→Sto→RE}{env:Env}{A:Around}{X:Value→Shared→Prop}{s:Shared}{as:List Addr}{fr:Fra} {σ σ':Sto}{r n:Nat}
 {names:List (Str × NameKind)}{Q:Value→Shared→Prop}
theorem wL {src:Src}{I:Addr}{i:Nat} (R:Rel g as σ s.heap) (it:mW src I i as s.heap) (hQ:Q (.ref I) s):wpAny (model g.prog g.w) A (pyIter (.ref I)) Q X s:=by
 cases src with
 | live l =>
  obtain ⟨a,e1,e2⟩:=it
  exact wpAny_pyIter_listiter e2 hQ
 | tup vs =>
  obtain ⟨a,items,n,e1,e2,e3⟩:=it
  exact wpAny_pyIter_tupleiter e3 hQ
 | rng lo hi=>exact wpAny_pyIter_rangeiter it hQ
 | enum l=>exact it.elim
theorem jn {iter:Expr}{a:E}{c:CE} (h:al n c iter=some a):∀ x,foldedSetIterable iter env x=pure x:=by
 intro x
 have hk:=dk h
 cases iter <;> first | rfl | exact ft hk
theorem kj {elt target iter:Expr}{ifs:List Expr}{scope:Scope}{pos pos':Pos}{use:Option (Value→Sem Unit)}{tg:List Nat}{one:Bool}{cs:List E}{x' it':E}{ys:List V}{frm:List (Option Nat)}{v:V}{src:Src} {τ:Sto}{k:Nat}
  (IH:bE g c0 call r n) (IT:k9 g c0 call r n) (N:aq (c0.sub names) env A) (hA:bU g A (r + 1)) (T:At g env as fr σ s)
  (h1:al n (c0.sub names) iter=some it') (ht:tgt (c0.sub scope.names) target=some (tg,one)) (h2:aP (al n (c0.sub scope.names)) ifs=some cs) (h3:al n (c0.sub scope.names) elt=some x')
  (hf:ff (c0.sub names) scope=some frm) (ho:nO scope=true) (e1:evE call it' fr σ=.ok v τ) (hs:gK v=some src) (hl:∀ l,src=.live l→∃ xs,getL τ l=some xs)
  (run:d6 tg one (dS (la call cs)) (evE call x') src k 0 (dU fr frm) τ []=.ok ys σ') (hys:ys.length ≤ 16777216)
  (fin:∀ as' h' tk C D m,aF [env.locals] as s.heap (as' ++ [D]) h'→Rel g (as' ++ [D]) (σ' ++ [.lst ys]) h'→az g env (as' ++ [D]) fr h'→as'.length=σ'.length→h'.Ns C m→C ∉ (as' ++ [D])→C ≠ env.locals →
   (∀ x c,env.cells.lookup x=some c→c ≠ C)→g.b.get? C=none→s.heap.get? C=none→compPost (model g.prog g.w) A X use Q (.ref D) C (.ok .next) { s with heap:=h',toks:=tk }) :
  wpAny (model g.prog g.w) A (comprehension (.ListComp elt [⟨target,iter,ifs,0⟩] scope pos) scope env pos' (newList []) false (eval iter env) use) Q X s:=by
 obtain ⟨hk,hnd⟩:=gb ho
 have hclos:=pM (gj N T.F hf)
 refine wpAny_comprehension_free (gs:=[]) rfl (jn h1) hclos hk (fun x hx hx2=>?_) ?_
 ·obtain ⟨i,hi,rfl⟩:=List.getElem_of_mem hx
  refine ba hnd (i:=i) ?_
  rw [List.getElem?_eq_getElem hi]
  exact congrArg some (Prod.ext rfl hx2)
 refine IH names iter it' h1 env A X s as fr σ τ v _ N hA T e1 fun x as1 k1 tk1 st1 R1 F1 r1=>?_
 have T1:At g env as1 fr τ { s with heap:=k1,toks:=tk1 }:=⟨F1,R1⟩
 refine lJ T1 r1 hs hl fun o T2 it0=>?_
 refine wpAny_newObj_type (wpAny_newFunctionEnv (dH hf) (by simp) (fun h' hns hsb=>?_) hk)
 dsimp only at hns hsb ⊢
 generalize hH2:(k1.push o).push { cls:=.type "list",dict:=none,data:=.seq ([]:List Value).toArray }=H2 at hns hsb ⊢
 have sz1:(k1.push o).objs.size=k1.objs.size + 1:=Heap.size_push ..
 have sz2:H2.objs.size=k1.objs.size + 2:=by rw [← hH2,Heap.size_push,sz1]
 have kk:∀ (b:Addr) (ob:Obj),k1.get? b=some ob→h'.get? b=some ob:=fun b ob e =>
  hsb.extBut b ob (Nat.ne_of_lt (by have:=Heap.lt_size e; rw [sz2]; exact Nat.lt_of_lt_of_le this (by lia))) (Heap.get?_push_of_some _ (hH2 ▸ Heap.get?_push_of_some _ (Heap.get?_push_of_some _ e)))
 have kI:∀ ob,(k1.push o).get? k1.objs.size=some ob→h'.get? k1.objs.size=some ob:=fun ob e =>
  hsb.extBut _ ob (by rw [sz2]; exact Nat.ne_of_lt (by lia)) (Heap.get?_push_of_some _ (hH2 ▸ Heap.get?_push_of_some _ e))
 have hD:h'.get? (k1.push o).objs.size=some { cls:=.type "list",dict:=none,data:=.seq ([]:List Value).toArray } :=
  hsb.extBut _ _ (by rw [sz1,sz2]; exact Nat.ne_of_lt (by lia)) (Heap.get?_push_of_some _ (hH2 ▸ Heap.get?_push_size _ rfl))
 have freshK:∀ b:Addr,k1.objs.size ≤ b→k1.get? b=none:=fun b hb=>by
  cases e:k1.get? b with
  | none=>rfl
  | some ob=>exact absurd (Heap.lt_size e) (Nat.not_lt.mpr hb)
 have fI:=freshK k1.objs.size (Nat.le_refl _)
 have fD:=freshK (k1.push o).objs.size (by rw [sz1]; exact Nat.le_succ _)
 have fC:=freshK H2.objs.size (by rw [sz2]; exact Nat.le_add_right _ _)
 have bnone:∀ b,k1.get? b=none→g.b.get? b=none:=fun b hb=>by
  cases e:g.b.get? b with
  | none=>rfl
  | some ob=>have:=R1.base _ _ e; rw [hb] at this; cases this
 have Lne:∀ b,k1.get? b=none→b ≠ env.locals:=fun b hb q=>by subst q; obtain ⟨ob,e⟩:=F1.there; rw [hb] at e; cases e
 have cne:∀ b,k1.get? b=none→∀ y c,env.cells.lookup y=some c→c ≠ b:=fun b hb y c hc q=>by
  subst q; obtain ⟨cv,ob,e,_⟩:=(F1.offc _ _ hc).2.2; rw [hb] at e; cases e
 have nin:∀ b,k1.get? b=none→b ∉ as1:=fun b hb q=>by obtain ⟨ob,e,_⟩:=R1.there q; rw [hb] at e; cases e
 have hCb:g.b.objs.size ≤ H2.objs.size:=by
  obtain ⟨ob,e⟩:=F1.there
  have h4:=Heap.lt_size e
  have h5:=F1.above
  rw [sz2]
  exact Nat.le_trans h5 (Nat.le_trans (Nat.le_of_lt h4) (Nat.le_add_right _ _))
 obtain ⟨Fc,Nc⟩:=n9 (s:={ s with heap:=k1,toks:=tk1 }) T1 N hf ho fC hCb kk hns
 have hcl:∀ x a,(ig env scope.names []).lookup x=some a→env.cells.lookup x=some a:=dQ scope.names [] (fun x a e=>by cases e)
 have Z:CX g env (compEnvC scope (ig env scope.names []) H2.objs.size env) { s with heap:=k1,toks:=tk1 } k1.objs.size (k1.push o).objs.size :=
  ⟨Lne _ fI,Lne _ fD,Lne _ fC,by show _ ≠ H2.objs.size; rw [sz2]; exact Nat.ne_of_lt (by lia),by show _ ≠ H2.objs.size; rw [sz1,sz2]; exact Nat.ne_of_lt (by lia),by rw [sz1]; exact Nat.ne_of_lt (Nat.lt_succ_self _),
   fun y c hc=>⟨cne _ fI y c hc,cne _ fD y c hc,cne _ fC y c hc⟩,fun y c hc=>⟨cne _ fI y c (hcl _ _ hc),cne _ fD y c (hcl _ _ hc)⟩,bnone _ fI,bnone _ fD,bnone _ fC,fI,fD,fC⟩
 have x0:aF [] as1 k1 as1 h':=aF.of_ext kk
 have K0:=R1.keep0 x0
 have C0:CI g env (compEnvC scope (ig env scope.names []) H2.objs.size env) fr (dU fr frm) { s with heap:=k1,toks:=tk1 } as1 src k1.objs.size (k1.push o).objs.size 0 [] as1 τ h' :=
  ⟨x0.grow (by simp),R1.ext kk,T1.frame x0,Fc,it0.keep ⟨fun _ _ e=>e,fun b ob e im=>by
   by_cases hb:b=k1.objs.size
   ·subst hb; exact kI ob e
   ·have:k1.get? b=some ob:=by
     have hlt:=Heap.lt_size e
     rw [sz1] at hlt
     have hlt':b < k1.objs.size:=Nat.lt_of_le_of_ne (Nat.le_of_lt_succ hlt) hb
     cases e':k1.get? b with
     | some ob'=>have:=aA k1 o b ob' e'; rw [e] at this; cases this; rfl
     | none=>rw [Heap.get?_push_ne _ _ _ (Nat.ne_of_lt hlt')] at e; rw [e] at e'; cases e'
    exact kk b ob this⟩ kI,⟨_,⟨0,hD⟩,by rw [ah]⟩,nin _ fI,nin _ fD⟩
 have main:codeAny (model g.prog g.w) A (.compLoop (.ListComp elt [⟨target,iter,ifs,0⟩] scope pos) 0 (.ref k1.objs.size) (.ref (k1.push o).objs.size) (compEnvC scope (ig env scope.names []) H2.objs.size env))
   (compPost (model g.prog g.w) A X use Q (.ref (k1.push o).objs.size) H2.objs.size) { s with heap:=h',toks:=tk1 }:=by
  refine n0 (s:={ s with heap:=k1,toks:=tk1 }) IH IT Z Nc hA (dH hf) hys ht h2 h3 run .zero C0 fun frc' i' as2 h3' h4' tk4 C kk4=>?_
  have hth:=C.it.there
  have hni:∀ ob,h3'.get? k1.objs.size=some ob→¬ Imm ob:=fun ob e=>by obtain ⟨o',e',q⟩:=hth; rw [e] at e'; cases e'; exact q
  obtain ⟨K4,R4⟩:=C.R.other kk4 C.offI Z.Ib hni
  have F4:=C.F.alter K4 kk4 (Ne.symm Z.IL) (fun y c q=>(Z.ce _ _ q).1) (fun a ha=>.inl ha)
  obtain ⟨items,p1,p2⟩:=C.acc
  have p1':=p1.at fun ob e=>kk4 _ ob (Ne.symm Z.ID) e
  have p2':=ah.keep K4 _ _ p2
  have S4:aF [env.locals] as1 k1 as2 h4':=by
   have a2:aF [env.locals,k1.objs.size] as2 h3' as2 h4':=⟨⟨[],by simp,by simp⟩,fun b ob e hb _=>kk4 b ob (by intro q; subst q; simp at hb) e⟩
   have a1:aF [env.locals,k1.objs.size] as1 k1 as2 h3':=C.st.grow (by intro a ha; simp at ha; subst ha; simp)
   exact (a1.trans a2 R4.nd (by intro a ha; simp at ha; rcases ha with rfl | rfl; exact F4.off; exact C.offI)).shrink (by
    intro a ha; simp at ha; rcases ha with rfl | rfl
    ·exact .inl (by simp)
    ·exact .inr fI)
  obtain ⟨S5,R5,F5⟩:=T1.pushN (a:=(k1.push o).objs.size) (o:=.lst ys) S4 R4 F4 fD C.offD Z.Db Z.DL (fun y c q=>(Z.ce _ _ q).2.1) (dy p1') ⟨items,p1',ah.keep ⟨fun j cc e=>by rw [List.getElem?_append_left (List.getElem?_eq_some_iff.mp e).1]; exact e,fun _ _ e _=>e⟩ _ _ p2',hys⟩
  have hCns:∃ m,h4'.Ns H2.objs.size m:=by
   obtain ⟨m,hm,_⟩:=C.Fc.ns
   exact ⟨m,hm.at' fun ob e=>kk4 _ ob (Ne.symm Z.IC) e⟩
  obtain ⟨m,hm⟩:=hCns
  refine fin as2 h4' tk4 H2.objs.size (k1.push o).objs.size m (ao st1 S5 R5 F5) R5 F5 R4.len hm ?_ Z.CL (fun y c q=>(Z.ce _ _ q).2.2) Z.Cb ?_
  ·intro q
   rcases List.mem_append.mp q with q | q
   ·exact C.Fc.off q
   ·exact Z.DC (List.mem_singleton.mp q).symm
  ·cases e:s.heap.get? H2.objs.size with
   | none=>rfl
   | some ob =>
    have:=st1.ext _ _ e (by intro q; exact Z.CL (List.mem_singleton.mp q)) (fun q=>nin _ fC (st1.mem q))
    rw [fC] at this; cases this
 exact codeAny_compStart_list main (wL (s:={ s with heap:=h',toks:=tk1 }) C0.R C0.it main)
theorem mM {tg:List Nat}{one:Bool}{it' x':E}{cs:List E}{frm:List (Option Nat)}{v:V} (ev:evE call (.comp tg one it' cs x' frm) fr σ=.ok v σ') :
  ∃ u τ src k ys σ2,evE call it' fr σ=.ok u τ ∧ gK u=some src ∧ (∀ l,src=.live l→∃ xs,getL τ l=some xs) ∧ d6 tg one (dS (la call cs)) (evE call x') src k 0 (dU fr frm) τ []=.ok ys σ2 ∧ cQ ys σ2=.ok v σ' :=
 aD ev fun u τ e1 e2=>bO e2 fun ys σ2 e3 e4=>rO e3 (fun q=>nomatch q) fun src k hs hl e=>⟨u,τ,src,k,ys,σ2,e1,hs,hl,e,e4⟩
theorem yv {elt target iter:Expr}{ifs:List Expr}{scope:Scope}{p:Pos}{tg:List Nat}{one:Bool}{cs:List E}{x' it':E}{frm:List (Option Nat)} (IH:bE g c0 call r n) (IT:k9 g c0 call r n)
  (h1:al n (c0.sub names) iter=some it') (ht:tgt (c0.sub scope.names) target=some (tg,one)) (h2:aP (al n (c0.sub scope.names)) ifs=some cs) (h3:al n (c0.sub scope.names) elt=some x')
  (hf:ff (c0.sub names) scope=some frm) (ho:nO scope=true):aO g c0 call r names (.ListComp elt [⟨target,iter,ifs,0⟩] scope p) (.comp tg one it' cs x' frm):=fun env A X s as fr σ σ' v Q N hA T ev hQ=>by
 obtain ⟨u,τ,src,k,ys,σ2,e1,e2,e3,e4,e5⟩:=mM ev
 have hlen:=eA e5
 cases (if_pos hlen).symm.trans e5
 rw [eval_ListComp]
 refine kj (use:=none) IH IT N hA T h1 ht h2 h3 hf ho e1 e2 e3 e4 hlen fun as' h' tk C D m st R' F' hl hm hC hCL hcc hCb hCn=>⟨m,hm,fun h2 hs2=>?_⟩
 have kk:∀ (b:Addr) (o:Obj),b ≠ C→h'.get? b=some o→h2.get? b=some o:=fun b o hb e=>by rw [hs2.2 b hb]; exact e
 obtain ⟨K2,R2⟩:=R'.other kk hC hCb (jO hm)
 have F2:=F'.alter K2 kk (Ne.symm hCL) hcc (fun a ha=>.inl ha)
 have a2:aF [C,env.locals] (as' ++ [D]) h' (as' ++ [D]) h2:=⟨⟨[],(List.append_nil _).symm,fun _ q=>nomatch q⟩,fun b ob e hb _=>kk b ob (fun q=>hb (q ▸ .head _)) e⟩
 have S2:aF [env.locals] as s.heap (as' ++ [D]) h2:=((st.grow fun a ha=>.tail _ ha).trans a2 R2.nd fun a ha=>(List.mem_cons.mp ha).elim (fun q=>q ▸ hC) fun q=>(List.mem_singleton.mp q) ▸ F2.off).shrink fun a ha=>(List.mem_cons.mp ha).elim (fun q=>.inr (q ▸ hCn)) .inl
 refine hQ _ _ h2 tk S2 R2 F2 ?_
 rw [RepV]; exact ⟨D,rfl,by rw [← hl]; simp⟩
end
end Mine
namespace Mine
open PySem PyProof.Rows PySem.W
section
variable {prog:Program}{w:World}{A:Around}{E:Value→Shared→Prop}{s:Shared}
theorem jG {Q:List Value→Shared→Prop}{r:Addr}{a b c:Int}{t u v:Tok}{n:Nat} (hh:A.handled=none) (hr:IsRange s.heap r a b c t u v) (hsmall:Builtin.Range.small a b c=true)
  (hn:Builtin.Range.rangeSize a b c=n) (hlen:n ≤ 2 ^ 24)
  (hQ:∀ h' tk acc,(∀ b o,s.heap.get? b=some o→h'.get? b=some o)→ItemsOf (fun i v=>∃ t,v=.int (a + i * c) t) acc n→Q acc.toList { s with heap:=h',toks:=tk }) :
  wpAny (model prog w) A (collect (.ref r)) Q E s:=by
 unfold collect
 refine wpAny_bind (wpAny_runValue (codeAny_builtin F.entry_proto_collect ?_))
 rw [Around.under_plainId F.plain_proto_collect _]
 show wpAny _ A.in1 (newList [] >>= fun l=>again (.builtin "list.__iadd__" ⟨[l,.ref r],[]⟩)) _ _ s
 refine wpAny_bind (wpAny_newObj_type ?_)
 refine wpAny_pure ⟨plainId_quiet F.plain_list_iadd _,codeAny_builtin F.entry_list_iadd ?_⟩
 rw [Around.under_plainId F.plain_list_iadd _]
 show wpAny _ A.in1 (Builtin.List.listExtendWith (.ref s.heap.objs.size) (.ref r) (.ref s.heap.objs.size)) _ _ _
 refine wpAny_extend_range (R:=fun r s'=>match r with
   | .ok (.ret v)=>wpAny (model prog w) A (match v with
    | .ref a=>(do let o ← load a; match o.data with | .seq xs _=>pure xs.toList | _=>unsupported "internal:collect")
    | _=>unsupported "internal:collect") Q E s'
   | .ok _=>False
   | .error e=>E e s') (s:={ s with heap:=s.heap.push { cls:=.type "list",data:=.seq #[] } }) hh (Heap.get?_push_of_some _ hr) hsmall hn hlen _ _ 0 (Heap.get?_push_size _ rfl) fun h' tk acc' c' hk hS' hacc=>?_
 show wpAny _ A (load s.heap.objs.size >>= _) _ _ _
 refine wpAny_bind (wpAny_load hS' ?_)
 exact wpAny_pure (hQ h' tk acc' (fun b o e=>hk b o (Nat.ne_of_lt (Heap.lt_size e)) (Heap.get?_push_of_some _ e)) hacc)
variable {h₀:Heap}{L:Addr}{m:Str→Option Value}{news:List (Addr × Obj)}{Q:Value→Shared→Prop}
theorem jP {kz:List Int}{f r:Addr}{a b c:Int}{t u v:Tok}{n:Nat} (F:Fr h₀ L s.heap m) (N:News h₀ L s.heap news) (hh:A.handled=none) (hr:IsRange s.heap r a b c t u v) (hsmall:Builtin.Range.small a b c=true)
  (hn:Builtin.Range.rangeSize a b c=n) (h64:n < 64) (hlen:kz.length=n)
  (turn:∀ (i:Nat) (t:Tok) (k:Int),i < n→kz[i]?=some k→∀ (h:Heap) (tk:Nat) (own:List (Addr × Obj)),Fr h₀ L h m→News h₀ L h (news ++ own) →
   wpAny (model prog w) A.in1.in1 (call (.ref f) [.int (a + i * c) t]) (KskEnd h₀ L m (news ++ own) k { s with heap:=h,toks:=tk }) (fun _ _=>False) { s with heap:=h,toks:=tk })
  (h:∀ (D:Addr) (h':Heap) (tk:Nat) (vs:List Value) (out:Array Value) (e:Nat),Fr h₀ L h' m→News h₀ L h' ((D,seqObj "list" out e) :: news)→s.heap.get? D=none→vs.length=n→(∀ (i:Nat) (x:Value),vs[i]?=some x→∃ t,x=.int (a + i * c) t)→KskOut false kz vs out.toList→Q (.ref D) { s with heap:=h',toks:=tk }) :
  wpAny (model prog w) A (call (.builtin "sorted") [.ref r] [(Str.ofString "key",.ref f)]) Q E s:=by
 refine call_function_entry_kw kind_sorted plain_sorted entry_sorted (ksk_s1 _ _) ?_
 unfold Builtin.«sorted»
 refine wpAny_bind (m:=checkCount "sorted" 1 1 _) (wpAny_pure ?_)
 refine wpAny_bind (jG (A:=A.in1) hh hr hsmall hn (by lia) fun h1 tk1 acc hk1 hacc=>?_)
 have hvl:acc.toList.length=n:=by rw [Array.length_toList]; exact hacc.1
 refine wpAny_bind (wpAny_newList ?_ (by rw [hvl,sizeLine_eq]; lia))
 have keep:∀ b o,s.heap.get? b=some o→(h1.push (seqObj "list" acc.toList.toArray 0)).get? b=some o:=fun b o q=>Heap.get?_push_of_some _ (hk1 b o q)
 have hoL:(h1.push (seqObj "list" acc.toList.toArray 0)).get? h1.objs.size=some (seqObj "list" acc.toList.toArray 0):=Heap.get?_push_size _ rfl
 have hL:L < h1.objs.size:=by
  obtain ⟨o,es,ep,e,_⟩:=F.ns; exact Heap.lt_size (hk1 _ _ e)
 have hD:s.heap.get? h1.objs.size=none:=by
  cases e:s.heap.get? h1.objs.size with
  | none=>rfl
  | some o=>exact absurd (Heap.lt_size (hk1 _ _ e)) (Nat.lt_irrefl _)
 refine wpAny_bind (wpAny_holding (wpAny_call_entry_kw slot_list_sort ⟨_,hoL,rfl⟩ entry_list_sort ?body (ksk_l1 _ _)))
 case body =>
  show wpAny (model prog w) A.in1.in1 (Builtin.«list.sort» ⟨[.ref h1.objs.size],[(Str.ofString "key",.ref f)]⟩) _ _ _
  rw [ksk_t1]
  refine ksk_sort (s:={ s with heap:=h1.push (seqObj "list" acc.toList.toArray 0),toks:=tk1 }) (vs:=acc.toList) (F.kept keep) (N.grown keep) hoL (Nat.ne_of_gt hL) (Heap.get?_none_of_le (Nat.le_trans F.above (Nat.le_of_lt hL)))
   (fun p hp q=>by have:=(N p hp).1; rw [q,hD] at this; cases this) (by rw [hlen,hvl]) (by rw [hvl]; exact h64) (fun i x k hx hk g tk own F' N'=>?_) fun h' tk out e F' N' k'=>⟨_,rfl,?_⟩
  ·obtain ⟨t',rfl⟩:=hacc.2 i x (by simpa using hx)
   exact turn i t' k (by have:=(List.getElem?_eq_some_iff.mp hx).1; lia) hk g tk own F' N'
  ·exact wpAny_pure ⟨_,rfl,h _ h' tk acc.toList out e F' N' hD hvl (fun i x hx=>hacc.2 i x (by simpa using hx)) k'⟩
end
structure LX (c:CE) (env:Env) (p:Str) (x:Int) (fr:Fra) (h:Heap):Prop where
 kind:env.scope.kind=.function
 par:∃ m t,h.Ns env.locals m ∧ m p=some (.int x t) ∧ env.kindOf p=some .local
 var:∀ y i v,c.locC? y=some i→env.scope.names.lookup y=some .free→fr[i]?=some (some (.int v))→∃ cc t,env.cells.lookup y=some cc ∧ h.IsCell cc (some (.int v t))
set_option tactic.hygienic true in
set_option backward.match.sparseCases false in
theorem rY {n:Nat}{c:CE}{p:Str}{sc:Scope}{e:Expr}{k:KX} (Ψ:Expr→Prop) (h:oB (n + 1) c p sc e=some k) (H1:∀ y pp,(y == ("__debug__":Str))=false→pa c p sc y=some k→Ψ (.Name y pp))
  (H2:∀ i a pp,some (KX.num i)=some k→Ψ (.Constant (.int i) a pp)) (H3:∀ l op r pp,zb op (oB n c p sc l) (oB n c p sc r)=some k→Ψ (.BinOp l op r pp)):Ψ e:=by
 have h:(match vw e with
  | .const k=>(match k with | .int i=>some (.num i) | _=>none)
  | .name x=>gd (!(x == ("__debug__":Str))) (pa c p sc x)
  | .bin t=>zb t.2.1 (oB n c p sc t.1) (oB n c p sc t.2.2)
  | _=>none)=some k:=h
 cases q:vw e <;> rw [q] at h <;> first | exact nn h | skip
 ·refine (bI q).elim fun pp q=>?_
  rw [q]
  exact H1 _ _ (aX (au h).1) (au h).2
 ·rename_i v
  refine (bI q).elim fun a q=>q.elim fun pp q=>?_
  rw [q]
  cases v <;> first | exact nn h | exact H2 _ _ _ h
 ·refine (bI q).elim fun pp q=>?_
  rw [q]
  exact H3 _ _ _ _ h
theorem uX {fr:Fra}{x z:Int}{a b:Option Int}{f:Int→Int→Option Int}{G:Prop} (h:(a.bind fun p=>b.bind fun q=>f p q)=some z) (k:∀ u v,a=some u→b=some v→f u v=some z→G):G :=
 (a6 h).elim fun u h=>(a6 h.2).elim fun v h'=>k u v h.1 h'.1 h'.2
theorem i5 {α:Type}{P:Prop} [Decidable P] {a b:α} (h:(if P then some a else none)=some b):P ∧ a=b:=by
 by_cases q:P
 ·exact ⟨q,Option.some.inj ((if_pos q).symm.trans h)⟩
 ·exact nn ((if_neg q).symm.trans h)
set_option tactic.hygienic true in
set_option backward.match.sparseCases false in
theorem xH {prog:Program}{w:World}{A:Around}{X:Value→Shared→Prop}{env:Env}{c:CE}{p:Str}{x:Int}{fr:Fra}:∀ (n:Nat) (e:Expr) (k:KX) (z:Int) (s:Shared) (Q:Value→Shared→Prop),oB n c p env.scope e=some k→kxV fr x k=some z→LX c env p x fr s.heap →
  (∀ t tk,Q (.int z t) { s with toks:=tk })→wpAny (model prog w) A (eval e env) Q X s:=by
 intro n
 induction n with
 | zero=>intro e k z s Q h _ _ _; exact nn h
 | succ n ih =>
  intro e k z s Q h hz C hQ
  refine rY (fun e=>wpAny (model prog w) A (eval e env) Q X s) h (fun y pp hd h=>wpAny_Name ?_ hd) (fun i a pp h=>?_) fun l op r pp h=>?_
  ·have h:(match (y == p) with | true=>some .par | false=>gd (env.scope.names.lookup y == some .free && !(y == ("__classdict__":Str))) ((c.locC? y).map .var))=some k:=h
   cases hy:(y == p) <;> rw [hy] at h
   ·have h1:=ag (au h).1
    refine (bA (au h).2).elim fun i h3=>?_
    have hf:env.scope.names.lookup y=some .free:=eq_of_beq h1.1
    rw [← h3.2] at hz
    refine C.var y i z h3.1 hf ?_ |>.elim fun cc hc=>hc.elim fun t hc=>wpAny_loadName_free C.kind hf hc.1 hc.2 (hQ t s.toks) (aX h1.2)
    have hz:(match fr[i]? with | some (some (.int v))=>some v | _=>none)=some z:=hz
    split at hz
    ·rename_i v hv
     rw [hv,Option.some.inj hz]
    ·exact nn hz
   ·rw [← Option.some.inj h] at hz
    refine C.par.elim fun m hp=>hp.elim fun t hp=>?_
    rw [show y=p from eq_of_beq hy]
    exact wpAny_loadName_local C.kind hp.2.2 hp.1 hp.2.1 (Option.some.inj (show some x=some z from hz) ▸ hQ t s.toks)
  ·rw [← Option.some.inj h] at hz
   rw [Option.some.inj (show some i=some z from hz)]
   exact wpAny_Constant_int (hQ _ _)
  ·cases op <;> first | exact nn h | skip
   ·refine (dO h).elim fun a h=>h.elim fun b h=>?_
    rw [← h.2.2] at hz
    refine (a6 (show ((kxV fr x a).bind fun p=>(kxV fr x b).map fun q=>p + q)=some z from hz)).elim fun u h3=>(bA h3.2).elim fun v h4=>?_
    rw [← h4.2] at hQ
    exact wpAny_BinOp (ih l a u s _ h.1 h3.1 C fun t tk=>ih r b v { s with toks:=tk } _ h.2.1 h4.1 C fun t2 tk2=>PyProof.Rows.add_int (hQ _ _))
   ·refine (dO h).elim fun a h=>h.elim fun b h=>?_
    rw [← h.2.2] at hz
    refine uX (fr:=fr) (x:=x) (show ((kxV fr x a).bind fun p=>(kxV fr x b).bind fun q=>if nY p q then some (p * q) else none)=some z from hz) fun u v h3 h4 h5=>?_
    rw [← (i5 h5).2] at hQ
    exact wpAny_BinOp (ih l a u s _ h.1 h3 C fun t tk=>ih r b v { s with toks:=tk } _ h.2.1 h4 C fun t2 tk2=>PyProof.Rows.mul_int (hQ _ _) (uI (i5 h5).1))
   ·refine (dO h).elim fun a h=>h.elim fun b h=>?_
    rw [← h.2.2] at hz
    refine uX (fr:=fr) (x:=x) (show ((kxV fr x a).bind fun p=>(kxV fr x b).bind fun q=>if q ≠ 0 then some (p.fmod q) else none)=some z from hz) fun u v h3 h4 h5=>?_
    rw [← (i5 h5).2] at hQ
    exact wpAny_BinOp (ih l a u s _ h.1 h3 C fun t tk=>ih r b v { s with toks:=tk } _ h.2.1 h4 C fun t2 tk2=>PyProof.Rows.mod_int (i5 h5).1 (hQ _ _))
end Mine
namespace Mine
open PySem PyProof.Rows PySem.W
set_option tactic.hygienic true in
theorem dG:∀ {ns:List Str}{xs:List Value}{n:Str},n ∈ ns→ns.length=xs.length→((ns.zip xs).lookup n).isNone=false
 | [],_,_,h,_=>by cases h
 | m :: ns,[],_,_,h=>by cases h
 | m :: ns,x :: xs,n,h,hl=>by
  rw [List.zip_cons_cons,List.lookup_cons]
  split
  ·rfl
  ·rename_i q
   rcases List.mem_cons.mp h with rfl | h
   ·simp at q
   ·exact dG h (by simpa using hl)
theorem iH {α:Type}{n:Str}:∀ {l r:List (Str × α)},(∀ p ∈ l,p.1 ≠ n)→(l ++ r).lookup n=r.lookup n
 | [],_,_=>rfl
 | p :: l,r,h=>by
  rw [List.cons_append]
  obtain ⟨a,b⟩:=p
  rw [List.lookup_cons]
  have:(n == a)=false:=by
   cases q:n == a with
   | false=>rfl
   | true=>exact absurd (eq_of_beq q).symm (h _ (.head _))
  rw [this]
  exact iH fun p hp=>h p (.tail _ hp)
theorem nq:∀ (ns pre:List Str) (xs pxs:List Value),(pre ++ ns).Nodup→ns.length=xs.length→pre.length=pxs.length→ns.filterMap (fun n=>((pre.zip pxs ++ ns.zip xs).lookup n).map fun v=>(n,v))=ns.zip xs
 | [],_,xs,_,_,_,_=>rfl
 | n :: ns,pre,[],_,_,hl,_=>by cases hl
 | n :: ns,pre,x :: xs,pxs,nd,hl,hp=>by
  have h1:((pre.zip pxs ++ (n :: ns).zip (x :: xs)).lookup n)=some x:=by
   rw [iH,List.zip_cons_cons,List.lookup_cons]
   ·simp
   ·intro p hp' q
    have:=(List.of_mem_zip hp').1
    rw [q] at this
    exact (List.nodup_append.mp nd).2.2 n this n (.head _) rfl
  rw [List.filterMap_cons,h1]
  simp only [Option.map_some,List.zip_cons_cons]
  have:=nq ns (pre ++ [n]) xs (pxs ++ [x]) (by simpa using nd) (by simpa using hl) (by simp [hp])
  rw [List.zip_append hp] at this
  simp only [List.append_assoc] at this
  exact congrArg _ this
theorem iF {fd:FuncData}{ns:List Arg}{d:List Expr} (hp:fd.params=⟨[],ns,none,[],[],none,d⟩) (hd:fd.defaults=.none) (nd:(ns.map (·.arg)).Nodup) {xs:List Value} (hl:ns.length=xs.length) :
  bindArgs fd ⟨xs,[]⟩=pure ((ns.map (·.arg)).zip xs):=by
 have hl':(ns.map (·.arg)).length=xs.length:=by simpa using hl
 have hm:(ns.map (·.arg)).filter (fun n=>(((ns.map (·.arg)).zip xs).lookup n).isNone)=[]:=by
  rw [List.filter_eq_nil_iff]
  intro a ha
  rw [dG ha hl']; simp
 have hm':((ns.map (·.arg)).take (ns.map (·.arg)).length).filter (fun n=>(((ns.map (·.arg)).zip xs).lookup n).isNone)=[]:=by
  rw [List.take_length]; exact hm
 have hzz:=nq (ns.map fun (x:Arg)=>x.arg) [] xs [] (by simpa using nd) hl' rfl
 unfold bindArgs
 rw [hp,hd]
 have hdec:decide (xs.length > (ns.map (·.arg)).length)=false:=decide_eq_false (by lia)
 refine (if_neg (c:=(decide (xs.length > (ns.map (·.arg)).length) && true)=true) (fun q=>by rw [hdec] at q; exact Bool.noConfusion q)).trans ?_
 rw [show ∀ k,List.drop k ((none:Option (Array Value)).getD #[]).toList=[] from fun k=>List.drop_nil]
 refine (if_neg (c:=(!(((ns.map (·.arg)).take (ns.map (·.arg)).length).filter (fun n=>(((ns.map (·.arg)).zip xs).lookup n).isNone)).isEmpty)=true) (fun q=>by rw [hm'] at q; exact Bool.noConfusion q)).trans ?_
 rw [List.zip_nil_right]
 refine congrArg (fun l=>(pure l:Sem (List (Str × Value)))) (Eq.trans (congrArg (List.filterMap _) (List.append_nil (ns.map fun (x:Arg)=>x.arg))) hzz)
theorem gT {α:Type} (p:Int × α):∀ l:List (Int × α),(oz p l).Perm (p :: l)
 | []=>.refl _
 | q :: r=>by
  rw [ue]
  split
  ·exact .refl _
  ·exact ((gT p r).cons q).trans (.swap p q r)
theorem fo {α:Type}:∀ l:List (Int × α),(fJ l).Perm l
 | []=>.refl _
 | p :: r=>(gT p _).trans ((fo r).cons p)
set_option tactic.hygienic true in
theorem gN {α:Type} (p:Int × α):∀ l:List (Int × α),l.Pairwise (fun a b=>a.1 ≤ b.1)→(oz p l).Pairwise (fun a b=>a.1 ≤ b.1)
 | [],_=>List.pairwise_singleton _ _
 | q :: r,h=>by
  rw [ue]
  have h':=List.pairwise_cons.mp h
  split
  ·rename_i hlt
   refine List.pairwise_cons.mpr ⟨fun b hb=>?_,h⟩
   rcases List.mem_cons.mp hb with e | e
   ·rw [e]; lia
   ·have:=h'.1 b e; lia
  ·rename_i hge
   refine List.pairwise_cons.mpr ⟨fun b hb=>?_,gN p r h'.2⟩
   rcases List.mem_cons.mp ((gT p r).mem_iff.mp hb) with e | e
   ·rw [e]; lia
   ·exact h'.1 b e
theorem fS {α:Type}:∀ l:List (Int × α),(fJ l).Pairwise (fun a b=>a.1 ≤ b.1)
 | []=>.nil
 | p :: r=>gN p _ (fS r)
theorem nX {α:Type}{l ps:List (Int × α)} (hn:(l.map (·.1)).Nodup) (hp:ps.Perm l) (hs:ps.Pairwise (fun a b=>a.1 ≤ b.1)):ps=fJ l:=by
 refine List.Perm.eq_of_pairwise (le:=fun a b=>a.1 ≤ b.1) (fun a b ha hb h1 h2=>?_) hs (fS l) (hp.trans (fo l).symm)
 have ha':=hp.mem_iff.mp ha
 have hb':=(fo l).mem_iff.mp hb
 have e:a.1=b.1:=Int.le_antisymm h1 h2
 obtain ⟨i,hi,rfl⟩:=List.getElem_of_mem ha'
 obtain ⟨j,hj,rfl⟩:=List.getElem_of_mem hb'
 have:i=j:=(List.getElem_inj hn (h₀:=by simpa using hi) (h₁:=by simpa using hj)).mp (by simpa using e)
 subst this; rfl
theorem yI {α β:Type}{R:Int × α→Int × β→Prop} (hR:∀ a b,R a b→a.1=b.1) {p:Int × α}{q:Int × β} (h:R p q) {l:List (Int × α)}{m:List (Int × β)} (f:F2 R l m):F2 R (oz p l) (oz q m):=by
 induction f with
 | nil=>exact .cons h .nil
 | @cons a b l m x r ih =>
  show F2 R (if p.1 < a.1 then p :: a :: l else a :: oz p l) (if q.1 < b.1 then q :: b :: m else b :: oz q m)
  rw [hR p q h,hR a b x]
  split
  ·exact .cons h (.cons x r)
  ·exact .cons x ih
theorem wp {α β:Type}{R:Int × α→Int × β→Prop} (hR:∀ a b,R a b→a.1=b.1) {l:List (Int × α)}{m:List (Int × β)} (f:F2 R l m):F2 R (fJ l) (fJ m):=by
 induction f with
 | nil=>exact .nil
 | cons x _ ih=>exact yI hR x ih
theorem ya {α β:Type}{R:α→β→Prop} (ks:List Int) {l:List α}{m:List β} (f:F2 R l m):F2 (fun (a:Int × α) (b:Int × β)=>a.1=b.1 ∧ R a.2 b.2) (ks.zip l) (ks.zip m):=by
 induction f generalizing ks with
 | nil=>rw [List.zip_nil_right,List.zip_nil_right]; exact .nil
 | cons x _ ih =>
  cases ks with
  | nil=>exact .nil
  | cons k ks=>exact .cons ⟨rfl,x⟩ (ih ks)
theorem yj {α β α' β':Type}{R:α→β→Prop}{R':α'→β'→Prop}{f:α→α'}{g:β→β'} (h:∀ a b,R a b→R' (f a) (g b)) {l:List α}{m:List β} (r:F2 R l m):F2 R' (l.map f) (m.map g):=by
 induction r with
 | nil=>exact .nil
 | cons x _ ih=>exact .cons (h _ _ x) ih
theorem sf {ps:Arguments}{p:Str} (h:AQ ps=some p):∃ a,ps=⟨[],[a],none,[],[],none,[]⟩ ∧ a.arg=p:=by
 obtain ⟨p1,p2,p3,p4,p5,p6,p7⟩:=ps
 rcases p2 with _ | ⟨a,_ | ⟨b,p2⟩⟩
 ·exact nn h
 ·have h0:=au h
  have h1:=ag h0.1
  have h2:=ag h1.2
  have h3:=ag h2.2
  have h4:=ag h3.2
  have h5:=ag h4.2
  exact ⟨a,by rw [show p1=[] from List.isEmpty_iff.mp h1.1,show p3=none from Option.isNone_iff_eq_none.mp h2.1,show p4=[] from List.isEmpty_iff.mp h3.1,show p5=[] from List.isEmpty_iff.mp h4.1,show p6=none from Option.isNone_iff_eq_none.mp h5.1,show p7=[] from List.isEmpty_iff.mp h5.2],Option.some.inj h0.2⟩
 ·exact nn h
section
variable {g:Cfg}{K:Frag}{c0:CE}{fa:Nat→Option Addr}{call:Nat→List V→Sto→RE}{env:Env}{A:Around}{X:Value→Shared→Prop}{s:Shared}{as:List Addr}{fr:Fra} {σ σ':Sto}{r n:Nat}
 {names:List (Str × NameKind)}{Q:Value→Shared→Prop}{v:V}{sc:Scope}{body:Expr}{lp:Pos}
noncomputable def yT (env:Env) (a:Arg) (body:Expr) (sc:Scope) (pm:Value) (c':Addr) (ctv:Value):Obj :=
 kla_obj "<lambda>" (env.qual ++ "<lambda>") ⟨[],[a],none,[],[],none,[]⟩ body sc (ig env sc.names []) pm c' ctv
theorem zm {a:Arg}{ca:Addr}{frm:List (Option Nat)} (G:bC g K c0 fa) (N:aq (c0.sub names) env A) (T:At g env as fr σ s) (hl:c0.lam=some ca) (ht:σ[1]?=some (.tab false)) (hf:ff (c0.sub names) sc=some frm)
  (hQ:∀ (f:Addr) (h':Heap) (tk:Nat) (pm:Value) (c':Addr) (ctv:Value),aF [env.locals] as s.heap as h'→Rel g as (σ.set 1 (.tab true)) h'→az g env as fr h'→h'.get? f=some (yT env a body sc pm c' ctv)→h'.CodeRec (.ref c') (env.qual ++ "<lambda>")→Q (.ref f) { s with heap:=h',toks:=tk }) :
  wpAny (model g.prog g.w) A (eval (.Lambda ⟨[],[a],none,[],[],none,[]⟩ body sc lp) env) Q X s:=by
 obtain ⟨mg,Tg,C,_,hB,hne,_⟩:=G.lam ca hl
 have h1l:1 < as.length:=by rw [T.R.len]; exact (List.getElem?_eq_some_iff.mp ht).1
 have ha1:as[1]?=some as[1]:=List.getElem?_eq_getElem h1l
 obtain ⟨hP1,ps,hps,hps0⟩:=T.R.obj 1 _ _ ha1 ht
 rw [hP1] at ha1 hps
 rw [hps0 rfl] at hps
 have hPas:g.tab ∈ as:=List.mem_of_getElem? ha1
 refine kla_eval rfl (kla_makeFunction (mg:=mg) (pM (gj N T.F hf)) T.F.glob (Tg.keeps T.R.base) (N.code ca hl) (C.keeps T.R.base) hps trivial rfl hne (hB.keeps T.R.base) fun c' ctv h' tk hx hge hlt hrec htb=>?_)
 generalize hO:kla_obj "<lambda>" (env.qual ++ "<lambda>") ⟨[],[a],none,[],[],none,[]⟩ body sc (ig env sc.names []) ((mg "__name__").getD .none) c' ctv=ob
 have hk:∀ (b:Addr) (o:Obj),b ≠ g.tab→s.heap.get? b=some o→(h'.push ob).get? b=some o:=fun b o hb e=>Heap.get?_push_of_some _ (hx b o hb e)
 have KK:cR as s.heap as (h'.push ob):=⟨fun _ _ e=>e,fun b o e hi=>hk b o (fun q=>by
  subst q; rw [hps] at e; cases e; rcases hi.1 with q | q | ⟨_,_,q,_⟩ <;> cases q) e⟩
 have R':Rel g as (σ.set 1 (.tab true)) (h'.push ob):=by
  refine ⟨fun b o e=>hk b o (fun q=>by subst q; rw [T.R.new _ hPas] at e; cases e) (T.R.base b o e),by rw [List.length_set]; exact T.R.len,T.R.nd,T.R.new,fun i b o e1 e2=>?_,T.R.hnd.keep KK⟩
  by_cases hi:i=1
  ·subst hi
   rw [ha1] at e1; cases e1
   rw [List.getElem?_set_self (by rw [← T.R.len]; exact h1l)] at e2; cases e2
   exact ⟨rfl,_,Heap.get?_push_of_some _ htb,fun q=>nomatch q⟩
  ·rw [List.getElem?_set_ne (Ne.symm hi)] at e2
   refine (T.R.obj i b o e1 e2).keep KK fun oc e=>hk b oc (fun q=>?_) e
   subst q
   obtain ⟨hi1,e3⟩:=List.getElem?_eq_some_iff.mp e1
   obtain ⟨hj1,e4⟩:=List.getElem?_eq_some_iff.mp ha1
   exact hi ((List.getElem_inj T.R.nd).mp (e3.trans e4.symm))
 have F':az g env as fr (h'.push ob):=T.F.alter KK hk (fun q=>T.F.off (q ▸ hPas)) (fun x c hc q=>(T.F.offc _ _ hc).1 (q ▸ hPas)) fun _ h=>.inl h
 refine hQ _ _ tk _ c' ctv ⟨⟨[],by simp,by simp⟩,fun b o e _ hb=>hk b o (fun q=>hb (q ▸ hPas)) e⟩ R' F' (by rw [yT,hO]; exact Heap.get?_push_size _ (by rw [← hO]; rfl)) ?_
 obtain ⟨c₂,oc,vs,t,e2,hoc,hd,hv⟩:=hrec
 exact ⟨c₂,oc,vs,t,e2,Heap.get?_push_of_some _ hoc,hd,hv⟩
theorem yP {a:Arg}{frm:List (Option Nat)}{key:KX}{x z:Int}{t:Tok}{f c':Addr}{pm ctv:Value}{h:Heap}{tk:Nat}{m:Str→Option Value}{need:List (Addr × Obj)}{B:Around} (N:aq (c0.sub names) env A) (T:At g env as fr σ s) (lim:g.b.NoLimit) (hroom:B.depth < recursionLimit)
  (hf:ff (c0.sub names) sc=some frm) (hso:nO sc=true) (hgen:sc.isGenerator=false) (hco:sc.isCoroutine=false) (hp:sc.names.lookup a.arg=some .local) (hkey:oB 10 (c0.sub names) a.arg sc body=some key) (hz:kxV fr x key=some z)
  (ho:s.heap.get? f=some (yT env a body sc pm c' ctv)) (hcd:s.heap.CodeRec (.ref c') (env.qual ++ "<lambda>"))
  (F':Fr g.b env.locals h m) (N':News g.b env.locals h need) (hs:∀ p ∈ newsOf g.b env.locals s.heap,p ∈ need) :
  wpAny (model g.prog g.w) B (PySem.call (.ref f) [.int x t]) (KskEnd g.b env.locals m need z { s with heap:=h,toks:=tk }) (fun _ _=>False) { s with heap:=h,toks:=tk }:=by
 have ext:=d5 F' N' hs T.R.base
 obtain ⟨mL,⟨oL,esL,epL,eL,dL,_⟩,_⟩:=T.F.ns
 have hfL:f ≠ env.locals:=fun q=>by rw [q,eL] at ho; cases ho; cases dL
 have hcd':h.CodeRec (.ref c') (env.qual ++ "<lambda>"):=by
  obtain ⟨c₂,oc,vs,t2,e2,hoc,hd,hv⟩:=hcd
  exact ⟨c₂,oc,vs,t2,e2,ext _ _ (fun q=>by rw [q,eL] at hoc; cases hoc; rw [dL] at hd; cases hd) hoc,hd,hv⟩
 obtain ⟨hk,hnd⟩:=gb hso
 refine wpAny_call (kla_callFunE (s:={ s with heap:=h,toks:=tk }) hroom (ext _ _ hfL ho) rfl hco hgen rfl hcd' ?_)
 have hbind:bindArgs (kla_fn "<lambda>" (env.qual ++ "<lambda>") ⟨[],[a],none,[],[],none,[]⟩ body sc (ig env sc.names []) pm (.ref c') ctv) ⟨[.int x t],[]⟩=pure [(a.arg,.int x t)] :=
  iF (ns:=[a]) (d:=[]) rfl rfl (by simp) rfl
 rw [hbind]
 refine wpAny_pure (wpAny_newFunctionEnv (s:={ s with heap:=h,toks:=tk }) (dH hf) (fun y hy=>by rw [List.mem_singleton.mp hy]; exact hp) (fun h₁ hns hsb=>⟨((lim).keeps F'.keep).fresh _ hsb,?_⟩) hk)
 have hk₁:∀ (b:Addr) (o:Obj),h.get? b=some o→h₁.get? b=some o:=fun b o e=>hsb.extBut b o (Nat.ne_of_lt (Heap.lt_size e)) (Heap.get?_push_of_some _ e)
 refine kla_codeExpr (xH (fr:=fr) (x:=x) (p:=a.arg) (c:=c0.sub names) 10 body key z _ _ hkey hz ⟨hk,⟨_,t,hns,by simp,hp⟩,fun y i v h1 h2 h3=>?_⟩ fun t2 tk2=>?_)
 ·have hmem:(y,NameKind.free) ∈ sc.names:=ar h2
  obtain ⟨cc,hcc⟩:=fj sc.names [] y (gj N T.F hf) (.inl hmem)
  have hce:=dQ sc.names [] (fun _ _ e=>nomatch e) y cc hcc
  obtain ⟨k,h4,h5⟩:=jj h1
  obtain ⟨k',h6,h7⟩:=N.get h4
  have hk':k'=.cell ∨ k'=.free:=by
   rcases h7 with q | q
   ·subst q; exact h5
   ·exact .inl q.2
  obtain ⟨c2,cv,e1,⟨oc,e2,e2'⟩,e3⟩:=T.F.cells i y k' h6 hk'
  rw [hce] at e1; cases e1
  obtain ⟨val,rfl,rv⟩:=e3 _ h3
  obtain ⟨tv,rfl⟩:=cg rv
  exact ⟨cc,tv,hcc,oc,hk₁ _ _ (ext _ _ (T.F.offc _ _ hce).2.1 e2),e2'⟩
 ·exact ⟨h₁,tk2,t2,rfl,rfl,F'.kept hk₁,N'.grown hk₁⟩
set_option tactic.hygienic true in
theorem tI {key:KX}{u:V} (e:yZ key fr u σ=.ok v σ'):∃ hi ks,u=.rng 0 hi ∧ hi < 60 ∧ σ[1]?=some (.tab false) ∧ aP (fun (j:Nat)=>kxV fr (j:Int) key) (List.range hi.toNat)=some ks ∧ ks.Nodup ∧ cQ ((fJ (ks.zip (iw 0 hi))).map (·.2)) (σ.set 1 (.tab true))=.ok v σ':=by
 cases u <;> first | exact aw e | skip
 rename_i lo hi
 obtain ⟨⟨rfl,hh⟩,e1⟩:=eM e
 have key2:∀ {o:Option AO}{q:RE},zF o q=.ok v σ'→o=some (.tab false) ∧ q=.ok v σ':=fun {o q} e=>by
  cases o with
  | none=>exact aw e
  | some o=>cases o with
   | tab b=>cases b with
    | false=>exact ⟨rfl,e⟩
    | true=>exact aw e
   | _=>exact aw e
 obtain ⟨h1,e2⟩:=key2 e1
 cases hks:aP (fun (j:Nat)=>kxV fr (j:Int) key) (List.range hi.toNat) with
 | none=>rw [hks] at e2; exact aw e2
 | some ks =>
  rw [hks] at e2
  obtain ⟨h3,e3⟩:=eM e2
  exact ⟨hi,ks,rfl,hh,h1,hks,h3,e3⟩
theorem zY {a:Arg}{frm:List (Option Nat)}{key:KX}{hi:Int}{ks:List Int}{x:Value}{f c':Addr}{pm ctv:Value}{B:Nat} (N:aq (c0.sub names) env A) (T:At g env as fr σ s) (lim:g.b.NoLimit) (hA:bU g A B) (hh:g.hd=none)
  (hf:ff (c0.sub names) sc=some frm) (hso:nO sc=true) (hgen:sc.isGenerator=false) (hco:sc.isCoroutine=false) (hp:sc.names.lookup a.arg=some .local) (hkey:oB 10 (c0.sub names) a.arg sc body=some key)
  (hks:aP (fun (j:Nat)=>kxV fr (j:Int) key) (List.range hi.toNat)=some ks) (hnd:ks.Nodup) (h60:hi < 60) (hr:RepV as s.heap (.rng 0 hi) x) (e:cQ ((fJ (ks.zip (iw 0 hi))).map (·.2)) σ=.ok v σ')
  (ho:s.heap.get? f=some (yT env a body sc pm c' ctv)) (hcd:s.heap.CodeRec (.ref c') (env.qual ++ "<lambda>")) (hQ:aJ g env as fr s v σ' Q) :
  wpAny (model g.prog g.w) A (PySem.call (.builtin "sorted") [x] [(Str.ofString "key",.ref f)]) Q X s:=by
 rw [RepV] at hr
 obtain ⟨ra,t,u,w',rfl,hro,hrb⟩:=hr
 obtain ⟨z1,z2⟩:=jm hrb
 have hz0:((hi - 0).toNat)=hi.toNat:=by rw [Int.sub_zero]
 rw [hz0] at z1
 obtain ⟨m,hF,_⟩:=T.F.fr T.R
 have hlen:ks.length=hi.toNat:=by have:=(co hks).1; rw [List.length_range] at this; exact this.symm
 have hdep:A.in1.in1.depth < recursionLimit:=by have:=hA.depth; show A.depth < 1000; lia
 refine jP hF (eS _ _ _) (hA.none hh) hro z2 z1 (by lia) hlen (fun i t' k hi' hk h tk own F' N'=>?_) fun D h' tk vs out ep F' N' hD hvl hvs ko=>?_
 ·have e0:(0:Int) + (i:Int) * 1=(i:Int):=by lia
  rw [e0]
  refine yP (tk:=tk) N T lim hdep hf hso hgen hco hp hkey ?_ ho hcd F' N' fun p hp=>List.mem_append_left _ hp
  obtain ⟨b,h1,h2⟩:=(co hks).2 i i (List.getElem?_range hi')
  rw [hk] at h1; cases h1
  exact h2
 ·obtain ⟨ps,hpp,hout,hps⟩:=ko
  have hsd:ps=fJ (ks.zip vs):=nX (by rw [List.map_fst_zip (by lia)]; exact hnd) hpp (by simpa using hps)
  refine hQ.newN (tk:=tk) T hF.ns F' rfl N' (fun p hp=>.tail _ hp) (.head _) hD ?_ e
  rw [hout,hsd]
  refine ah.f2.mpr (yj (R:=fun (a:Int × V) (b:Int × Value)=>a.1=b.1 ∧ RepV as s.heap a.2 b.2) (fun _ _ h=>h.2) (wp (fun _ _ h=>h.1) (ya ks ?_)))
  have hacc:ItemsOf (fun i v=>∃ t,v=Value.int (0 + (i:Int) * 1) t) vs.toArray (hi - 0).toNat:=⟨by simpa [hz0] using hvl,fun i x hx=>hvs i x (by simpa using hx)⟩
  simpa using ah.f2.mp (oF (as:=as) (h:=s.heap) hacc)
theorem pY {c:CE}{f:Expr→Option E}{x:Str}{e:Expr}{kw:Option Str}{ps:Arguments}{e':E} (Ψ:Str→Option Str→Arguments→E→Prop) (h:rC c f x e kw (ps,body,sc,lp)=some e')
  (H:∀ ca frm a a' key,c.glob "sorted"=true→c.lam=some ca→nO sc=true→sc.isGenerator=false→sc.isCoroutine=false→ff c sc=some frm→sc.names.lookup a.arg=some .local→f e=some a'→oB 10 c a.arg sc body=some key→Ψ "sorted" (some "key") ⟨[],[a],none,[],[],none,[]⟩ (.srt a' key)):Ψ x kw ps e':=by
 have g0:=au h
 have g1:=ag g0.1
 have g2:=ag g1.2
 have g3:=ag g2.2
 have g4:=ag g3.2
 have g5:=ag g4.2
 have g6:=ag g5.2
 have g7:=ag g6.2
 refine (Option.isSome_iff_exists.mp g7.2).elim fun frm hfr=>(Option.isSome_iff_exists.mp g4.1).elim fun ca hca=>(a6 g0.2).elim fun pn h1=>(sf h1.1).elim fun a ha=>(dO (au h1.2).2).elim fun a' k=>k.elim fun key k=>?_
 rw [show kw=_ from eq_of_beq g1.1,show x=_ from eq_of_beq g2.1,show ps=_ from ha.1,← k.2.2]
 have hl:sc.names.lookup pn=some .local:=eq_of_beq (au h1.2).1
 have hk:=k.2.1
 rw [← ha.2] at hl hk
 exact H ca frm a a' key (show c.glob "sorted"=true from (show x=_ from eq_of_beq g2.1) ▸ g3.1) hca g5.1 (aX g6.1) (aX g7.1) hfr hl k.1 hk
theorem xb {x:Str}{e:Expr}{kw:Option Str}{ps:Arguments}{kp fp p:Pos}{e':E} (G:bC g K c0 fa) (IH:bE g c0 call r n) (h:rC (c0.sub names) (al n (c0.sub names)) x e kw (ps,body,sc,lp)=some e') :
  aO g c0 call r names (.Call (.Name x fp) [e] [⟨kw,.Lambda ps body sc lp,kp⟩] p) e':=by
 refine pY (fun x kw ps e'=>aO g c0 call r names (.Call (.Name x fp) [e] [⟨kw,.Lambda ps body sc lp,kp⟩] p) e') h fun ca frm a a' key g3 hca g5 g6 g7 hfr hpl h1 hkey=>?_
 intro env A X s as fr σ σ' v Q N hA T ev hQ
 refine aD ev fun u τ e3 e4=>?_
 obtain ⟨hi,ks,rfl,h60,htab,hks,hnd,enew⟩:=tI e4
 refine (G.lam ca hca).elim fun _ hlam=>?_
 have lim:=hlam.2.2.1
 have hh:=hlam.2.2.2.2.2
 show wpAny _ A (eval (.Name "sorted" fp) env >>= fun f=>callWith p f [] (backTo p (starEach [e] env)) (backToKw p (keywordEach [⟨some "key",.Lambda ⟨[],[a],none,[],[],none,[]⟩ body sc lp,kp⟩] env))) Q X s
 refine wpAny_bind (cJ T N g3 rfl G.sorted ?_)
 refine callWith_kw ?_ (by rw [aZ h1]; rfl) (by rw [aZ h1]; rfl) rfl rfl
 refine wpAny_items_cons ?_ (aZ h1 _ _)
 refine IH names e a' h1 env A X s as fr σ τ _ _ N hA T e3 fun val as' h' tk st R' F' r'=>wpAny_items_nil ?_
 have T':At g env as' fr τ { s with heap:=h',toks:=tk }:=⟨F',R'⟩
 show wpAny _ A (do let v ← (do let v ← eval (.Lambda ⟨[],[a],none,[],[],none,[]⟩ body sc lp) env; standAt p; pure v); return v :: (← holding [v] (evalAll []))) _ X _
 refine wpAny_bind (wpAny_bind (zm G N T' hca htab hfr fun f h2 tk2 pm c' ctv st2 R2 F2 ho hcd=>wpAny_bind (wpAny_standAt (wpAny_pure (wpAny_bind (wpAny_holding (wpAny_pure (wpAny_pure ?_))))))))
 have T2:At g env as' fr (τ.set 1 (.tab true)) { s with heap:=h2,toks:=tk2 }:=⟨F2,R2⟩
 exact zY N T2 lim hA hh hfr g5 g6 g7 hpl hkey hks hnd h60 (RepV.keep (T'.keep st2) _ _ r') enew ho hcd (aU (s:=s) (tk:=tk2) hQ (ao st st2 R2 F2) R2 F2)
end
end Mine
namespace Mine
set_option backward.match.sparseCases false
open PySem PyProof.Rows PySem.W
theorem u8 {c:CE}{f:Str}{t:Str × Expr}{k:CK} (h:ck1 c f t=k):(k=.setLen t.2 ∧ f="len" ∧ t.1="set" ∧ c.glob "len"=true ∧ c.glob "set"=true) ∨ (k=.revl t.2 ∧ f="list" ∧ t.1="reversed" ∧ c.glob "list"=true ∧ c.glob "reversed"=true) ∨ k=.plain:=by
 unfold ck1 at h
 cases q:(f == ("len":Str) && (t.1 == ("set":Str) && (c.glob f && c.glob t.1))) with
 | true =>
  rw [q] at h
  obtain ⟨q1,q2⟩:=ag q; obtain ⟨q2,q3⟩:=ag q2; obtain ⟨q3,q4⟩:=ag q3
  have e1:=eq_of_beq q1; have e2:=eq_of_beq q2
  rw [e1] at q3; rw [e2] at q4
  exact .inl ⟨h.symm,e1,e2,q3,q4⟩
 | false =>
  rw [q] at h
  cases q:(f == ("list":Str) && (t.1 == ("reversed":Str) && (c.glob f && c.glob t.1))) with
  | true =>
   rw [q] at h
   obtain ⟨q1,q2⟩:=ag q; obtain ⟨q2,q3⟩:=ag q2; obtain ⟨q3,q4⟩:=ag q3
   have e1:=eq_of_beq q1; have e2:=eq_of_beq q2
   rw [e1] at q3; rw [e2] at q4
   exact .inr (.inl ⟨h.symm,e1,e2,q3,q4⟩)
  | false=>rw [q] at h; exact .inr (.inr h.symm)
theorem v4 {c:CE}{f:Str}{a:Expr}{t:Str}{k:CK} (h:ck2 c f a t=k):(k=.isi a t ∧ f="isinstance" ∧ c.glob "isinstance"=true ∧ c.glob t=true ∧ (t == ("__debug__":Str))=false) ∨ k=.plain:=by
 unfold ck2 at h
 cases q:(f == ("isinstance":Str) && (c.glob f && (c.glob t && !(t == ("__debug__":Str))))) with
 | true =>
  rw [q] at h
  obtain ⟨q1,q2⟩:=ag q; obtain ⟨q2,q3⟩:=ag q2; obtain ⟨q3,q4⟩:=ag q3
  have e1:=eq_of_beq q1
  rw [e1] at q2
  exact .inl ⟨h.symm,e1,q2,q3,aX q4⟩
 | false=>rw [q] at h; exact .inr h.symm
noncomputable def wZ (c:CE) (f:Str) (args:List Expr):CK→Prop
 | .setLen a=>∃ fp p,args=[.Call (.Name "set" fp) [a] [] p] ∧ f="len" ∧ c.glob "len"=true ∧ c.glob "set"=true
 | .revl a=>∃ fp p,args=[.Call (.Name "reversed" fp) [a] [] p] ∧ f="list" ∧ c.glob "list"=true ∧ c.glob "reversed"=true
 | .isi a t=>∃ tp,args=[a,.Name t tp] ∧ f="isinstance" ∧ c.glob "isinstance"=true ∧ c.glob t=true ∧ (t == ("__debug__":Str))=false
 | .plain=>True
theorem Ac (c:CE) (f:Str) (args:List Expr):wZ c f args (jp c f args):=by
 rcases args with _ | ⟨a,_ | ⟨b,_ | ⟨d,args⟩⟩⟩
 ·exact True.intro
 ·show wZ c f [a] (match gW a with | some t=>ck1 c f t | none=>.plain)
  cases q:gW a with
  | none=>exact True.intro
  | some t =>
   obtain ⟨fp,p,rfl⟩:=iI q
   obtain ⟨x,b⟩:=t
   show wZ c f _ (ck1 c f (x,b))
   rcases u8 (c:=c) (f:=f) (t:=(x,b)) rfl with ⟨h,h1,h2,h3,h4⟩ | ⟨h,h1,h2,h3,h4⟩ | h <;> rw [h]
   ·have h2:x=_:=h2
    subst h2; exact ⟨fp,p,rfl,h1,h3,h4⟩
   ·have h2:x=_:=h2
    subst h2; exact ⟨fp,p,rfl,h1,h3,h4⟩
   ·exact True.intro
 ·show wZ c f [a,b] (match d7 b with | some x=>ck2 c f a x | none=>.plain)
  cases q:d7 b with
  | none=>exact True.intro
  | some x =>
   obtain ⟨p,rfl⟩:=b7 q
   show wZ c f _ (ck2 c f a x)
   rcases v4 (c:=c) (f:=f) (a:=a) (t:=x) rfl with ⟨h,h1,h2,h3,h4⟩ | h <;> rw [h]
   ·exact ⟨p,rfl,h1,h2,h3,h4⟩
   ·exact True.intro
 ·exact True.intro
section
variable {g:Cfg}{K:Frag}{c0:CE}{fa:Nat→Option Addr}{call:Nat→List V→Sto→RE}{r n:Nat}{names:List (Str × NameKind)}{e':E}
theorem wc {k:Const}{a:Nat}{p:Pos} (h:u1 k=some e'):aO g c0 call r names (.Constant k a p) e':=by
 cases k with
 | none=>exact si h xd
 | bool b=>exact si h yH
 | int b=>exact si h zT
 | str b=>exact si h Av
 | _=>exact nn h
theorem w0 {x:Str}{p:Pos} (G:bC g K c0 fa) (h:xr (c0.sub names) x=some e'):aO g c0 call r names (.Name x p) e':=by
 obtain ⟨h1,h2⟩:=au h
 obtain ⟨hd,hc⟩:=ag h1
 cases q:(c0.sub names).loc? x with
 | some i=>rw [q] at h2; exact si h2 (zL q (aX hd) (aX hc))
 | none =>
  rw [q] at h2
  obtain ⟨hg,h3⟩:=au h2
  refine bZ h3 fun i hi qx2=>?_; subst qx2
  exact wK G hg (aX hd) hi
theorem zZ {l rt:Expr}{op:Operator}{p:Pos} (IH:bE g c0 call r n) (h:zC (al n (c0.sub names)) l op rt=some e'):aO g c0 call r names (.BinOp l op rt p) e':=by
 unfold zC at h
 cases q:AY op with
 | true =>
  rw [q] at h
  refine b9 h fun a b h1 h2 qx4=>?_; subst qx4
  exact zp IH h1 h2
 | false =>
  rw [q] at h
  have h0:=(au h).1
  refine (a6 (au h).2).elim fun a h=>(a6 h.2).elim fun b h'=>(gX h.1).elim fun k1 q1=>q1.elim fun p1 q1=>(gX h'.1).elim fun k2 q2=>q2.elim fun p2 q2=>?_
  have h3:=au h'.2
  rw [q1,q2]
  clear q1 q2 h h'
  cases op <;> first | exact ft h0 | skip
  exact si h3.2 (Ao (of_decide_eq_true h3.1))
theorem A9 {op:UnaryOp}{x:Expr}{p:Pos} (IH:bE g c0 call r n) (h:cUn (al n (c0.sub names)) op x=some e'):aO g c0 call r names (.UnaryOp op x p) e':=by
 cases op with
 | Not=>refine bZ h fun a h1 qx2=>?_; subst qx2; exact zH IH h1
 | USub=>refine bZ h fun a h1 qx2=>?_; subst qx2; exact zB IH h1
 | _=>exact nn h
theorem pS {f:Expr→Option E}{l:Expr}{ops:List CmpOp}{rs:List Expr}{P:List CmpOp→List Expr→E→Prop} (h:yV f l ops rs=some e')
  (H1:∀ op m a b,dE op m=true→f l=some a→f m=some b→P [op] [m] (.cmp op a b)) (H2:∀ o1 o2 m rt a b d,dE o2 rt=true→f l=some a→f m=some b→f rt=some d→P [o1,o2] [m,rt] (.cmp2 o1 o2 a b d)):P ops rs e':=by
 rcases ops with _ | ⟨o1,_ | ⟨o2,_ | ⟨o3,os⟩⟩⟩
 ·exact nn h
 ·rcases rs with _ | ⟨m,_ | ⟨rt,rs⟩⟩
  ·exact nn h
  ·obtain ⟨h0,h⟩:=au h
   refine b9 h fun a b h1 h2 qx4=>?_; subst qx4
   exact H1 _ _ _ _ h0 h1 h2
  ·exact nn h
 ·rcases rs with _ | ⟨m,_ | ⟨rt,_ | ⟨r3,rs⟩⟩⟩
  ·exact nn h
  ·exact nn h
  ·obtain ⟨h0,h⟩:=au h
   refine d0 h fun a b d h1 h2 h3 qx6=>?_; subst qx6
   exact H2 _ _ _ _ _ _ _ h0 h1 h2 h3
  ·exact nn h
 ·exact nn h
theorem zv {l:Expr}{ops:List CmpOp}{rs:List Expr}{p:Pos} (G:bC g K c0 fa) (IH:bE g c0 call r n) (h:yV (al n (c0.sub names)) l ops rs=some e'):aO g c0 call r names (.Compare l ops rs p) e' :=
 pS (P:=fun ops rs e'=>aO g c0 call r names (.Compare l ops rs p) e') h (fun _ _ _ _ h0 h1 h2=>Az G IH h0 h1 h2) fun _ _ _ _ _ _ _ h0 h1 h2 h3=>yq G IH h0 h1 h2 h3
theorem vR {v:Expr}{a b d:Option Expr}{p1 p:Pos} (IH:bE g c0 call r n) (h:uC (al n (c0.sub names)) v a b d=some e'):aO g c0 call r names (.Subscript v (.Slice a b d p1) p) e':=by
 cases a with
 | some lo=>cases b with
  | some=>exact nn h
  | none=>cases d with
   | some=>exact nn h
   | none=>refine b9 h fun x y h1 h2 qx4=>?_; subst qx4; exact zW IH h1 h2
 | none=>cases b with
  | some hi=>cases d with
   | some=>exact nn h
   | none=>refine b9 h fun x y h1 h2 qx4=>?_; subst qx4; exact Ag IH h1 h2
  | none=>cases d with
   | some st=>exact nn h
   | none=>exact nn h
theorem zQ {v i:Expr}{p:Pos} (IH:bE g c0 call r n) (h:zO (al n (c0.sub names)) v i=some e'):aO g c0 call r names (.Subscript v i p) e':=by
 have plain:gh E.sub (al n (c0.sub names) v) (al n (c0.sub names) i)=some e'→aO g c0 call r names (.Subscript v i p) e':=fun h=>by
  refine b9 h fun x y h1 h2 qx4=>?_; subst qx4; exact AB IH h1 h2
 unfold zO at h
 cases q:vw i <;> rw [q] at h <;> first | exact plain h | skip
 obtain ⟨p1,rfl⟩:=bI q
 exact vR IH h
theorem xU {ks:List (Option Expr)}{vs:List Expr}{p:Pos} (G:bC g K c0 fa) (IH:bE g c0 call r n) (h:xl (al n (c0.sub names)) ks vs=some e'):aO g c0 call r names (.Dict ks vs p) e':=by
 rcases ks with _ | ⟨_ | k,_ | ⟨k2,ks⟩⟩
 ·cases vs with
  | nil=>exact si h (vE G)
  | cons=>exact nn h
 ·exact nn h
 ·exact nn h
 ·rcases vs with _ | ⟨v,_ | ⟨v2,vs⟩⟩
  ·exact nn h
  ·refine b9 h fun x y h1 h2 qx4=>?_; subst qx4; exact vB G IH h1 h2
  ·exact nn h
 ·exact nn h
theorem ki {c:CE}{f:Expr→Option E}{x:Str}{args:List Expr}{fp:Pos} (Ψ:Expr→List Expr→E→Prop) (h:mq c f x args=some e')
  (H1:∀ fp fp1 p1 a y,c.glob "len"=true→c.glob "set"=true→c.hnd=false→f a=some y→Ψ (.Name "len" fp) [.Call (.Name "set" fp1) [a] [] p1] (.blt .setLen [y]))
  (H2:∀ fp fp1 p1 a y,c.glob "list"=true→c.glob "reversed"=true→c.hnd=false→f a=some y→Ψ (.Name "list" fp) [.Call (.Name "reversed" fp1) [a] [] p1] (.blt .revl [y]))
  (H3:∀ fp a t tp y ty,c.glob "isinstance"=true→c.glob t=true→qP c t=some ty→(t == ("__debug__":Str))=false→f a=some y→Ψ (.Name "isinstance" fp) [a,.Name t tp] (.isi y ty))
  (H4:∀ x fp args es b,c.glob x=true→(x == ("__debug__":Str))=false→bltName.lookup x=some b→bOk b=true→c.hnd=false→aP f args=some es→Ψ (.Name x fp) args (.blt b es))
  (H5:∀ x fp args es k,c.glob x=true→(x == ("__debug__":Str))=false→c.fns.lookup x=some k→aP f args=some es→Ψ (.Name x fp) args (.call k es))
  (H6:∀ x fp args es k,c.glob x=true→(x == ("__debug__":Str))=false→c.tfns.lookup x=some k→c.top=some c.names→aP f args=some es→Ψ (.Name x fp) args (.tcall k es))
  (H7:∀ x fp args es k,c.glob x=true→(x == ("__debug__":Str))=false→c.clss.lookup x=some k→aP f args=some es→Ψ (.Name x fp) args (.mk k es)):Ψ (.Name x fp) args e':=by
 have hk:=Ac c x args
 unfold mq at h
 cases q:jp c x args with
 | setLen a =>
  rw [q] at h hk
  refine (bA (au h).2).elim fun y h1=>hk.elim fun fp1 hk=>hk.elim fun p1 hk=>?_
  rw [hk.1,hk.2.1,← h1.2]
  exact H1 _ _ _ _ _ hk.2.2.1 hk.2.2.2 (aX (au h).1) h1.1
 | revl a =>
  rw [q] at h hk
  refine (bA (au h).2).elim fun y h1=>hk.elim fun fp1 hk=>hk.elim fun p1 hk=>?_
  rw [hk.1,hk.2.1,← h1.2]
  exact H2 _ _ _ _ _ hk.2.2.1 hk.2.2.2 (aX (au h).1) h1.1
 | isi a t =>
  rw [q] at h hk
  refine (dO h).elim fun y h=>h.elim fun ty h=>hk.elim fun tp hk=>?_
  rw [hk.1,hk.2.1,← h.2.2]
  exact H3 _ _ _ _ _ _ hk.2.2.1 hk.2.2.2.1 h.2.1 hk.2.2.2.2 h.1
 | plain =>
  rw [q] at h
  have h0:=ag (ag (au h).1).2
  refine (a6 (au h).2).elim fun es' h=>?_
  have h2:=h.2
  unfold iZ at h2
  cases q1:bltName.lookup x with
  | some b=>rw [q1] at h2; exact si (P:=Ψ _ _) (au h2).2 (H4 _ _ _ _ _ h0.1 (aX h0.2) q1 (ag (au h2).1).1 (aX (ag (au h2).1).2) h.1)
  | none =>
   rw [q1] at h2
   cases q2:c.fns.lookup x with
   | some k=>rw [q2] at h2; exact si (P:=Ψ _ _) h2 (H5 _ _ _ _ _ h0.1 (aX h0.2) q2 h.1)
   | none =>
    rw [q2] at h2
    cases q3:c.tfns.lookup x with
    | some k=>rw [q3] at h2; exact si (P:=Ψ _ _) (au h2).2 (H6 _ _ _ _ _ h0.1 (aX h0.2) q3 (eq_of_beq (au h2).1) h.1)
    | none =>
    rw [q3] at h2
    refine (bA h2).elim fun k h3=>?_
    rw [← h3.2]
    exact H7 _ _ _ _ _ h0.1 (aX h0.2) h3.1 h.1
set_option tactic.hygienic true in
theorem k6 {c:CE}{f:Expr→Option E}{x:Str}{args:List Expr}{k:Keyword} (Ψ:Str→List Expr→Keyword→E→Prop) (h:po c f x args k=some e')
  (H1:∀ a y k1 p1 kp,c.glob "max"=true→c.hnd=false→f a=some y→Ψ "max" [a] ⟨some "default",.Constant .none k1 p1,kp⟩ (.maxd y))
  (H2:∀ x a kw ps body sc lp kp e',rC c f x a kw (ps,body,sc,lp)=some e'→Ψ x [a] ⟨kw,.Lambda ps body sc lp,kp⟩ e'):Ψ x args k e':=by
 rcases args with _ | ⟨a,_ | ⟨b,args⟩⟩
 ·exact nn h
 ·obtain ⟨kw,kv,kp⟩:=k
  have h:(match vw kv with
   | .const v=>(match v with | .none=>gd (kw == some ("default":Str) && (x == ("max":Str) && (c.glob x && !c.hnd))) ((f a).map .maxd) | _=>none)
   | .lam t=>rC c f x a kw t
   | _=>none)=some e':=h
  cases q:vw kv <;> rw [q] at h <;> first | exact nn h | skip
  ·rename_i v
   cases v <;> first | exact nn h | skip
   have g:=au h
   have g1:=ag g.1
   have g2:=ag g1.2
   obtain ⟨k1,p1,e2⟩:=bI q
   refine bZ g.2 fun y h4 e4=>?_
   rw [show kw=_ from eq_of_beq g1.1,show x=_ from eq_of_beq g2.1,show kv=_ from e2,← e4]
   exact H1 _ _ _ _ _ (show c.glob "max"=true from (eq_of_beq g2.1) ▸ (ag g2.2).1) (aX (ag g2.2).2) h4
  ·rename_i t
   rw [show kv=_ from bI q]
   exact H2 _ _ _ _ _ _ _ _ _ h
 ·exact nn h
theorem j7 {c:CE}{f:Expr→Option E}{t:Expr × Str × Pos}{args:List Expr}{p:Pos} (Ψ:E→Prop) (h:mV c f t args p=some e')
  (H1:∀ a es m,dZ t.1=true→args.length ≤ 8→(t.2.2.endLine == p.line)=true→f t.1=some a→aP f args=some es→dM.lookup t.2.1=some m→Ψ (.meth a m es))
  (H2:∀ a es k,dZ t.1=true→args.length ≤ 8→(t.2.2.endLine == p.line)=true→f t.1=some a→aP f args=some es→c.mths.lookup t.2.1=some k→Ψ (.umeth a k es)):Ψ e':=by
 have g:=au h
 have g1:=ag g.1
 have g2:=ag g1.2
 refine (a6 g.2).elim fun a h=>(a6 h.2).elim fun es h'=>?_
 have h3:=h'.2
 unfold mz at h3
 cases q:dM.lookup t.2.1 with
 | some m=>rw [q] at h3; exact si (P:=Ψ) h3 (H1 _ _ _ g2.1 (of_decide_eq_true g1.1) g2.2 h.1 h'.1 q)
 | none =>
  rw [q] at h3
  refine (bA h3).elim fun k h7=>?_
  rw [← h7.2]
  exact H2 _ _ _ g2.1 (of_decide_eq_true g1.1) g2.2 h.1 h'.1 h7.1
theorem nt {f:Expr→Option E}{s:Str}{o:Expr}{x:Str}{ap p:Pos}{args:List Expr} (Ψ:Str→List Expr→E→Prop) (h:s9 f s (o,x,ap) args p=some e')
  (H:∀ a y,(ap.endLine == p.line)=true→f a=some y→Ψ "join" [a] (.join s y)):Ψ x args e':=by
 rcases args with _ | ⟨a,_ | ⟨b,args⟩⟩
 ·exact nn h
 ·have g:=au h
  have g1:=ag g.1
  refine bZ g.2 fun y h3 e=>?_
  rw [show x=_ from eq_of_beq g1.1,← e]
  exact H _ _ g1.2 h3
 ·exact nn h
set_option tactic.hygienic true in
theorem mB {c:CE}{f:Expr→Option E}{fn:Expr}{args:List Expr}{ks:List Keyword}{p:Pos} (Ψ:Expr→List Keyword→Prop) (h:tl c f fn args ks p=some e')
  (HN:∀ x fp,mq c f x args=some e'→Ψ (.Name x fp) []) (HK:∀ x fp k,po c f x args k=some e'→Ψ (.Name x fp) [k])
  (HM:∀ o x ap,mV c f (o,x,ap) args p=some e'→Ψ (.Attribute o x ap) []) (HJ:∀ s a p1 x ap,s9 f s (.Constant (.str s) a p1,x,ap) args p=some e'→Ψ (.Attribute (.Constant (.str s) a p1) x ap) []):Ψ fn ks:=by
 unfold tl at h
 cases q:d7 fn with
 | some x =>
  rw [q] at h
  refine (b7 q).elim fun fp q=>?_
  rw [q]
  rcases ks with _ | ⟨k,_ | ⟨k2,ks⟩⟩
  ·exact HN _ _ h
  ·exact HK _ _ _ h
  ·exact nn h
 | none =>
  rw [q] at h
  cases ks with
  | cons=>exact nn h
  | nil =>
   cases q:vw fn <;> rw [q] at h <;> first | exact nn h | skip
   rename_i t
   obtain ⟨o,x,ap⟩:=t
   rw [show fn=_ from bI q]
   have h:(match vw o with | .const k=>(match k with | .str s=>s9 f s (o,x,ap) args p | _=>none) | _=>mV c f (o,x,ap) args p)=some e':=h
   cases q:vw o <;> rw [q] at h <;> first | exact HM _ _ _ h | skip
   rename_i k
   cases k <;> first | exact nn h | skip
   refine (bI q).elim fun a q=>q.elim fun p1 q=>?_
   rw [q] at h ⊢
   exact HJ _ _ _ _ _ h
theorem yQ {fn:Expr}{args:List Expr}{ks:List Keyword}{p:Pos} (G:bC g K c0 fa) (C:ck g K c0 fa call r) (IH:bE g c0 call r n) (h:tl (c0.sub names) (al n (c0.sub names)) fn args ks p=some e'):aO g c0 call r names (.Call fn args ks p) e' :=
 mB (fun fn ks=>aO g c0 call r names (.Call fn args ks p) e') h
  (fun x fp h=>ki (fun fn args e'=>aO g c0 call r names (.Call fn args [] p) e') h (fun _ _ _ _ _ g1 g2 hh h1=>s8 G IH g1 g2 hh h1) (fun _ _ _ _ _ g1 g2 hh h1=>xu G IH g1 g2 hh h1) (fun _ _ _ _ _ _ g1 g2 h2 g3 h1=>zg G IH g1 g2 h2 g3 h1)
   (fun _ _ _ _ _ hg hd q hk hh h1=>Ak G IH hg hd q hk hh h1) (fun _ _ _ _ _ hg hd q h1=>yd G C.ok IH hg hd q h1)
   (fun _ _ _ _ _ hg hd q ht h1=>vV G C.t IH hg hd q ht h1)
   (fun _ _ _ _ _ hg hd q h1=>Be G C.ok IH hg hd q h1))
  (fun x fp k h=>k6 (fun x args k e'=>aO g c0 call r names (.Call (.Name x fp) args [k] p) e') h (fun _ _ _ _ _ hg hh h1=>yr G IH hg hh h1) fun _ _ _ _ _ _ _ _ _ h=>xb G IH h)
  (fun o x ap h=>j7 (fun e'=>aO g c0 call r names (.Call (.Attribute o x ap) args [] p) e') h (fun _ _ _ h2 h1 h0 h5 h6 q=>yM IH h2 h1 h0 h5 h6 q) fun _ _ _ h2 h1 h0 h5 h6 h7=>vf G C.ok IH h2 h1 h0 h5 h6 h7)
  fun s a p1 x ap h=>nt (fun x args e'=>aO g c0 call r names (.Call (.Attribute (.Constant (.str s) a p1) x ap) args [] p) e') h fun _ _ h2 h3=>w5 IH h2 h3
theorem rl {gens:List Comprehension}{t:Expr × Expr × List Expr} (h:ur gens=some t):gens=[⟨t.1,t.2.1,t.2.2,0⟩]:=by
 rcases gens with _ | ⟨⟨a,b,c,d⟩,_ | ⟨g2,gs⟩⟩
 ·exact nn h
 ·obtain ⟨h0,h⟩:=au h
  have e1:d=0:=eq_of_beq h0
  subst e1
  exact si (P:=fun t=>[(⟨a,b,c,0⟩:Comprehension)]=[⟨t.1,t.2.1,t.2.2,0⟩]) h rfl
 ·exact nn h
theorem m4 {elt:Expr}{gens:List Comprehension}{sc:Scope} (Ψ:List Comprehension→E→Prop) (h:vM (c0.sub names) (al n) elt gens sc=some e')
  (H:∀ target iter ifs it' tg one cs x' frm,nO sc=true→al n (c0.sub names) iter=some it'→tgt (c0.sub sc.names) target=some (tg,one)→aP (al n (c0.sub sc.names)) ifs=some cs→al n (c0.sub sc.names) elt=some x'→ff (c0.sub names) sc=some frm→Ψ [⟨target,iter,ifs,0⟩] (.comp tg one it' cs x' frm)):Ψ gens e' :=
 (a6 (au h).2).elim fun t h1=>(a6 h1.2).elim fun it h2=>(a6 h2.2).elim fun tg h3=>(a6 h3.2).elim fun cs h4=>(a6 h4.2).elim fun x h5=>(bA h5.2).elim fun fr h6=>by
  rw [rl h1.1,← h6.2]
  exact H _ _ _ _ _ _ _ _ _ (au h).1 h2.1 h3.1 h4.1 h5.1 h6.1
theorem xz {elt:Expr}{gens:List Comprehension}{sc:Scope}{p:Pos} (IH:bE g c0 call r n) (IT:k9 g c0 call r n) (h:vM (c0.sub names) (al n) elt gens sc=some e'):aO g c0 call r names (.ListComp elt gens sc p) e' :=
 m4 (fun gens e'=>aO g c0 call r names (.ListComp elt gens sc p) e') h fun _ _ _ _ _ _ _ _ _ ho q1 q2 q3 q4 q5=>yv IH IT q1 q2 q3 q4 q5 ho
theorem nz (G:bC g K c0 fa) (I:bv g) (C:ck g K c0 fa call r) (IH:bE g c0 call r n) (IT:k9 g c0 call r n) (e:Expr) (e':E) (h:al (n + 1) (c0.sub names) e=some e'):aO g c0 call r names e e':=by
 cases e with
 | Constant k a p=>exact wc h
 | Name x p=>exact w0 G h
 | BoolOp op vs p=>refine bT h fun es h1 h2=>?_; exact ub IH h1 h2
 | BinOp l op rt p=>exact zZ IH h
 | UnaryOp op x p=>exact A9 IH h
 | Compare l ops rs p=>exact zv G IH h
 | Subscript v i p=>exact zQ IH h
 | Attribute v x p=>obtain ⟨h0,h⟩:=au h; refine b9 h fun a k h1 h2 qx4=>?_; subst qx4; exact yF G I IH h0 h1 h2
 | List es p=>obtain ⟨h0,h⟩:=au h; refine bZ h fun a h1 qx2=>?_; subst qx2; exact xQ IH h1
 | Tuple es k p=>obtain ⟨h0,h⟩:=au h; refine bZ h fun a h1 qx2=>?_; subst qx2; exact zl IH h1
 | Dict ks vs p=>exact xU G IH h
 | Call fn args ks p=>exact yQ G C IH h
 | ListComp elt gens sc p=>exact xz IH IT h
 | _=>exact nn h
end
end Mine
namespace Mine
open PySem PyProof.Rows PySem.W
section
variable {g:Cfg}{K:Frag}{c0:CE}{fa:Nat→Option Addr}{call:Nat→List V→Sto→RE}{r n:Nat}{names:List (Str × NameKind)}
theorem pP {e:Expr}{e':E} (hE:aO g c0 call r names e e') (hi:∀ (env:Env) (whole:Sem Value),isTrue e env whole=(do let v ← whole; standAt e.pos; holding [v] (truthy v))):kA g c0 call r names e e' :=
 fun env A X s as fr σ σ' v Q N hA T ev hQ=>by
  refine wpAny_isTrue_value (hE env A X s as fr σ σ' (.bool v) _ N hA T ev fun val as' h' tk st R' F' r'=>?_) (hi _ _)
  rw [RepV] at r'; subst r'
  exact wpAny_truthy_bool (hQ as' h' tk st R' F')
theorem xy {l:Expr}{ops:List CmpOp}{rs:List Expr}{p:Pos}{e':E} (G:bC g K c0 fa) (IH:bE g c0 call r n) (h:yV (al n (c0.sub names)) l ops rs=some e'):kA g c0 call r names (.Compare l ops rs p) e' :=
 pS (P:=fun ops rs e'=>kA g c0 call r names (.Compare l ops rs p) e') h (fun _ _ _ _ h0 h1 h2=>zN G IH h0 h1 h2) fun _ _ _ _ _ _ _ h0 h1 h2 h3=>yp G IH h0 h1 h2 h3
theorem yz (G:bC g K c0 fa) (I:bv g) (C:ck g K c0 fa call r) (IH:bE g c0 call r n) (IT:k9 g c0 call r n) (e:Expr) (e':E) (h:al (n + 1) (c0.sub names) e=some e'):kA g c0 call r names e e':=by
 have hE:=nz G I C IH IT e e' h
 have hk:=dk h
 cases e with
 | UnaryOp op x p =>
  cases op with
  | Not=>refine bZ h fun a h1 qx2=>?_; subst qx2; exact zz IT h1
  | _=>exact pP hE fun _ _=>rfl
 | BoolOp op vs p=>refine bT h fun es h1 h2=>?_; exact sM IT h1 h2
 | Compare l ops rs p=>exact xy G IH h
 | _=>first | exact pP hE (fun _ _=>rfl) | exact ft hk
theorem ci (G:bC g K c0 fa) (I:bv g) (C:ck g K c0 fa call r):∀ n,bE g c0 call r n ∧ k9 g c0 call r n
 | 0=>⟨fun names e e' h=>nn h,fun names e e' h=>nn h⟩
 | n + 1=>⟨fun names e e' h=>nz G I C (ci G I C n).1 (ci G I C n).2 e e' h,fun names e e' h=>yz G I C (ci G I C n).1 (ci G I C n).2 e e' h⟩
end
end Mine
namespace Mine
open PySem PyProof.Rows PySem.W
noncomputable def eK (as:List Addr) (h:Heap):Fl→Flow→Prop
 | .next,f=>f=.next
 | .brk,f=>f=.brk
 | .cont,f=>f=.cont
 | .ret v,f=>∃ val,f=.ret val ∧ RepV as h v val
noncomputable def ey (g:Cfg) (env:Env) (as:List Addr) (s:Shared) (fl:Fl) (fr':Fra) (σ':Sto) (Q:Flow→Shared→Prop):Prop :=
 ∀ (f:Flow) (as':List Addr) (h':Heap) (tk:Nat),eK as' h' fl f→aF (ownOf env) as s.heap as' h'→Rel g as' σ' h'→az g env as' fr' h'→Q f { s with heap:=h',toks:=tk }
noncomputable def wQ (g:Cfg) (c0:CE) (call:Nat→List V→Sto→RE) (wf r n:Nat):Prop :=
 ∀ (names:List (Str × NameKind)) (st:Stmt) (st':S),bP n (c0.sub names) st=some st' →
 ∀ (env:Env) (A:Around) (X:Value→Shared→Prop) (s:Shared) (as:List Addr) (fr fr':Fra) (σ σ':Sto) (fl:Fl) (Q:Flow→Shared→Prop),
  aq (c0.sub names) env A→bU g A (r + 1)→At g env as fr σ s→evS call wf st' fr σ=.ok fl fr' σ'→ey g env as s fl fr' σ' Q→wpAny (model g.prog g.w) A (exec st env) Q X s
theorem eK.go {as:List Addr}{h:Heap}{fl:Fl}{f:Flow} (hfl:fl=.next ∨ fl=.cont) (hf:eK as h fl f):f=.next ∨ f=.cont:=by
 rcases hfl with rfl | rfl
 ·exact .inl hf
 ·exact .inr hf
set_option backward.match.sparseCases false in
theorem uv {call:Nat→List V→Sto→RE}{wf:Nat}{s:S}{ss:List S}{fr:Fra} {σ:Sto}:evSs call wf (s :: ss) fr σ=(match evS call wf s fr σ with | .ok .next fr σ=>evSs call wf ss fr σ | r=>r):=rfl
theorem ir {Ψ:Fl→Fra→Sto→Prop}{f g:Fl}{a b:Fra}{s t:Sto} (e:RS.ok f a s=.ok g b t) (h:Ψ g b t):Ψ f a s:=by cases e; exact h
theorem m3 {r:RS}{k:Fra→Sto→RS}{fr':Fra} {σ':Sto}{fl:Fl}{G:Prop} (Ψ:Fl→Fra→Sto→Prop) (e:rV r k=.ok fl fr' σ') (hΨ:Ψ fl fr' σ') (h2:∀ fl1 fr2 σ2,r=.ok fl1 fr2 σ2→(fl1=.next ∨ fl1=.cont)→k fr2 σ2=.ok fl fr' σ'→G)
  (h3:∀ fr2 σ2,r=.ok .brk fr2 σ2→Ψ .next fr2 σ2→G) (h4:∀ fr2 σ2 w,r=.ok (.ret w) fr2 σ2→Ψ (.ret w) fr2 σ2→G):G:=by
 cases r with
 | ok f fr2 σ2=>cases f with
  | next=>exact h2 _ _ _ rfl (.inl rfl) e
  | cont=>exact h2 _ _ _ rfl (.inr rfl) e
  | brk=>exact h3 _ _ rfl (ir e hΨ)
  | ret w=>exact h4 _ _ _ rfl (ir e hΨ)
 | ex x fr2 σ2=>exact nomatch (show RS.ex x fr2 σ2=_ from e)
 | bad=>exact nomatch (show RS.bad=_ from e)
theorem mr {src:Src}{tg:List Nat}{one:Bool}{body:Fra→Sto→RS}{n i:Nat}{fr fr':Fra} {σ σ':Sto}{fl:Fl}{G:Prop} (Ψ:Fl→Fra→Sto→Prop) (ev:kS tg one body src n i fr σ=.ok fl fr' σ') (hΨ:Ψ fl fr' σ')
  (h1:a8 σ i src=some none→Ψ .next fr σ→G)
  (h2:∀ n' v fr1 fl1 fr2 σ2,n' < n→a8 σ i src=some (some v)→bw tg one v fr=some fr1→body fr1 σ=.ok fl1 fr2 σ2→(fl1=.next ∨ fl1=.cont)→kS tg one body src n' (i + 1) fr2 σ2=.ok fl fr' σ'→G)
  (h3:∀ v fr1 fr2 σ2,a8 σ i src=some (some v)→bw tg one v fr=some fr1→body fr1 σ=.ok .brk fr2 σ2→Ψ .next fr2 σ2→G)
  (h4:∀ v fr1 fr2 σ2 w,a8 σ i src=some (some v)→bw tg one v fr=some fr1→body fr1 σ=.ok (.ret w) fr2 σ2→Ψ (.ret w) fr2 σ2→G):G:=by
 cases n with
 | zero=>exact nomatch ev
 | succ n=>exact jl ev (fun q=>nomatch q) (fun o e=>h1 o (ir e hΨ)) fun v o e=>fR e (fun _ q=>nomatch q) fun fr1 hb e=>m3 Ψ e hΨ (fun f fr2 σ2 q=>h2 n v fr1 f fr2 σ2 (Nat.lt_succ_self _) o hb q) (fun fr2 σ2=>h3 v fr1 fr2 σ2 o hb) fun fr2 σ2 w=>h4 v fr1 fr2 σ2 w o hb
theorem t7 {r:RE}{fr:Fra}{k:V→Sto→RS}{fl:Fl}{fr':Fra} {σ':Sto} (e:r.bindS fr k=.ok fl fr' σ'):∃ u τ,r=.ok u τ ∧ k u τ=.ok fl fr' σ':=by
 cases r with
 | ok u τ=>exact ⟨u,τ,rfl,e⟩
 | ex x τ=>cases e
 | bad=>cases e
theorem bY {r:RE}{fr:Fra}{k:V→Sto→RS}{fl:Fl}{fr':Fra} {σ':Sto}{P:Prop} (e:r.bindS fr k=.ok fl fr' σ') (h:∀ u τ,r=.ok u τ→k u τ=.ok fl fr' σ'→P):P:=let ⟨u,τ,h1,h2⟩:=t7 e; h u τ h1 h2
theorem sa {r:RE}{fr:Fra}{k:V→Sto→RS}{fl:Fl}{fr':Fra} {σ':Sto}{b:Bool} (e:r.bindX b fr k=.ok fl fr' σ'):∃ u τ,r=.ok u τ ∧ k u τ=.ok fl fr' σ':=by
 cases r with
 | ok u τ=>exact ⟨u,τ,rfl,e⟩
 | ex x τ=>cases b <;> cases e
 | bad=>cases e
theorem i3 {r:RE}{fr:Fra}{k:V→Sto→RS}{fl:Fl}{fr':Fra} {σ':Sto}{P:Prop}{b:Bool} (e:r.bindX b fr k=.ok fl fr' σ') (h:∀ u τ,r=.ok u τ→k u τ=.ok fl fr' σ'→P):P:=let ⟨u,τ,h1,h2⟩:=sa e; h u τ h1 h2
section
variable {g:Cfg}{K:Frag}{c0:CE}{fa:Nat→Option Addr}{call:Nat→List V→Sto→RE}{env:Env}{A:Around}{X:Value→Shared→Prop}{s:Shared}{as:List Addr}{fr fr':Fra} {σ σ':Sto}{wf r n:Nat}
 {names:List (Str × NameKind)}{fl:Fl}{Q:Flow→Shared→Prop}
theorem nJ {h:Heap} (F:az g env as fr h):∀ a ∈ ownOf env,∀ o,h.get? a=some o→¬ Imm o:=fun a ha o e hi=>by
 rcases bJ ha with rfl | ⟨x,hx⟩
 ·exact F.notImm _ (.head _) o e hi
 ·obtain ⟨cv,o',e',hd⟩:=(F.offc _ _ hx).2.2
  rw [e] at e'; cases e'; exact hi.2.2 _ hd
theorem eG {as':List Addr}{h':Heap}{tk:Nat} (hQ:ey g env as s fl fr' σ' Q) (x:aF (ownOf env) as s.heap as' h'):ey g env as' { s with heap:=h',toks:=tk } fl fr' σ' Q :=
 fun f as2 h2 tk2 hf st R2 F2=>hQ f as2 h2 tk2 hf (x.trans st R2.nd F2.offs) R2 F2
theorem up {as':List Addr}{h h':Heap} (x:aF [env.locals] as h as' h'):aF (ownOf env) as h as' h':=x.grow (by intro a ha; simp at ha; subst ha; exact .head _)
noncomputable def jM (g:Cfg) (c0:CE) (call:Nat→List V→Sto→RE) (wf r n:Nat):Prop :=
 ∀ (names:List (Str × NameKind)) (sts:List Stmt) (sts':List S),aP (bP n (c0.sub names)) sts=some sts' →
 ∀ (env:Env) (A:Around) (X:Value→Shared→Prop) (s:Shared) (as:List Addr) (fr fr':Fra) (σ σ':Sto) (fl:Fl) (Q:Flow→Shared→Prop),
  aq (c0.sub names) env A→bU g A (r + 1)→At g env as fr σ s→evSs call wf sts' fr σ=.ok fl fr' σ'→ey g env as s fl fr' σ' Q→wpAny (model g.prog g.w) A (execs sts env) Q X s
set_option tactic.hygienic true in
theorem eH (IS:wQ g c0 call wf r n):jM g c0 call wf r n:=by
 intro names sts
 induction sts with
 | nil =>
  intro sts' h env A X s as fr fr' σ σ' fl Q N hA T ev hQ
  rw [dC] at h; cases h
  cases (show RS.ok .next fr σ=_ from ev)
  exact wpAny_execs_nil (hQ .next as s.heap s.toks rfl (aF.refl _ _ _) T.R T.F)
 | cons st sts ih =>
  intro sts' h env A X s as fr fr' σ σ' fl Q N hA T ev hQ
  refine cn h fun a as' h1 h2 qx4=>?_; subst qx4
  rw [uv] at ev
  refine wpAny_execs_cons ?_
  split at ev
  ·rename_i f1 σ1 he
   refine IS names st a h1 env A X s as fr f1 σ σ1 .next _ N hA T he fun f as1 k1 tk1 hf st1 R1 F1=>?_
   have hf':f=.next:=hf
   subst hf'
   exact ih as' h2 env A X _ as1 f1 fr' σ1 σ' fl Q N hA ⟨F1,R1⟩ ev (eG hQ st1)
  ·rename_i hn
   refine IS names st a h1 env A X s as fr fr' σ σ' fl _ N hA T ev fun f as1 k1 tk1 hf st1 R1 F1=>?_
   have hq:=hQ f as1 k1 tk1 hf st1 R1 F1
   cases fl with
   | next=>exact absurd ev (hn _ _)
   | brk=>have:f=.brk:=hf; subst this; exact hq
   | cont=>have:f=.cont:=hf; subst this; exact hq
   | ret v=>obtain ⟨val,hv,_⟩:=hf; subst hv; exact hq
structure FI (g:Cfg) (env:Env) (fr:Fra) (s:Shared) (as:List Addr) (src:Src) (I:Addr) (i:Nat) (as1:List Addr) (σ:Sto) (h:Heap):Prop where
 st:aF (ownOf env) as s.heap as1 h
 R:Rel g as1 σ h
 F:az g env as1 fr h
 it:mW src I i as1 h
 offI:I ∉ as1
structure FX (g:Cfg) (env:Env) (s:Shared) (I:Addr):Prop where
 own:I ∉ ownOf env
 Ib:g.b.get? I=none
 In:s.heap.get? I=none
theorem FI.step {src:Src}{I:Addr}{i:Nat}{as1 as2:List Addr}{h h2:Heap} {σ2:Sto}{fr2:Fra} (Z:FX g env s I) (C:FI g env fr s as src I i as1 σ h) (x:aF (ownOf env) as1 h as2 h2) (R2:Rel g as2 σ2 h2) (F2:az g env as2 fr2 h2) :
  FI g env fr2 s as src I i as2 σ2 h2:=by
 have K2:=C.R.keep x (nJ C.F)
 refine ⟨C.st.trans x R2.nd F2.offs,R2,F2,C.it.keep K2 fun o e=>x.ext I o e Z.own C.offI,fun q=>?_⟩
 obtain ⟨⟨t,rfl,ht⟩,_⟩:=x
 rcases List.mem_append.mp q with q | q
 ·exact C.offI q
 ·obtain ⟨o,e,_⟩:=C.it.there; rw [ht I q] at e; cases e
theorem FI.next {src:Src}{I:Addr}{i j:Nat}{as1:List Addr}{h h2:Heap} (Z:FX g env s I) (C:FI g env fr s as src I i as1 σ h) (k:∀ (b:Addr) (o:Obj),b ≠ I→h.get? b=some o→h2.get? b=some o) :
  aF (ownOf env) as s.heap as1 h2 ∧ Rel g as1 σ h2 ∧ az g env as1 fr h2:=by
 have hni:∀ o,h.get? I=some o→¬ Imm o:=fun o e=>by obtain ⟨o',e',q⟩:=C.it.there; rw [e] at e'; cases e'; exact q
 obtain ⟨K2,R2⟩:=C.R.other k C.offI Z.Ib hni
 have hL:env.locals ≠ I:=fun q=>Z.own (by rw [← q]; exact .head _)
 have hc:∀ x c,env.cells.lookup x=some c→c ≠ I:=fun x c e q=>Z.own (by rw [← q]; exact iq e)
 have F2:=C.F.alter K2 k hL hc (fun a ha=>.inl ha)
 refine ⟨?_,R2,F2⟩
 have a2:aF (I :: ownOf env) as1 h as1 h2:=⟨⟨[],by simp,by simp⟩,fun b o e hb _=>k b o (by intro q; subst q; simp at hb) e⟩
 have a1:aF (I :: ownOf env) as s.heap as1 h:=C.st.grow (fun a ha=>.tail _ ha)
 exact (a1.trans a2 R2.nd (by intro a ha; rcases List.mem_cons.mp ha with rfl | ha; exact C.offI; exact F2.offs a ha)).shrink (by
  intro a ha; rcases List.mem_cons.mp ha with rfl | ha
  ·exact .inr Z.In
  ·exact .inl ha)
theorem j8 {target:Expr}{tg:List Nat}{one:Bool}{src:Src}{I:Addr}{i:Nat}{as1:List Addr}{h:Heap}{tk:Nat}{v:V}{fr1:Fra}{Qn:Option Value→Shared→Prop}{Qb:Shared→Prop}{Y1 Y2:Value→Shared→Prop}
  (Z:FX g env s I) (N:aq (c0.sub names) env A) (hA:bU g A (r + 1)) (ht:tgt (c0.sub names) target=some (tg,one)) (C:FI g env fr s as src I i as1 σ h) (e:a8 σ i src=some (some v)) (hb:bw tg one v fr=some fr1)
  (hn:∀ v s₁,wpAny (model g.prog g.w) A (letOwnedTupleGo target (.ref I) v) (fun _ s₁=>wpAny (model g.prog g.w) A (assign target env v) (fun _ s₂=>Qb s₂) Y2 s₁) Y1 s₁→Qn (some v) s₁)
  (hq:∀ as4 h4 tk4,FI g env fr1 s as src I (i + 1) as4 σ h4→Qb { s with heap:=h4,toks:=tk4 }):wpAny (model g.prog g.w) A (pyNext (.ref I)) Qn X { s with heap:=h,toks:=tk }:=by
 refine pL C.R C.it C.offI Z.Ib e fun val h1 tk1 kk1 K1 R1 it1 r1=>hn _ _ ?_
 obtain ⟨st2,R2,F2⟩:=C.next (j:=i) Z kk1
 have C1:FI g env fr s as src I (i + 1) as1 σ h1:=⟨st2,R2,F2,it1,C.offI⟩
 refine AU (s:={ s with heap:=h1,toks:=tk1 }) it1 ?_
 exact gi (own:=ownOf env) (s:={ s with heap:=h1,toks:=tk1 }) hA.handled ⟨C1.F,C1.R⟩ N (dJ _ _) ht r1 hb fun as2 h2' tk2 st3 K3 R3 F3=>hq _ _ _ (C1.step Z st3 R3 F3)
theorem fY {target:Expr}{body:List Stmt}{body':List S}{tg:List Nat}{one:Bool}{src:Src}{I:Addr}{i:Nat}{as1:List Addr}{h:Heap}{tk:Nat}{v:V}{fr1 fr2:Fra}{fl1:Fl} {σ2:Sto}{Qn:Option Value→Shared→Prop}{Q4:Flow→Shared→Prop}{Y1 Y2 Y3:Value→Shared→Prop}
  (IL:jM g c0 call wf r n) (Z:FX g env s I) (N:aq (c0.sub names) env A) (hA:bU g A (r + 1)) (ht:tgt (c0.sub names) target=some (tg,one)) (h2:aP (bP n (c0.sub names)) body=some body')
  (C:FI g env fr s as src I i as1 σ h) (e:a8 σ i src=some (some v)) (hb:bw tg one v fr=some fr1) (hc:evSs call wf body' fr1 σ=.ok fl1 fr2 σ2)
  (hn:∀ v s₁,wpAny (model g.prog g.w) A (letOwnedTupleGo target (.ref I) v) (fun _ s₁=>wpAny (model g.prog g.w) A (assign target env v) (fun _ s₂=>wpAny (model g.prog g.w) A (execs body env) Q4 Y3 s₂) Y2 s₁) Y1 s₁→Qn (some v) s₁)
  (hq:∀ f as4 h4 tk4,eK as4 h4 fl1 f→FI g env fr2 s as src I (i + 1) as4 σ2 h4→Q4 f { s with heap:=h4,toks:=tk4 }):wpAny (model g.prog g.w) A (pyNext (.ref I)) Qn X { s with heap:=h,toks:=tk } :=
 j8 Z N hA ht C e hb hn fun as2 h2' tk2 C2 =>
  IL names body body' h2 env A _ { s with heap:=h2',toks:=tk2 } as2 fr1 fr2 σ σ2 fl1 _ N hA ⟨C2.F,C2.R⟩ hc fun f as4 h4 tk4 hf st4 R4 F4=>hq f as4 h4 tk4 hf (C2.step Z st4 R4 F4)
inductive AT (g:Cfg) (env:Env) (s:Shared) (as:List Addr) (src:Src) (I:Addr) (tg:List Nat) (one:Bool) (bd:Fra→Sto→RS) (fl:Fl) (fr':Fra) (σ':Sto):Nat→Shared→Prop
 | mk {k i:Nat}{fr:Fra} {σ:Sto}{as1:List Addr}{h:Heap}{tk:Nat} (ev:kS tg one bd src k i fr σ=.ok fl fr' σ') (le:fb i src) (C:FI g env fr s as src I i as1 σ h):AT g env s as src I tg one bd fl fr' σ' k { s with heap:=h,toks:=tk }
theorem qw {target:Expr}{body:List Stmt}{body':List S}{tg:List Nat}{one:Bool}{src:Src}{I:Addr}{i k:Nat}{as1:List Addr}{h:Heap}{tk:Nat}
  (IL:jM g c0 call wf r n) (Z:FX g env s I) (N:aq (c0.sub names) env A) (hA:bU g A (r + 1)) (ht:tgt (c0.sub names) target=some (tg,one)) (h2:aP (bP n (c0.sub names)) body=some body')
  (ev:kS tg one (evSs call wf body') src k i fr σ=.ok fl fr' σ') (le:fb i src) (C:FI g env fr s as src I i as1 σ h) (hQ:ey g env as s fl fr' σ' Q) :
  codeAny (model g.prog g.w) A (.forLoop target (.ref I) body [] env) (fun r s'=>match r with | .ok f=>Q f s' | .error e=>cameBackBy (model g.prog g.w) A env X e s') { s with heap:=h,toks:=tk }:=by
 refine ji (AT g env s as src I tg one (evSs call wf body') fl fr' σ') ?_ k ⟨ev,le,C⟩
 rintro k _ ⟨ev,le,C⟩
 refine mr (fun fl fr' σ'=>ey g env as s fl fr' σ' Q) ev hQ (fun e hQ=>?_) (fun k' v fr1 fl1 fr2 σ2 hk e hb hc hfl run'=>?_) (fun v fr1 fr2 σ2 e hb hc hQ=>?_) (fun v fr1 fr2 σ2 w e hb hc hQ=>?_)
 ·exact qQ hA.handled C.R C.it C.offI Z.Ib le.rng le.tup e fun h' tk' kk K' R' =>
   (C.next (j:=0) Z kk).elim fun st2 h=>wpAny_execs_nil (hQ .next _ h' tk' rfl st2 h.1 h.2)
 ·refine fY IL Z N hA ht h2 C e hb hc (fun _ _ h=>h) fun f as4 h4 tk4 hf C4=>?_
  rcases eK.go hfl hf with rfl | rfl <;> exact ⟨k',hk,run',.next e,C4⟩
 ·refine fY IL Z N hA ht h2 C e hb hc (fun _ _ h=>h) fun f as4 h4 tk4 hf C4=>?_
  cases (show f=.brk from hf)
  exact hQ .next as4 h4 tk4 rfl C4.st C4.R C4.F
 ·refine fY IL Z N hA ht h2 C e hb hc (fun _ _ h=>h) fun f as4 h4 tk4 hf C4=>?_
  obtain ⟨val',rfl,rv⟩:=hf
  exact hQ (.ret val') as4 h4 tk4 ⟨val',rfl,rv⟩ C4.st C4.R C4.F
end
end Mine
namespace Mine
open PySem PyProof.Rows PySem.W
theorem vW {c:CE}{t e:Expr}{y:It} (Ψ:Expr→Expr→It→Prop) (h:(al 30 c e).map It.e=some y) (H1:∀ t e a,al 30 c e=some a→Ψ t e (.e a)):Ψ t e y:=by
 refine (bA h).elim fun a h=>?_
 rw [← h.2]
 exact H1 _ _ _ h.1
theorem qA {c:CE}{t e:Expr}{y:It} (Ψ:Expr→Expr→It→Prop) (h:cIt c t e=some y) (H1:∀ t e a,al 30 c e=some a→Ψ t e (.e a))
  (H2:∀ ts k tp fp p e a,c.glob "enumerate"=true→c.hnd=false→al 30 c e=some a→Ψ (.Tuple ts k tp) (.Call (.Name "enumerate" fp) [e] [] p) (.enum a))
  : Ψ t e y:=by
 unfold cIt at h
 cases q:(gW e).bind fun p=>gd (p.1 == ("enumerate":Str) && (c.glob p.1 && (!c.hnd && pQ t))) (some p.2) with
 | some a =>
  rw [q] at h
  refine (bA h).elim fun a' h=>(a6 q).elim fun u q=>(iI q.1).elim fun fp q1=>q1.elim fun p q1=>?_
  have g:=au q.2
  have g1:=ag g.1
  have g2:=ag g1.2
  have g3:=ag g2.2
  rw [← h.2,q1,show u.1=_ from eq_of_beq g1.1,show u.2=_ from Option.some.inj g.2]
  have ht:=g3.2
  unfold pQ at ht
  cases qt:vw t <;> rw [qt] at ht <;> first | exact ft ht | skip
  refine (bI qt).elim fun k q=>q.elim fun tp q=>?_
  rw [q]
  exact H2 _ _ _ _ _ _ _ (show c.glob "enumerate"=true from (show u.1=_ from eq_of_beq g1.1) ▸ g2.1) (aX g3.1) h.1
 | none =>
  rw [q] at h
  exact vW Ψ h H1
section
variable {g:Cfg}{K:Frag}{c0:CE}{fa:Nat→Option Addr}{call:Nat→List V→Sto→RE}{env:Env}{A:Around}{X:Value→Shared→Prop}{s:Shared}{as as1:List Addr}{fr fr':Fra} {σ σ':Sto}{wf r n:Nat}
 {names:List (Str × NameKind)}{fl:Fl}{Q:Flow→Shared→Prop}{l i:Nat}{J:Addr}{h h2:Heap}
theorem Rel.other2 {I:Addr} (R:Rel g as σ h) (k:∀ (b:Addr) (o:Obj),b ≠ I→b ≠ J→h.get? b=some o→h2.get? b=some o) (h1:I ∉ as ∧ J ∉ as) (hb:g.b.get? I=none ∧ g.b.get? J=none) (hi:∀ o,h.get? I=some o ∨ h.get? J=some o→¬ Imm o):cR as h as h2 ∧ Rel g as σ h2:=by
 have K:cR as h as h2:=⟨fun _ _ e=>e,fun b o e im=>k b o (fun q=>hi o (.inl (q ▸ e)) im) (fun q=>hi o (.inr (q ▸ e)) im) e⟩
 exact ⟨K,⟨fun b o e=>k b o (fun q=>nn ((hb.1.symm.trans (q ▸ e)))) (fun q=>nn ((hb.2.symm.trans (q ▸ e)))) (R.base b o e),R.len,R.nd,R.new,fun i b o h3 h4=>(R.obj i b o h3 h4).keep K fun ob e=>k b ob (fun q=>h1.1 (q ▸ List.mem_of_getElem? h3)) (fun q=>h1.2 (q ▸ List.mem_of_getElem? h3)) e,R.hnd.keep K⟩⟩
structure EIt (l:Nat) (J:Addr) (i:Nat) (as:List Addr) (h:Heap):Prop where
 at':∃ a old,as[l]?=some a ∧ IsEnum h (J + 1) J i old ∧ h.IsListIter J a i
theorem EIt.notImm (E:EIt l J i as h):∀ o,h.get? (J + 1)=some o ∨ h.get? J=some o→¬ Imm o:=fun o e im=>by
 obtain ⟨a,old,_,e1,o2,e2,hc,_⟩:=E.at'
 rcases e with e | e
 ·cases Option.some.inj (e1.symm.trans e)
  rcases im.1 with q | q | ⟨_,_,q,_⟩
  ·exact absurd (show Value.type "enumerate"=.type "tuple" from q) (by decide)
  ·exact absurd (show Value.type "enumerate"=.type "range" from q) (by decide)
  ·exact nomatch (show Value.type "enumerate"=_ from q)
 ·cases Option.some.inj (e2.symm.trans e)
  rcases im.1 with q | q | ⟨_,_,q,_⟩
  ·exact absurd (hc.symm.trans q) (by decide)
  ·exact absurd (hc.symm.trans q) (by decide)
  ·exact nomatch hc.symm.trans q
theorem EIt.keep {as':List Addr} (E:EIt l J i as h) (K:∀ (i:Nat) (a:Addr),as[i]?=some a→as'[i]?=some a) (k:∀ o,h.get? (J + 1)=some o→h2.get? (J + 1)=some o) (k':∀ o,h.get? J=some o→h2.get? J=some o):EIt l J i as' h2 :=
 let ⟨a,old,e1,e2,o,e3,e4⟩:=E.at'; ⟨a,old,K _ _ e1,k _ e2,o,k' _ e3,e4⟩
structure EI (g:Cfg) (env:Env) (fr:Fra) (s:Shared) (as:List Addr) (l:Nat) (J:Addr) (i:Nat) (as1:List Addr) (σ:Sto) (h:Heap):Prop where
 st:aF (ownOf env) as s.heap as1 h
 R:Rel g as1 σ h
 F:az g env as1 fr h
 it:EIt l J i as1 h
 off:J + 1 ∉ as1 ∧ J ∉ as1
structure EX (g:Cfg) (env:Env) (s:Shared) (J:Addr):Prop where
 own:J + 1 ∉ ownOf env ∧ J ∉ ownOf env
 Ib:g.b.get? (J + 1)=none ∧ g.b.get? J=none
 In:s.heap.get? (J + 1)=none ∧ s.heap.get? J=none
theorem EI.step {as2:List Addr} {σ2:Sto}{fr2:Fra} (Z:EX g env s J) (C:EI g env fr s as l J i as1 σ h) (x:aF (ownOf env) as1 h as2 h2) (R2:Rel g as2 σ2 h2) (F2:az g env as2 fr2 h2):EI g env fr2 s as l J i as2 σ2 h2:=by
 have fresh:∀ {b o},h.get? b=some o→b ∉ as1→b ∉ as2:=fun e n q=>by
  obtain ⟨t,ht,hf⟩:=x.pre
  rw [ht] at q
  exact (List.mem_append.mp q).elim n fun q=>nn ((hf _ q).symm.trans e)
 obtain ⟨a,old,_,e1,o,e2,_⟩:=C.it.at'
 exact ⟨C.st.trans x R2.nd F2.offs,R2,F2,C.it.keep (fun _ _ e=>x.get e) (fun o e=>x.ext _ o e Z.own.1 C.off.1) (fun o e=>x.ext _ o e Z.own.2 C.off.2),fresh e1 C.off.1,fresh e2 C.off.2⟩
theorem EI.other (Z:EX g env s J) (C:EI g env fr s as l J i as1 σ h) (k:∀ (b:Addr) (o:Obj),b ≠ J + 1→b ≠ J→h.get? b=some o→h2.get? b=some o):cR as1 h as1 h2 ∧ aF (ownOf env) as s.heap as1 h2 ∧ Rel g as1 σ h2 ∧ az g env as1 fr h2:=by
 obtain ⟨K2,R2⟩:=C.R.other2 k C.off Z.Ib C.it.notImm
 have ho:∀ b ∈ ownOf env,b ≠ J + 1 ∧ b ≠ J:=fun b hb=>⟨fun q=>Z.own.1 (q ▸ hb),fun q=>Z.own.2 (q ▸ hb)⟩
 have a2:aF [J + 1,J] as1 h as1 h2:=⟨⟨[],(List.append_nil _).symm,fun _ q=>nomatch q⟩,fun b ob e hb _=>k b ob (fun q=>hb (q ▸ .head _)) (fun q=>hb (q ▸ .tail _ (.head _))) e⟩
 have F2:az g env as1 fr h2:=C.F.keep K2 a2 fun b hb q=>(List.mem_cons.mp q).elim (ho b hb).1 fun q=>(ho b hb).2 (List.mem_singleton.mp q)
 refine ⟨K2,?_,R2,F2⟩
 have a3:aF ((J + 1) :: J :: ownOf env) as1 h as1 h2:=⟨a2.pre,fun b ob e hb=>a2.ext b ob e fun q=>hb ((List.mem_cons.mp q).elim (fun q=>q ▸ .head _) fun q=>(List.mem_singleton.mp q) ▸ .tail _ (.head _))⟩
 exact ((C.st.grow fun a ha=>.tail _ (.tail _ ha)).trans a3 R2.nd fun a ha=>(List.mem_cons.mp ha).elim (fun q=>q ▸ C.off.1) fun ha=>(List.mem_cons.mp ha).elim (fun q=>q ▸ C.off.2) (F2.offs a)).shrink fun a ha=>(List.mem_cons.mp ha).elim (fun q=>.inr (q ▸ Z.In.1)) fun ha=>(List.mem_cons.mp ha).elim (fun q=>.inr (q ▸ Z.In.2)) .inl
noncomputable def A8 (g:Cfg) (env:Env) (s:Shared) (as:List Addr) (l:Nat) (J:Addr) (tg:List Nat) (one:Bool) (bd:Fra→Sto→RS) (fl:Fl) (fr':Fra) (σ':Sto) (k:Nat) (s':Shared):Prop :=
 ∀ G:Prop,(∀ i fr σ as1 h tk,s'={ s with heap:=h,toks:=tk }→kS tg one bd (.enum l) k i fr σ=.ok fl fr' σ'→EI g env fr s as l J i as1 σ h→G)→G
theorem EI.use {v:List V}{tk:Nat}{G:Prop} (C:EI g env fr s as l J i as1 σ h) (e:getL σ l=some v) (k:∀ a old items n,as1[l]?=some a→IsEnum h (J + 1) J i old→h.IsListIter J a i→IsL h a items n→ah as1 h v items.toList→items.size=v.length→G):G :=
 C.it.at'.elim fun a q=>q.elim fun old q=>ay (s:={ s with heap:=h,toks:=tk }) C.R (show RepV as1 h (.ref l) (.ref a) from by rw [RepV]; exact ⟨a,rfl,q.1⟩) e fun a' items m qa hd ho hr hz hsz=>k a old items m q.1 q.2.1 q.2.2 (Value.ref.inj qa ▸ ho) hr hsz
theorem ql {tk:Nat}{Qn:Option Value→Shared→Prop} (Z:EX g env s J) (hA:bU g A (r + 1)) (hh:g.hd=none) (C:EI g env fr s as l J i as1 σ h) (e:a8 σ i (.enum l)=some none) (hq:∀ h',aF (ownOf env) as s.heap as1 h'→Rel g as1 σ h'→az g env as1 fr h'→Qn none { s with heap:=h',toks:=tk }):wpAny (model g.prog g.w) A (pyNext (.ref (J + 1))) Qn X { s with heap:=h,toks:=tk } :=
 (Option.map_eq_some_iff.mp e).elim fun xs e=>C.use (tk:=tk) e.1 fun a old items m e1 he hit ho hr hsz =>
  wpAny_pyNext_enum_end (hA.none hh) he hit ho.isList (by rw [Array.getElem?_eq_none_iff,hsz]; exact List.getElem?_eq_none_iff.mp (Option.map_eq_none_iff.mp e.2)) fun h' hs=>have c:=(C.other Z fun b o _ q2 e=>hs b o q2 e).2; hq h' c.1 c.2.1 c.2.2
theorem gA {ts:List Expr}{k:Nat}{tp:Pos}{body:List Stmt}{body':List S}{tg:List Nat}{one:Bool}{tk:Nat}{v:V}{fr1 fr2:Fra}{fl1:Fl} {σ2:Sto}{Qn:Option Value→Shared→Prop}{Q4:Flow→Shared→Prop}{Y1 Y2 Y3:Value→Shared→Prop}
  (IL:jM g c0 call wf r n) (Z:EX g env s J) (N:aq (c0.sub names) env A) (hA:bU g A (r + 1)) (ht:tgt (c0.sub names) (.Tuple ts k tp)=some (tg,one)) (h3:aP (bP n (c0.sub names)) body=some body')
  (C:EI g env fr s as l J i as1 σ h) (e:a8 σ i (.enum l)=some (some v)) (hb:bw tg one v fr=some fr1) (hc:evSs call wf body' fr1 σ=.ok fl1 fr2 σ2)
  (hn:∀ v s₁,wpAny (model g.prog g.w) A (letOwnedTupleGo (.Tuple ts k tp) (.ref (J + 1)) v) (fun _ s₁=>wpAny (model g.prog g.w) A (assign (.Tuple ts k tp) env v) (fun _ s₂=>wpAny (model g.prog g.w) A (execs body env) Q4 Y3 s₂) Y2 s₁) Y1 s₁→Qn (some v) s₁)
  (hq:∀ f as4 h4 tk4,eK as4 h4 fl1 f→EI g env fr2 s as l J (i + 1) as4 σ2 h4→Q4 f { s with heap:=h4,toks:=tk4 }):wpAny (model g.prog g.w) A (pyNext (.ref (J + 1))) Qn X { s with heap:=h,toks:=tk }:=by
 refine (Option.map_eq_some_iff.mp e).elim fun xs e=>(Option.map_eq_some_iff.mp e.2).elim fun w e2=>C.use (tk:=tk) e.1 fun a old items m e1 he hit ho hr hsz=>((ah.f2.mp hr).get e2.1).elim fun val p=>?_
 refine wpAny_pyNext_enum_item he hit ho.isList (by rw [← Array.getElem?_toList]; exact p.1) (Nat.succ_ne_self J) fun h' out hit' htup hs' kk=>hn _ _ ?_
 refine wpAny_letOwnedTupleGo_enum out fun h'' he'' hs''=>?_
 have c:=C.other Z (h2:=h'') fun b o q1 q2 e=>hs''.extBut b o q1 (kk b o q1 q2 e)
 have hT:h.objs.size ≠ J + 1:=fun q=>Nat.lt_irrefl _ (q ▸ Heap.lt_size he)
 have C1:EI g env fr s as l J (i + 1) as1 σ h'':=⟨c.2.1,c.2.2.1,c.2.2.2,⟨a,_,e1,he'',hit'.extBut hs''.extBut (Nat.ne_of_lt (Nat.lt_succ_self J))⟩,C.off⟩
 have rT:RepV as1 h'' v (.ref h.objs.size):=by
  rw [← e2.2,RepV]
  refine ⟨_,_,_,rfl,hs''.extBut _ _ hT htup,by exact (by decide:2 ≤ 16777216),?_⟩
  rw [ah]
  refine ⟨_,_,rfl,by rw [RepV]; exact ⟨_,rfl⟩,?_⟩
  rw [ah]
  exact ⟨_,_,rfl,RepV.keep c.1 _ _ p.2,by rw [ah]⟩
 exact gi (own:=ownOf env) (s:={ s with heap:=h'',toks:=tk + 1 }) hA.handled ⟨C1.F,C1.R⟩ N (dJ _ _) ht rT hb fun as2 h2' tk2 st3 K3 R3 F3 =>
  IL names body body' h3 env A _ { s with heap:=h2',toks:=tk2 } as2 fr1 fr2 σ σ2 fl1 _ N hA ⟨F3,R3⟩ hc fun f as4 h4 tk4 hf st4 R4 F4=>hq f as4 h4 tk4 hf ((C1.step Z st3 R3 F3).step Z st4 R4 F4)
theorem nH {ts:List Expr}{kk:Nat}{tp:Pos}{body:List Stmt}{body':List S}{tg:List Nat}{one:Bool}{k:Nat}{tk:Nat}
  (IL:jM g c0 call wf r n) (Z:EX g env s J) (N:aq (c0.sub names) env A) (hA:bU g A (r + 1)) (hh:g.hd=none) (ht:tgt (c0.sub names) (.Tuple ts kk tp)=some (tg,one)) (h3:aP (bP n (c0.sub names)) body=some body')
  (ev:kS tg one (evSs call wf body') (.enum l) k i fr σ=.ok fl fr' σ') (C:EI g env fr s as l J i as1 σ h) (hQ:ey g env as s fl fr' σ' Q) :
  codeAny (model g.prog g.w) A (.forLoop (.Tuple ts kk tp) (.ref (J + 1)) body [] env) (fun r s'=>match r with | .ok f=>Q f s' | .error e=>cameBackBy (model g.prog g.w) A env X e s') { s with heap:=h,toks:=tk }:=by
 refine ji (A8 g env s as l J tg one (evSs call wf body') fl fr' σ') (fun k s' hN=>hN _ fun i fr σ as1 h tk qs ev C=>?_) k fun G H=>H _ _ _ _ _ _ rfl ev C
 rw [qs]
 refine mr (fun fl fr' σ'=>ey g env as s fl fr' σ' Q) ev hQ (fun e hQ=>ql Z hA hh C e fun h' st2 R2 F2=>wpAny_execs_nil (hQ .next _ h' tk rfl st2 R2 F2)) (fun k' v fr1 fl1 fr2 σ2 hk e hb hc hfl run'=>?_) (fun v fr1 fr2 σ2 e hb hc hQ=>?_) (fun v fr1 fr2 σ2 w e hb hc hQ=>?_)
 ·refine gA IL Z N hA ht h3 C e hb hc (fun _ _ h=>h) fun f as4 h4 tk4 hf C4=>?_
  rcases eK.go hfl hf with q | q <;> rw [q] <;> exact ⟨k',hk,fun G H=>H _ _ _ _ _ _ rfl run' C4⟩
 ·refine gA IL Z N hA ht h3 C e hb hc (fun _ _ h=>h) fun f as4 h4 tk4 hf C4=>?_
  rw [show f=.brk from hf]
  exact hQ .next as4 h4 tk4 rfl C4.st C4.R C4.F
 ·refine gA IL Z N hA ht h3 C e hb hc (fun _ _ h=>h) fun f as4 h4 tk4 hf C4=>hf.elim fun val' q=>?_
  rw [q.1]
  exact hQ (.ret val') as4 h4 tk4 ⟨val',rfl,q.2⟩ C4.st C4.R C4.F
end
end Mine
namespace Mine
set_option backward.match.sparseCases false
open PySem PyProof.Rows PySem.W
section
variable {g:Cfg}{K:Frag}{c0:CE}{fa:Nat→Option Addr}{call:Nat→List V→Sto→RE}{env:Env}{A:Around}{X:Value→Shared→Prop}{s:Shared}{as:List Addr}{fr fr':Fra} {σ σ':Sto}{wf r n:Nat}
 {names:List (Str × NameKind)}{fl:Fl}{Q:Flow→Shared→Prop}
noncomputable def eD (g:Cfg) (c0:CE) (call:Nat→List V→Sto→RE) (wf r:Nat) (names:List (Str × NameKind)) (st:Stmt) (st':S):Prop :=
 ∀ (env:Env) (A:Around) (X:Value→Shared→Prop) (s:Shared) (as:List Addr) (fr fr':Fra) (σ σ':Sto) (fl:Fl) (Q:Flow→Shared→Prop),
  aq (c0.sub names) env A→bU g A (r + 1)→At g env as fr σ s→evS call wf st' fr σ=.ok fl fr' σ'→ey g env as s fl fr' σ' Q→wpAny (model g.prog g.w) A (exec st env) Q X s
theorem gu (F:az g env as fr s.heap):interactive env=false:=by
 unfold interactive; rw [F.kind]; rfl
theorem kB {e:Expr}{line:Nat} (h:∀ a b c d,e ≠ .ListComp a b c d) {e':E}{c:CE} (hc:al n c e=some e'):swapsWith e none line env=pure false:=by
 have hk:=dk hc
 cases e <;> first | rfl | exact absurd rfl (h _ _ _ _) | exact ft hk
theorem hV {e:Expr}{line:Nat}{t:Expr} (h:∀ a b c d,e ≠ .ListComp a b c d) {e':E}{c:CE} (hc:al n c e=some e'):swapsWith e (some t) line env=pure false:=by
 have hk:=dk hc
 cases e <;> first | rfl | exact absurd rfl (h _ _ _ _) | exact ft hk
theorem fq {e:Expr}{line:Nat}{t:Expr} (ht:∀ x p,t ≠ .Name x p) {e':E}{c:CE} (hc:al n c e=some e'):swapsWith e (some t) line env=pure false:=by
 by_cases h:∃ a b c d,e=.ListComp a b c d
 ·obtain ⟨a,b,c',d,rfl⟩:=h
  cases t <;> first | rfl | exact absurd rfl (ht _ _)
 ·exact hV (fun a b c d q=>h ⟨a,b,c,d,q⟩) hc
theorem xT {e:Expr}{e':E}{p:Pos} (IH:bE g c0 call r n) (hn:∀ a b c d,e ≠ .ListComp a b c d) (h:al n (c0.sub names) e=some e'):eD g c0 call wf r names (.Expr e p) (.expr e'):=fun env A X s as fr fr' σ σ' fl Q N hA T ev hQ=>by
 refine i3 ev fun u τ e1 e2=>?_
 cases e2
 exact wpAny_Expr_any (IH names e e' h env A X s as fr σ _ u _ N hA T e1 fun val as' h' tk st R' F' r'=>hQ .next as' h' tk rfl (up st) R' F') (gu T.F) (kB hn h)
theorem Ar {e:Expr}{e':E}{p:Pos} (IH:bE g c0 call r n) (h:al n (c0.sub names) e=some e'):eD g c0 call wf r names (.Return (some e) p) (.ret e'):=fun env A X s as fr fr' σ σ' fl Q N hA T ev hQ=>by
 refine i3 ev fun u τ e1 e2=>?_
 cases e2
 exact wpAny_Return_some (IH names e e' h env A X s as fr σ _ u _ N hA T e1 fun val as' h' tk st R' F' r'=>hQ (.ret val) as' h' tk ⟨val,rfl,r'⟩ (up st) R' F')
theorem xA {p:Pos}:eD g c0 call wf r names (.Pass p) .pass:=fun env A X s as fr fr' σ σ' fl Q N hA T ev hQ=>by
 cases (show RS.ok .next fr σ=.ok fl fr' σ' from ev)
 exact wpAny_Pass (hQ .next as s.heap s.toks rfl (aF.refl _ _ _) T.R T.F)
theorem mo {as':List Addr}{h':Heap}{tk:Nat} (hQ:ey g env as s .next fr' σ' Q) (st:aF (ownOf env) as s.heap as' h'):iC g env (ownOf env) as' σ' { s with heap:=h',toks:=tk } fr' (fun _=>Q .next) :=
 fun as2 h2 tk2 st2 K2 R2 F2=>hQ .next as2 h2 tk2 rfl (st.trans st2 R2.nd F2.offs) R2 F2
theorem jD {elt:Expr}{gens:List Comprehension}{sc:Scope}{p:Pos}{u:Value→Sem Unit}:evalThenUse (.ListComp elt gens sc p) env u=(do
  let _ ← comprehension (.ListComp elt gens sc p) sc env (firstIterPos gens p) (newList []) (firstAsync gens) (firstIter gens env) (some u)):=rfl
theorem tq {x:Str}{i:Nat}{xp lp:Pos}{elt target iter:Expr}{ifs:List Expr}{sc:Scope}{it' x':E}{tg:List Nat}{one:Bool}{cs:List E}{frm:List (Option Nat)}{u:V} {τ:Sto} (IH':bE g c0 call r n) (IT':k9 g c0 call r n) (hx:(c0.sub names).locW? x=some i) (N:aq (c0.sub names) env A) (hA:bU g A (r + 1)) (T:At g env as fr σ s)
  (ho:nO sc=true) (q1:al n (c0.sub names) iter=some it') (q2:tgt (c0.sub sc.names) target=some (tg,one)) (q3:aP (al n (c0.sub sc.names)) ifs=some cs) (q4:al n (c0.sub sc.names) elt=some x') (q5:ff (c0.sub names) sc=some frm)
  (e1:evE call (.comp tg one it' cs x' frm) fr σ=.ok u τ) (hQ:ey g env as s .next (fr.set i (some u)) τ Q) :
  wpAny (model g.prog g.w) A (evalThenUse (.ListComp elt [⟨target,iter,ifs,0⟩] sc lp) env (assign (.Name x xp) env)) (fun _ s'=>wpAny (model g.prog g.w) A (pure Flow.next) Q X s') X s:=by
 obtain ⟨u',τ',src,k,ys,σ2,f1,f2,f3,f4,f5⟩:=mM e1
 have hlen:=eA f5
 cases (if_pos hlen).symm.trans f5
 rw [jD]
 refine wpAny_bind (wpAny_mono (kj (use:=some (assign (.Name x xp) env)) (Q:=fun _ s'=>Q .next s') IH' IT' N hA T q1 q2 q3 q4 q5 ho f1 f2 f3 f4 hlen fun as' h' tk C D m st R' F' hl hm hC hCL hcc hCb hCn=>?_) (fun _ s' hq=>wpAny_pure (wpAny_pure hq)) fun _ _ e=>e)
 have rD:RepV (as' ++ [D]) h' (.ref σ2.length) (.ref D):=by rw [RepV]; exact ⟨D,rfl,by rw [← hl]; simp⟩
 refine wpAny_assign_Name (ic (own:=ownOf env) (s:={ s with heap:=h',toks:=tk }) ⟨F',R'⟩ N (dJ _ _) hx rD fun as2 h2 tk2 st2 K2 R2 F2=>?_)
 have hCo:C ∉ ownOf env:=fun q=>(bJ q).elim (fun q=>hCL q) fun ⟨y,q⟩=>hcc _ _ q rfl
 have hm2:h2.Ns C m:=hm.at' fun o e=>st2.ext _ o e hCo hC
 refine ⟨m,hm2,fun h3 hs3=>?_⟩
 have kk:∀ (b:Addr) (o:Obj),b ≠ C→h2.get? b=some o→h3.get? b=some o:=fun b o hb e=>by rw [hs3.2 b hb]; exact e
 have hC2:C ∉ as2:=fun q=>by
  obtain ⟨t,ht,hf⟩:=st2.pre
  rw [ht] at q
  rcases List.mem_append.mp q with q | q
  ·exact hC q
  ·obtain ⟨o',es,ep,e',_⟩:=hm
   rw [show h'.get? C=none from hf C q] at e'
   exact nn e'
 obtain ⟨K3,R3⟩:=R2.other kk hC2 hCb (jO hm2)
 have F3:=F2.alter K3 kk (Ne.symm hCL) hcc (fun a ha=>.inl ha)
 have off:∀ a ∈ C :: ownOf env,a ∉ as2:=fun a ha=>(List.mem_cons.mp ha).elim (fun q=>q ▸ hC2) (F3.offs a)
 have a3:aF (C :: ownOf env) as2 h2 as2 h3:=⟨⟨[],(List.append_nil _).symm,fun _ q=>nomatch q⟩,fun b ob e hb _=>kk b ob (fun q=>hb (q ▸ .head _)) e⟩
 exact hQ .next as2 h3 tk2 rfl (((((up st).grow fun a ha=>.tail _ ha).trans (st2.grow fun a ha=>.tail _ ha) R3.nd off).trans a3 R3.nd off).shrink fun a ha=>(List.mem_cons.mp ha).elim (fun q=>.inr (q ▸ hCn)) .inl) R3 F3
theorem Au {x:Str}{i:Nat}{e:Expr}{e':E}{p xp:Pos} (IH:bE g c0 call r (n + 1)) (IH':bE g c0 call r n) (IT':k9 g c0 call r n) (hx:(c0.sub names).locW? x=some i) (h:al (n + 1) (c0.sub names) e=some e'):eD g c0 call wf r names (.Assign [.Name x xp] e p) (.asg i e') :=
 fun env A X s as fr fr' σ σ' fl Q N hA T ev hQ=>by
 refine i3 ev fun u τ e1 e2=>?_
 by_cases hi:i < fr.length
 case neg=>exact nomatch (if_neg hi).symm.trans e2
 have hQ:ey g env as s .next (fr.set i (some u)) τ Q:=ir (Ψ:=fun fl fr' σ'=>ey g env as s fl fr' σ' Q) ((if_pos hi).symm.trans e2) hQ
 have plain:swapsWith e (some (.Name x xp)) p.line env=pure false→wpAny (model g.prog g.w) A (exec (.Assign [.Name x xp] e p) env) Q X s:=fun hs =>
  wpAny_Assign_Name (IH names e e' h env A X s as fr σ _ u _ N hA T e1 fun val as' h' tk st R' F' r'=>ic (own:=ownOf env) (s:={ s with heap:=h',toks:=tk }) ⟨F',R'⟩ N (dJ _ _) hx r' (mo hQ (up st))) hs
 by_cases hc:∃ a b c d,e=.ListComp a b c d
 ·obtain ⟨elt,gens,sc,lp,rfl⟩:=hc
  refine (show ∃ b:Bool,swapsWith (.ListComp elt gens sc lp) (some (.Name x xp)) p.line env=pure b from ⟨_,rfl⟩).elim fun b hb=>?_
  cases b with
  | false=>exact plain hb
  | true =>
   rw [exec_Assign_Name_used _ _ _ _ hb]
   exact wpAny_bind (wpAny_standAt (wpAny_bind (m4 (names:=names) (fun gens e'=>evE call e' fr σ=.ok u τ→wpAny (model g.prog g.w) A (evalThenUse (.ListComp elt gens sc lp) env (assign (.Name x xp) env)) (fun _ s'=>wpAny (model g.prog g.w) A (pure Flow.next) Q X s') X s) h
    (fun _ _ _ _ _ _ _ _ _ ho q1 q2 q3 q4 q5 e1=>tq IH' IT' hx N hA T ho q1 q2 q3 q4 q5 e1 hQ) e1)))
 ·exact plain (hV (fun a b c d q=>hc ⟨a,b,c,d,q⟩) h)
theorem km {ts:List Expr}{k:Nat}{tp:Pos}{e:Expr} (h:(∃ x p,e=.Name x p) ∨ (∃ f as ks p,e=.Call f as ks p) ∨ ∃ o i p,e=.Subscript o i p):swappedStores [.Tuple ts k tp] e env=pure none:=by
 rcases h with ⟨_,_,rfl⟩ | ⟨_,_,_,_,rfl⟩ | ⟨_,_,_,rfl⟩ <;> rfl
set_option tactic.hygienic true in
theorem xj {ts:List Expr}{k:Nat}{tp p:Pos}{is:List Nat}{e:Expr}{e':E} (IH:bE g c0 call r n) (hx:bM (c0.sub names) ts=some is) (hn:(∃ x p,e=.Name x p) ∨ (∃ f as ks p,e=.Call f as ks p) ∨ ∃ o i p,e=.Subscript o i p) (h:al n (c0.sub names) e=some e') :
  eD g c0 call wf r names (.Assign [.Tuple ts k tp] e p) (.asgT is e'):=fun env A X s as fr fr' σ σ' fl Q N hA T ev hQ=>by
 refine bY (fr:=fr) (eC ev) fun u τ e1 e2=>?_
 split at e2
 case h_2=>cases e2
 rename_i f1 hb
 cases e2
 refine Assign_Tuple (IH names e e' h env A X s as fr σ _ u _ N hA T e1 fun val as' h' tk st R' F' r'=>?_) (show swapsWithSole [.Tuple ts k tp] e p.line env=pure false from fq (env:=env) (line:=p.line) (t:=.Tuple ts k tp) (by simp) h) (km hn)
 exact gi (own:=ownOf env) (s:={ s with heap:=h',toks:=tk }) (target:=.Tuple ts k tp) (tg:=is) (one:=false) hA.handled ⟨F',R'⟩ N (dJ _ _) (by show (bM (c0.sub names) ts).map _=_; rw [hx]; rfl) r' hb (mo hQ (up st))
set_option tactic.hygienic true in
theorem yJ {o e:Expr}{x:Str}{k:Nat}{op p:Pos}{o' e':E} (G:bC g K c0 fa) (J:bv g) (IH:bE g c0 call r n) (h0:al n (c0.sub names) o=some o') (hk:c0.attrs.lookup x=some k) (h:al n (c0.sub names) e=some e') :
  eD g c0 call wf r names (.Assign [.Attribute o x op] e p) (.asgA o' k e'):=fun env A X s as fr fr' σ σ' fl Q N hA T ev hQ=>by
 refine bY (fr:=fr) (eC ev) fun u τ e1 e2=>?_
 refine bY (fr:=fr) e2 fun w τ' e3 e4=>?_
 split at e4
 case h_2=>cases e4
 rename_i σ1 hs
 cases e4
 refine plainObj_wpAny_Assign_Attribute (two IH h h0 N hA T e1 e3 fun x y as' h' tk st R' F' r1 r2=>?_) (fq (by simp) h)
 exact qV G J (T.step (tk:=tk) R' F') r2 r1 hk hs fun as2 h2 tk2 st2 R2 F2=>hQ .next as2 h2 tk2 rfl (up (ao st st2 R2 F2)) R2 F2
set_option tactic.hygienic true in
theorem xq {o i e:Expr}{op p:Pos}{o' i' e':E} (IH:bE g c0 call r n) (h0:al n (c0.sub names) o=some o') (h1:al n (c0.sub names) i=some i') (h:al n (c0.sub names) e=some e') :
  eD g c0 call wf r names (.Assign [.Subscript o i op] e p) (.asgI o' i' e'):=fun env A X s as fr fr' σ σ' fl Q N hA T ev hQ=>by
 refine bY (fr:=fr) (eC ev) fun u τ e1 e2=>?_
 refine bY (fr:=fr) e2 fun w τ' e3 e4=>?_
 refine bY (fr:=fr) e4 fun z τ2 e5 e6=>?_
 split at e6
 case h_2=>cases e6
 rename_i σ1 hs
 cases e6
 refine wpAny_Assign_Subscript (two (Q:=fun v ov s2=>wpAny (model g.prog g.w) A (eval i env) (fun iv s₃=>wpAny (model g.prog g.w) A (setItem ov iv v) (fun _=>Q .next) X s₃) X s2) IH h h0 N hA T e1 e3 fun x y as' h' tk st R' F' r1 r2=>?_) (fq (by simp) h)
 refine IH names i i' h1 env A X _ as' fr τ' _ z _ N hA (T.step (tk:=tk) R' F') e5 fun val as2 h2 tk2 st2 R2 F2 r3=>?_
 have kp:=At.keep (s:={ s with heap:=h',toks:=tk }) ⟨F',R'⟩ st2
 refine pR (s:={ s with heap:=h2,toks:=tk2 }) ⟨F2,R2⟩ hA (RepV.keep kp _ _ r2) r3 (RepV.keep kp _ _ r1) hs fun as3 h3 tk3 st3 R3 F3=>?_
 exact hQ .next as3 h3 tk3 rfl (up (ao (ao st st2 R2 F2) st3 R3 F3)) R3 F3
theorem Bf {t:Expr}{b o:List Stmt}{t':E}{b' o':List S}{p:Pos} (IT:k9 g c0 call r n) {m:Nat} (IL:jM g c0 call wf r m) (h0:al n (c0.sub names) t=some t') (h1:aP (bP m (c0.sub names)) b=some b') (h2:aP (bP m (c0.sub names)) o=some o') :
  eD g c0 call wf r names (.If t b o p) (.ifS t' b' o'):=fun env A X s as fr fr' σ σ' fl Q N hA T ev hQ=>by
 refine bY (fr:=fr) ev fun u τ e1 e2=>?_
 split at e2
 ·refine wpAny_If (IT names t t' h0 env A X s as fr σ τ true _ N hA T e1 fun as' h' tk st R' F'=>?_)
  rw [if_pos rfl]
  exact IL names b b' h1 env A X _ as' fr fr' τ σ' fl Q N hA ⟨F',R'⟩ e2 (eG hQ (up st))
 ·refine wpAny_If (IT names t t' h0 env A X s as fr σ τ false _ N hA T e1 fun as' h' tk st R' F'=>?_)
  rw [if_neg Bool.false_ne_true]
  exact IL names o o' h2 env A X _ as' fr fr' τ σ' fl Q N hA ⟨F',R'⟩ e2 (eG hQ (up st))
 ·cases e2
noncomputable def WI (g:Cfg) (call:Nat→List V→Sto→RE) (wf:Nat) (env:Env) (s:Shared) (as:List Addr) (t':E) (b':List S) (fl:Fl) (fr':Fra) (σ':Sto) (k:Nat) (s':Shared):Prop :=
 ∀ G:Prop,(∀ fr1 σ1 as1 h1 tk1,s'={ s with heap:=h1,toks:=tk1 }→cS (evE call t') (evSs call wf b') k fr1 σ1=.ok fl fr' σ'→aF (ownOf env) as s.heap as1 h1→Rel g as1 σ1 h1→az g env as1 fr1 h1→G)→G
theorem rK {test:Fra→Sto→RE}{body:Fra→Sto→RS}{k:Nat}{G:Prop} (Ψ:Fl→Fra→Sto→Prop) (e:cS test body k fr σ=.ok fl fr' σ') (hΨ:Ψ fl fr' σ') (H0:∀ τ,test fr σ=.ok (.bool false) τ→Ψ .next fr τ→G)
  (H1:∀ m τ,m < k→test fr σ=.ok (.bool true) τ→rV (body fr τ) (cS test body m)=.ok fl fr' σ'→G):G:=by
 cases k with
 | zero=>exact nomatch (show RS.bad=_ from e)
 | succ k =>
  refine bY (fr:=fr) (show (test fr σ).bindS fr _=_ from e) fun u τ e1 e2=>?_
  cases u with
  | bool b=>cases b with
   | false=>exact H0 τ e1 (ir e2 hΨ)
   | true=>exact H1 k τ (Nat.lt_succ_self _) e1 e2
  | _=>exact nomatch (show RS.bad=_ from e2)
theorem vX {t:Expr}{b:List Stmt}{t':E}{b':List S}{p:Pos} (IT:k9 g c0 call r n) {m:Nat} (IL:jM g c0 call wf r m) (h0:al n (c0.sub names) t=some t') (h1:aP (bP m (c0.sub names)) b=some b') :
  eD g c0 call wf r names (.While t b [] p) (.whileS t' b'):=fun env A X s as fr fr' σ σ' fl Q N hA T ev hQ=>by
 refine wpAny_While (codeAny_whileLoop (WI g call wf env s as t' b' fl fr' σ') (fun k s1 I=>I _ fun fr1 σ1 as1 k1 tk1 qs ev st1 R1 F1=>?_) wf fun G H=>H fr σ as s.heap s.toks rfl (eC ev) (aF.refl _ _ _) T.R T.F)
 rw [qs]
 refine rK (fun fl fr' σ'=>ey g env as s fl fr' σ' Q) ev hQ (fun τ e1 hQ=>IT names t t' h0 env A _ { s with heap:=k1,toks:=tk1 } as1 fr1 σ1 τ false _ N hA ⟨F1,R1⟩ e1 fun as' h' tk st R' F'=>?_) fun j τ hj e1 e2=>IT names t t' h0 env A _ { s with heap:=k1,toks:=tk1 } as1 fr1 σ1 τ true _ N hA ⟨F1,R1⟩ e1 fun as' h' tk st R' F'=>?_
 ·rw [if_neg Bool.false_ne_true]
  exact wpAny_execs_nil (hQ .next as' h' tk rfl (st1.trans (up st) R'.nd F'.offs) R' F')
 ·rw [if_pos rfl]
  have st2:=st1.trans (up st) R'.nd F'.offs
  refine m3 (fun fl fr' σ'=>ey g env as s fl fr' σ' Q) e2 hQ (fun f0 f2 σ2 hb hf e2=>?_) (fun f2 σ2 hb hQ=>?_) fun f2 σ2 w hb hQ=>?_
  ·refine IL names b b' h1 env A _ { s with heap:=h',toks:=tk } as' fr1 f2 τ σ2 f0 _ N hA ⟨F',R'⟩ hb fun f as3 h3 tk3 hf3 st3 R3 F3=>?_
   rcases eK.go hf hf3 with q | q <;> rw [q] <;> exact ⟨j,hj,fun G H=>H f2 σ2 as3 h3 tk3 rfl e2 (st2.trans st3 R3.nd F3.offs) R3 F3⟩
  ·refine IL names b b' h1 env A _ { s with heap:=h',toks:=tk } as' fr1 f2 τ σ2 .brk _ N hA ⟨F',R'⟩ hb fun f as3 h3 tk3 hf3 st3 R3 F3=>?_
   rw [show f=.brk from hf3]
   exact hQ .next as3 h3 tk3 rfl (st2.trans st3 R3.nd F3.offs) R3 F3
  ·refine IL names b b' h1 env A _ { s with heap:=h',toks:=tk } as' fr1 f2 τ σ2 (.ret w) _ N hA ⟨F',R'⟩ hb fun f as3 h3 tk3 hf3 st3 R3 F3=>hf3.elim fun val q=>?_
   rw [q.1]
   exact hQ (.ret val) as3 h3 tk3 ⟨val,rfl,q.2⟩ (st2.trans st3 R3.nd F3.offs) R3 F3
theorem Ax {t it:Expr}{b:List Stmt}{it':E}{b':List S}{tg:List Nat}{one:Bool}{p:Pos} (IH:bE g c0 call r n) {m:Nat} (IL:jM g c0 call wf r m) (ht:tgt (c0.sub names) t=some (tg,one)) (h0:al n (c0.sub names) it=some it') (h1:aP (bP m (c0.sub names)) b=some b') :
  eD g c0 call wf r names (.For t it b [] p) (.forS tg one (.e it') b'):=fun env A X s as fr fr' σ σ' fl Q N hA T ev hQ=>by
 refine bY (fr:=fr) ev fun u τ e1 e2=>?_
 refine rO e2 (fun q=>nomatch q) fun src k hs hl ev=>?_
 refine wpAny_For (IH names it it' h0 env A X s as fr σ τ u _ N hA T e1 fun val as1 k1 tk1 st1 R1 F1 r1=>?_) (jn h0)
 have T1:At g env as1 fr τ { s with heap:=k1,toks:=tk1 }:=⟨F1,R1⟩
 refine lJ T1 r1 hs hl fun o T2 it0=>?_
 have nn:=T1.notNew
 have Z:FX g env { s with heap:=k1,toks:=tk1 } k1.objs.size:=⟨fun q=>by
  rcases bJ q with q | ⟨y,q⟩
  ·exact nn.1 q
  ·exact T1.cellNew _ _ q rfl,nn.2.2,new_none _⟩
 exact qw (tk:=tk1) IL Z N hA ht h1 ev .zero ⟨bD _ _ _ _,T2.R,T2.F,it0,nn.2.1⟩ (eG hQ (up st1))
set_option tactic.hygienic true in
theorem ym {ts:List Expr}{kk:Nat}{tp fp p1 p:Pos}{it:Expr}{b:List Stmt}{it':E}{b':List S}{tg:List Nat × Bool}{m:Nat} (G:bC g K c0 fa) (IH:bE g c0 call r 30) (IL:jM g c0 call wf r m) (hg:(c0.sub names).glob "enumerate"=true) (hh:c0.hnd=false) (ht:tgt (c0.sub names) (.Tuple ts kk tp)=some tg) (h0:al 30 (c0.sub names) it=some it') (h1:aP (bP m (c0.sub names)) b=some b') :
  eD g c0 call wf r names (.For (.Tuple ts kk tp) (.Call (.Name "enumerate" fp) [it] [] p1) b [] p) (.forS tg.1 tg.2 (.enum it') b'):=fun env A X s as fr fr' σ σ' fl Q N hA T ev hQ=>by
 refine bY (fr:=fr) (eC ev) fun u τ e1 e2=>?_
 refine rr e2 (fun q=>nomatch q) fun src k hs hl ev=>?_
 refine wpAny_For (l4 IH hg rfl G.en ⟨_,.inr rfl⟩ h0 N hA T e1 fun y as1 k1 tk1 st1 R1 F1 r1=>?_) (fun _=>rfl)
 have T1:At g env as1 fr τ { s with heap:=k1,toks:=tk1 }:=⟨F1,R1⟩
 cases u <;> first | exact nn hs | skip
 rename_i l
 cases Option.some.inj (show some (Src.enum l)=some src from hs)
 obtain ⟨m',hm⟩:=hl
 obtain ⟨xs,hx,_⟩:=Option.map_eq_some_iff.mp hm
 refine ay (s:={ s with heap:=k1,toks:=tk1 }) R1 r1 hx fun a items n' qx hd ho hr hz hsz=>?_; subst qx
 refine call_enumerate_list ho.isList fun h' he hit hs' kk'=>wpAny_pyIter_enum he ?_
 have fresh:∀ b:Addr,k1.objs.size ≤ b→k1.get? b=none:=fun b hb=>by
  cases e:k1.get? b with
  | none=>rfl
  | some ob=>exact absurd (Heap.lt_size e) (Nat.not_lt.mpr hb)
 have f1:=fresh (k1.objs.size + 1) (Nat.le_succ _)
 have f0:=fresh k1.objs.size (Nat.le_refl _)
 have own:∀ b,k1.get? b=none→b ∉ ownOf env:=fun b hb q=>by
  rcases bJ q with q | ⟨y,q⟩
  ·obtain ⟨ob,e⟩:=F1.there; rw [← q,hb] at e; exact nn e
  ·obtain ⟨cv,ob,e,_⟩:=(F1.offc _ _ q).2.2; rw [hb] at e; exact nn e
 have bnone:∀ b,k1.get? b=none→g.b.get? b=none:=fun b hb=>by
  cases e:g.b.get? b with
  | none=>rfl
  | some ob=>exact nn (hb.symm.trans (R1.base _ _ e))
 have nin:∀ b,k1.get? b=none→b ∉ as1:=fun b hb q=>by obtain ⟨ob,e,_⟩:=R1.there q; exact nn (hb.symm.trans e)
 have x0:aF [] as1 k1 as1 h':=aF.of_ext kk'
 exact nH (s:={ s with heap:=k1,toks:=tk1 }) (tk:=tk1) IL ⟨⟨own _ f1,own _ f0⟩,⟨bnone _ f1,bnone _ f0⟩,⟨f1,f0⟩⟩ N hA (G.hd hh) ht h1 ev
  ⟨x0.grow (fun _ q=>nomatch q),R1.ext kk',T1.frame x0,⟨a,_,hd,he,hit⟩,nin _ f1,nin _ f0⟩ (eG hQ (up st1))
set_option tactic.hygienic true in
theorem zX {t e:Expr}{p:Pos}{st':S} (G:bC g K c0 fa) (J:bv g) (C:ck g K c0 fa call r) (h:yB (c0.sub names) t e=some st'):eD g c0 call wf r names (.Assign [t] e p) st':=by
 have IH:=(ci G J C 30).1
 unfold yB at h
 cases q:vw t <;> rw [q] at h <;> first | exact nn h | skip
 ·refine b9 h fun i a h1 h2 qx4=>?_; subst qx4
  obtain ⟨xp,rfl⟩:=bI q
  exact Au (n:=29) IH (ci G J C 29).1 (ci G J C 29).2 h1 (fc h2).1
 ·obtain ⟨h0,h⟩:=au h
  refine b9 h fun is a h1 h2 qx4=>?_; subst qx4
  obtain ⟨k,xp,rfl⟩:=bI q
  exact xj IH h1 (qi (aX h0)) h2
 ·rename_i u
  refine d0 h fun o k a h1 h2 h3 qx6=>?_; subst qx6
  have hv:t=_:=bI q
  subst hv
  exact yJ G J IH h1 h2 h3
 ·rename_i u
  refine d0 h fun o k a h1 h2 h3 qx6=>?_; subst qx6
  obtain ⟨xp,rfl⟩:=bI q
  exact xq IH h1 h2 h3
theorem cG {α:Type}{l:List α}:l.isEmpty=true→l=[]:=List.casesOn l (fun _=>rfl) fun _ _=>ft
theorem o9 {m:Nat} (G:bC g K c0 fa) (J:bv g) (C:ck g K c0 fa call r) (IL:jM g c0 call wf r m) (st:Stmt) (st':S) (h:bP (m + 1) (c0.sub names) st=some st'):eD g c0 call wf r names st st':=by
 have IH:=(ci G J C 30).1
 have IT:=(ci G J C 30).2
 cases st with
 | Expr e p=>obtain ⟨h0,h⟩:=au h; refine bZ h fun a h1 qx2=>?_; subst qx2; exact xT IH (mJ (aX h0)) (fc h1).1
 | Return v p=>refine bT h fun e qx1 h=>?_; subst qx1; refine bZ h fun a h1 qx2=>?_; subst qx2; exact Ar IH (fc h1).1
 | Assign ts e p =>
  rcases ts with _ | ⟨t,_ | ⟨t2,ts⟩⟩
  ·exact nn h
  ·exact zX G J C h
  ·exact nn h
 | If t b o p=>refine d0 h fun x y z h1 h2 h3 qx6=>?_; subst qx6; exact Bf IT IL h1 h2 h3
 | While t b o p=>obtain ⟨h0,h⟩:=au h; refine b9 h fun x y h1 h2 qx4=>?_; subst qx4; cases cG h0; exact vX IT IL h1 h2
 | For t it b o p => 
  obtain ⟨h0,h⟩:=au h; refine d0 h fun x y z h1 h2 h3 qx6=>?_; subst qx6; cases cG h0
  exact qA (fun t it y=>tgt (c0.sub names) t=some x→eD g c0 call wf r names (.For t it b [] p) (.forS x.1 x.2 y z)) h2 (fun t it a h2 h1=>Ax IH IL h1 h2 h3)
   (fun ts k tp fp p1 e a hg hh h2 h1=>ym G IH IL hg hh h1 h2 h3)
   h1
 | Raise v cz p =>
  cases v with
  | none=>cases cz <;> exact nn h
  | some v=>cases cz with
   | some=>exact nn h
   | none =>
    refine bT h fun x h0 h=>?_
    obtain ⟨h1,h⟩:=au h
    refine bZ h fun a h2 qx2=>?_; subst qx2
    intro env A X s as fr fr' σ σ' fl Q N hA T ev hQ
    cases (show RS.ex a fr σ=RS.ok fl fr' σ' from ev)
 | Pass p=>exact si h xA
 | _=>exact nn h
theorem dp (G:bC g K c0 fa) (J:bv g) (C:ck g K c0 fa call r):∀ n,wQ g c0 call wf r n
 | 0=>fun names st st' h=>nn h
 | n + 1=>fun names st st' h=>o9 G J C (eH (dp G J C n)) st st' h
end
end Mine
namespace Mine
open PySem PyProof.Rows PySem.W
noncomputable def uu (K:Frag) (c:CE) (fd:FuncData):Bool :=
 fd.globals == mainGlobals && fd.builtins == builtinsNs && fd.closure.isEmpty && codeIn K fd.code fd.qualname && !fd.scope.isCoroutine && !fd.scope.isGenerator && nO fd.scope && fd.scope.names.all (fun p=>!(p.2 == .free)) &&
 fd.params.posonlyargs.isEmpty && fd.params.vararg.isNone && fd.params.kwonlyargs.isEmpty && fd.params.kw_defaults.isEmpty && fd.params.kwarg.isNone && decide ((fd.params.args.map (·.arg)).Nodup) && fd.defaults == .none &&
 (match c.lam with | some a=>fd.code == .ref a | none=>true)
noncomputable def xO (o:Option Obj):Option FuncData:=match o with
 | some o=>(match o.data with | .func fd=>some fd | _=>none)
 | none=>none
noncomputable def pr (b:FuncBody):Option (List Stmt):=match b with | .stmts b=>some b | _=>none
noncomputable def oM (cs:CE→Stmt→Option S) (K:Frag) (c:CE) (a:Addr):Option Fn:=(xO (K.lookup a)).bind fun fd=>gd (uu K c fd) ((pr fd.body).bind fun body =>
 gh (fun ps b=>⟨ps,fd.scope.names.length,b⟩) (aP (fun x=>(c.sub fd.scope.names).locW? x) (fd.params.args.map (·.arg))) (aP (cs (c.sub fd.scope.names)) body))
theorem rJ {o:Option Obj}{fd:FuncData} (h:xO o=some fd):∃ oc od osl,o=some ⟨oc,od,.func fd,osl⟩:=by
 cases o with
 | none=>exact nn h
 | some o =>
  obtain ⟨a,b,c,d⟩:=o
  cases c <;> first | exact nn h | exact ⟨a,b,d,by rw [← Option.some.inj h]⟩
theorem lF {b:FuncBody}{l:List Stmt} (h:pr b=some l):b=.stmts l:=by
 cases b <;> first | exact nn h | exact congrArg _ (Option.some.inj h)
noncomputable def aL (K:Frag) (c:CE) (a:Addr):Option Fn:=oM (bP 20) K c a
theorem jR:∀ (ps:List Nat) (vs:List V) (fr:Fra),(nD ps vs fr).length=fr.length
 | [],_,_=>rfl
 | _ :: _,[],_=>rfl
 | p :: ps,v :: vs,fr=>by rw [qK,jR]; simp
theorem jU:∀ (ps:List Nat) (vs:List V) (fr:Fra) (i:Nat) (v:V),(nD ps vs fr)[i]?=some (some v)→fr[i]?=some (some v) ∨ ∃ j:Nat,ps[j]?=some i ∧ vs[j]?=some v
 | [],_,_,_,_,h=>.inl h
 | _ :: _,[],_,_,_,h=>.inl h
 | p :: ps,v :: vs,fr,i,w,h=>by
  rw [qK] at h
  rcases jU ps vs _ i w h with h | ⟨j,h1,h2⟩
  ·by_cases hp:p=i
   ·subst hp
    by_cases hl:p < fr.length
    ·rw [List.getElem?_set_self hl] at h
     simp only [Option.some.injEq] at h; subst h
     exact .inr ⟨0,rfl,rfl⟩
    ·rw [List.getElem?_eq_none (by simp; lia)] at h; cases h
   ·rw [List.getElem?_set_ne hp] at h; exact .inl h
  ·exact .inr ⟨j + 1,by simpa using h1,by simpa using h2⟩
theorem kb {kindOf:Str→Option NameKind}{x:Str}{v:Value} (hk:kindOf x=some .local):∀ (binds:List (Str × Value)) (m:Str→Option Value),(binds.map (·.1)).Nodup→((x,v) ∈ binds ∨ (m x=some v ∧ x ∉ binds.map (·.1)))→bindL kindOf binds m x=some v
 | [],m,_,h=>h.elim (fun q=>by cases q) fun q=>q.1
 | (n,w) :: r,m,nd,h=>by
  rw [bindL]
  rw [List.map_cons,List.nodup_cons] at nd
  refine kb hk r _ nd.2 ?_
  rcases h with h | ⟨h1,h2⟩
  ·rcases List.mem_cons.mp h with q | q
   ·cases q
    refine .inr ⟨?_,nd.1⟩
    rw [if_pos hk]; simp
   ·exact .inl q
  ·rw [List.map_cons,List.mem_cons,not_or] at h2
   refine .inr ⟨?_,h2.2⟩
   split
   ·simp [h2.1,h1]
   ·exact h1
theorem jN {kindOf:Str→Option NameKind}{x:Str}{v:Value} (hk:kindOf x ≠ some .local):∀ (binds:List (Str × Value)) (m:Str→Option Value),(binds.map (·.1)).Nodup→((x,v) ∈ binds ∨ (m x=some v ∧ x ∉ binds.map (·.1)))→bindC kindOf binds m x=some v
 | [],m,_,h=>h.elim (fun q=>by cases q) fun q=>q.1
 | (n,w) :: r,m,nd,h=>by
  rw [bindC]
  rw [List.map_cons,List.nodup_cons] at nd
  refine jN hk r _ nd.2 ?_
  rcases h with h | ⟨h1,h2⟩
  ·rcases List.mem_cons.mp h with q | q
   ·cases q
    refine .inr ⟨?_,nd.1⟩
    rw [if_neg hk]; simp
   ·exact .inl q
  ·rw [List.map_cons,List.mem_cons,not_or] at h2
   refine .inr ⟨?_,h2.2⟩
   split
   ·exact h1
   ·simp [h2.1,h1]
structure oK (g:Cfg) (cs:CE→Stmt→Option S) (c:CE) (fn:Fn) (A:Around) (as:List Addr) (σ:Sto) (s:Shared) (vs:List V) (n:Nat) (env:Env) (body:List Stmt) (h:Heap):Prop where
 comp:aP (cs (c.sub env.scope.names)) body=some fn.body
 N:aq (c.sub env.scope.names) env (A.deeper env)
 F:az g env as (aW fn vs) h
 R:Rel g as σ h
 ext:∀ (b:Addr) (o:Obj),s.heap.get? b=some o→h.get? b=some o
 new:∀ b ∈ ownOf env,s.heap.get? b=none
 fr:env.frame=some env.locals
 room:bU g (A.deeper env) (2 * n + 1)
section
variable {g:Cfg}{K:Frag}{fa:Nat→Option Addr}{P:Nat→Option Fn}{wf:Nat}
theorem jr {cs:CE→Stmt→Option S}{c:CE}{a:Addr}{fn:Fn}{vs:List V} {σ:Sto}{n:Nat}{A:Around}{s:Shared}{as:List Addr}{xs:List Value}{R:Result→Shared→Prop} (kin:K.In g.b) (hlim:g.b.NoLimit) (hT:c.top=none ∨ A.frames=some []) (hPk:oM cs K c a=some fn) (hlen:vs.length=fn.ps.length)
  (hA:bU g A (2 * (n + 1))) (R0:Rel g as σ s.heap) (hsz:g.b.objs.size ≤ s.heap.objs.size) (r0:ah as s.heap vs xs)
  (k:∀ (env:Env) (body:List Stmt) (h:Heap) (tk:Nat),oK g cs c fn A as σ s vs n env body h→wpAny (model g.prog g.w) (A.deeper env) (execs body env) (fun f s'=>R (.ok (.ret (match f with | .ret v=>v | _=>.none))) s')
    (fun e s'=>wpAny (model g.prog g.w) (A.deeper env) (leaving env e) (fun _ s''=>R (.error e) s'') (fun e' s''=>R (.error e') s'') s') { s with heap:=h,toks:=tk }) :
  codeAny (model g.prog g.w) A (.call (.ref a) ⟨xs,[]⟩) R s:=by
 refine bT hPk fun fd hK hPk=>?_
 obtain ⟨oc,od,osl,hK⟩:=rJ hK
 obtain ⟨hfit,hPk⟩:=au hPk
 refine bT hPk fun body hbody hPk=>?_
 have hbody:=lF hbody
 refine b9 hPk fun ps b' hps hb' qx4=>?_; subst qx4
 simp only [uu,Bool.and_eq_true,beq_iff_eq,List.isEmpty_iff,Bool.not_eq_true',List.all_eq_true,decide_eq_true_eq,Option.isNone_iff_eq_none] at hfit
 obtain ⟨⟨⟨⟨⟨⟨⟨⟨⟨⟨⟨⟨⟨⟨⟨f1,f2⟩,f3⟩,f4⟩,f5⟩,f6⟩,f7⟩,f8⟩,f9⟩,f10⟩,f11⟩,f12⟩,f13⟩,f14⟩,f15⟩,f16⟩:=hfit
 obtain ⟨hkind,hnd⟩:=gb f7
 have hpar:fd.params=⟨[],fd.params.args,none,[],[],none,fd.params.defaults⟩:=by
  rcases hq:fd.params with ⟨p1,p2,p3,p4,p5,p6,p7⟩
  rw [hq] at f9 f10 f11 f12 f13
  simp only at f9 f10 f11 f12 f13
  rw [f9,f10,f11,f12,f13]
 have hps':=co hps
 have hpl:fd.params.args.length=xs.length:=by
  have h1:=(ah.f2.mp r0).length
  have h2:=hps'.1
  rw [List.length_map] at h2
  have h3:vs.length=ps.length:=hlen
  lia
 have hbind:=iF hpar f15 f14 hpl
 have keep0:=R0.base
 have ho:s.heap.get? a=some ⟨oc,od,.func fd,osl⟩:=R0.base _ _ (kin _ _ hK)
 have hnb:((fd.params.args.map (·.arg)).zip xs).map (·.1)=fd.params.args.map (·.arg):=by
  rw [List.map_fst_zip]; rw [List.length_map]; lia
 have hpk:∀ x ∈ fd.params.args.map (·.arg),fd.scope.names.lookup x=some .local ∨ fd.scope.names.lookup x=some .cell:=fun x hx=>by
  obtain ⟨i,hi,rfl⟩:=List.getElem_of_mem hx
  obtain ⟨j,h1,h2⟩:=hps'.2 i _ (List.getElem?_eq_getElem hi)
  obtain ⟨kk,h3,h4⟩:=gf h2
  have h5:fd.scope.names.lookup ((fd.params.args.map (·.arg))[i])=some kk:=ba hnd h3
  rcases h4 with rfl | rfl
  ·exact .inl h5
  ·exact .inr h5
 have hcellsome:∀ x,fd.scope.names.lookup x=some .cell→∃ cc,(cellsFrom (s.heap.objs.size + 1) fd.scope.names []).lookup x=some cc:=fun x hx=>Option.isSome_iff_exists.mp (cellsFrom_some _ _ _ (.inl hx))
 have hdepth:A.depth < recursionLimit:=by have:=hA.depth; show _ < 1000; lia
 refine codeAny_call_cells hdepth ho rfl (hlim.keeps keep0) (codeRec_of (kin.keeps keep0) f4) hbody hbind f3 (fun x hx=>?_) (fun s₁ U=>?_) f5 f6 hkind
 ·have hx':x.1 ∈ fd.params.args.map (·.arg):=(List.of_mem_zip hx).1
  rcases hpk _ hx' with q | q
  ·exact .inl q
  ·exact .inr ⟨q,cellsFrom_some _ _ _ (.inl q)⟩
 obtain ⟨⟨⟨h₁,tk₁,rfl⟩,uns,ukeep,ufresh⟩,ucell,uapart,uabove⟩:=U
 have hE:∀ x,(callEnvC fd s.heap.objs.size a).kindOf x=fd.scope.names.lookup x:=fun x=>rfl
 have K1:cR as s.heap as h₁:=⟨fun _ _ e=>e,fun b o e _=>ukeep b o e⟩
 have R1:Rel g as σ h₁:=R0.ext ukeep
 have lkm:∀ x cc,(callEnvC fd s.heap.objs.size a).cells.lookup x=some cc→s.heap.objs.size < cc:=fun x cc e=>uabove x cc (ar e)
 have fresh:∀ b:Addr,s.heap.objs.size ≤ b→s.heap.get? b=none:=fun b hb=>by
  cases e:s.heap.get? b with
  | none=>rfl
  | some o=>exact absurd (Heap.lt_size e) (Nat.not_lt.mpr hb)
 have notas:∀ b:Addr,s.heap.objs.size ≤ b→b ∉ as:=fun b hb q=>by
  obtain ⟨o,e,_⟩:=R0.there q; rw [fresh b hb] at e; cases e
 have notb:∀ b:Addr,s.heap.objs.size ≤ b→g.b.get? b=none:=fun b hb=>by
  cases e:g.b.get? b with
  | none=>rfl
  | some o=>have:=R0.base _ _ e; rw [fresh b hb] at this; cases this
 have rvs:=ah.f2.mp (ah.keep K1 _ _ r0)
 have hval:∀ (i:Nat) (x:Str) (kk:NameKind) (w:V),fd.scope.names[i]?=some (x,kk)→(aW ⟨ps,fd.scope.names.length,b'⟩ vs)[i]?=some (some w)→∃ val,(x,val) ∈ (fd.params.args.map (·.arg)).zip xs ∧ RepV as h₁ w val:=fun i x kk w e1 e2=>by
  unfold aW at e2
  rcases jU _ _ _ _ _ e2 with h | ⟨j,h1,h2⟩
  ·exfalso
   rw [List.getElem?_replicate] at h
   split at h <;> simp at h
  ·obtain ⟨val,h3,h4⟩:=rvs.get h2
   have hj:j < (fd.params.args.map (·.arg)).length:=by
    have h1':ps[j]?=some i:=h1
    have h9:=(List.getElem?_eq_some_iff.mp h1').1
    have h8:=hps'.1
    lia
   obtain ⟨i',h5,h6⟩:=hps'.2 j _ (List.getElem?_eq_getElem hj)
   have h1':ps[j]?=some i:=h1
   rw [h1'] at h5; cases h5
   obtain ⟨k2,h7,_⟩:=gf h6
   have h7':fd.scope.names[i]?=some ((fd.params.args.map (·.arg))[j],k2):=h7
   rw [e1] at h7'; cases h7'
   refine ⟨val,?_,h4⟩
   have:((fd.params.args.map (·.arg)).zip xs)[j]?=some ((fd.params.args.map (·.arg))[j],val):=by
    rw [List.getElem?_zip_eq_some]
    exact ⟨List.getElem?_eq_getElem hj,h3⟩
   exact List.mem_of_getElem? this
 have F1:az g (callEnvC fd s.heap.objs.size a) as (aW ⟨ps,fd.scope.names.length,b'⟩ vs) h₁:=by
  refine ⟨hkind,hsz,f1,f2,?_,hnd,⟨_,uns,fun i x w e1 e2=>?_⟩,fun i x kk e1 e2=>?_,notas _ (Nat.le_refl _),fun x cc e=>⟨notas _ (Nat.le_of_lt (lkm x cc e)),Nat.ne_of_gt (lkm x cc e),⟨_,ucell x cc e⟩⟩,fun x y cc e1 e2=>?_,fun x cc e=>notb _ (Nat.le_of_lt (lkm x cc e))⟩
  ·show (aW _ vs).length=fd.scope.names.length
   unfold aW; rw [jR]; simp
  ·obtain ⟨val,h1,h2⟩:=hval i x _ w e1 e2
   refine ⟨val,kb ?_ _ _ (by rw [hnb]; exact f14) (.inl h1),h2⟩
   rw [hE]; exact ba hnd e1
  ·have hk2:kk=.cell:=by
    rcases e2 with e2 | e2
    ·exact e2
    ·have:=f8 _ (List.mem_of_getElem? e1)
     rw [e2] at this; cases this
   subst hk2
   have hlk:=ba hnd e1
   obtain ⟨cc,hcc⟩:=hcellsome x hlk
   refine ⟨cc,_,hcc,ucell x cc hcc,fun w e=>?_⟩
   obtain ⟨val,h1,h2⟩:=hval i x _ w e1 e
   refine ⟨val,jN ?_ _ _ (by rw [hnb]; exact f14) (.inl h1),h2⟩
   rw [hE,hlk]; simp
  ·exact name_of_addr uapart (ar e1) (ar e2)
 have N1:aq (c.sub fd.scope.names) (callEnvC fd s.heap.objs.size a) (A.deeper (callEnvC fd s.heap.objs.size a)):=by
  refine ⟨?_,fun a' ha'=>?_,fun (q:c.top=some fd.scope.names)=>⟨?_,rfl⟩⟩
  ·show F2 _ fd.scope.names fd.scope.names
   generalize fd.scope.names=l
   induction l with
   | nil=>exact .nil
   | cons p r ih=>exact .cons ⟨rfl,.inl rfl⟩ ih
  ·have ha'':c.lam=some a':=ha'
   rw [ha''] at f16
   exact eq_of_beq f16
  ·rcases hT with h | h
   ·rw [h] at q; cases q
   ·show A.frames.map _=_
    rw [h]; rfl
 have hroom:bU g (A.deeper (callEnvC fd s.heap.objs.size a)) (2 * n + 1):=by
  have h1:=hA.units; have h2:=hA.depth
  exact ⟨by rw [units_deeper]; lia,by rw [depth_deeper]; lia,hA.handled⟩
 exact k _ body h₁ tk₁ ⟨hb',N1,F1,R1,ukeep,fun b hb=>by
  rcases bJ hb with q | ⟨x,q⟩
  ·rw [q]; exact fresh _ (Nat.le_refl _)
  ·exact fresh _ (Nat.le_of_lt (lkm x b q)),rfl,hroom⟩
def qj (fl:Fl) (v:V):Prop:=fl=.ret v ∨ (fl=.next ∧ v=.none)
theorem rx {r:RS}{v:V} {σ':Sto} (e:sR r=.ok v σ'):∃ fl fr',r=.ok fl fr' σ' ∧ qj fl v:=by
 cases r with
 | ok f fr σ =>
  cases f with
  | next=>cases e; exact ⟨_,_,rfl,.inr ⟨rfl,rfl⟩⟩
  | ret w=>cases e; exact ⟨_,_,rfl,.inl rfl⟩
  | _=>cases e
 | _=>cases e
theorem tx {n k:Nat}{vs:List V} {σ σ':Sto}{v:V} (ev:evFn P wf (n + 1) k vs σ=.ok v σ'):∃ fn fl fr',P k=some fn ∧ vs.length=fn.ps.length ∧ evSs (evFn P wf n) wf fn.body (aW fn vs) σ=.ok fl fr' σ' ∧ qj fl v :=
 let ⟨fn,h1,h2,h3⟩:=rF ev fun q=>nomatch q
 let ⟨fl,fr',h4,h5⟩:=rx h3
 ⟨fn,fl,fr',h1,h2,h4,h5⟩
noncomputable def As:Flow→Value | .ret v=>v | _=>.none
theorem uU {as:List Addr}{h:Heap}{fl:Fl}{v:V}{f:Flow} (hf:eK as h fl f) (hr:qj fl v):RepV as h v (As f):=by
 rcases hr with rfl | ⟨rfl,rfl⟩
 ·obtain ⟨val,hv,rv⟩:=hf; subst hv; exact rv
 ·have:f=.next:=hf
  subst this; rw [RepV]; rfl
theorem de {c:CE}{call:Nat→List V→Sto→RE}{n:Nat} (h:c.top=none ∧ c.tfns=[]):ip g K c call n:=fun f k e=>by rw [h.2] at e; cases e
theorem nj {c:CE}{a:Addr}{fn:Fn}{vs:List V} {σ σ':Sto}{v:V}{fl:Fl}{fr':Fra}{call:Nat→List V→Sto→RE}{n:Nat}{A:Around}{s:Shared}{as:List Addr}{xs:List Value}{R:Result→Shared→Prop} (G:bC g K c fa) (J:bv g) (hlim:g.b.NoLimit) (C:ck g K c fa call (2 * n)) (hPk:aL K c a=some fn) (hlen:vs.length=fn.ps.length)
  (he:evSs call wf fn.body (aW fn vs) σ=.ok fl fr' σ') (hr:qj fl v) (hT:c.top=none ∨ A.frames=some []) (hA:bU g A (2 * (n + 1))) (R0:Rel g as σ s.heap) (hsz:g.b.objs.size ≤ s.heap.objs.size) (r0:ah as s.heap vs xs)
  (hR:∀ (val:Value) (as':List Addr) (h':Heap) (tk:Nat),aF [] as s.heap as' h'→Rel g as' σ' h'→RepV as' h' v val→R (.ok (.ret val)) { s with heap:=h',toks:=tk }):codeAny (model g.prog g.w) A (.call (.ref a) ⟨xs,[]⟩) R s:=by
 refine jr G.kin hlim hT hPk hlen hA R0 hsz r0 fun env body h tk E=>?_
 refine eH (dp G J C 20) _ body fn.body E.comp _ _ _ { s with heap:=h,toks:=tk } as _ fr' σ σ' fl _ E.N E.room ⟨E.F,E.R⟩ he fun f as2 h2 tk2 hf st2 R2 F2=>?_
 have a1:aF (ownOf env) as s.heap as h:=aF.of_ext E.ext
 exact hR (As f) as2 h2 tk2 ((a1.trans st2 R2.nd F2.offs).shrink fun b hb=>.inr (E.new b hb)) R2 (uU hf hr)
theorem o0 (c:Nat→CE) (hT:∀ k a,fa k=some a→(c k).top=none ∧ (c k).tfns=[]) (G:∀ k a,fa k=some a→bC g K (c k) fa) (J:bv g) (hlim:g.b.NoLimit) (hP:∀ k a,fa k=some a→P k=aL K (c k) a) {n:Nat} (C:dW g fa (evFn P wf n) (2 * n)):dW g fa (evFn P wf (n + 1)) (2 * (n + 1)):=by
 intro k a vs σ σ' v hfa ev A s as xs R hA R0 hsz r0 hR
 obtain ⟨fn,fl,fr',hfn,hlen,he,hr⟩:=tx ev
 exact nj (G k a hfa) J hlim ⟨C,de (hT k a hfa)⟩ ((hP k a hfa).symm.trans hfn) hlen he hr (.inl (hT k a hfa).1) hA R0 hsz r0 hR
theorem gk (c:Nat→CE) (hT:∀ k a,fa k=some a→(c k).top=none ∧ (c k).tfns=[]) (G:∀ k a,fa k=some a→bC g K (c k) fa) (J:bv g) (hlim:g.b.NoLimit) (hP:∀ k a,fa k=some a→P k=aL K (c k) a):∀ n,dW g fa (evFn P wf n) (2 * n)
 | 0=>fun k a vs σ σ' v hfa ev=>nomatch ev
 | n + 1=>o0 c hT G J hlim hP (gk c hT G J hlim hP n)
end
end Mine
namespace Mine
open PySem PyProof.Rows PySem.W
section
variable {g:Cfg}{K:Frag}{fa:Nat→Option Addr}{env:Env}{A:Around}{X:Value→Shared→Prop}{s:Shared}{as:List Addr}{fr:Fra} {σ:Sto}{c0:CE}{names:List (Str × NameKind)}
theorem wP {x:Str}{C:Addr}{np cpos pos p:Pos}{text:Str}{u:Nat}{Q:Flow→Shared→Prop} (G:bC g K c0 fa) (hx:c0.excs.lookup x=some C) (T:At g env as fr σ s) (N:aq (c0.sub names) env A) (hA:A.handled=none) (hg:(c0.sub names).glob x=true) (hd:(x == ("__debug__":Str))=false)
  (hE:∀ h' e t tk,Heap.MadeExcOf s.heap h' e (.ref C) [.str text t]→X (.ref e) { s with heap:=h',toks:=tk }) :
  wpAny (model g.prog g.w) A (exec (.Raise (some (.Call (.Name x np) [.Constant (.str text) u p] [] cpos)) none pos) env) Q X s:=by
 obtain ⟨mg,O⟩:=G.exc.r x C hx
 obtain ⟨bm,Na,nm,q,bs,hdct,sn,sub,ab,col,dd,k0,k1,k2,k3,k5,mN,hC,hn,hni,OT⟩:=O.obj
 refine wpAny_Raise_call_subT (C:=C) (nm:=nm) (q:=q) (N:=Na) (bs:=bs) (hdct:=hdct) (sn:=sn) (sub:=sub) (ab:=ab) (col:=col) (dd:=dd) (k0:=k0) (k1:=k1) (k2:=k2) (k3:=k3) (k5:=k5) F.excBase_ValueError (OT.hasType F.excBase_ValueError.hasBase) hA rfl hni (cJ T N hg hd (G.exc.i x C hx) ⟨rfl,?_⟩)
 refine PySem.Calls.evalArgs_plain (PySem.Calls.spliced_cons (wpAny_Constant_str (k:=u) (pos:=p) ?_))
 exact PySem.Calls.spliced_nil ⟨rfl,(by decide:1 ≤ sizeLine),T.R.base _ _ hC,hn.keeps T.R.base,OT.keeps T.R.base,fun h' e hm=>hE h' e _ _ hm⟩
end
end Mine
namespace Mine
open PySem PyProof.Rows PySem.W
inductive ww (base:Heap) (e:Addr) (h:Heap) (vs:Array Value):Option Value→Prop
 | made (h1:vs[1]?=some .none):ww base e h vs none
 | tb {f:Value}{T:Addr}{oT:Obj}{ts:Array Value} (h1:vs[1]?=some (.ref T)) (hn:base.get? T=none) (hne:T ≠ e) (hT:h.get? T=some oT) (hd:oT.data=.fields ts) (h3:ts[3]?=some f):ww base e h vs (some f)
structure Fly (base:Heap) (l:List Env) (e:Addr) (cls:Value) (fl:Option Value) (h:Heap):Prop where
 stays:base.StaysIn h
 new:base.get? e=none
 frames:h.FunFrames base l
 st:∃ oe vs,h.get? e=some oe ∧ oe.dict=none ∧ oe.cls=cls ∧ oe.data=.fields vs ∧ vs[2]?=some .none ∧ ww base e h vs fl
section
variable {M:Model}{A:Around}{E:Value→Shared→Prop}{s:Shared}{base:Heap}{env:Env}{outer l:List Env}{L e:Addr}{cls:Value}
theorem th (o:Obj) (f:Array Value→Array Value):(Obj.mapFields f o).dict=o.dict:=by
 obtain ⟨c,d,dt,sl⟩:=o; cases dt <;> rfl
theorem nA {oe:Obj}{vs:Array Value}{head:Value}{hadNext:Bool}{Q:Unit→Shared→Prop} (hfr:A.frames=some (env :: outer)) (hl:s.heap.FunFrames base (env :: outer)) (hf:env.frame=some L)
  (he:s.heap.get? e=some oe) (hkb:base.StaysIn s.heap) (hen:base.get? e=none) (hn0:oe.dict=none) (hd:oe.data=.fields vs) (hsz:1 < vs.size) (h2:vs[2]?=some .none)
  (h:∀ h',Fly base (env :: outer) e oe.cls (some (rawInt L)) h'→s.heap.UpToSlots h'→Q () { s with heap:=h' }) :
  wpAny M A (do let a ← frameOf env; let pl ← entryPlaceOf L hadNext; let b ← EntryCells.newEntry head a .none (rawInt L) .none pl; setField (.ref e) 1 b) Q E s:=by
 have hene:e ∉ (env :: outer).filterMap (·.frame):=fun hm=>by
  obtain ⟨_,o,ho,hnf⟩:=hl.mem hm
  rw [he] at ho; cases ho; exact hnf vs hd
 refine wpAny_bind (wpAny_frameOf_fun hfr hl hf fun h₁ hs₁=>?_)
 refine wpAny_bind (wpAny_entryPlaceOf fun pl hpl=>?_)
 unfold EntryCells.newEntry newFields
 refine wpAny_bind (wpAny_newObj_type ?_ (hpl.sizeOk5 _ _ _ _ _))
 have he₁:h₁.get? e=some oe:=(hs₁.2.1 e hene).trans he
 have kb₁:base.StaysIn h₁:=fun b o hbo=>(hs₁.2.1 b fun hm=>by rw [(hl.mem hm).1] at hbo; cases hbo).trans (hkb b o hbo)
 have he₂:=Heap.get?_push_of_some (h:=h₁) { cls:=.type "traceback",dict:=none,data:=.fields ([head,.ref L,.none,rawInt L,.none] ++ (if pl.isEmpty then List.replicate 6 Value.none else pl)).toArray } he₁
 have hTe:h₁.objs.size ≠ e:=Nat.ne_of_gt (Heap.lt_size he₁)
 have hd₃:=Obj.data_mapFields hd (·.setIfInBounds 1 (Value.ref h₁.objs.size))
 have he₃:=Heap.get?_update_self (Obj.mapFields (·.setIfInBounds 1 (Value.ref h₁.objs.size))) he₂ (Obj.isFreed_of_fields hd₃)
 have noRecord:∀ b o,s.heap.get? b=some o→(∀ vs,o.data ≠ .fields vs)→b ≠ e:=fun b o hb hnf q=>by
  rw [q,he] at hb; cases hb; exact hnf vs hd
 have hT₃:=(Heap.get?_update_other _ (Obj.mapFields (·.setIfInBounds 1 (Value.ref h₁.objs.size))) (Ne.symm hTe)).trans (Heap.get?_push_size h₁ (o:={ cls:=.type "traceback",dict:=none,data:=.fields ([head,.ref L,.none,rawInt L,.none] ++ (if pl.isEmpty then List.replicate 6 Value.none else pl)).toArray }) rfl)
 have keep:∀ b o,b ≠ e→h₁.get? b=some o→((h₁.push { cls:=.type "traceback",dict:=none,data:=.fields ([head,.ref L,.none,rawInt L,.none] ++ (if pl.isEmpty then List.replicate 6 Value.none else pl)).toArray }).update e (Obj.mapFields (·.setIfInBounds 1 (Value.ref h₁.objs.size)))).get? b=some o:=fun b o hbe hb=>by
  rw [Heap.get?_update_other _ _ (Ne.symm hbe)]; exact Heap.get?_push_of_some _ hb
 refine wpAny_setField he₂ hd hsz (h _ ⟨fun b o hbo=>keep b o (fun q=>by rw [q,hen] at hbo; cases hbo) (kb₁ b o hbo),hen,hl.of_keeps fun b o hb hnf=>?_,_,_,he₃,(th _ _).trans hn0,Obj.cls_mapFields _ _,hd₃,?_,.tb (T:=h₁.objs.size) (by simp [hsz]) kb₁.fresh hTe hT₃ rfl ?_⟩ fun b o hb hnf=>?_)
 ·obtain ⟨sl,hs⟩:=hs₁.2.2 b o hb
  exact ⟨_,keep b _ (noRecord b o hb hnf) hs,rfl⟩
 ·rw [Array.getElem?_setIfInBounds_ne (by decide)]; exact h2
 ·first | (simp; done) | (rcases hpl with rfl | ⟨_,_,_,_,_,_,_,rfl⟩ <;> simp)
 ·obtain ⟨sl,hs⟩:=hs₁.2.2 b o hb
  exact ⟨sl,keep b _ (noRecord b o hb hnf) hs⟩
set_option tactic.hygienic true in
theorem li {fl:Option Value}{Q:Unit→Shared→Prop} (hfr:A.frames=some (env :: outer)) (hf:env.frame=some L) (F:Fly base (env :: outer) e cls fl s.heap) (hfl:fl=none ∨ fl=some .none ∨ fl=some (rawInt L))
  (h:∀ h',Fly base (env :: outer) e cls (some (rawInt L)) h'→s.heap.UpToSlots h'→Q () { s with heap:=h' }):wpAny M A (noteFrame (.ref e) env) Q E s:=by
 obtain ⟨oe,vs,he,hn0,hc,hd,h2,fa⟩:=F.st
 subst hc
 unfold noteFrame
 simp only [hf]
 cases fa with
 | made h1 =>
  refine wpAny_bind (wpAny_field he hd h1 ?_)
  rw [if_neg (by decide)]
  exact nA hfr F.frames hf he F.stays F.new hn0 hd (Array.getElem?_eq_some_iff.mp h1).1 h2 h
 | tb h1 hn hne hT hdT h3 =>
  rename_i f T oT ts
  refine wpAny_bind (wpAny_field he hd h1 ?_)
  rw [if_pos (show (Value.ref T != Value.none)=true from by simp)]
  refine wpAny_bind (wpAny_field hT hdT h3 ?_)
  rcases hfl with q | q | q
  ·cases q
  ·cases q
   rw [if_neg (show ¬ ((Value.none == rawInt L)=true) from by simp [rawInt])]
   refine wpAny_bind (wpAny_setField hT hdT (Array.getElem?_eq_some_iff.mp h3).1 ?_)
   have other:∀ b,b ≠ T→(s.heap.update T (Obj.mapFields (·.setIfInBounds 3 Value.none))).get? b=s.heap.get? b:=fun b hb=>Heap.get?_update_other _ _ (Ne.symm hb)
   have noRecord:∀ b o,s.heap.get? b=some o→(∀ vs,o.data ≠ .fields vs)→b ≠ T:=fun b o hb hnf q=>by
    rw [q,hT] at hb; cases hb; exact hnf ts hdT
   exact nA (s:={ s with heap:=s.heap.update T (Obj.mapFields (·.setIfInBounds 3 Value.none)) }) hfr (F.frames.of_keeps fun b o hb hnf=>⟨o,(other b (noRecord b o hb hnf)).trans hb,rfl⟩) hf ((other e (Ne.symm hne)).trans he)
    (fun b o hbo=>(other b fun q=>by rw [q,hn] at hbo; cases hbo).trans (F.stays b o hbo)) F.new hn0 hd (Array.getElem?_eq_some_iff.mp h1).1 h2
    fun h' x1 x2=>h h' x1 fun b o hb hnf=>x2 b o ((other b (noRecord b o hb hnf)).trans hb) hnf
  ·cases q
   rw [if_pos (show (rawInt L == rawInt L)=true from by simp)]
   exact wpAny_pure (h _ F (Heap.UpToSlots.refl _))
set_option tactic.hygienic true in
theorem eF {f:Value}{o:Option Addr}{Q:Unit→Shared→Prop} (F:Fly base l e cls (some f) s.heap)
  (h:∀ h',Fly base l e cls (some (o.elim .none fun a=>rawInt a)) h'→s.heap.UpToSlots h'→Q () { s with heap:=h' }):wpAny M A (setFlight (.ref e) o) Q E s:=by
 obtain ⟨oe,vs,he,hn0,hc,hd,h2,fa⟩:=F.st
 cases fa with
 | tb h1 hn hne hT hdT h3 =>
  rename_i T oT ts
  have hsz3:3 < ts.size:=(Array.getElem?_eq_some_iff.mp h3).1
  have other:∀ b,b ≠ T→(s.heap.update T (Obj.mapFields (·.setIfInBounds 3 (o.elim Value.none fun f=>rawInt f)))).get? b=s.heap.get? b:=fun b hb=>Heap.get?_update_other _ _ (Ne.symm hb)
  have noRecord:∀ b o,s.heap.get? b=some o→(∀ vs,o.data ≠ .fields vs)→b ≠ T:=fun b o hb hnf q=>by
   rw [q,hT] at hb; cases hb; exact hnf ts hdT
  unfold setFlight
  refine wpAny_bind (wpAny_field he hd h1 ?_)
  rw [if_pos (show (Value.ref T != Value.none)=true from by simp)]
  refine wpAny_setField hT hdT hsz3 (h _ ⟨fun b o hbo=>(other b fun q=>by rw [q,hn] at hbo; cases hbo).trans (F.stays b o hbo),F.new,F.frames.of_keeps fun b o hb hnf=>⟨o,(other b (noRecord b o hb hnf)).trans hb,rfl⟩,oe,vs,(other e (Ne.symm hne)).trans he,hn0,hc,hd,h2,.tb h1 hn hne (Heap.get?_update_self _ hT (Obj.isFreed_of_fields (Obj.data_mapFields hdT _))) (Obj.data_mapFields hdT _) (by simp [hsz3])⟩ fun b o hb hnf=>⟨o.slots,(other b (noRecord b o hb hnf)).trans hb⟩)
theorem tM {fl:Option Value}{Q:Unit→Shared→Prop} (hfr:A.frames=some (env :: outer)) (hf:env.frame=some L) (F:Fly base (env :: outer) e cls fl s.heap) (hfl:fl=none ∨ fl=some .none ∨ fl=some (rawInt L))
  (h:∀ h',Fly base outer e cls (some .none) h'→s.heap.UpToSlots h'→Q () { s with heap:=h' }):wpAny M A (leaving env (.ref e)) Q E s:=by
 unfold leaving
 refine wpAny_bind (li hfr hf F hfl fun h₁ F₁ u₁=>?_)
 exact eF (s:={ s with heap:=h₁ }) (o:=none) F₁ fun h₂ F₂ u₂=>h h₂ ⟨F₂.stays,F₂.new,F₂.frames.2.2,F₂.st⟩ (u₁.trans u₂)
set_option tactic.hygienic true in
theorem vT {fl:Option Value} (hf:env.frame=some L) {f:Value} (F:Fly base (env :: outer) e cls (some f) s.heap)
  (h:∀ h',Fly base (env :: outer) e cls (some (rawInt L)) h'→s.heap.UpToSlots h'→E (.ref e) { s with heap:=h' }):cameBackBy M A env E (.ref e) s:=by
 have F0:=F
 obtain ⟨oe,vs,he,hn0,hc,hd,h2,fa⟩:=F.st
 cases fa with
 | tb h1 hn hne hT hdT h3 =>
  rename_i T oT ts
  unfold cameBackBy
  refine wpAny_bind (wpAny_field he hd h1 ?_)
  rw [if_neg (show ¬ ((Value.ref T == Value.none)=true) from by simp)]
  rw [hf]
  exact eF (o:=some L) F0 h
end
end Mine
namespace Mine
open PySem PyProof.Rows PySem.W
noncomputable def Frs (l:List Env):List Addr:=l.filterMap (·.frame)
structure Stk (g:Cfg) (as:List Addr) (l:List Env) (h:Heap):Prop where
 fr:h.FunFrames g.b l
 off:∀ a ∈ Frs l,a ∉ as
 dict:∀ a ∈ Frs l,∀ o,h.get? a=some o→¬ Imm o
structure FrX (g:Cfg) (env:Env) (as:List Addr) (fr:Fra) (B h:Heap):Prop where
 kind:env.scope.kind=.function
 above:g.b.objs.size ≤ env.locals
 glob:env.globals=mainGlobals
 blt:env.builtins=builtinsNs
 len:fr.length=env.scope.names.length
 nd:(env.scope.names.map (·.1)).Nodup
 ns:∃ m,h.Ns env.locals m ∧ ∀ (i:Nat) (x:Str) (v:V),env.scope.names[i]?=some (x,.local)→fr[i]?=some (some v)→∃ val,m x=some val ∧ RepV as B v val
 cells:∀ (i:Nat) (x:Str) (k:NameKind),env.scope.names[i]?=some (x,k)→(k=.cell ∨ k=.free)→∃ c cv,env.cells.lookup x=some c ∧ B.IsCell c cv ∧ (∀ v,fr[i]?=some (some v)→∃ val,cv=some val ∧ RepV as B v val)
 off:env.locals ∉ as
 offc:∀ x c,env.cells.lookup x=some c→c ∉ as ∧ c ≠ env.locals ∧ ∃ cv,B.IsCell c cv
 apart:∀ x y c,env.cells.lookup x=some c→env.cells.lookup y=some c→x=y
 newc:∀ x c,env.cells.lookup x=some c→g.b.get? c=none
structure ku (g:Cfg) (env:Env) (l:List Env) (own as:List Addr) (h:Heap) (C:Addr) (fl:Option Value) (fr':Fra) (σ':Sto) (e:Addr) (as':List Addr) (B h':Heap):Prop where
 pre:∃ t,as'=as ++ t ∧ ∀ a ∈ t,h.get? a=none
 ext:∀ (b:Addr) (o:Obj),h.get? b=some o→b ∉ own→b ∉ as→b ∉ Frs l→B.get? b=some o
 slots:∀ (b:Addr) (o:Obj),h.get? b=some o→b ∈ Frs l→b ∉ own→∃ sl,h'.get? b=some { o with slots:=sl }
 R:Rel g as' σ' B
 F:FrX g env as' fr' B h'
 fly:Fly B l e (.ref C) fl h'
section
variable {g:Cfg}{env:Env}{A:Around}{X:Value→Shared→Prop}{s:Shared}{as own:List Addr}{fr:Fra} {σ:Sto}{c:CE}{l:List Env}
theorem Rel.sub {h B:Heap} (R:Rel g as σ h) (hb:∀ (b:Addr) (o:Obj),h.get? b=some o→(g.b.get? b).isSome ∨ b ∈ as ∨ Imm o→B.get? b=some o):Rel g as σ B :=
 have K:cR as h as B:=⟨fun _ _ e=>e,fun a o e im=>hb a o e (.inr (.inr im))⟩
 ⟨fun a o e=>hb a o (R.base a o e) (.inl (by rw [e]; rfl)),R.len,R.nd,R.new,fun i a o h1 h2=>(R.obj i a o h1 h2).keep K fun ob e=>hb a ob e (.inr (.inl (List.mem_of_getElem? h1))),R.hnd.keep K⟩
theorem cZ {h base:Heap}{l:List Env} (F:h.FunFrames base l) {b:Addr} (hb:b ∈ Frs l):base.get? b=none ∧ ∃ o,h.get? b=some o ∧ ∀ vs,o.data ≠ .fields vs:=F.mem hb
theorem gL {h base:Heap}:∀ {l:List Env},h.FunFrames base l→∀ S:List Addr,(∀ a ∈ Frs l,a ∈ S)→h.FunFrames (hideAll h S) l
 | [],_,_,_=>trivial
 | env :: l,⟨hk,⟨L,o,hf,_,ho,hd⟩,hr⟩,S,hS=>by
  refine ⟨hk,⟨L,o,hf,hideAll_none _ (hS L ?_),ho,hd⟩,gL hr S fun a ha=>hS a ?_⟩
  ·unfold Frs; rw [List.filterMap_cons,hf]; exact .head _
  ·unfold Frs at *; rw [List.filterMap_cons,hf]; exact .tail _ ha
theorem iS {B h:Heap} (k:B.StaysIn h) {c:Addr}{cv:Option Value} (x:B.IsCell c cv):h.IsCell c cv:=by
 obtain ⟨o,ho,r⟩:=x
 exact ⟨o,k _ _ ho,r⟩
theorem FrX.rel {B h:Heap} (F:FrX g env as fr B h) (k:B.StaysIn h):az g env as fr h:=by
 have K:cR as B as h:=⟨fun _ _ e=>e,fun a o e _=>k a o e⟩
 obtain ⟨m,hm,hv⟩:=F.ns
 refine ⟨F.kind,F.above,F.glob,F.blt,F.len,F.nd,⟨m,hm,fun i x v h1 h2=>?_⟩,fun i x kk h1 h2=>?_,F.off,fun x c hc=>?_,F.apart,F.newc⟩
 ·obtain ⟨val,e1,e2⟩:=hv i x v h1 h2
  exact ⟨val,e1,RepV.keep K _ _ e2⟩
 ·obtain ⟨c,cv,e1,e2,e3⟩:=F.cells i x kk h1 h2
  exact ⟨c,cv,e1,iS k e2,fun v hv=>by obtain ⟨val,q1,q2⟩:=e3 v hv; exact ⟨val,q1,RepV.keep K _ _ q2⟩⟩
 ·obtain ⟨a,b,cv,d⟩:=F.offc x c hc
  exact ⟨a,b,cv,iS k d⟩
theorem FrX.slots {B h h':Heap} (F:FrX g env as fr B h) (u:h.UpToSlots h'):FrX g env as fr B h':=by
 obtain ⟨m,hm,hv⟩:=F.ns
 exact ⟨F.kind,F.above,F.glob,F.blt,F.len,F.nd,⟨m,u.ns hm,hv⟩,F.cells,F.off,F.offc,F.apart,F.newc⟩
theorem FrX.offs {B h:Heap} (F:FrX g env as fr B h):∀ a ∈ ownOf env,a ∉ as:=fun a ha=>by
 rcases List.mem_cons.mp ha with rfl | ha
 ·exact F.off
 ·obtain ⟨p,hp,e⟩:=List.mem_filterMap.mp ha
  exact (F.offc _ _ e).1
theorem yl {h h':Heap} (F:az g env as fr h) (S:List Addr) (k:∀ (a:Addr) (o:Obj),h.get? a=some o→h'.get? a=some o) (hi:∀ a ∈ S,∀ o,h.get? a=some o→¬ Imm o) (hc:∀ x c,env.cells.lookup x=some c→c ∉ S):FrX g env as fr (hideAll h S) h':=by
 have K:cR as h as (hideAll h S):=⟨fun _ _ e=>e,fun a o e im=>hideAll_get _ e fun q=>hi a q o e im⟩
 have cl:∀ {x c cv},env.cells.lookup x=some c→h.IsCell c cv→(hideAll h S).IsCell c cv:=fun hx ⟨o,ho,r⟩=>⟨o,hideAll_get _ ho (hc _ _ hx),r⟩
 obtain ⟨m,hm,hv⟩:=F.ns
 refine ⟨F.kind,F.above,F.glob,F.blt,F.len,F.nd,⟨m,(Heap.UpToSlots.of_keeps k).ns hm,fun i x v h1 h2=>?_⟩,fun i x kk h1 h2=>?_,F.off,fun x c hx=>?_,F.apart,F.newc⟩
 ·obtain ⟨val,e1,e2⟩:=hv i x v h1 h2
  exact ⟨val,e1,RepV.keep K _ _ e2⟩
 ·obtain ⟨c,cv,e1,e2,e3⟩:=F.cells i x kk h1 h2
  exact ⟨c,cv,e1,cl e1 e2,fun v hv=>by obtain ⟨val,q1,q2⟩:=e3 v hv; exact ⟨val,q1,RepV.keep K _ _ q2⟩⟩
 ·obtain ⟨a,b,cv,d⟩:=F.offc x c hx
  exact ⟨a,b,cv,cl hx d⟩
theorem qb {e C:Addr}{args:List Value}{h':Heap} (S:Stk g as l s.heap) (T:At g env as fr σ s) (hc:∀ x c,env.cells.lookup x=some c→c ∉ Frs l) (hm:Heap.MadeExcOf s.heap h' e (.ref C) args):ku g env l own as s.heap C none fr σ e as (hideAll s.heap (Frs l)) h':=by
 have hnew:(hideAll s.heap (Frs l)).get? e=none:=by
  cases q:(hideAll s.heap (Frs l)).get? e with
  | none=>rfl
  | some o=>have:=of_hideAll _ q; rw [hm.new] at this; cases this
 obtain ⟨t,ht,_,_⟩:=hm.there
 refine ⟨⟨[],(List.append_nil _).symm,fun _ h=>nomatch h⟩,fun b o hb _ _ hl=>hideAll_get _ hb hl,fun b o hb _ _=>⟨o.slots,hm.keeps b o hb⟩,T.R.sub fun b o hb hx=>hideAll_get _ hb fun hl=>?_,?_,fun b o q=>hm.keeps b o (of_hideAll _ q),hnew,(gL S.fr (Frs l) fun _ h=>h).of_keeps fun b o hb _=>⟨o,hm.keeps b o hb,rfl⟩,_,_,ht,rfl,rfl,rfl,rfl,.made rfl⟩
 ·rcases hx with hx | hx | hx
  ·rw [(cZ S.fr hl).1] at hx; cases hx
  ·exact S.off b hl hx
  ·exact S.dict b hl o hb hx
 ·exact yl T.F (Frs l) hm.keeps S.dict hc
theorem ku.after {as1 as':List Addr}{h h1 h' B:Heap}{C e:Addr}{fl:Option Value}{fr':Fra} {σ':Sto} (x:aF own as h as1 h1) (ho:own=ownOf env) (off:∀ a ∈ Frs l,a ∉ as) (E:ku g env l own as1 h1 C fl fr' σ' e as' B h'):ku g env l own as h C fl fr' σ' e as' B h':=by
 obtain ⟨⟨t1,rfl,f1⟩,ext⟩:=x
 obtain ⟨t2,q2,f2⟩:=E.pre
 have nd:=E.R.nd
 have offs:=E.F.offs
 rw [← ho] at offs
 have h1of:∀ {b:Addr}{o:Obj},h.get? b=some o→b ∉ t1:=fun e q=>by rw [f1 _ q] at e; cases e
 refine ⟨⟨t1 ++ t2,by rw [q2,List.append_assoc],fun a ha=>?_⟩,fun b o hb n1 n2 n3=>E.ext b o (ext b o hb n1 n2) n1 (fun q=>(List.mem_append.mp q).elim n2 (h1of hb)) n3,fun b o hb n1 n2=>E.slots b o (ext b o hb n2 (off b n1)) n1 n2,E.R,E.F,E.fly⟩
 rcases List.mem_append.mp ha with ha | ha
 ·exact f1 a ha
 ·cases q:h.get? a with
  | none=>rfl
  | some o =>
   have hn:a ∉ as:=fun hq=>by
    rw [q2] at nd
    exact (List.nodup_append.mp nd).2.2 a (List.mem_append_left _ hq) a ha rfl
   have:=ext a o q (fun hq=>offs a hq (by rw [q2]; exact List.mem_append_right _ ha)) hn
   rw [f2 a ha] at this; cases this
theorem ku.fly' {as':List Addr}{h h' h'' B:Heap}{C e:Addr}{fl fl':Option Value}{fr':Fra} {σ':Sto} (E:ku g env l own as h C fl fr' σ' e as' B h') (F':Fly B l e (.ref C) fl' h'') (u:h'.UpToSlots h'') (hs:∀ (b:Addr) (o:Obj),h.get? b=some o→b ∈ Frs l→∀ vs,o.data ≠ .fields vs):ku g env l own as h C fl' fr' σ' e as' B h'':=by
 refine ⟨E.pre,E.ext,fun b o hb n1 n2=>?_,E.R,E.F.slots u,F'⟩
 obtain ⟨sl,hsl⟩:=E.slots b o hb n1 n2
 obtain ⟨sl',h2⟩:=u b _ hsl (hs b o hb n1)
 exact ⟨sl',h2⟩
section
variable {M:Model}{outer:List Env}{L:Addr}{as':List Addr}{h h' B:Heap}{C e:Addr}{fl:Option Value}{fr':Fra} {σ':Sto}{s':Shared}
theorem rn (hfr:A.frames=some (env :: outer)) (hf:env.frame=some L) (hs:∀ (b:Addr) (o:Obj),h.get? b=some o→b ∈ Frs (env :: outer)→∀ vs,o.data ≠ .fields vs) (E:ku g env (env :: outer) own as h C fl fr' σ' e as' B s'.heap) (hfl:fl=none ∨ fl=some .none ∨ fl=some (rawInt L))
  (k:∀ h'',ku g env (env :: outer) own as h C (some (rawInt L)) fr' σ' e as' B h''→X (.ref e) { s' with heap:=h'' }):notedBy M A env X (.ref e) s' :=
 li hfr hf E.fly hfl fun h'' F u=>k h'' (E.fly' F u hs)
theorem sd (hf:env.frame=some L) (hs:∀ (b:Addr) (o:Obj),h.get? b=some o→b ∈ Frs (env :: outer)→∀ vs,o.data ≠ .fields vs) {f:Value} (E:ku g env (env :: outer) own as h C (some f) fr' σ' e as' B s'.heap)
  (k:∀ h'',ku g env (env :: outer) own as h C (some (rawInt L)) fr' σ' e as' B h''→X (.ref e) { s' with heap:=h'' }):cameBackBy M A env X (.ref e) s' :=
 vT (fl:=none) hf E.fly fun h'' F u=>k h'' (E.fly' F u hs)
structure pW (g:Cfg) (l:List Env) (as:List Addr) (h:Heap) (C:Addr) (σ':Sto) (e:Addr) (as':List Addr) (B h':Heap):Prop where
 pre:∃ t,as'=as ++ t ∧ ∀ a ∈ t,h.get? a=none
 ext:∀ (b:Addr) (o:Obj),h.get? b=some o→b ∉ as→b ∉ Frs l→B.get? b=some o
 slots:∀ (b:Addr) (o:Obj),h.get? b=some o→b ∈ Frs l→∃ sl,h'.get? b=some { o with slots:=sl }
 R:Rel g as' σ' B
 fly:Fly B l e (.ref C) (some .none) h'
theorem rc {l:List Env} (hfr:A.frames=some (env :: l)) (hf:env.frame=some L) (hs:∀ (b:Addr) (o:Obj),h.get? b=some o→b ∈ Frs (env :: l)→∀ vs,o.data ≠ .fields vs) {h0:Heap} (k0:∀ (b:Addr) (o:Obj),h0.get? b=some o→h.get? b=some o) (own0:∀ a ∈ own,h0.get? a=none) (hL:h0.get? L=none)
  (E:ku g env (env :: l) own as h C fl fr' σ' e as' B s'.heap) (hfl:fl=none ∨ fl=some .none ∨ fl=some (rawInt L)) {Q:Unit→Shared→Prop}
  (k:∀ h'',pW g l as h0 C σ' e as' B h''→Q () { s' with heap:=h'' }):wpAny M A (leaving env (.ref e)) Q X s':=by
 have hfrs:∀ b,b ∈ Frs (env :: l) ↔ b=L ∨ b ∈ Frs l:=fun b=>by
  unfold Frs; rw [List.filterMap_cons,hf]; exact List.mem_cons
 have nown:∀ {b:Addr}{o:Obj},h0.get? b=some o→b ∉ own:=fun hb q=>by rw [own0 _ q] at hb; cases hb
 have nL:∀ {b:Addr}{o:Obj},h0.get? b=some o→b ≠ L:=fun hb q=>by rw [q,hL] at hb; cases hb
 refine tM hfr hf E.fly hfl fun h'' F u=>k h'' ⟨?_,fun b o hb n1 n2=>E.ext b o (k0 b o hb) (nown hb) n1 fun q=>((hfrs b).mp q).elim (nL hb) n2,fun b o hb n1=>?_,E.R,F⟩
 ·obtain ⟨t,q,f⟩:=E.pre
  refine ⟨t,q,fun a ha=>?_⟩
  cases z:h0.get? a with
  | none=>rfl
  | some o=>have:=k0 a o z; rw [f a ha] at this; cases this
 ·obtain ⟨sl,h1⟩:=E.slots b o (k0 b o hb) ((hfrs b).mpr (.inr n1)) (nown hb)
  obtain ⟨sl',h2⟩:=u b _ h1 (hs b o (k0 b o hb) ((hfrs b).mpr (.inr n1)))
  exact ⟨sl',h2⟩
theorem pW.here {l:List Env} (S:Stk g as l s.heap) (T:At g env as fr σ s) (hL:env.locals ∈ Frs l) (hc:∀ x c,env.cells.lookup x=some c→c ∉ Frs l) (E:pW g l as s.heap C σ' e as' B h'):ku g env l own as s.heap C (some .none) fr σ' e as' B h':=by
 obtain ⟨t,ht,hf⟩:=E.pre
 have K:cR as s.heap as' B:=⟨fun i a hi=>by rw [ht,List.getElem?_append_left (List.getElem?_eq_some_iff.mp hi).1]; exact hi,fun a o ea im=>E.ext a o ea (fun q=>by obtain ⟨ob,e',hn⟩:=T.R.there q; rw [ea] at e'; cases e'; exact hn im) fun q=>S.dict a q o ea im⟩
 have cl:∀ {x c cv},env.cells.lookup x=some c→s.heap.IsCell c cv→B.IsCell c cv:=fun hx ⟨o,ho,r⟩=>⟨o,E.ext _ _ ho (T.F.offc _ _ hx).1 (hc _ _ hx),r⟩
 have fresh:∀ {a:Addr}{o:Obj},s.heap.get? a=some o→a ∉ as→a ∉ as':=fun ea n q=>by
  rw [ht] at q
  rcases List.mem_append.mp q with q | q
  ·exact n q
  ·rw [hf _ q] at ea; cases ea
 obtain ⟨m,hm,hv⟩:=T.F.ns
 obtain ⟨oL,es,ep,hoL,hdL,rL⟩:=id hm
 obtain ⟨sl,hsl⟩:=E.slots _ _ hoL hL
 refine ⟨E.pre,fun b o hb _ n2 n3=>E.ext b o hb n2 n3,fun b o hb n1 _=>E.slots b o hb n1,E.R,⟨T.F.kind,T.F.above,T.F.glob,T.F.blt,T.F.len,T.F.nd,⟨m,⟨_,es,ep,hsl,hdL,rL⟩,fun i x v h1 h2=>?_⟩,fun i x kk h1 h2=>?_,fresh hoL T.F.off,fun x c hx=>?_,T.F.apart,T.F.newc⟩,E.fly⟩
 ·obtain ⟨val,e1,e2⟩:=hv i x v h1 h2
  exact ⟨val,e1,RepV.keep K _ _ e2⟩
 ·obtain ⟨c,cv,e1,e2,e3⟩:=T.F.cells i x kk h1 h2
  exact ⟨c,cv,e1,cl e1 e2,fun v hv=>by obtain ⟨val,q1,q2⟩:=e3 v hv; exact ⟨val,q1,RepV.keep K _ _ q2⟩⟩
 ·obtain ⟨a,b,cv,d⟩:=T.F.offc x c hx
  obtain ⟨o,ho,r⟩:=id d
  exact ⟨fresh ho a,b,cv,cl hx d⟩
end
end
end Mine
namespace Mine
open PySem PyProof.Rows PySem.W
section
variable {g:Cfg}{K:Frag}{fa:Nat→Option Addr}{env:Env}{A:Around}{X:Value→Shared→Prop}{s:Shared}{as as1 own:List Addr}{fr fr1:Fra} {σ:Sto}{c:CE}{l:List Env}{h h1:Heap}
theorem iN {base:Heap} (k:∀ a ∈ Frs l,∀ o,h.get? a=some o→(∀ vs,o.data ≠ .fields vs)→∃ o',h1.get? a=some o' ∧ ∀ vs,o'.data ≠ .fields vs):h.FunFrames base l→h1.FunFrames base l:=by
 induction l with
 | nil=>exact fun _=>trivial
 | cons e l ih =>
  rintro ⟨hk,⟨L,o,hf,hn,ho,hd⟩,hr⟩
  have hm:∀ a,a ∈ Frs (e :: l) ↔ a=L ∨ a ∈ Frs l:=fun a=>by unfold Frs; rw [List.filterMap_cons,hf]; exact List.mem_cons
  obtain ⟨o',h1,h2⟩:=k L ((hm L).mpr (.inl rfl)) o ho hd
  exact ⟨hk,⟨L,o',hf,hn,h1,h2⟩,ih (fun a ha=>k a ((hm a).mpr (.inr ha))) hr⟩
theorem Stk.step (S:Stk g as l h) (x:aF (ownOf env) as h as1 h1) (F:az g env as1 fr1 h1) (hc:∀ x c,env.cells.lookup x=some c→c ∉ Frs l):Stk g as1 l h1:=by
 have far:∀ a ∈ Frs l,a ≠ env.locals→a ∉ ownOf env:=fun a ha hne q=>by
  rcases List.mem_cons.mp q with q | q
  ·exact hne q
  ·obtain ⟨p,_,e⟩:=List.mem_filterMap.mp q
   exact hc _ _ e ha
 obtain ⟨m,hm,_⟩:=F.ns
 obtain ⟨oL,es,ep,hoL,hdL,_⟩:=id hm
 refine ⟨iN (fun a ha o ho hd=>?_) S.fr,fun a ha q=>?_,fun a ha o ho=>?_⟩
 ·by_cases e:a=env.locals
  ·exact ⟨oL,by rw [e]; exact hoL,fun vs q=>by rw [hdL] at q; cases q⟩
  ·exact ⟨o,x.ext a o ho (far a ha e) (S.off a ha),hd⟩
 ·obtain ⟨t,rfl,ht⟩:=x.pre
  rcases List.mem_append.mp q with q | q
  ·exact S.off a ha q
  ·obtain ⟨_,o,ho,_⟩:=cZ S.fr ha
   rw [ht a q] at ho; cases ho
 ·by_cases e:a=env.locals
  ·subst e; exact F.notImm _ (.head _) o ho
  ·obtain ⟨_,o',ho',_⟩:=cZ S.fr ha
   have:=x.ext a o' ho' (far a ha e) (S.off a ha)
   rw [this] at ho; cases ho
   exact S.dict a ha o ho'
structure On (g:Cfg) (env:Env) (A:Around) (as:List Addr) (l:List Env) (h:Heap):Prop where
 hfr:A.frames=some l
 top:∃ outer,l=env :: outer
 hf:env.frame=some env.locals
 hc:∀ x c,env.cells.lookup x=some c→c ∉ Frs l
 S:Stk g as l h
theorem On.step (O:On g env A as l h) (x:aF (ownOf env) as h as1 h1) (F:az g env as1 fr1 h1):On g env A as1 l h1:=⟨O.hfr,O.top,O.hf,O.hc,O.S.step x F O.hc⟩
def A0 (env:Env) (fl:Option Value):Prop:=fl=none ∨ fl=some .none ∨ fl=some (rawInt env.locals)
noncomputable def kW (g:Cfg) (env:Env) (l:List Env) (as:List Addr) (s:Shared) (C:Addr) (fr':Fra) (σ':Sto) (X:Value→Shared→Prop):Prop :=
 ∀ (fl:Option Value) (e:Addr) (as':List Addr) (B h':Heap) (tk:Nat),A0 env fl→ku g env l (ownOf env) as s.heap C fl fr' σ' e as' B h'→X (.ref e) { s with heap:=h',toks:=tk }
theorem gg {C:Addr}{fr':Fra} {σ':Sto}{tk:Nat} (hX:kW g env l as s C fr' σ' X) (st:aF (ownOf env) as s.heap as1 h1) (off:∀ a ∈ Frs l,a ∉ as):kW g env l as1 { s with heap:=h1,toks:=tk } C fr' σ' X :=
 fun fl e as' B h' tk' hfl E=>hX fl e as' B h' tk' hfl (E.after st rfl off)
theorem On.mem (O:On g env A as l h):env.locals ∈ Frs l:=by
 obtain ⟨outer,rfl⟩:=O.top
 unfold Frs; rw [List.filterMap_cons,O.hf]; exact .head _
theorem fg {C:Addr} {σ1 σ':Sto}{tk:Nat} (hX:kW g env l as s C fr σ' X) (O:On g env A as l s.heap) (st:aF [env.locals] as s.heap as1 h1) (R1:Rel g as1 σ1 h1) (F1:az g env as1 fr h1) {e:Addr}{as2:List Addr}{B h2:Heap} (E:pW g l as1 h1 C σ' e as2 B h2):X (.ref e) { s with heap:=h2,toks:=tk } :=
 hX (some .none) e as2 B h2 tk (.inr (.inl rfl)) ((E.here (s:={ s with heap:=h1 }) (own:=ownOf env) (O.step (up st) F1).S ⟨F1,R1⟩ O.mem O.hc).after (up st) rfl O.S.off)
end
noncomputable def iE (g:Cfg) (fa:Nat→Option Addr) (call:Nat→List V→Sto→RE) (n:Nat):Prop :=
 ∀ (k:Nat) (a:Addr) (vs:List V) (σ σ':Sto) (x:Nat),fa k=some a→call k vs σ=.ex x σ' →
 ∀ (A:Around) (s:Shared) (as:List Addr) (xs:List Value) (l:List Env) (R:Result→Shared→Prop),bU g A n→A.frames=some l→Stk g as l s.heap→Rel g as σ s.heap→g.b.objs.size ≤ s.heap.objs.size→ah as s.heap vs xs →
  (∀ (e:Addr) (as':List Addr) (B h':Heap) (tk:Nat),pW g l as s.heap x σ' e as' B h'→R (.error (.ref e)) { s with heap:=h',toks:=tk }) →
  codeAny (model g.prog g.w) A (.call (.ref a) ⟨xs,[]⟩) R s
section
variable {g:Cfg}{K:Frag}{fa:Nat→Option Addr}{c0:CE}{call:Nat→List V→Sto→RE}{wf r n:Nat}{names:List (Str × NameKind)}
noncomputable def je (g:Cfg) (c0:CE) (call:Nat→List V→Sto→RE) (r:Nat) (names:List (Str × NameKind)) (e:Expr) (e':E):Prop :=
 ∀ (env:Env) (A:Around) (X:Value→Shared→Prop) (s:Shared) (as:List Addr) (fr:Fra) (σ σ':Sto) (x:Nat) (l:List Env) (Q:Value→Shared→Prop),
  aq (c0.sub names) env A→bU g A (r + 1)→On g env A as l s.heap→At g env as fr σ s→evE call e' fr σ=.ex x σ'→kW g env l as s x fr σ' X→wpAny (model g.prog g.w) A (eval e env) Q X s
noncomputable def wU (g:Cfg) (c0:CE) (call:Nat→List V→Sto→RE) (r n:Nat):Prop:=∀ (names:List (Str × NameKind)) (e:Expr) (e':E),al n (c0.sub names) e=some e'→aN e'=true→d8 e=true→je g c0 call r names e e'
theorem fK {r:REs}{k:List V→Sto→RE}{x:Nat} {σ':Sto}{P:Prop} (e:r.bind k=.ex x σ') (h:∀ u τ,r=.ok u τ→k u τ=.ex x σ'→P):P:=by
 cases r with
 | ok u τ=>exact h u τ rfl e
 | ex x τ=>cases e
 | bad=>cases e
theorem qh {r:RE}{k:V→Sto→RE}{x:Nat} {σ':Sto}{P:Prop} (e:r.bind k=.ex x σ') (h:∀ u τ,r=.ok u τ→k u τ=.ex x σ'→P):P:=by
 cases r with
 | ok u τ=>exact h u τ rfl e
 | ex x τ=>cases e
 | bad=>cases e
theorem v9 {f:Str}{fp p:Pos}{k es es'} (G:bC g K c0 fa) (C:iE g fa call r) (IH:bE g c0 call r n) (hg:(c0.sub names).glob f=true) (hd:(f == ("__debug__":Str))=false) (hb:c0.fns.lookup f=some k) (h1:aP (al n (c0.sub names)) es=some es') :
  je g c0 call r names (.Call (.Name f fp) es [] p) (.call k es'):=fun env A X s as fr σ σ' x l Q N hA O T ev hX=>by
 refine fK ev fun us τ e1 e2=>?_
 obtain ⟨a,hv,hfa,hkp⟩:=G.fn f k hb
 refine wpAny_Call_NameR (cJ T N hg hd hv ?_)
 refine aY IH (fu G hkp) h1 N hA T e1 fun xs as' h' tk st R' F' r'=>?_
 exact wpAny_call (C k a us τ σ' x hfa e2 A _ as' xs l _ (hA.less (k:=1)) O.hfr (O.step (up st) F').S R' F'.size r' fun e as2 B h2 tk2 E=>fg hX O st R' F' E)
theorem kQ {x:Nat} {σ':Sto}{P:Prop} (h:RE.bad=.ex x σ'):P:=nomatch h
set_option tactic.hygienic true in
theorem uc {u:V} {τ σ':Sto}{q:RE}{x:Nat} (e:sb u τ q=.ex x σ'):∃ l d ents,u=.ref l ∧ τ[l]?=some (.inst d) ∧ τ[d]?=some (.att ents) ∧ q=.ex x σ':=by
 unfold sb at e
 cases u <;> first | exact kQ e | skip
 rename_i l
 dsimp only at e
 cases q1:τ[l]? with
 | none=>rw [q1] at e; exact kQ e
 | some ob =>
  rw [q1] at e
  cases ob <;> first | exact kQ e | skip
  rename_i d
  dsimp only at e
  cases q2:τ[d]? with
  | none=>rw [q2] at e; exact kQ e
  | some ob =>
   rw [q2] at e
   cases ob <;> first | exact kQ e | exact ⟨l,d,_,rfl,q1,q2,e⟩
theorem tO {o:Expr}{x:Str}{apos p:Pos}{a es es' f} (G:bC g K c0 fa) (C:iE g fa call r) (IH:bE g c0 call r n) (hb:dZ o=true) (hl:es.length ≤ 8) (hp:(apos.endLine == p.line)=true)
  (h0:al n (c0.sub names) o=some a) (h1:aP (al n (c0.sub names)) es=some es') (hf:c0.mths.lookup x=some f) :
  je g c0 call r names (.Call (.Attribute o x apos) es [] p) (.umeth a f es'):=fun env A X s as fr σ σ' x' l Q N hA O T ev hX=>by
 refine MethodCall_ (pl:=do return (← importBound o env).getD true) ?_ (i0 (i9 hb) hl hp h1)
 refine qh ev fun u τ e1 e2=>?_
 obtain ⟨l',d,ents,rfl,hd,he,e2⟩:=uc e2
 refine fK e2 fun us τ' e3 e4=>?_
 refine IH names o a h0 env A X s as fr σ τ _ _ N hA T e1 fun val as' h' tk st R' F' r'=>?_
 have T':At g env as' fr τ { s with heap:=h',toks:=tk }:=⟨F',R'⟩
 obtain ⟨fad,hfa,hpg,hfi,hfn,hkp,hna⟩:=G.mth x f hf
 refine dh (s:={ s with heap:=h',toks:=tk }) R' r' hd fun ad dx qx2 h2 h3 h4=>?_; subst qx2
 obtain ⟨es0,nn,h5,h6,_⟩:=jK (s:={ s with heap:=h',toks:=tk }) R' h3 he
 obtain ⟨m,hF,_⟩:=F'.fr R'
 refine method_inst (L:=env.locals) (h₀:=g.b) (m:=m) (es:=es0) (n:=nn) (ox:=instObj g.C dx) hF G.kin ⟨h4,rfl,rfl,h5⟩ hpg hfi hfn (kN hna h6) ?_
 refine aY (first:=[.ref ad]) IH (fu G hkp) h1 N hA T' e3 fun xs as2 h2' tk2 st2 R2 F2' r2=>?_
 have r3:=RepV.keep (T'.keep st2) _ _ r'
 have st3:=ao st st2 R2 F2'
 exact wpAny_call (C f fad _ τ' σ' x' hfa e4 A _ as2 (.ref ad :: xs) l _ (hA.less (k:=1)) O.hfr (O.step (up st3) F2').S R2 F2'.size (by rw [ah]; exact ⟨_,_,rfl,r3,r2⟩) fun e as3 B h3' tk3 E=>fg hX O st3 R2 F2' E)
set_option tactic.hygienic true in
theorem zu {f:Str}{fp p:Pos}{k es es'} (G:bC g K c0 fa) (C:iE g fa call r) (IH:bE g c0 call r n) (hg:(c0.sub names).glob f=true) (hd:(f == ("__debug__":Str))=false) (hb:c0.clss.lookup f=some k) (h1:aP (al n (c0.sub names)) es=some es') :
  je g c0 call r names (.Call (.Name f fp) es [] p) (.mk k es'):=fun env A X s as fr σ σ' x' l Q N hA O T ev hX=>by
 refine fK ev fun us τ e1 e2=>?_
 have e3:call k (.ref (τ.length + 1) :: us) (τ ++ [.att []] ++ [.inst τ.length])=.ex x' σ':=by
  rw [List.append_assoc]
  split at e2
  ·cases e2
  ·cases e2
  ·rename_i hq; cases e2; exact hq
  ·cases e2
 refine ma G IH hg hd hb h1 N hA T e1 fun fI xs as' h' tk dx x h2 hfa st R' st3 R3 F3 href hroom=>?_
 exact C k fI _ _ σ' x' hfa e3 _ _ (as' ++ [dx] ++ [x]) (.ref x :: xs) l _ hroom O.hfr (O.step (up (ao st st3 R3 F3)) F3).S R3 F3.size href fun e as4 B h4 tk4 E=>fg hX O (ao st st3 R3 F3) R3 F3 E
end
end Mine
namespace Mine
set_option backward.match.sparseCases false
open PySem PyProof.Rows PySem.W
section
variable {g:Cfg}{K:Frag}{fa:Nat→Option Addr}{c0:CE}{call:Nat→List V→Sto→RE}{wf r n:Nat}{names:List (Str × NameKind)}{e':E}
theorem nc {e:E}{P:Prop}{f:Option E} (h:f=some e) (hc:aN e=true) (q:∀ x,f=some x→aN x=false):P:=tf (hc.symm.trans (q _ h))
theorem zA {α β:Type}{a:Option α}{b:Option β}{f:α→β→E} (hf:∀ x y,aN (f x y)=false):∀ x,gh f a b=some x→aN x=false:=fun x h=>by refine b9 h fun y z _ _ qx4=>?_; subst qx4; exact hf y z
theorem gdI {a:Option E}{b:Bool} (q:∀ x,a=some x→aN x=false):∀ x,gd b a=some x→aN x=false:=fun x h=>q x (au h).2
theorem z0 {α:Type}{a:Option α}{f:α→Option E} (q:∀ y x,f y=some x→aN x=false):∀ x,a.bind f=some x→aN x=false:=fun x h=>let ⟨y,_,h2⟩:=a6 h; q y x h2
theorem pX (G:bC g K c0 fa) (C:iE g fa call r) (IH:bE g c0 call r n):wU g c0 call r (n + 1):=by
 intro names e e' h hc hs
 unfold d8 at hs
 cases q:vw e <;> rw [q] at hs <;> first | exact ft hs | skip
 obtain ⟨fn,args,ks,p,rfl⟩:∃ fn args ks p,e=.Call fn args ks p:=let ⟨p,h⟩:=bI q; ⟨_,_,_,p,h⟩
 exact mB (fun fn ks=>je g c0 call r names (.Call fn args ks p) e') h
  (fun x fp h=>ki (fun fn args e'=>aN e'=true→je g c0 call r names (.Call fn args [] p) e') h (fun _ _ _ _ _ _ _ _ _ q=>ft q) (fun _ _ _ _ _ _ _ _ _ q=>ft q) (fun _ _ _ _ _ _ _ _ _ _ _ q=>ft q) (fun _ _ _ _ _ _ _ _ _ _ _ q=>ft q)
   (fun _ _ _ _ _ hg hd q h1 _=>v9 G C IH hg hd q h1)
   (fun _ _ _ _ _ _ _ _ _ _ q=>ft q)
   (fun _ _ _ _ _ hg hd q h1 _=>zu G C IH hg hd q h1) hc)
  (fun x fp k h=>k6 (fun x args k e'=>aN e'=true→je g c0 call r names (.Call (.Name x fp) args [k] p) e') h (fun _ _ _ _ _ _ _ _ q=>ft q) (fun _ _ _ _ _ _ _ _ _ h q=>nc h q (gdI (z0 fun _=>gdI (zA fun _ _=>rfl)))) hc)
  (fun o x ap h=>j7 (fun e'=>aN e'=true→je g c0 call r names (.Call (.Attribute o x ap) args [] p) e') h (fun _ _ _ _ _ _ _ _ _ q=>ft q) (fun _ _ _ h2 h1 h0 h5 h6 h7 _=>tO G C IH h2 h1 h0 h5 h6 h7) hc)
  fun s a p1 x ap h=>nt (fun x args e'=>aN e'=true→je g c0 call r names (.Call (.Attribute (.Constant (.str s) a p1) x ap) args [] p) e') h (fun _ _ _ _ q=>ft q) hc
theorem tP (G:bC g K c0 fa) (I:bv g) (C:ck g K c0 fa call r) (CX:iE g fa call r):∀ n,wU g c0 call r n
 | 0=>fun names e e' h=>nn h
 | n + 1=>pX G CX (ci G I C n).1
end
end Mine
namespace Mine
set_option backward.match.sparseCases false
open PySem PyProof.Rows PySem.W
noncomputable def eJ (g:Cfg) (c0:CE) (call:Nat→List V→Sto→RE) (wf r:Nat) (names:List (Str × NameKind)) (st:Stmt) (st':S):Prop :=
 ∀ (env:Env) (A:Around) (X:Value→Shared→Prop) (s:Shared) (as:List Addr) (fr fr':Fra) (σ σ':Sto) (x:Nat) (l:List Env) (Q:Flow→Shared→Prop),
  aq (c0.sub names) env A→bU g A (r + 1)→On g env A as l s.heap→At g env as fr σ s→evS call wf st' fr σ=.ex x fr' σ'→kW g env l as s x fr' σ' X→wpAny (model g.prog g.w) A (exec st env) Q X s
noncomputable def v8 (g:Cfg) (c0:CE) (call:Nat→List V→Sto→RE) (wf r n:Nat):Prop:=∀ (names:List (Str × NameKind)) (st:Stmt) (st':S),bP n (c0.sub names) st=some st'→eJ g c0 call wf r names st st'
noncomputable def i6 (g:Cfg) (c0:CE) (call:Nat→List V→Sto→RE) (wf r n:Nat):Prop :=
 ∀ (names:List (Str × NameKind)) (sts:List Stmt) (sts':List S),aP (bP n (c0.sub names)) sts=some sts' →
 ∀ (env:Env) (A:Around) (X:Value→Shared→Prop) (s:Shared) (as:List Addr) (fr fr':Fra) (σ σ':Sto) (x:Nat) (l:List Env) (Q:Flow→Shared→Prop),
  aq (c0.sub names) env A→bU g A (r + 1)→On g env A as l s.heap→At g env as fr σ s→evSs call wf sts' fr σ=.ex x fr' σ'→kW g env l as s x fr' σ' X→wpAny (model g.prog g.w) A (execs sts env) Q X s
theorem qz {src:Src}{tg:List Nat}{one:Bool}{body:Fra→Sto→RS}{n i x:Nat}{fr fr':Fra} {σ σ':Sto}{G:Prop} (Ψ:Fra→Sto→Prop) (ev:kS tg one body src n i fr σ=.ex x fr' σ') (hΨ:Ψ fr' σ')
  (h2:∀ n' v fr1 fl1 fr2 σ2,n' < n→a8 σ i src=some (some v)→bw tg one v fr=some fr1→body fr1 σ=.ok fl1 fr2 σ2→(fl1=.next ∨ fl1=.cont)→kS tg one body src n' (i + 1) fr2 σ2=.ex x fr' σ'→G)
  (h3:∀ v fr1 fr2 σ2,a8 σ i src=some (some v)→bw tg one v fr=some fr1→body fr1 σ=.ex x fr2 σ2→Ψ fr2 σ2→G):G:=by
 cases n with
 | zero=>exact nomatch ev
 | succ n =>
  refine jl ev (fun q=>nomatch q) (fun _ q=>nomatch q) fun v o e=>fR e (fun _ q=>nomatch q) fun fr1 hb e=>?_
  have h2:=h2 n v fr1
  have h3:=h3 v fr1
  generalize body fr1 σ=r at e h2 h3
  cases r with
  | ok f fr2 σ2=>cases f with
   | next=>exact h2 _ _ _ (Nat.lt_succ_self _) o hb rfl (.inl rfl) e
   | cont=>exact h2 _ _ _ (Nat.lt_succ_self _) o hb rfl (.inr rfl) e
   | brk=>exact nomatch (show RS.ok .next fr2 σ2=_ from e)
   | ret w=>exact nomatch (show RS.ok (.ret w) fr2 σ2=_ from e)
  | ex y fr2 σ2 =>
   have e:RS.ex y fr2 σ2=RS.ex x fr' σ':=e
   cases e
   exact h3 _ _ o hb rfl hΨ
  | bad=>exact nomatch (show RS.bad=_ from e)
section
variable {g:Cfg}{K:Frag}{fa:Nat→Option Addr}{c0:CE}{call:Nat→List V→Sto→RE}{env:Env}{A:Around}{X:Value→Shared→Prop}{s:Shared}{as:List Addr}{fr fr':Fra} {σ σ':Sto}{wf r n x:Nat}{names:List (Str × NameKind)}{l:List Env}
set_option tactic.hygienic true in
theorem gZ (IS:wQ g c0 call wf r n) (IX:v8 g c0 call wf r n):i6 g c0 call wf r n:=by
 intro names sts
 induction sts with
 | nil =>
  intro sts' h env A X s as fr fr' σ σ' x l Q N hA O T ev hX
  rw [aP] at h; cases h
  exact nomatch (show RS.ok .next fr σ=_ from ev)
 | cons st sts ih =>
  intro sts' h env A X s as fr fr' σ σ' x l Q N hA O T ev hX
  refine cn h fun a as' h1 h2 qx4=>?_; subst qx4
  rw [uv] at ev
  refine wpAny_execs_cons ?_
  split at ev
  ·rename_i f1 σ1 he
   refine IS names st a h1 env A X s as fr f1 σ σ1 .next _ N hA T he fun f as1 k1 tk1 hf st1 R1 F1=>?_
   have hf':f=.next:=hf
   subst hf'
   exact ih as' h2 env A X _ as1 f1 fr' σ1 σ' x l Q N hA (O.step st1 F1) ⟨F1,R1⟩ ev (gg hX st1 O.S.off)
  ·exact IX names st a h1 env A X s as fr fr' σ σ' x l _ N hA O T ev hX
theorem iT {r:RE}{fr:Fra}{k:V→Sto→RS}{x:Nat}{fr':Fra} {σ':Sto}{P:Prop} (e:r.bindS fr k=.ex x fr' σ') (h:∀ u τ,r=.ok u τ→k u τ=.ex x fr' σ'→P):P:=by
 cases r with
 | ok u τ=>exact h u τ rfl e
 | ex x τ=>cases e
 | bad=>cases e
theorem fG {r:RE}{b:Bool}{fr:Fra}{k:V→Sto→RS}{x:Nat}{fr':Fra} {σ':Sto}{P:Prop} (e:r.bindX b fr k=.ex x fr' σ') (hk:∀ u τ,k u τ ≠ .ex x fr' σ') (h:b=true→r=.ex x σ'→fr'=fr→P):P:=by
 cases r with
 | ok u τ=>exact absurd e (hk u τ)
 | ex y τ =>
  cases b with
  | true=>cases e; exact h rfl rfl rfl
  | false=>cases e
 | bad=>cases e
theorem zk {t:Expr}{b o:List Stmt}{t':E}{b' o':List S}{p:Pos} (IT:k9 g c0 call r n) {m:Nat} (IL:i6 g c0 call wf r m) (h0:al n (c0.sub names) t=some t') (h1:aP (bP m (c0.sub names)) b=some b') (h2:aP (bP m (c0.sub names)) o=some o') :
  eJ g c0 call wf r names (.If t b o p) (.ifS t' b' o'):=fun env A X s as fr fr' σ σ' x l Q N hA O T ev hX=>by
 refine iT (fr:=fr) ev fun u τ e1 e2=>?_
 split at e2
 ·refine wpAny_If (IT names t t' h0 env A X s as fr σ τ true _ N hA T e1 fun as' h' tk st R' F'=>?_)
  rw [if_pos rfl]
  exact IL names b b' h1 env A X _ as' fr fr' τ σ' x l Q N hA (O.step (up st) F') ⟨F',R'⟩ e2 (gg hX (up st) O.S.off)
 ·refine wpAny_If (IT names t t' h0 env A X s as fr σ τ false _ N hA T e1 fun as' h' tk st R' F'=>?_)
  rw [if_neg Bool.false_ne_true]
  exact IL names o o' h2 env A X _ as' fr fr' τ σ' x l Q N hA (O.step (up st) F') ⟨F',R'⟩ e2 (gg hX (up st) O.S.off)
 ·cases e2
theorem vp {e:Expr}{e':E}{p:Pos} (IX:wU g c0 call r n) (hn:∀ a b c d,e ≠ .ListComp a b c d) (h:al n (c0.sub names) e=some e') (hs:aN e'=true→d8 e=true):eJ g c0 call wf r names (.Expr e p) (.expr e'):=fun env A X s as fr fr' σ σ' x l Q N hA O T ev hX =>
 fG (show (evE call e' fr σ).bindX (aN e') fr (fun _ σ=>.ok .next fr σ)=_ from ev) (fun _ _ q=>nomatch q) fun hc e1 hf=>by
  subst hf
  exact wpAny_Expr_any (IX names e e' h hc (hs hc) env A X s as fr' σ σ' x l _ N hA O T e1 hX) (gu T.F) (kB hn h)
theorem xf {e:Expr}{e':E}{p:Pos} (IX:wU g c0 call r n) (h:al n (c0.sub names) e=some e') (hs:aN e'=true→d8 e=true):eJ g c0 call wf r names (.Return (some e) p) (.ret e'):=fun env A X s as fr fr' σ σ' x l Q N hA O T ev hX =>
 fG (show (evE call e' fr σ).bindX (aN e') fr (fun v σ=>.ok (.ret v) fr σ)=_ from ev) (fun _ _ q=>nomatch q) fun hc e1 hf=>by
  subst hf
  exact wpAny_Return_some (IX names e e' h hc (hs hc) env A X s as fr' σ σ' x l _ N hA O T e1 hX)
theorem xP {y:Str}{i:Nat}{e:Expr}{e':E}{p xp:Pos} (IX:wU g c0 call r n) (h:al n (c0.sub names) e=some e') (hs:aN e'=true→d8 e=true):eJ g c0 call wf r names (.Assign [.Name y xp] e p) (.asg i e'):=fun env A X s as fr fr' σ σ' x l Q N hA O T ev hX =>
 fG (show (evE call e' fr σ).bindX (aN e') fr (fun v σ=>if i < fr.length then .ok .next (fr.set i (some v)) σ else .bad)=_ from ev) (fun _ _ q=>by split at q <;> exact nomatch q) fun hc e1 hf=>by
  subst hf
  refine wpAny_Assign_Name (IX names e e' h hc (hs hc) env A X s as fr' σ σ' x l _ N hA O T e1 hX) (hV (fun a b c d q=>?_) h)
  subst q
  exact ft (hs hc)
theorem tT {y:Str}{np cpos pos p:Pos}{text:Str}{u k:Nat} (G:bC g K c0 fa) (hh:c0.hnd=false) (hx:c0.excs.lookup y=some k) (hg:(c0.sub names).glob y=true) (hd:(y == ("__debug__":Str))=false) :
  eJ g c0 call wf r names (.Raise (some (.Call (.Name y np) [.Constant (.str text) u p] [] cpos)) none pos) (.raise k):=fun env A X s as fr fr' σ σ' x l Q N hA O T ev hX=>by
 cases (show RS.ex k fr σ=RS.ex x fr' σ' from ev)
 exact wP G hx T N (hA.none (G.hd hh)) hg hd fun h' e t tk hm=>hX none e as _ h' tk (.inl rfl) (qb O.S T O.hc hm)
inductive AG (g:Cfg) (env:Env) (s:Shared) (as:List Addr) (src:Src) (I:Addr) (tg:List Nat) (one:Bool) (bd:Fra→Sto→RS) (x:Nat) (fr':Fra) (σ':Sto):Nat→Shared→Prop
 | mk {k i:Nat}{fr:Fra} {σ:Sto}{as1:List Addr}{h:Heap}{tk:Nat} (ev:kS tg one bd src k i fr σ=.ex x fr' σ') (le:fb i src) (C:FI g env fr s as src I i as1 σ h):AG g env s as src I tg one bd x fr' σ' k { s with heap:=h,toks:=tk }
theorem n7 {target:Expr}{body:List Stmt}{body':List S}{tg:List Nat}{one:Bool}{src:Src}{I:Addr}{i k:Nat}{as1:List Addr}{h:Heap}{tk:Nat}{Q:Flow→Shared→Prop}
  (IL:jM g c0 call wf r n) (IX:i6 g c0 call wf r n) (Z:FX g env s I) (N:aq (c0.sub names) env A) (hA:bU g A (r + 1)) (O:On g env A as l s.heap) (ht:tgt (c0.sub names) target=some (tg,one)) (h2:aP (bP n (c0.sub names)) body=some body')
  (ev:kS tg one (evSs call wf body') src k i fr σ=.ex x fr' σ') (le:fb i src) (C:FI g env fr s as src I i as1 σ h) (hX:kW g env l as s x fr' σ' X) :
  codeAny (model g.prog g.w) A (.forLoop target (.ref I) body [] env) (fun r s'=>match r with | .ok f=>Q f s' | .error e=>cameBackBy (model g.prog g.w) A env X e s') { s with heap:=h,toks:=tk }:=by
 obtain ⟨outer,hl⟩:=O.top
 refine ji (AG g env s as src I tg one (evSs call wf body') x fr' σ') ?_ k ⟨ev,le,C⟩
 rintro k _ ⟨ev,le,C⟩
 refine qz (fun fr' σ'=>kW g env l as s x fr' σ' X) ev hX (fun k' v fr1 fl1 fr2 σ2 hk e hb hc hfl run'=>?_) (fun v fr1 fr2 σ2 e hb hc hX=>?_)
 ·refine fY IL Z N hA ht h2 C e hb hc (fun _ _ h=>h) fun f as4 h4 tk4 hf C4=>?_
  rcases eK.go hfl hf with rfl | rfl <;> exact ⟨k',hk,run',.next e,C4⟩
 ·refine j8 Z N hA ht C e hb (fun _ _ h=>h) fun as4 h4 tk4 C4=>?_
  have O4:=O.step C4.st C4.F
  have nf:∀ (b:Addr) (o:Obj),h4.get? b=some o→b ∈ Frs l→∀ vs,o.data ≠ .fields vs:=fun b o hb hm=>by
   obtain ⟨_,o',ho',hn⟩:=cZ O4.S.fr hm
   rw [hb] at ho'; cases ho'; exact hn
  refine IX names body body' h2 env A _ { s with heap:=h4,toks:=tk4 } as4 _ _ _ _ x l _ N hA O4 ⟨C4.F,C4.R⟩ hc fun fl e as5 B h5 tk5 hfl E=>?_
  subst hl
  refine rn (s':={ s with heap:=h5,toks:=tk5 }) O.hfr O.hf nf E hfl fun h6 E6=>?_
  exact sd (s':={ s with heap:=h6,toks:=tk5 }) O.hf nf E6 fun h7 E7=>hX _ e as5 B h7 tk5 (.inr (.inr rfl)) (E7.after C4.st rfl O.S.off)
theorem w6 {t it:Expr}{b:List Stmt}{it':E}{b':List S}{tg:List Nat}{one:Bool}{p:Pos} (IH:bE g c0 call r n) {m:Nat} (IL:jM g c0 call wf r m) (IX:i6 g c0 call wf r m) (ht:tgt (c0.sub names) t=some (tg,one)) (h0:al n (c0.sub names) it=some it') (h1:aP (bP m (c0.sub names)) b=some b') :
  eJ g c0 call wf r names (.For t it b [] p) (.forS tg one (.e it') b'):=fun env A X s as fr fr' σ σ' x l Q N hA O T ev hX=>by
 refine iT (fr:=fr) ev fun u τ e1 e2=>?_
 refine rO e2 (fun q=>nomatch q) fun src k hs hl ev=>?_
 refine wpAny_For (IH names it it' h0 env A X s as fr σ τ u _ N hA T e1 fun val as1 k1 tk1 st1 R1 F1 r1=>?_) (jn h0)
 have T1:At g env as1 fr τ { s with heap:=k1,toks:=tk1 }:=⟨F1,R1⟩
 refine lJ T1 r1 hs hl fun o T2 it0=>?_
 have nn:=T1.notNew
 have Z:FX g env { s with heap:=k1,toks:=tk1 } k1.objs.size:=⟨fun q=>by
  rcases bJ q with q | ⟨y,q⟩
  ·exact nn.1 q
  ·exact T1.cellNew _ _ q rfl,nn.2.2,new_none _⟩
 exact n7 (tk:=tk1) IL IX Z N hA (O.step (up st1) F1) ht h1 ev .zero ⟨bD _ _ _ _,T2.R,T2.F,it0,nn.2.1⟩ (gg hX (up st1) O.S.off)
set_option tactic.hygienic true in
theorem nB {e:Expr}{y:Str} (h:rM e=some y):∃ np text u p cpos,e=.Call (.Name y np) [.Constant (.str text) u p] [] cpos:=by
 unfold rM at h
 cases q:vw e <;> rw [q] at h <;> first | exact nn h | skip
 obtain ⟨a,h1,h2⟩:=mD h
 obtain ⟨h3,h4⟩:=au h2
 obtain ⟨cpos,hp⟩:=bI q
 obtain ⟨np,h5⟩:=b7 h4
 unfold uy at h3
 cases q2:vw a <;> rw [q2] at h3 <;> first | exact ft h3 | skip
 rename_i k
 cases k <;> first | exact ft h3 | skip
 obtain ⟨u,p,h6⟩:=bI q2
 rw [h1,h5,h6] at hp
 exact ⟨np,_,u,p,cpos,hp⟩
end
end Mine
namespace Mine
open PySem PyProof.Rows PySem.W
section
variable {g:Cfg}{K:Frag}{fa:Nat→Option Addr}{c0:CE}{call:Nat→List V→Sto→RE}{wf r n:Nat}{names:List (Str × NameKind)}
theorem xa {t e:Expr}{p:Pos}{st':S} (IX:wU g c0 call r 30) (h:yB (c0.sub names) t e=some st'):eJ g c0 call wf r names (.Assign [t] e p) st':=by
 unfold yB at h
 cases q:vw t <;> rw [q] at h <;> first | exact nn h | skip
 ·refine b9 h fun i a h1 h2 qx4=>?_; subst qx4
  obtain ⟨xp,rfl⟩:=bI q
  exact xP IX (fc h2).1 (fc h2).2
 ·obtain ⟨h0,h⟩:=au h
  refine b9 h fun is a h1 h2 qx4=>?_; subst qx4
  exact fun env A X s as fr fr' σ σ' x l Q N hA O T ev hX=>gB ev
 ·refine d0 h fun o k a h1 h2 h3 qx6=>?_; subst qx6
  exact fun env A X s as fr fr' σ σ' x l Q N hA O T ev hX=>gB ev
 ·refine d0 h fun o k a h1 h2 h3 qx6=>?_; subst qx6
  exact fun env A X s as fr fr' σ σ' x l Q N hA O T ev hX=>gB ev
theorem n5 {m:Nat} (G:bC g K c0 fa) (J:bv g) (C:ck g K c0 fa call r) (CX:iE g fa call r) (IL:jM g c0 call wf r m) (IXL:i6 g c0 call wf r m):v8 g c0 call wf r (m + 1):=by
 intro names st st' h
 have IH:=(ci G J C 30).1
 have IT:=(ci G J C 30).2
 have IX:=tP G J C CX 30
 cases st with
 | Expr e p=>obtain ⟨h0,h⟩:=au h; refine bZ h fun a h1 qx2=>?_; subst qx2; exact vp IX (mJ (aX h0)) (fc h1).1 (fc h1).2
 | Return v p=>refine bT h fun e qx1 h=>?_; subst qx1; refine bZ h fun a h1 qx2=>?_; subst qx2; exact xf IX (fc h1).1 (fc h1).2
 | Assign ts e p =>
  rcases ts with _ | ⟨t,_ | ⟨t2,ts⟩⟩
  ·exact nn h
  ·exact xa IX h
  ·exact nn h
 | If t b o p=>refine d0 h fun x y z h1 h2 h3 qx6=>?_; subst qx6; exact zk IT IXL h1 h2 h3
 | While t b o p =>
  obtain ⟨h0,h⟩:=au h; refine b9 h fun x y h1 h2 qx4=>?_; subst qx4
  exact fun env A X s as fr fr' σ σ' x l Q N hA O T ev hX=>gB ev
 | For t it b o p => 
  obtain ⟨h0,h⟩:=au h; refine d0 h fun x y z h1 h2 h3 qx6=>?_; subst qx6; cases cG h0
  exact qA (fun t it y=>tgt (c0.sub names) t=some x→eJ g c0 call wf r names (.For t it b [] p) (.forS x.1 x.2 y z)) h2 (fun t it a h2 h1=>w6 IH IL IXL h1 h2 h3)
   (fun ts k tp fp p1 e a hg hh h2 h1=>fun env A X s as fr fr' σ σ' x l Q N hA O T ev hX=>gB ev)
   h1
 | Raise v cz p =>
  cases v with
  | none=>cases cz <;> exact nn h
  | some v=>cases cz with
   | some=>exact nn h
   | none =>
    refine bT h fun x h0 h=>?_
    obtain ⟨h1,h⟩:=au h
    obtain ⟨h1,h3⟩:=ag h1
    obtain ⟨h3,h4⟩:=ag h3
    refine bZ h fun a h2 qx2=>?_; subst qx2
    obtain ⟨np,text,u,p,cpos,rfl⟩:=nB h0
    exact tT G (aX h4) h2 h1 (aX h3)
 | Pass p =>
  intro env A X s as fr fr' σ σ' x l Q N hA O T ev hX
  cases Option.some.inj h
  cases (show RS.ok .next fr σ=.ex x fr' σ' from ev)
 | _=>exact nn h
theorem gY (G:bC g K c0 fa) (J:bv g) (C:ck g K c0 fa call r) (CX:iE g fa call r):∀ n,v8 g c0 call wf r n
 | 0=>fun names st st' h=>nn h
 | n + 1=>n5 G J C CX (eH (dp G J C n)) (gZ (dp G J C n) (gY G J C CX n))
end
section
variable {g:Cfg}{K:Frag}{fa:Nat→Option Addr}{P:Nat→Option Fn}{wf:Nat}
theorem wC {n k x:Nat}{vs:List V} {σ σ':Sto} (ev:evFn P wf (n + 1) k vs σ=.ex x σ'):∃ fn fr',P k=some fn ∧ vs.length=fn.ps.length ∧ evSs (evFn P wf n) wf fn.body (aW fn vs) σ=.ex x fr' σ':=by
 obtain ⟨fn,h1,h2,h3⟩:=rF ev fun q=>nomatch q
 refine ⟨fn,?_⟩
 cases q:evSs (evFn P wf n) wf fn.body (aW fn vs) σ with
 | ok f fr σ=>rw [q] at h3; cases f <;> cases h3
 | ex y fr σ=>rw [q] at h3; cases h3; exact ⟨fr,h1,h2,rfl⟩
 | bad=>rw [q] at h3; cases h3
theorem mE {cs:CE→Stmt→Option S}{c:CE}{fn:Fn}{A:Around}{as:List Addr} {σ:Sto}{s:Shared}{vs:List V}{n:Nat}{env:Env}{body:List Stmt}{h:Heap}{l:List Env} (E:oK g cs c fn A as σ s vs n env body h) (hfr:A.frames=some l) (S:Stk g as l s.heap):On g env (A.deeper env) as (env :: l) h:=by
 have hm:∀ a,a ∈ Frs (env :: l) ↔ a=env.locals ∨ a ∈ Frs l:=fun a=>by unfold Frs; rw [List.filterMap_cons,E.fr]; exact List.mem_cons
 obtain ⟨m,hm',_⟩:=E.F.ns
 obtain ⟨oL,es,ep,hoL,hdL,_⟩:=id hm'
 have old:∀ a ∈ Frs l,∃ o,s.heap.get? a=some o:=fun a ha=>let ⟨_,o,ho,_⟩:=cZ S.fr ha; ⟨o,ho⟩
 have fresh:∀ a ∈ ownOf env,a ∉ Frs l:=fun a ha q=>by obtain ⟨o,ho⟩:=old a q; rw [E.new a ha] at ho; cases ho
 refine ⟨?_,⟨l,rfl⟩,E.fr,fun x c hx q=>?_,⟨⟨?_,⟨env.locals,oL,E.fr,?_,hoL,fun vs q=>by rw [hdL] at q; cases q⟩,S.fr.of_keeps fun b o hb _=>⟨o,E.ext b o hb,rfl⟩⟩,fun a ha=>?_,fun a ha o ho=>?_⟩⟩
 ·show (A.frames.map (env :: ·))=_
  rw [hfr]; rfl
 ·rcases (hm c).mp q with q | q
  ·exact (E.F.offc x c hx).2.1 q
  ·exact fresh c (iq hx) q
 ·rw [E.F.kind]; exact fun q=>nomatch q
 ·cases q:g.b.get? env.locals with
  | none=>rfl
  | some o=>exact absurd (Heap.lt_size q) (Nat.not_lt.mpr E.F.above)
 ·rcases (hm a).mp ha with q | q
  ·rw [q]; exact E.F.off
  ·exact S.off a q
 ·rcases (hm a).mp ha with q | q
  ·rw [q] at ho; exact E.F.notImm _ (.head _) o ho
  ·obtain ⟨o',ho'⟩:=old a q
   have:=E.ext a o' ho'
   rw [ho] at this; cases this
   exact S.dict a q o ho'
theorem nZ (c:Nat→CE) (hT:∀ k a,fa k=some a→(c k).top=none ∧ (c k).tfns=[]) (G:∀ k a,fa k=some a→bC g K (c k) fa) (J:bv g) (hlim:g.b.NoLimit) (hP:∀ k a,fa k=some a→P k=aL K (c k) a) {n:Nat} (C:dW g fa (evFn P wf n) (2 * n)) (CX:iE g fa (evFn P wf n) (2 * n)):iE g fa (evFn P wf (n + 1)) (2 * (n + 1)):=by
 intro k a vs σ σ' x hfa ev A s as xs l R hA hfr S R0 hsz r0 hR
 obtain ⟨fn,fr',hfn,hlen,he⟩:=wC ev
 have Gk:=G k a hfa
 refine jr Gk.kin hlim (.inl (hT k a hfa).1) ((hP k a hfa).symm.trans hfn) hlen hA R0 hsz r0 fun env body h tk E=>?_
 have O:=mE E hfr S
 have nf:∀ (b:Addr) (o:Obj),h.get? b=some o→b ∈ Frs (env :: l)→∀ vs,o.data ≠ .fields vs:=fun b o hb hm=>by
  obtain ⟨_,o',ho',hn⟩:=cZ O.S.fr hm
  rw [hb] at ho'; cases ho'; exact hn
 refine gZ (dp Gk J ⟨C,de (hT k a hfa)⟩ 20) (gY Gk J ⟨C,de (hT k a hfa)⟩ CX 20) _ body fn.body E.comp _ _ _ { s with heap:=h,toks:=tk } as _ fr' σ σ' x _ _ E.N E.room O ⟨E.F,E.R⟩ he fun fl e as2 B h2 tk2 hfl XE=>?_
 exact rc (s':={ s with heap:=h2,toks:=tk2 }) O.hfr E.fr nf E.ext E.new (E.new _ (.head _)) XE hfl fun h3 XC=>hR e as2 B h3 tk2 XC
theorem jZ (c:Nat→CE) (hT:∀ k a,fa k=some a→(c k).top=none ∧ (c k).tfns=[]) (G:∀ k a,fa k=some a→bC g K (c k) fa) (J:bv g) (hlim:g.b.NoLimit) (hP:∀ k a,fa k=some a→P k=aL K (c k) a):∀ n,iE g fa (evFn P wf n) (2 * n)
 | 0=>fun k a vs σ σ' x hfa ev=>nomatch ev
 | n + 1=>nZ c hT G J hlim hP (gk c hT G J hlim hP n) (jZ c hT G J hlim hP n)
end
end Mine
namespace Mine
open PySem PyProof.Rows PySem.W
section
variable {prog:Program}{w:World}{A:Around}{E:Value→Shared→Prop}{s:Shared}{K:Frag}{e D P:Addr}{ox:Obj}
theorem pJ {ds:List Nat}{Q:Bool→Shared→Prop} (X:K.In s.heap) (ho:s.heap.get? e=some ox) (hc:ox.cls=.ref D) (hk:lQ K P ds=true) (hD:D ∈ ds) (h:Q true s):wpAny (model prog w) A (excMatches (.ref e) (.ref P)) Q E s:=by
 obtain ⟨k0,hk⟩:=ag hk
 obtain ⟨k1,hk⟩:=ag hk
 obtain ⟨k2,hk⟩:=ag hk
 obtain ⟨k3,k4⟩:=ag hk
 have k5:=eq_of_beq (List.all_eq_true.mp k4 D hD)
 have L1:Looks (model prog w) s.heap (isInstance (.ref P) (.type "tuple")) false:=(looks_typeIn X (eq_of_beq k1)).andThen (looks_subIn X (eq_of_beq k2))
 have L2:Looks (model prog w) s.heap (isType (.ref P)) true:=fO X k0
 have L3:Looks (model prog w) s.heap (isSubtype (.ref P) (.type "BaseException")) true:=looks_subIn X (eq_of_beq k3)
 have L4:Looks (model prog w) s.heap (typeOf (.ref e)) (.ref D):=hc ▸ (Looks.ld ho).andThen .now
 have L5:Looks (model prog w) s.heap (isSubtype (.ref D) (.ref P)) true:=looks_subIn X k5
 obtain ⟨hh,g,d,t,os⟩:=s
 unfold excMatches
 refine wpAny_bind (L1.at ?_)
 rw [if_neg Bool.false_ne_true]
 refine wpAny_bind (wpAny_pure ?_)
 unfold isExcClass
 simp only [List.forIn_cons,List.forIn_nil]
 refine wpAny_bind (wpAny_bind (wpAny_bind (wpAny_bind (L2.at ?_))))
 rw [if_pos rfl]
 refine L3.at ?_
 simp only [Bool.not_true,Bool.false_eq_true,if_false]
 refine wpAny_pure (wpAny_pure (wpAny_bind (L4.at (wpAny_bind (wpAny_bind (wpAny_bind (L5.at ?_)))))))
 rw [if_pos rfl]
 exact wpAny_pure (wpAny_pure (wpAny_pure h))
end
section
variable {g:Cfg}{K:Frag}{fa:Nat→Option Addr}{c0:CE}{call callH:Nat→List V→Sto→RE}{env:Env}{A:Around}{X:Value→Shared→Prop}{s:Shared}{as:List Addr}{fr fr':Fra} {σ σ':Sto}{wf r x:Nat}{names:List (Str × NameKind)}{l:List Env}
theorem yk {n:Str}{i:Nat}{pos:Pos}{Q:Unit→Shared→Prop} (T:At g env as fr σ s) (N:aq (c0.sub names) env A) (hl:names.lookup n=some .local) (hi:(c0.sub names).locW? n=some i) (hQ:iC g env (ownOf env) as σ s (fr.set i none) Q) :
  wpAny (model g.prog g.w) A (do bindName env n .none; unbindBehindTheSuite env n pos) Q X s:=by
 obtain ⟨k,h1,h2⟩:=gf hi
 obtain ⟨k',h3,h4⟩:=N.get h1
 have hkl:k=.local:=by
  obtain ⟨j,j1,j2⟩:=bq hl
  unfold CE.locW? at hi
  rw [show (c0.sub names).names.lookup n=some .local from hl] at hi
  have:names.findIdx? (fun p=>p.1 == n)=some i:=hi
  rw [j1] at this; cases this
  have h1:names[i]?=some (n,k):=h1
  rw [j2] at h1; cases h1; rfl
 subst hkl
 have hk:k'=.local:=by
  rcases h4 with h4 | h4
  ·exact h4.symm
  ·cases h4.1
 subst hk
 obtain ⟨m,hm,hv⟩:=T.F.ns
 refine wpAny_nameGoes_keeps (ba T.F.nd h3) hm (by rw [T.F.kind]; rfl) fun h' v hns hs=>?_
 have kk:∀ (b:Addr) (o:Obj),b ≠ env.locals→s.heap.get? b=some o→h'.get? b=some o:=fun b o hb e=>by rw [hs.2 b hb]; exact e
 have hLb:g.b.get? env.locals=none:=by
  cases e:g.b.get? env.locals with
  | none=>rfl
  | some o=>exact absurd (Heap.lt_size e) (Nat.not_lt.mpr T.F.above)
 obtain ⟨KK,R'⟩:=T.R.other kk T.F.off hLb (fun o e=>T.F.notImm _ (.head _) o e)
 refine hQ as h' _ ⟨⟨[],by simp,by simp⟩,fun b o e hb _=>kk b o (fun q=>hb (by rw [q]; exact .head _)) e⟩ KK R' ?_
 refine ⟨T.F.kind,T.F.above,T.F.glob,T.F.blt,by rw [List.length_set]; exact T.F.len,T.F.nd,⟨_,hns,fun j y w e1 e2=>?_⟩,fun j y kd e1 e2=>?_,T.F.off,fun y c' hc'=>⟨(T.F.offc _ _ hc').1,(T.F.offc _ _ hc').2.1,?_⟩,T.F.apart,T.F.newc⟩
 ·have hij:i ≠ j:=fun q=>by
   subst q
   by_cases hlt:i < fr.length
   ·rw [List.getElem?_set_self hlt] at e2; cases e2
   ·rw [List.getElem?_eq_none (by rw [List.length_set]; exact Nat.le_of_not_lt hlt)] at e2; cases e2
  rw [List.getElem?_set_ne hij] at e2
  obtain ⟨val,q1,q2⟩:=hv j y w e1 e2
  have hy:y ≠ n:=fun q=>by subst q; exact hij (gO T.F.nd h3 e1)
  exact ⟨val,by rw [if_neg hy]; exact q1,RepV.keep KK _ _ q2⟩
 ·obtain ⟨cc,cv,q1,⟨o,q2,q2'⟩,q3⟩:=T.F.cells j y kd e1 e2
  have hij:i ≠ j:=fun q=>by subst q; rw [h3] at e1; cases e1; rcases e2 with e2 | e2 <;> cases e2
  refine ⟨cc,cv,q1,⟨o,kk _ _ (T.F.offc _ _ q1).2.1 q2,q2'⟩,fun w e=>?_⟩
  rw [List.getElem?_set_ne hij] at e
  obtain ⟨val',q4,q5⟩:=q3 w e
  exact ⟨val',q4,RepV.keep KK _ _ q5⟩
 ·obtain ⟨cv,o,e,e'⟩:=(T.F.offc _ _ hc').2.2
  exact ⟨cv,o,kk _ _ (T.F.offc _ _ hc').2.1 e,e'⟩
theorem ku.stk {as':List Addr}{h h' B:Heap}{C e:Addr}{fl:Option Value}{fr':Fra} {σ':Sto} (S:Stk g as l h) (E:ku g env l (ownOf env) as h C fl fr' σ' e as' B h') (hc:∀ x c,env.cells.lookup x=some c→c ∉ Frs l):Stk g as' l h':=by
 have F:=E.F.rel E.fly.stays
 refine ⟨iN (fun a ha o ho hd=>?_) S.fr,fun a ha q=>?_,fun a ha o ho=>?_⟩
 ·obtain ⟨_,o',ho',hd'⟩:=cZ E.fly.frames ha
  exact ⟨o',ho',hd'⟩
 ·obtain ⟨t,rfl,ht⟩:=E.pre
  rcases List.mem_append.mp q with q | q
  ·exact S.off a ha q
  ·obtain ⟨_,o,ho,_⟩:=cZ S.fr ha
   rw [ht a q] at ho; cases ho
 ·obtain ⟨_,o',ho',_⟩:=cZ S.fr ha
  by_cases hown:a ∈ ownOf env
  ·rcases bJ hown with q | ⟨x,q⟩
   ·rw [q] at ho; exact F.notImm _ (.head _) o ho
   ·exact absurd ha (hc x a q)
  ·obtain ⟨sl,hsl⟩:=E.slots a o' ho' ha hown
   rw [hsl] at ho; cases ho
   exact fun im=>S.dict a ha o' ho' im
noncomputable def Cfg.with (g:Cfg) (a:Addr):Cfg:={ g with hd:=some a }
theorem az.with {h:Heap}{a:Addr} (F:az g env as fr h):az (g.with a) env as fr h:=⟨F.kind,F.above,F.glob,F.blt,F.len,F.nd,F.ns,F.cells,F.off,F.offc,F.apart,F.newc⟩
theorem az.out {h:Heap}{a:Addr} (F:az (g.with a) env as fr h):az g env as fr h:=⟨F.kind,F.above,F.glob,F.blt,F.len,F.nd,F.ns,F.cells,F.off,F.offc,F.apart,F.newc⟩
theorem Rel.with {h:Heap}{a:Addr} (R:Rel g as σ h) (H:Hnd (some a) h):Rel (g.with a) as σ h:=⟨R.base,R.len,R.nd,R.new,fun i b o h1 h2=>R.obj i b o h1 h2,H⟩
theorem Rel.out {h:Heap}{a:Addr} (R:Rel (g.with a) as σ h) (hh:g.hd=none):Rel g as σ h:=⟨R.base,R.len,R.nd,R.new,fun i b o h1 h2=>R.obj i b o h1 h2,fun b q=>by rw [hh] at q; cases q⟩
theorem bC.with {a:Addr}{c:CE} (G:bC g K c fa) (h1:c.hnd=true) (h2:c.lam=none):bC (g.with a) K c fa :=
 ⟨⟨G.sys.1⟩,G.kin,G.const,G.fn,G.cls,G.clsO,G.blt,G.typ,G.set,G.rev,
 G.en,
 G.sorted,(fun q=>by rw [h1] at q; cases q),⟨G.exc.k,G.exc.i,G.exc.r,G.exc.o,G.exc.v,G.exc.w,G.exc.p⟩,G.isi,G.att,G.hasD,G.setA,(fun x q=>by rw [h2] at q; cases q),G.mth⟩
def cM (l:List Env) (own:List Addr) (h h':Heap):Prop:=∀ (b:Addr) (o:Obj),h.get? b=some o→b ∈ Frs l→b ∉ own→∃ sl,h'.get? b=some { o with slots:=sl }
theorem cM.of_step {own as':List Addr}{h h':Heap} (st:aF own as h as' h') (off:∀ a ∈ Frs l,a ∉ as):cM l own h h':=fun b o hb hm ho=>⟨o.slots,st.ext b o hb ho (off b hm)⟩
theorem cM.trans {own:List Addr}{h h' h2:Heap} (x:cM l own h h') (y:cM l own h' h2):cM l own h h2:=fun b o hb hm ho =>
 let ⟨_,h1⟩:=x b o hb hm ho
 let ⟨sl,h3⟩:=y b _ h1 hm ho
 ⟨sl,h3⟩
noncomputable def lD (g:Cfg) (env:Env) (l:List Env) (as:List Addr) (s:Shared) (fl:Fl) (fr':Fra) (σ':Sto) (Q:Flow→Shared→Prop):Prop :=
 ∀ (f:Flow) (as':List Addr) (h':Heap) (tk:Nat),eK as' h' fl f→aF (ownOf env ++ Frs l) as s.heap as' h'→Rel g as' σ' h'→az g env as' fr' h'→Stk g as' l h'→cM l (ownOf env) s.heap h'→Q f { s with heap:=h',toks:=tk }
theorem og {as as':List Addr}{h h':Heap}{fl:Fl}{f:Flow} (k:cR as h as' h') (hf:eK as h fl f):eK as' h' fl f:=by
 cases fl with
 | ret v=>obtain ⟨val,e,r⟩:=hf; exact ⟨val,e,RepV.keep k _ _ r⟩
 | _=>exact hf
theorem xK {b h:List Stmt}{h0:Stmt}{b' h':List S}{n pn:Str}{i:Nat}{P:Addr}{pp hp pos:Pos}{fr1 fr2:Fra} {σ1 σ2:Sto}{fl:Fl}{Q:Flow→Shared→Prop} (G:bC g K c0 fa) (hh:g.hd=none) (IX:i6 g c0 call wf r 20) (HL:∀ a,jM (g.with a) c0.hand callH wf r 20)
  (hpe:c0.pe=some (pn,P)) (hg:(c0.sub names).glob pn=true) (hd:(pn == ("__debug__":Str))=false) (hl:names.lookup n=some .local) (hi:(c0.sub names).locW? n=some i)
  (h1:aP (bP 20 (c0.sub names)) b=some b') (h2:aP (bP 20 (c0.hand.sub names)) (h0 :: h)=some h') (N:aq (c0.sub names) env A) (hA:bU g A (r + 1)) (O:On g env A as l s.heap) (T:At g env as fr σ s)
  (e1:evSs call wf b' fr σ=.ex x fr1 σ1) (hx:x ∈ c0.excs.map (·.2)) (e2:evSs callH wf h' (fr1.set i (some (.exc x))) σ1=.ok fl fr2 σ2) (hQ:lD g env l as s fl (fr2.set i none) σ2 Q) :
  wpAny (model g.prog g.w) A (exec (.Try b [.ExceptHandler (some (.Name pn pp)) (some n) (h0 :: h) hp] [] [] pos) env) Q X s:=by
 obtain ⟨hPV,hcat⟩:=G.exc.p pn P hpe
 refine wpAny_Try_except (IX names b b' h1 env A _ s as fr fr1 σ σ1 x l _ N hA O T e1 fun fl0 e as1 B h1' tk1 hfl E=>?_)
 have nf:∀ (b:Addr) (o:Obj),s.heap.get? b=some o→b ∈ Frs l→∀ vs,o.data ≠ .fields vs:=fun b o hb hm=>by
  obtain ⟨_,o',ho',hn⟩:=cZ O.S.fr hm
  rw [hb] at ho'; cases ho'; exact hn
 have at_:∀ {fl:Option Value}{h':Heap},ku g env l (ownOf env) as s.heap x fl fr1 σ1 e as1 B h'→∀ tk,At g env as1 fr1 σ1 { s with heap:=h',toks:=tk }:=fun E tk=>⟨E.F.rel E.fly.stays,E.R.ext E.fly.stays⟩
 obtain ⟨outer,hlo⟩:=O.top
 have hfr:=O.hfr
 have fly:=E.fly
 rw [hlo] at hfr fly
 refine li (s:={ s with heap:=h1',toks:=tk1 }) hfr O.hf fly hfl fun h2' F2 u2=>?_
 rw [← hlo] at F2
 have E2:=E.fly' F2 u2 nf
 refine eF (s:={ s with heap:=h2',toks:=tk1 }) (o:=none) F2 fun h3' F3 u3=>?_
 have E3:=E2.fly' F3 u3 nf
 have T3:=at_ E3 tk1
 obtain ⟨oe,vs,he,hn0,hc,hdt,hv2,_⟩:=F3.st
 have Nm:aq (c0.sub names) env (A.mark (some (.ref e))):=⟨N.f2,N.code,N.top⟩
 refine wpAny_handleBy_cons (codeAny_handlers_test (cJ T3 Nm hg hd hPV ?_)) (fun q=>nomatch q)
 refine pJ (s:={ s with heap:=h3',toks:=tk1 }) (G.kin.keeps T3.R.base) he hc hcat hx ?_
 show codeAny _ _ (.handlers (.ref e) [.ExceptHandler none (some n) (h0 :: h) hp] env) _ _
 refine codeAny_handlers_suite_as (eF (s:={ s with heap:=h3',toks:=tk1 }) (o:=none) F3 fun h4 F4 u4=>?_)
 have E4:=E3.fly' F4 u4 nf
 have T4:=at_ E4 tk1
 obtain ⟨oe,vs,he,hn0,hc,hdt,hv2,_⟩:=F4.st
 have st4:aF (ownOf env ++ Frs l) as s.heap as1 h4:=⟨E4.pre,fun b o hb h1 h2=>F4.stays b o (E4.ext b o hb (fun q=>h1 (List.mem_append_left _ q)) h2 fun q=>h1 (List.mem_append_right _ q))⟩
 have O4:On g env A as1 l h4:=⟨O.hfr,O.top,O.hf,O.hc,E4.stk O.S O.hc⟩
 refine ic (own:=ownOf env) (s:={ s with heap:=h4,toks:=tk1 }) T4 Nm (dJ _ _) hi (v:=.exc x) (by rw [RepV]; exact ⟨e,oe,vs,rfl,he,hn0,hc,hdt⟩) fun as5 h5 tk5 st5 K5 R5 F5=>?_
 have H5:Hnd (some e) h5:=fun a q=>by
  cases q
  exact ⟨oe,x,vs,K5.imm _ _ he (l7 hc hdt),hc,hdt,hv2⟩
 have O5:=O4.step st5 F5
 refine HL e names (h0 :: h) h' h2 env _ _ { s with heap:=h5,toks:=tk5 } as5 _ fr2 σ1 σ2 fl _ ⟨N.f2,(fun a q=>nomatch q),fun q=>nomatch q⟩ ⟨hA.units,hA.depth,rfl⟩ ⟨F5.with,R5.with H5⟩ e2 fun f as6 h6 tk6 hf st6 R6 F6=>?_
 have R6':=R6.out hh
 have O6:=O5.step st6 F6.out
 refine yk (s:={ s with heap:=h6,toks:=tk6 }) ⟨F6.out,R6'⟩ N hl hi fun as7 h7 tk7 st7 K7 R7 F7=>?_
 have O7:=O6.step st7 F7
 have off:∀ {as':List Addr}{fr':Fra}{h':Heap},az g env as' fr' h'→On g env A as' l h'→∀ a ∈ ownOf env ++ Frs l,a ∉ as':=fun F O a ha=>(List.mem_append.mp ha).elim (F.offs a) (O.S.off a)
 have gr:∀ {as as':List Addr}{h h':Heap},aF (ownOf env) as h as' h'→aF (ownOf env ++ Frs l) as h as' h':=fun st=>st.grow fun a ha=>List.mem_append_left _ ha
 exact hQ f as7 h7 tk7 (og K7 hf) (((st4.trans (gr st5) R5.nd (off F5 O5)).trans (gr st6) R6'.nd (off F6.out O6)).trans (gr st7) R7.nd (off F7 O7)) R7 F7 O7.S (((cM.trans E4.slots (.of_step st5 O4.S.off)).trans (.of_step st6 O5.S.off)).trans (.of_step st7 O6.S.off))
end
end Mine
namespace Mine
open PySem PyProof.Rows PySem.W
inductive yO (c:CE) (a:S):Stmt→Prop
 | plain {st:Stmt} (h:bP 20 c st=some a) (h0:jJ a=none):yO c a st
 | try {b:List Stmt}{pn n:Str}{pp hp p:Pos}{s0:Stmt}{hb:List Stmt}{b' h':List S}{i:Nat}{P:Addr} (q2:c.pe=some (pn,P)) (q4:c.glob pn=true) (q5:(pn == ("__debug__":Str))=false) (q6:c.names.lookup n=some .local) (q7:aP (bP 20 c) b=some b') (q8:c.locW? n=some i) (q9:aP (bP 20 c.hand) (s0 :: hb)=some h') (h0:jJ a=some (b',c.excs.map (·.2),i,h')) :
  yO c a (.Try b [.ExceptHandler (some (.Name pn pp)) (some n) (s0 :: hb) hp] [] [] p)
theorem xG {c:CE}{st:Stmt}{a:S} (h:((bP 20 c st).bind fun a=>gd (jJ a).isNone (some a))=some a):yO c a st:=by
 refine bT h fun b h1 h2=>?_
 obtain ⟨h2,h3⟩:=au h2
 cases Option.some.inj h3
 exact .plain h1 (Option.isNone_iff_eq_none.mp h2)
theorem A5 {c:CE}{b:List Stmt}{hs:List ExceptHandler}{p:Pos}{a:S} (h1:Ab c b hs=some a):yO c a (.Try b hs [] [] p):=by
 rcases hs with _ | ⟨⟨t,nm,hb,hp⟩,_ | ⟨h3,hs⟩⟩
 ·exact nn h1
 ·cases t with
  | none=>exact nn h1
  | some t=>cases nm with
   | none=>exact nn h1
   | some nm=>cases hb with
    | nil=>exact nn h1
    | cons s0 hb =>
     refine bT h1 fun pn q1 h1=>?_
     refine bT h1 fun pp q2 h1=>?_
     obtain ⟨q3,h1⟩:=au h1
     obtain ⟨q3,q4⟩:=ag q3
     obtain ⟨q4,q5⟩:=ag q4
     obtain ⟨q5,q6⟩:=ag q5
     refine d0 h1 fun b' i h' q7 q8 q9 qx6=>?_; subst qx6
     obtain ⟨np,rfl⟩:=b7 q1
     obtain ⟨p1,P⟩:=pp
     have e1:pn=p1:=eq_of_beq q3
     subst e1
     exact .try q2 q4 (aX q5) (eq_of_beq q6) q7 q8 q9 rfl
 ·cases t <;> cases nm <;> cases hb <;> exact nn h1
theorem u7 {c:CE}{st:Stmt}{a:S} (h:mI c st=some a):yO c a st:=by
 cases st with
 | Try b hs o fin p =>
  obtain ⟨h0,h1⟩:=au (show gd (o.isEmpty && fin.isEmpty) (Ab c b hs)=some a from h)
  obtain ⟨ho,hfin⟩:=ag h0
  cases cG ho; cases cG hfin
  exact A5 h1
 | _=>exact xG h
section
variable {g:Cfg}{K:Frag}{fa:Nat→Option Addr}{c0:CE}{call callH:Nat→List V→Sto→RE}{env:Env}{A:Around}{X:Value→Shared→Prop}{s:Shared}{as as1:List Addr}{fr fr1 fr':Fra} {σ σ1 σ':Sto}{wf r x:Nat}{names:List (Str × NameKind)}{l:List Env}{fl:Fl}{Q:Flow→Shared→Prop}{h1:Heap}
theorem qH (F:az g env as fr h1) (S:Stk g as l h1):∀ a ∈ ownOf env ++ Frs l,a ∉ as:=fun a ha=>(List.mem_append.mp ha).elim (F.offs a) (S.off a)
theorem sN {tk:Nat} (hQ:lD g env l as s fl fr' σ' Q) (x:aF (ownOf env ++ Frs l) as s.heap as1 h1) (sl:cM l (ownOf env) s.heap h1):lD g env l as1 { s with heap:=h1,toks:=tk } fl fr' σ' Q :=
 fun f as2 h2 tk2 hf st R2 F2 S2 L2=>hQ f as2 h2 tk2 hf (x.trans st R2.nd (qH F2 S2)) R2 F2 S2 (sl.trans L2)
noncomputable def AE (g:Cfg) (c0:CE) (call callH:Nat→List V→Sto→RE) (wf r:Nat) (names:List (Str × NameKind)) (sts:List Stmt):Prop :=
 ∀ (sts':List S),aP (mI (c0.sub names)) sts=some sts' →
 ∀ (env:Env) (A:Around) (X:Value→Shared→Prop) (s:Shared) (as:List Addr) (fr fr':Fra) (σ σ':Sto) (fl:Fl) (l:List Env) (Q:Flow→Shared→Prop),
  aq (c0.sub names) env A→bU g A (r + 1)→On g env A as l s.heap→At g env as fr σ s→evT call callH wf sts' fr σ=.ok fl fr' σ'→lD g env l as s fl fr' σ' Q→wpAny (model g.prog g.w) A (execs sts env) Q X s
set_option backward.match.sparseCases false in
noncomputable def yS (f:Fl) (r:RS) (fr:Fra) (σ:Sto):RS:=match f with | .next=>r | f=>.ok f fr σ
set_option backward.match.sparseCases false in
theorem qe {a:S}{ss:List S}{G:Prop} (h0:jJ a=none) (ev:evT call callH wf (a :: ss) fr σ=.ok fl fr' σ') (k:∀ f0 fr1 σ1,evS call wf a fr σ=.ok f0 fr1 σ1→yS f0 (evT call callH wf ss fr1 σ1) fr1 σ1=.ok fl fr' σ'→G):G:=by
 have e:(match jJ a with
  | some t=>(match evSs call wf t.1 fr σ with
   | .ok f fr σ=>(match f with | .next=>evT call callH wf ss fr σ | f=>.ok f fr σ)
   | .ex x fr σ=>if t.2.1.contains x ∧ t.2.2.1 < fr.length then (match evSs callH wf t.2.2.2 (fr.set t.2.2.1 (some (.exc x))) σ with
    | .ok f fr σ=>(match f with | .next=>evT call callH wf ss (fr.set t.2.2.1 none) σ | f=>.ok f (fr.set t.2.2.1 none) σ)
    | _=>.bad) else .bad
   | .bad=>.bad)
  | none=>(match evS call wf a fr σ with
   | .ok f fr σ=>(match f with | .next=>evT call callH wf ss fr σ | f=>.ok f fr σ)
   | _=>.bad))=.ok fl fr' σ':=ev
 rw [h0] at e
 have e:(match evS call wf a fr σ with
   | .ok f fr σ=>(match f with | .next=>evT call callH wf ss fr σ | f=>.ok f fr σ)
   | _=>.bad)=.ok fl fr' σ':=e
 generalize evS call wf a fr σ=r at e k
 cases r with
 | ok f fr σ=>exact k _ _ _ rfl e
 | ex x fr σ=>exact nomatch (show RS.bad=_ from e)
 | bad=>exact nomatch (show RS.bad=_ from e)
set_option backward.match.sparseCases false in
theorem vK {a:S}{ss:List S}{t:List S × List Nat × Nat × List S}{G:Prop} (h0:jJ a=some t) (ev:evT call callH wf (a :: ss) fr σ=.ok fl fr' σ') (k:∀ f0 fr1 σ1,evSs call wf t.1 fr σ=.ok f0 fr1 σ1→yS f0 (evT call callH wf ss fr1 σ1) fr1 σ1=.ok fl fr' σ'→G)
  (kx:∀ x fr1 σ1 f0 fr2 σ2,evSs call wf t.1 fr σ=.ex x fr1 σ1→t.2.1.contains x=true→evSs callH wf t.2.2.2 (fr1.set t.2.2.1 (some (.exc x))) σ1=.ok f0 fr2 σ2→yS f0 (evT call callH wf ss (fr2.set t.2.2.1 none) σ2) (fr2.set t.2.2.1 none) σ2=.ok fl fr' σ'→G):G:=by
 have e:(match jJ a with
  | some t=>(match evSs call wf t.1 fr σ with
   | .ok f fr σ=>(match f with | .next=>evT call callH wf ss fr σ | f=>.ok f fr σ)
   | .ex x fr σ=>if t.2.1.contains x ∧ t.2.2.1 < fr.length then (match evSs callH wf t.2.2.2 (fr.set t.2.2.1 (some (.exc x))) σ with
    | .ok f fr σ=>(match f with | .next=>evT call callH wf ss (fr.set t.2.2.1 none) σ | f=>.ok f (fr.set t.2.2.1 none) σ)
    | _=>.bad) else .bad
   | .bad=>.bad)
  | none=>(match evS call wf a fr σ with
   | .ok f fr σ=>(match f with | .next=>evT call callH wf ss fr σ | f=>.ok f fr σ)
   | _=>.bad))=.ok fl fr' σ':=ev
 rw [h0] at e
 have e:(match evSs call wf t.1 fr σ with
   | .ok f fr σ=>(match f with | .next=>evT call callH wf ss fr σ | f=>.ok f fr σ)
   | .ex x fr σ=>if t.2.1.contains x ∧ t.2.2.1 < fr.length then (match evSs callH wf t.2.2.2 (fr.set t.2.2.1 (some (.exc x))) σ with
    | .ok f fr σ=>(match f with | .next=>evT call callH wf ss (fr.set t.2.2.1 none) σ | f=>.ok f (fr.set t.2.2.1 none) σ)
    | _=>.bad) else .bad
   | .bad=>.bad)=.ok fl fr' σ':=e
 generalize evSs call wf t.1 fr σ=r at e k kx
 cases r with
 | ok f fr σ=>exact k _ _ _ rfl e
 | ex x fr1 σ1 =>
  by_cases hx:t.2.1.contains x ∧ t.2.2.1 < fr1.length
  ·have e:=(if_pos hx).symm.trans e
   have kx:=kx x fr1 σ1
   generalize evSs callH wf t.2.2.2 (fr1.set t.2.2.1 (some (.exc x))) σ1=r at e kx
   cases r with
   | ok f fr σ=>exact kx _ _ _ rfl hx.1 rfl e
   | ex x fr σ=>exact nomatch (show RS.bad=_ from e)
   | bad=>exact nomatch (show RS.bad=_ from e)
  ·exact nomatch (if_neg hx).symm.trans e
 | bad=>exact nomatch (show RS.bad=_ from e)
theorem lA {sts:List Stmt}{sts':List S}{f0:Fl}{f:Flow}{tk:Nat} (ih:AE g c0 call callH wf r names sts) (h2:aP (mI (c0.sub names)) sts=some sts') (N:aq (c0.sub names) env A) (hA:bU g A (r + 1)) (O:On g env A as l s.heap)
  (e:yS f0 (evT call callH wf sts' fr1 σ1) fr1 σ1=RS.ok fl fr' σ') (hQ:lD g env l as s fl fr' σ' Q) (hf:eK as1 h1 f0 f) (st:aF (ownOf env ++ Frs l) as s.heap as1 h1) (R1:Rel g as1 σ1 h1) (F1:az g env as1 fr1 h1) (S1:Stk g as1 l h1) (L1:cM l (ownOf env) s.heap h1) :
  (match (generalizing:=false) f with | .next=>wpAny (model g.prog g.w) A (execs sts env) Q X { s with heap:=h1,toks:=tk } | f=>Q f { s with heap:=h1,toks:=tk }):=by
 cases f0 with
 | next =>
  have:f=.next:=hf
  subst this
  exact ih sts' h2 env A X { s with heap:=h1,toks:=tk } as1 fr1 fr' σ1 σ' fl l Q N hA ⟨O.hfr,O.top,O.hf,O.hc,S1⟩ ⟨F1,R1⟩ e (sN hQ st L1)
 | brk=>cases (show f=.brk from hf); exact ir (Ψ:=fun fl fr' σ'=>lD g env l as s fl fr' σ' Q) (show RS.ok .brk fr1 σ1=RS.ok fl fr' σ' from e) hQ _ as1 h1 tk rfl st R1 F1 S1 L1
 | cont=>cases (show f=.cont from hf); exact ir (Ψ:=fun fl fr' σ'=>lD g env l as s fl fr' σ' Q) (show RS.ok .cont fr1 σ1=RS.ok fl fr' σ' from e) hQ _ as1 h1 tk rfl st R1 F1 S1 L1
 | ret v =>
  cases (show RS.ok (.ret v) fr1 σ1=RS.ok fl fr' σ' from e)
  have hf':=hf
  obtain ⟨val,hv,_⟩:=hf
  subst hv
  exact hQ _ as1 h1 tk hf' st R1 F1 S1 L1
set_option backward.match.sparseCases false in
theorem Bc (G:bC g K c0 fa) (hh:g.hd=none) (IS:wQ g c0 call wf r 20) (IX:i6 g c0 call wf r 20) (HL:∀ a,jM (g.with a) c0.hand callH wf r 20) (sts:List Stmt):AE g c0 call callH wf r names sts:=by
 induction sts with
 | nil =>
  intro sts' h env A X s as fr fr' σ σ' fl l Q N hA O T ev hQ
  rw [aP] at h; cases h
  cases ev
  exact wpAny_execs_nil (hQ .next as s.heap s.toks rfl (aF.refl _ _ _) T.R T.F O.S (.of_step (aF.refl _ as _) O.S.off))
 | cons st sts ih =>
  intro sts' h env A X s as fr fr' σ σ' fl l Q N hA O T ev hQ
  refine cn h fun a as' h1 h2 qx4=>?_; subst qx4
  refine wpAny_execs_cons ?_
  have gr:∀ {as as':List Addr}{h h':Heap},aF (ownOf env) as h as' h'→aF (ownOf env ++ Frs l) as h as' h':=fun st=>st.grow fun a ha=>List.mem_append_left _ ha
  cases u7 h1 with
  | plain h1 h0 =>
   exact qe h0 ev fun f0 fr1 σ1 q ev=>IS names st a h1 env A X s as fr fr1 σ σ1 f0 _ N hA T q fun f as1 k1 tk1 hf st1 R1 F1=>lA ih h2 N hA O ev hQ hf (gr st1) R1 F1 (O.step st1 F1).S (.of_step st1 O.S.off)
  | «try» q2 q4 q5 q6 q7 q8 q9 h0 =>
   refine vK h0 ev (fun f0 fr1 σ1 q ev=>?_) fun x fr1 σ1 f0 fr2 σ2 q hx q' ev=>xK G hh IX HL q2 q4 q5 q6 q8 q7 q9 N hA O T q (List.contains_iff_mem.mp hx) q' fun f as1 k1 tk1 hf st1 R1 F1 S1 L1=>lA ih h2 N hA O ev hQ hf st1 R1 F1 S1 L1
   refine wpAny_Try_except (eH IS names _ _ q7 env A _ s as fr fr1 σ σ1 f0 _ N hA T q fun f as1 k1 tk1 hf st1 R1 F1=>?_)
   have k:=lA (tk:=tk1) (X:=X) ih h2 N hA O ev hQ hf (gr st1) R1 F1 (O.step st1 F1).S (.of_step st1 O.S.off)
   cases f with
   | next=>exact wpAny_execs_nil k
   | _=>exact k
end
section
variable {g:Cfg}{K:Frag}{fa:Nat→Option Addr}{call callH:Nat→List V→Sto→RE}{wf n:Nat}
noncomputable def mj (K:Frag) (c:CE) (a:Addr):Option Fn:=oM mI K c a
theorem zw {c:CE}{a:Addr}{fn:Fn}{vs:List V} {σ σ':Sto}{A:Around}{s:Shared}{as:List Addr}{xs:List Value}{fl:Fl}{fr':Fra}{v:V}{l:List Env}{R:Result→Shared→Prop} (G:bC g K c fa) (hh:g.hd=none) (hT:c.top=none) (hlim:g.b.NoLimit) (IS:wQ g c call wf (2 * n) 20) (IX:i6 g c call wf (2 * n) 20) (HL:∀ a,jM (g.with a) c.hand callH wf (2 * n) 20)
  (hfn:mj K c a=some fn) (hlen:vs.length=fn.ps.length) (he:evT call callH wf fn.body (aW fn vs) σ=.ok fl fr' σ') (hr:qj fl v) (hA:bU g A (2 * (n + 1))) (hfr:A.frames=some l) (S:Stk g as l s.heap) (R0:Rel g as σ s.heap) (hsz:g.b.objs.size ≤ s.heap.objs.size) (r0:ah as s.heap vs xs)
  (hR:∀ (val:Value) (as':List Addr) (h':Heap) (tk:Nat),aF (Frs l) as s.heap as' h'→Rel g as' σ' h'→Stk g as' l h'→cM l [] s.heap h'→RepV as' h' v val→R (.ok (.ret val)) { s with heap:=h',toks:=tk }):codeAny (model g.prog g.w) A (.call (.ref a) ⟨xs,[]⟩) R s:=by
 refine jr G.kin hlim (.inl hT) hfn hlen hA R0 hsz r0 fun env body h tk E=>?_
 have O:=mE E hfr S
 have hm:∀ a,a ∈ Frs (env :: l) ↔ a=env.locals ∨ a ∈ Frs l:=fun a=>by unfold Frs; rw [List.filterMap_cons,E.fr]; exact List.mem_cons
 refine Bc G hh IS IX HL body fn.body E.comp _ _ _ { s with heap:=h,toks:=tk } as _ fr' σ σ' fl _ _ E.N E.room O ⟨E.F,E.R⟩ he fun f as2 h2 tk2 hf st2 R2 F2 S2 L2=>?_
 have a1:aF (ownOf env ++ Frs (env :: l)) as s.heap as h:=aF.of_ext E.ext
 refine hR (As f) as2 h2 tk2 ((a1.trans st2 R2.nd (qH F2 S2)).shrink fun b hb=>?_) R2 ⟨S2.fr.2.2,fun a ha=>S2.off a ((hm a).mpr (.inr ha)),fun a ha=>S2.dict a ((hm a).mpr (.inr ha))⟩ (fun b o hb hl _=>L2 b o (E.ext b o hb) ((hm b).mpr (.inr hl)) fun q=>by rw [E.new b q] at hb; cases hb) (uU hf hr)
 rcases List.mem_append.mp hb with hb | hb
 ·exact .inr (E.new b hb)
 ·rcases (hm b).mp hb with q | q
  ·rw [q]; exact .inr (E.new _ (.head _))
  ·exact .inl q
end
end Mine
namespace Mine
open PySem PyProof.Rows PySem.W
section
variable {g:Cfg}{K:Frag}{fa:Nat→Option Addr}{P T:Nat→Option Fn}{wf n:Nat}{env:Env}{A:Around}{as as':List Addr}{fr:Fra} {σ:Sto}{h h':Heap}
theorem az.slot (F:az g env as fr h) (R:Rel g as σ h) (st:aF [env.locals] as h as' h') (sl:∀ o,h.get? env.locals=some o→∃ s,h'.get? env.locals=some { o with slots:=s }):az g env as' fr h':=by
 have K:cR as h as' h':=⟨fun i a hi=>st.get hi,fun a o ea im=>st.ext a o ea (fun q=>F.notImm a q o ea im) fun q=>by obtain ⟨ob,e',hn⟩:=R.there q; rw [ea] at e'; cases e'; exact hn im⟩
 have cl:∀ {x c cv},env.cells.lookup x=some c→h.IsCell c cv→h'.IsCell c cv:=fun hx ⟨o,ho,r⟩=>⟨o,st.ext _ _ ho (fun q=>(F.offc _ _ hx).2.1 (List.mem_singleton.mp q)) (F.offc _ _ hx).1,r⟩
 have fresh:∀ {a:Addr}{o:Obj},h.get? a=some o→a ∉ as→a ∉ as':=fun ea n q=>by
  obtain ⟨t,ht,hf⟩:=st.pre
  rw [ht] at q
  rcases List.mem_append.mp q with q | q
  ·exact n q
  ·rw [hf _ q] at ea; cases ea
 obtain ⟨m,hm,hv⟩:=F.ns
 obtain ⟨oL,es,ep,hoL,hdL,rL⟩:=id hm
 obtain ⟨sl,hsl⟩:=sl _ hoL
 refine ⟨F.kind,F.above,F.glob,F.blt,F.len,F.nd,⟨m,⟨_,es,ep,hsl,hdL,rL⟩,fun i x v h1 h2=>?_⟩,fun i x kk h1 h2=>?_,fresh hoL F.off,fun x c hx=>?_,F.apart,F.newc⟩
 ·obtain ⟨val,e1,e2⟩:=hv i x v h1 h2
  exact ⟨val,e1,RepV.keep K _ _ e2⟩
 ·obtain ⟨c,cv,e1,e2,e3⟩:=F.cells i x kk h1 h2
  exact ⟨c,cv,e1,cl e1 e2,fun v hv=>by obtain ⟨val,q1,q2⟩:=e3 v hv; exact ⟨val,q1,RepV.keep K _ _ q2⟩⟩
 ·obtain ⟨a,b,cv,d⟩:=F.offc x c hx
  obtain ⟨o,ho,r⟩:=id d
  exact ⟨fresh ho a,b,cv,cl hx d⟩
theorem vU (hf:env.frame=some env.locals) (F:az g env as fr h):Stk g as [env] h:=by
 have hm:∀ a,a ∈ Frs [env]→a=env.locals:=fun a ha=>by unfold Frs at ha; rw [List.filterMap_cons,hf] at ha; exact List.mem_singleton.mp ha
 obtain ⟨m,hm',_⟩:=F.ns
 obtain ⟨oL,es,ep,hoL,hdL,_⟩:=id hm'
 refine ⟨⟨(by rw [F.kind]; exact fun q=>nomatch q),⟨env.locals,oL,hf,?_,hoL,fun vs q=>by rw [hdL] at q; cases q⟩,trivial⟩,fun a ha=>by rw [hm a ha]; exact F.off,fun a ha o ho=>F.notImm a (by rw [hm a ha]; exact .head _) o ho⟩
 cases q:g.b.get? env.locals with
 | none=>rfl
 | some o=>exact absurd (Heap.lt_size q) (Nat.not_lt.mpr F.above)
set_option tactic.hygienic true in
theorem tW {cT cB:CE} (hU:∀ f k,cT.tfns.lookup f=some k→∃ a fn,GV g f (.ref a) ∧ keepIn K (.ref a)=true ∧ T k=some fn ∧ mj K cB a=some fn) (GB:bC g K cB fa) (hh:g.hd=none) (hT:cB.top=none) (hlim:g.b.NoLimit)
  (IS:wQ g cB (evFn P wf n) wf (2 * n) 20) (IX:i6 g cB (evFn P wf n) wf (2 * n) 20) (HL:∀ a,jM (g.with a) cB.hand (evFn P wf n) wf (2 * n) 20):ip g K cT (cq P T wf n) (2 * (n + 1)):=by
 intro f k hk
 obtain ⟨a,fn,h1,h2,h3,h4⟩:=hU f k hk
 refine ⟨a,h1,h2,fun us σ σ' v ev A s as xs env fr R hA hfr hf T0 r0 hR=>?_⟩
 unfold cq at ev
 rw [h3] at ev
 dsimp only at ev
 split at ev
 case isFalse=>cases ev
 rename_i hlen
 obtain ⟨fl,fr',he,hr⟩:=rx (pA ev)
 have hm:∀ a,a ∈ Frs [env] ↔ a=env.locals:=fun a=>by unfold Frs; rw [List.filterMap_cons,hf]; exact List.mem_singleton
 refine zw (l:=[env]) GB hh hT hlim IS IX HL h4 hlen he hr hA hfr (vU hf T0.F) T0.R T0.F.size r0 fun val as' h' tk st R' S' L' rv=>?_
 have st':aF [env.locals] as s.heap as' h':=st.grow fun a ha=>by rw [(hm a).mp ha]; exact .head _
 exact hR val as' h' tk st' R' (T0.F.slot T0.R st' fun o ho=>L' _ o ho ((hm _).mpr rfl) fun q=>nomatch q) rv
theorem tL (C:dW g fa (evFn P wf n) (2 * n)) (hT:∀ k a,fa k=some a→T k=none):dW g fa (cq P T wf n) (2 * (n + 1)):=fun k a vs σ σ' v hfa ev A s as xs R hA R0 hsz r0 hR=>by
 unfold cq at ev
 rw [hT k a hfa] at ev
 exact C k a vs σ σ' v hfa ev A s as xs R (bU.less (k:=2) hA) R0 hsz r0 hR
end
end Mine
namespace Mine
open PySem PyProof.Rows PySem.W
noncomputable def eN (K:Frag) (x:Str):Bool:=nsIn K mainGlobals x == some none
noncomputable def vF {α:Type} (o:Option α) (f:α→Bool):Bool:=match o with | some a=>f a | none=>false
theorem dK {α:Type}{o:Option α}{f:α→Bool} (h:vF o f=true):∃ a,o=some a ∧ f a=true:=Option.casesOn (motive:=fun o=>vF o f=true→∃ a,o=some a ∧ f a=true) o (fun h=>nomatch h) (fun a h=>⟨a,rfl,h⟩) h
noncomputable def wF (v:Option Value) (i:Int):Bool:=match v with | some (.int j _)=>i == j | _=>false
set_option tactic.hygienic true in
theorem pj {v:Option Value}{i:Int} (h:wF v i=true):∃ t,v=some (.int i t):=by
 unfold wF at h
 split at h
 ·rename_i j t; exact ⟨t,by rw [eq_of_beq h]⟩
 ·exact ft h
noncomputable def pG (K:Frag) (c:CE) (C:Addr) (at':List (Nat × Str)) (fa:Nat→Option Addr):Bool :=
 c.consts.all (fun p=>vF (nsIn K mainGlobals p.1) fun v=>wF v p.2) &&
 (c.fns.all (fun p=>vF (fa p.2) fun a=>nsIn K mainGlobals p.1 == some (some (.ref a)) && keepIn K (.ref a)) &&
 (c.clss.all (fun p=>vF (fa p.2) fun fI=>nsIn K mainGlobals p.1 == some (some (.ref C)) && (keepIn K (.ref C) && (makesIn K C && (findIn K (.ref C) "__init__" == some (some (.ref fI)) && (isFn K (.ref fI) && isIn K (.ref C) C))))) &&
 (bltName.all (fun p=>eN K p.1) && (tyName.all (fun p=>eN K p.1) && (eN K "set" && (eN K "reversed" && (eN K "sorted" && (eN K "isinstance" &&
 (eN K "enumerate" &&
 (c.attrs.all (fun p=>at'.lookup p.2 == some p.1 && (plainGet K C p.1 && (vF (findIn K (.ref C) p.1) (fun at'=>noGet K at') && (takerIn K C p.1 == some none && (hasDictIn K C && (findIn K (.ref C) "__setattr__" == some (some (.builtin "object.__setattr__")) && plainOver K C)))))) &&
 c.mths.all (fun p=>vF (fa p.2) fun a=>plainGet K C p.1 && (findIn K (.ref C) p.1 == some (some (.ref a)) && (isFn K (.ref a) && (keepIn K (.ref a) && at'.all (fun q=>!(q.2 == p.1)))))))))))))))
 )
theorem eY {at':List (Nat × Str)}{x:Str} (h:at'.all (fun q=>!(q.2 == x))=true):∀ k,at'.lookup k ≠ some x:=fun k e=>by
 have:=List.all_eq_true.mp h _ (ar e)
 simp at this
theorem nk:∀ p ∈ bltName,bootBuiltins p.1=some (mt p.2) ∧ p.1 ≠ "__name__":=by
 intro p hp
 simp only [bltName,List.mem_cons,List.not_mem_nil,or_false] at hp
 rcases hp with rfl | rfl | rfl | rfl | rfl | rfl | rfl | rfl <;> exact ⟨by kernel_rfl,by decide⟩
theorem qC:∀ p ∈ tyName,(∀ y,sC p.2=some y→bootBuiltins p.1=some y) ∧ p.1 ≠ "__name__":=by
 intro p hp
 simp only [tyName,List.mem_cons,List.not_mem_nil,or_false] at hp
 rcases hp with rfl | rfl | rfl | rfl <;> exact ⟨fun y h=>by cases h; kernel_rfl,by decide⟩
noncomputable def wT (K:Frag) (c:CE):Bool :=
 c.excs.all (fun p=>yN K p.2 && (nsIn K mainGlobals p.1 == some (some (.ref p.2)) && (excIn K p.2 z6 "ValueError.__new__" && (kitOne K (.ref p.2) (.type "ValueError") == some true && c.excs.all (fun q=>kitOne K (.ref q.2) (.ref p.2) == some (q.2 == p.2)))))) &&
 (eN K "ValueError" && (match c.pe with | none=>true | some t=>nsIn K mainGlobals t.1 == some (some (.ref t.2)) && lQ K t.2 (c.excs.map (·.2))))
theorem jq {g:Cfg}{K:Frag}{c:CE}{mg mb:Str→Option Value}{p:Program}{loose:List Str} (KX:K.In g.b) (T:TopRead p loose mg mb g.b) (chk:wT K c=true):u6 g K c:=by
 obtain ⟨k1,chk⟩:=ag chk
 obtain ⟨k2,k3⟩:=ag chk
 have gl:∀ (x:Str) (v:Value),nsIn K mainGlobals x=some (some v)→GV g x v:=fun x v h=>⟨mg,mb,T.g,T.b,.inl (mg_of KX T.g h)⟩
 have all:∀ q ∈ c.excs,yN K q.2=true ∧ nsIn K mainGlobals q.1=some (some (.ref q.2)) ∧ excIn K q.2 z6 "ValueError.__new__"=true ∧ kitOne K (.ref q.2) (.type "ValueError")=some true ∧ ∀ r ∈ c.excs,kitOne K (.ref r.2) (.ref q.2)=some (r.2 == q.2):=fun q hq=>by
  obtain ⟨a,h⟩:=ag (List.all_eq_true.mp k1 q hq)
  obtain ⟨b,h⟩:=ag h
  obtain ⟨d,h⟩:=ag h
  obtain ⟨e,h⟩:=ag h
  exact ⟨a,eq_of_beq b,d,eq_of_beq e,fun r hr=>eq_of_beq (List.all_eq_true.mp h r hr)⟩
 have mem:∀ {D},D ∈ c.excs.map (·.2)→∃ q ∈ c.excs,q.2=D:=fun h=>List.mem_map.mp h
 refine ⟨fun D hD=>?_,fun x C h=>gl _ _ (all _ (ar h)).2.1,fun x C h=>⟨mg,own_of_in KX T (all _ (ar h)).2.1 (all _ (ar h)).2.2.1⟩,fun C hC D hD=>?_,?_,fun D hD=>?_,fun x P h=>?_⟩
 ·obtain ⟨q,hq,rfl⟩:=mem hD; exact (all q hq).1
 ·obtain ⟨q,hq,rfl⟩:=mem hC; obtain ⟨r,hr,rfl⟩:=mem hD; exact (all q hq).2.2.2.2 r hr
 ·exact ⟨mg,mb,T.g,T.b,.inr ⟨ns_none_of KX T.g (eq_of_beq k2),by rw [T.builtins _ (by decide)]; kernel_rfl⟩⟩
 ·obtain ⟨q,hq,rfl⟩:=mem hD; exact (all q hq).2.2.2.1
 ·rw [h] at k3
  obtain ⟨a,b⟩:=ag k3
  exact ⟨gl _ _ (eq_of_beq a),b⟩
theorem lB {g:Cfg}{K:Frag}{c:CE}{fa:Nat→Option Addr}{mg mb:Str→Option Value} (KX:K.In g.b) (Tg:g.b.Ns mainGlobals mg) (Tb:g.b.Ns builtinsNs mb) (hb:∀ x:Str,x ≠ "__name__"→mb x=bootBuiltins x) (chk:pG K c g.C g.at' fa=true) (hh:g.hd=none)
  (hE:u6 g K c)
  (hLam:∀ a,c.lam=some a→∃ mg,g.b.Ns mainGlobals mg ∧ CodeHd g.b a g.tab ∧ g.b.NoLimit ∧ g.b.BuiltinsAt mg g.tab ∧ mainGlobals ≠ g.tab ∧ g.hd=none):bC g K c fa:=by
 have c1:=ag chk
 have c2:=ag c1.2
 have c3:=ag c2.2
 have c4:=ag c3.2
 have c5:=ag c4.2
 have c6:=ag c5.2
 have c7:=ag c6.2
 have c8:=ag c7.2
 have c9:=ag c8.2
 have c9e:=ag c9.2
 have c10:=ag c9e.2
 clear chk
 have bl:∀ (x:Str) (v:Value),eN K x=true→bootBuiltins x=some v→x ≠ "__name__"→GV g x v:=fun x v h1 h2 h3 =>
  ⟨mg,mb,Tg,Tb,.inr ⟨ns_none_of KX Tg (eq_of_beq h1),by rw [hb x h3,h2]⟩⟩
 have gl:∀ (x:Str) (v:Value),nsIn K mainGlobals x=some (some v)→GV g x v:=fun x v h=>⟨mg,mb,Tg,Tb,.inl (mg_of KX Tg h)⟩
 have ga:∀ {x:Str}{k:Nat},c.attrs.lookup x=some k→_:=fun h=>ag (List.all_eq_true.mp c10.1 _ (ar h))
 refine ⟨⟨Nat.lt_trans (by decide) Tg.lt⟩,KX,fun x i h=>?_,fun x k h=>?_,fun x k h=>?_,fun x k h=>?_,fun x b h=>?_,fun x t y h hy=>?_,bl _ _ c6.1 (by kernel_rfl) (by decide),bl _ _ c7.1 (by kernel_rfl) (by decide),
  bl _ _ c9e.1 (by kernel_rfl) (by decide),
  bl _ _ c8.1 (by kernel_rfl) (by decide),fun _=>hh,
  hE,
  bl _ _ c9.1 (by kernel_rfl) (by decide),fun x k h=>?_,fun x k h=>?_,fun x k h=>?_,hLam,fun x f h=>?_⟩
 ·exact (dK (List.all_eq_true.mp c1.1 _ (ar h))).elim fun v hv=>(pj hv.2).elim fun t ht=>⟨t,gl _ _ (hv.1.trans (congrArg some ht))⟩
 ·exact (dK (List.all_eq_true.mp c2.1 _ (ar h))).elim fun a ha=>⟨a,gl _ _ (eq_of_beq (ag ha.2).1),ha.1,(ag ha.2).2⟩
 ·refine (dK (List.all_eq_true.mp c3.1 _ (ar h))).elim fun a ha=>?_
  have q1:=ag ha.2
  have q2:=ag q1.2
  have q3:=ag q2.2
  have q4:=ag q3.2
  exact ⟨a,gl _ _ (eq_of_beq q1.1),ha.1,q2.1,q3.1,eq_of_beq q4.1,(ag q4.2).1⟩
 ·exact (dK (List.all_eq_true.mp c3.1 _ (ar h))).elim fun a ha=>(ag (ag (ag (ag (ag ha.2).2).2).2).2).2
 ·have hm:=ar h
  exact bl _ _ (List.all_eq_true.mp c4.1 _ hm) (nk _ hm).1 (nk _ hm).2
 ·have hm:=ar h
  exact bl _ _ (List.all_eq_true.mp c5.1 _ hm) ((qC _ hm).1 y hy) (qC _ hm).2
 ·have q1:=ga h
  have q2:=ag q1.2
  have q3:=ag q2.2
  exact ⟨eq_of_beq q1.1,q2.1,(dK q3.1).elim fun at2 hq=>⟨at2,hq.1,hq.2,eq_of_beq (ag q3.2).1⟩⟩
 ·exact (ag (ag (ag (ag (ga h).2).2).2).2).1
 ·have q:=ag (ag (ag (ag (ag (ga h).2).2).2).2).2
  exact ⟨eq_of_beq q.1,q.2⟩
 ·refine (dK (List.all_eq_true.mp c10.2 _ (ar h))).elim fun a ha=>?_
  have q1:=ag ha.2
  have q2:=ag q1.2
  have q3:=ag q2.2
  exact ⟨a,ha.1,q1.1,eq_of_beq q2.1,q3.1,(ag q3.2).1,eY (ag q3.2).2⟩
theorem oI {g:Cfg} (h:(g.at'.map (·.2)).Nodup) (h':(g.at'.map (·.1)).Nodup):bv g:=fun k k' x e1 e2=>by
 have m1:=ar e1
 have m2:=ar e2
 obtain ⟨i,hi,e3⟩:=List.getElem_of_mem m1
 obtain ⟨j,hj,e4⟩:=List.getElem_of_mem m2
 have:i=j:=by
  apply (List.getElem_inj h (h₀:=by simpa using hi) (h₁:=by simpa using hj)).mp
  simp [e3,e4]
 subst this
 rw [e3] at e4; cases e4; rfl
end Mine
namespace Mine
open PySem PyProof.Rows PySem.W
noncomputable def Pof (K:Frag) (c:Nat→CE) (fa:Nat→Option Addr) (k:Nat):Option Fn:=(fa k).bind fun a=>aL K (c k) a
theorem tA {as:List Addr}{h:Heap}:∀ {vs:List Value}{is:List Int},IntsAre vs is→ah as h (is.map V.int) vs:=by
 intro vs is hi
 induction hi with
 | nil=>rw [List.map_nil,ah]
 | cons n t _ ih=>rw [List.map_cons,ah]; exact ⟨_,_,rfl,by rw [RepV]; exact ⟨t,rfl⟩,ih⟩
theorem z3 {prog:Program}{w:World}{K:Frag}{c:Nat→CE}{C:Addr}{at':List (Nat × Str)}{fa:Nat→Option Addr}{mg mb:Str→Option Value}{s₁:Shared}{scr a ca P:Addr}{vs:List Value}{is:List Int}{wf n lawI:Nat} {σ':Sto}
  (KX:K.In s₁.heap) (Tg:s₁.heap.Ns mainGlobals mg) (Tb:s₁.heap.Ns builtinsNs mb) (hb:∀ x:Str,x ≠ "__name__"→mb x=bootBuiltins x) (lim:s₁.heap.NoLimit)
  (hl:s₁.heap.get? scr=some { cls:=.type "list",data:=.seq vs.toArray }) (hi:IntsAre vs is) (hlen:is.length ≤ 63)
  (hT:TabsAt [(ca,P)] s₁.heap) (hB:∃ bm ob,mg "__builtins__"=some (.ref bm) ∧ bm ≠ builtinsNs ∧ s₁.heap.get? bm=some ob ∧ ob.cls=.type "module" ∧ ob.dict=some builtinsNs ∧ ob.data=.plain)
  (hK:K.all (fun p=>!(p.2.cls == .type "list") && !(p.1 == P))=true) (chk:∀ k,pG K (c k) C at' fa=true) (hat:(at'.map (·.2)).Nodup) (hat':(at'.map (·.1)).Nodup) (hA1:callerA.units + 20 * (2 * (n + 2)) + 60 ≤ 9900) (hA2:callerA.depth + 4 * (2 * (n + 2)) + 20 ≤ 1000)
  (hl0:∀ k x,(c k).lam=some x→x=ca)
  {p:Program}{loose:List Str} (TR:TopRead p loose mg mb s₁.heap) (chkX:∀ k,wT K (c k)=true) (hct:∀ k a,fa k=some a→(c k).top=none ∧ (c k).tfns=[]) {fh:Nat→Option Addr}{fnL:Fn}{frL:Fra}
  {cB cT:CE}{T:Nat→Option Fn} (hfh:∀ k a,fh k=some a→fa k=some a ∧ c k=cB.hand) (chkH:pG K cB.hand C at' fh=true) (chkB:pG K cB C at' fa=true) (chkXB:wT K cB=true) (hB0:cB.top=none ∧ cB.tfns=[]) (hBl:cB.lam=none) (chkT:pG K cT C at' fa=true) (chkXT:wT K cT=true) (hTl:cT.lam=none)
  (hU:∀ f k,cT.tfns.lookup f=some k→∃ a fn,nsIn K mainGlobals f=some (some (.ref a)) ∧ keepIn K (.ref a)=true ∧ T k=some fn ∧ mj K cB a=some fn) (htn:∀ k a,fa k=some a→T k=none)
  (hfn:aL K cT a=some fnL) (hps:1=fnL.ps.length)
  (ev:evSs (cq (Pof K c fa) T wf n) wf fnL.body (aW fnL [.ref 0]) [.frz (is.map V.int),.tab false]=.ok (.ret (.bool true)) frL σ')
  (h0:σ'[0]?=some (.frz (is.map V.int))) (h1:∃ b,σ'[1]?=some (.tab b))
  {R:Result→Shared→Prop} (hR:∀ h' tk,(∀ (b:Addr) (o:Obj),(ghostOf s₁.heap [(ca,P)]).get? b=some o→h'.get? b=some o)→GrownAll [(ca,P)] h'→R (.ok (.ret (.bool true))) { s₁ with heap:=h',toks:=tk }) :
  codeAny (model prog w) callerA (.call (.ref a) ⟨[.ref scr],[]⟩) R s₁:=by
 have lk:∀ {α β:Type} [BEq α] [LawfulBEq α] {l:List (α × β)}{x:α}{y:β},l.lookup x=some y→(x,y) ∈ l:=fun e=>ar e
 have hPo:s₁.heap.get? P=some (tabObj #[]):=(hT (ca,P) (.head _)).2
 have hCo:CodeHd s₁.heap ca P:=(hT (ca,P) (.head _)).1
 have nsne:∀ (b:Addr) (m:Str→Option Value),s₁.heap.Ns b m→b ≠ scr ∧ b ≠ P:=fun b m ⟨o,es,ep,e,d,_⟩=>⟨fun q=>(by rw [q,hl] at e; cases e; cases d),fun q=>(by rw [q,hPo] at e; cases e; cases d)⟩
 have hide:∀ (b:Addr) (o:Obj),b ≠ scr ∧ b ≠ P→s₁.heap.get? b=some o→(hideAll s₁.heap [scr,P]).get? b=some o:=fun b o hb e=>hideAll_get [scr,P] e (by simpa using hb)
 have hsP:scr ≠ P:=fun q=>by rw [q,hPo] at hl; cases hl
 let g:Cfg:={ prog:=prog,w:=w,b:=hideAll s₁.heap [scr,P],C:=C,at':=at',scr:={ cls:=.type "list",data:=.seq vs.toArray },tab:=P }
 have KX':K.In g.b:=fun b o e=>by
  have e1:=KX b o e
  have h2:=List.all_eq_true.mp hK _ (lk e)
  obtain ⟨h3,h4⟩:=ag h2
  refine hide b o ⟨fun q=>?_,fun q=>?_⟩ e1
  ·rw [q,hl] at e1; cases e1
   exact tf (aX h3)
  ·rw [q] at h4
   simp at h4
 have Tg':g.b.Ns mainGlobals mg:=Tg.at' fun o e=>hide _ o (nsne _ _ Tg) e
 have Tb':g.b.Ns builtinsNs mb:=Tb.at' fun o e=>hide _ o (nsne _ _ Tb) e
 have lim':g.b.NoLimit:=lim.at fun o e=>hide _ o (by obtain ⟨m,hm,_⟩:=lim; exact nsne _ _ hm) e
 have C':CodeHd g.b ca P:=by
  obtain ⟨o,vs',file,tf',flags,tg,inF,text,tt,e1,q1,q2,q3,q4,q5,q6,q7,q8,q9⟩:=hCo
  exact ⟨o,vs',file,tf',flags,tg,inF,text,tt,hide _ _ ⟨fun q=>(by rw [q,hl] at e1; cases e1; exact absurd (show Value.type "list"=.type "code" from q1) (by decide)),q9⟩ e1,q1,q2,q3,q4,q5,q6,q7,q8,q9⟩
 have B':g.b.BuiltinsAt mg P:=by
  obtain ⟨bm,ob,b1,b2,b3,b4,b5,b6⟩:=hB
  have hP:bm ≠ P:=fun q=>by rw [q,hPo] at b3; cases b3; cases b4
  refine ⟨bm,ob,b1,b2,fun q=>?_,hP,hide _ _ ⟨fun q=>(by rw [q,hl] at b3; cases b3; exact absurd (show Value.type "list"=.type "module" from b4) (by decide)),hP⟩ b3,b4,b5,b6⟩
  obtain ⟨o,es,ep,e,d,_⟩:=Tg
  rw [q,e] at b3; cases b3; rw [d] at b6; cases b6
 have TR':TopRead p loose mg mb g.b:=⟨Tg',Tb',lim',hb,TR.free⟩
 have G:∀ k (a:Addr),fa k=some a→bC g K (c k) fa:=fun k _ _=>lB KX' Tg' Tb' hb (chk k) rfl
  (jq KX' TR' (chkX k))
  fun x h=>by
  rw [hl0 k x h]
  exact ⟨mg,Tg',C',lim',B',(nsne _ _ Tg).2,rfl⟩
 have J:bv g:=oI hat hat'
 have hP:∀ k a',fa k=some a'→Pof K c fa k=aL K (c k) a':=fun k a' h=>by unfold Pof; rw [h]; rfl
 have CA:=gk (P:=Pof K c fa) (wf:=wf) c hct G J lim' hP n
 have CXA:=jZ (P:=Pof K c fa) (wf:=wf) c hct G J lim' hP n
 have gx:∀ {c':CE},pG K c' C at' fa=true→wT K c'=true→c'.lam=none→bC g K c' fa:=fun h1 h2 h3=>lB KX' Tg' Tb' hb h1 rfl (jq KX' TR' h2) fun x h=>by rw [h3] at h; cases h
 have GB:=gx chkB chkXB hBl
 have CB:ck g K cB fa (evFn (Pof K c fa) wf n) (2 * n):=⟨CA,de hB0⟩
 have IS:=dp (wf:=wf) GB J CB 20
 have GH:∀ e,bC (g.with e) K cB.hand fh:=fun e=>(lB (fa:=fh) (c:=cB.hand) KX' Tg' Tb' hb chkH rfl (jq KX' TR' chkXB) fun x h=>nomatch h).with rfl rfl
 have HL:∀ e,jM (g.with e) cB.hand (evFn (Pof K c fa) wf n) wf (2 * n) 20:=fun e=>eH (dp (GH e) J ⟨gk (g:=g.with e) (fa:=fh) (P:=Pof K c fa) (wf:=wf) c (fun k a' h=>hct k a' (hfh k a' h).1) (fun k a' h=>by rw [(hfh k a' h).2]; exact GH e) J lim' (fun k a' h=>hP k a' (hfh k a' h).1) n,de ⟨rfl,rfl⟩⟩ 20)
 have TC:ip g K cT (cq (Pof K c fa) T wf n) (2 * (n + 1)):=tW (fun f k hk=>let ⟨a,fn,h1,h2⟩:=hU f k hk; ⟨a,fn,⟨mg,mb,Tg',Tb',.inl (mg_of KX' Tg' h1)⟩,h2⟩) GB rfl hB0.1 lim' IS (gZ IS (gY GB J CB CXA 20)) HL
 have R0:Rel g [scr,P] [.frz (is.map V.int),.tab false] s₁.heap:=by
  refine ⟨fun b o e=>of_hideAll [scr,P] e,rfl,by simpa using hsP,fun b hb=>?_,fun i b o e1 e2=>?_,fun a q=>nomatch q⟩
  ·exact hideAll_none [scr,P] hb
  ·rcases i with _ | _ | i
   ·simp at e1 e2; subst e1; subst e2
    exact ⟨vs.toArray,0,hl,rfl,by simpa using tA hi,by simp; lia⟩
   ·simp at e1 e2; subst e1; subst e2
    exact ⟨rfl,#[],hPo,fun _=>rfl⟩
   ·simp at e1
 refine nj (n:=n + 1) (vs:=[.ref 0]) (v:=.bool true) (gx chkT chkXT hTl) J lim' ⟨tL CA htn,TC⟩ hfn hps ev (.inl rfl) (.inr rfl) ⟨hA1,hA2,rfl⟩ R0 (by rw [hideAll_size]; exact Nat.le_refl _) (xs:=[.ref scr]) (by rw [ah]; exact ⟨_,_,rfl,by rw [RepV]; exact ⟨scr,rfl,rfl⟩,by rw [ah]⟩) fun val as' h' tk st R' r'=>?_
 rw [RepV] at r'; subst r'
 refine hR h' tk (fun b o e=>?_) ⟨?_,trivial⟩
 ·have e':s₁.heap.get? b=some o:=of_hideAll [P] e
  have hbP:b ≠ P:=fun q=>by
   subst q
   have:=hideAll_none (h:=s₁.heap) [b] (List.mem_singleton.mpr rfl)
   have e2:(hideAll s₁.heap [b]).get? b=some o:=e
   rw [this] at e2; cases e2
  by_cases hbs:b=scr
  ·subst hbs
   obtain ⟨items,nn',q1,q2,_⟩:=R'.obj 0 b _ (st.get rfl) h0
   rw [hl] at e'; cases e'
   exact q1
  ·exact R'.base b o (hide b o ⟨hbs,hbP⟩ e')
 ·obtain ⟨b,h1⟩:=h1
  obtain ⟨_,ps,q,_⟩:=R'.obj 1 P _ (st.get rfl) h1
  exact ⟨ps,q⟩
theorem oh:WShape.has [] (WData.bool true) .bool=true:=by first | rfl | decide +kernel | simp [WShape.has]
theorem qS:same (WData.bool true) (WData.bool true)=true:=by first | rfl | decide +kernel | simp [same]
theorem law_post (l:OpenLaw) (a b:List WData):l.row.toRowW.claim.post a (.bool true) b=true:=by
 show (WShape.has [] (WData.bool true) .bool && (WTm.eq .res (.lit (.bool true))).holds [] { args:=a,res:=some (.bool true),after:=b })=true
 rw [oh]
 simp only [WTm.holds,WTm.value,qS]
 rfl
theorem list_obj {P:Params}{h:Heap}{l:Addr}{vs:List Value}{ds:List PyData} (w:Well P h (.ref l) (ofPy (.list ds))) (hL:h.IsList l vs.toArray):h.get? l=some { cls:=.type "list",data:=.seq vs.toArray }:=by
 unfold ofPy at w
 cases w with
 | list ho _ =>
  obtain ⟨o,ho',hc,n,hd⟩:=hL
  rw [ho] at ho'; cases ho'; cases hd
  exact ho
end Mine
set_option linter.unusedSimpArgs false
namespace Mine
open PySem
section
variable {P:Nat→Option Fn}{call:Nat→List V→Sto→RE}{wf n:Nat}{fr fr':Fra} {σ σ1 σ':Sto}{ss:List S}{a t:E}{v:V}{r:RS}
end
section
variable {test:Fra→Sto→RE}{body:Fra→Sto→RS}{n:Nat}{fr fr2:Fra} {σ σ1 σ2:Sto}{r:RS}
end
end Mine
namespace Mine
abbrev Way:=Nat × Nat × Nat
noncomputable def upd {α:Type} (f:Nat→α) (e:Nat) (x:α):Nat→α:=fun v=>if v=e then x else f v
theorem a7 {α:Type}{f:Nat→α}{e:Nat}{x:α}:upd f e x e=x:=if_pos rfl
theorem bS {α:Type}{f:Nat→α}{e v:Nat}{x:α} (h:v ≠ e):upd f e x v=f v:=if_neg h
structure St where
 S:Nat→Int
 B:Nat→Nat
 last:Option Nat
 T:Nat→Nat
 W:Nat→Nat
noncomputable def bi (num div:Int) (S:Nat→Int) (w:Way):Int:=S w.1 + div * w.2.2 - num
noncomputable def vD (num div:Int) (t:Nat) (st:St) (w:Way):St :=
 if st.S w.2.1 < bi num div st.S w then ⟨upd st.S w.2.1 (bi num div st.S w),upd st.B w.2.1 w.1,some w.2.1,upd st.T w.2.1 t,upd st.W w.2.1 w.2.2⟩ else st
def dr (num div:Int) (S:Nat→Int) (w:Way):Prop:=bi num div S w ≤ S w.2.1
def Cyc (B:Nat→Nat):List Nat→Prop
 | []=>False
 | v :: r=>(v :: r).map B=r ++ [v]
noncomputable def dj (f:Nat→Int) (c:List Nat):Int:=(c.map f).sum
theorem a5 {f:Nat→Int}{v:Nat}{c:List Nat}:dj f (v :: c)=f v + dj f c:=by unfold dj; rw [List.map_cons,List.sum_cons]
theorem dN {f:Nat→Int}:∀ {c d:List Nat},dj f (c ++ d)=dj f c + dj f d
 | [],d=>by unfold dj; simp
 | v :: c,d=>by rw [List.cons_append,a5,a5,dN]; lia
theorem sy {f:Nat→Int}{B:Nat→Nat}{c:List Nat}:dj (fun v=>f (B v)) c=dj f (c.map B):=by unfold dj; rw [List.map_map]; rfl
theorem tR {f:Nat→Int}{B:Nat→Nat}:∀ {c:List Nat},Cyc B c→dj (fun v=>f (B v)) c=dj f c
 | v :: r,h=>by
  have h:(v :: r).map B=r ++ [v]:=h
  rw [sy,h,dN,a5,a5]; unfold dj; simp; lia
theorem pE {f g:Nat→Int}:∀ {c:List Nat},(∀ v ∈ c,f v ≤ g v)→dj f c ≤ dj g c
 | [],_=>Int.le_refl _
 | v :: c,h=>by
  rw [a5,a5]
  have h1:=h v (.head _)
  have h2:=pE (c:=c) fun w hw=>h w (.tail _ hw)
  lia
theorem qE {f g:Nat→Int}:∀ {c:List Nat},(∀ v ∈ c,f v ≤ g v)→(∃ v ∈ c,f v < g v)→dj f c < dj g c
 | [],_,h=>by obtain ⟨_,h,_⟩:=h; cases h
 | v :: c,h,⟨w,hw,hlt⟩=>by
  rw [a5,a5]
  have h1:=h v (.head _)
  rcases List.mem_cons.mp hw with rfl | hw
  ·have h2:=pE (c:=c) fun w hw=>h w (.tail _ hw)
   lia
  ·have h2:=qE (c:=c) (fun w hw=>h w (.tail _ hw)) ⟨w,hw,hlt⟩
   lia
theorem mQ {f g:Nat→Int}:∀ {c:List Nat},dj (fun v=>f v + g v) c=dj f c + dj g c
 | []=>rfl
 | v :: c=>by rw [a5,a5,a5,mQ]; lia
theorem yx {B B':Nat→Nat}:∀ {c:List Nat},(∀ v ∈ c,B v=B' v)→Cyc B c→Cyc B' c
 | v :: r,h,hc=>by
  show (v :: r).map B'=r ++ [v]
  rw [← List.map_congr_left h]; exact hc
structure Inv (ws:List Way) (num div:Int) (t i:Nat) (st:St):Prop where
 A:∀ v,1 ≤ st.T v→(st.B v,v,st.W v) ∈ ws ∧ st.S v ≤ bi num div st.S (st.B v,v,st.W v)
 le:∀ v,st.T v ≤ t
 ch:∀ v,2 ≤ st.T v→st.T v ≤ st.T (st.B v) + 1
 s1:∀ w ∈ ws,st.T w.1 + 2 ≤ t→dr num div st.S w
 s2:∀ j w,ws[j]?=some w→j < i→st.T w.1 + 1 ≤ t→dr num div st.S w
 D:∀ c:List Nat,(∀ v ∈ c,1 ≤ st.T v)→Cyc st.B c→0 < dj (fun v=>div * st.W v - num) c
 lN:st.last=none→∀ v,st.T v + 1 ≤ t
 lS:∀ e,st.last=some e→st.T e=t
theorem jf {num div:Int}{S:Nat→Int}{e:Nat}{x:Int}{w:Way} (h:S e ≤ x):bi num div S w ≤ bi num div (upd S e x) w:=by
 unfold bi
 by_cases hb:w.1=e
 ·rw [hb,a7]; lia
 ·rw [bS hb]; exact Int.le_refl _
theorem ri {ws:List Way}{num div:Int}{t i:Nat}{st:St}{w:Way} (ht:1 ≤ t) (I:Inv ws num div t i st) (hw:ws[i]?=some w):Inv ws num div t (i + 1) (vD num div t st w):=by
 have hmem:=List.mem_of_getElem? hw
 obtain ⟨b,e,d⟩:=w
 unfold vD
 by_cases hlt:st.S e < bi num div st.S (b,e,d)
 ·rw [if_pos hlt]
  have mono:∀ v,st.S v ≤ upd st.S e (bi num div st.S (b,e,d)) v:=fun v=>by
   by_cases hv:v=e
   ·rw [hv,a7]; exact Int.le_of_lt hlt
   ·rw [bS hv]; exact Int.le_refl _
  have wm:∀ u,bi num div st.S u ≤ bi num div (upd st.S e (bi num div st.S (b,e,d))) u:=fun u=>jf (Int.le_of_lt hlt)
  have hb:t ≤ st.T b + 1:=by
   refine Nat.not_lt.mp fun hn=>absurd hlt (Int.not_lt.mpr (I.s1 _ hmem hn))
  have Tm:∀ v,st.T v ≤ upd st.T e t v:=fun v=>by
   by_cases hv:v=e
   ·rw [hv,a7]; exact I.le _
   ·rw [bS hv]; exact Nat.le_refl _
  have keep:∀ u:Way,upd st.T e t u.1 + 1 ≤ t→dr num div st.S u→dr num div (upd st.S e (bi num div st.S (b,e,d))) u:=fun u hu hs=>by
   have hne:u.1 ≠ e:=fun q=>by rw [q,a7] at hu; exact Nat.not_succ_le_self _ hu
   unfold dr bi at hs ⊢
   rw [bS hne]
   exact Int.le_trans hs (mono _)
  refine ⟨fun v hv=>?_,fun v=>?_,fun v hv=>?_,fun u hu h2=>?_,fun j u hu hj h2=>?_,fun c hc hy=>?_,(fun q=>nomatch q),fun q hq=>?_⟩
  ·show (upd st.B e b v,v,upd st.W e d v) ∈ ws ∧ upd st.S e (bi num div st.S (b,e,d)) v ≤ bi num div (upd st.S e (bi num div st.S (b,e,d))) (upd st.B e b v,v,upd st.W e d v)
   by_cases he:v=e
   ·rw [he,a7,a7,a7]
    exact ⟨hmem,wm _⟩
   ·rw [bS he,bS he,bS he]
    have hv':1 ≤ st.T v:=by
     have:1 ≤ upd st.T e t v:=hv
     rw [bS he] at this; exact this
    have:=I.A v hv'
    exact ⟨this.1,Int.le_trans this.2 (wm _)⟩
  ·show upd st.T e t v ≤ t
   by_cases he:v=e
   ·rw [he,a7]; exact Nat.le_refl _
   ·rw [bS he]; exact I.le v
  ·show upd st.T e t v ≤ upd st.T e t (upd st.B e b v) + 1
   by_cases he:v=e
   ·rw [he,a7,a7]
    exact Nat.le_trans hb (Nat.add_le_add_right (Tm b) 1)
   ·have hv':2 ≤ st.T v:=by
     have:2 ≤ upd st.T e t v:=hv
     rw [bS he] at this; exact this
    rw [bS he,bS he]
    exact Nat.le_trans (I.ch v hv') (Nat.add_le_add_right (Tm (st.B v)) 1)
  ·have h2':upd st.T e t u.1 + 2 ≤ t:=h2
   exact keep u (Nat.le_of_succ_le h2') (I.s1 u hu (Nat.le_trans (Nat.add_le_add_right (Tm u.1) 2) h2'))
  ·have h2':upd st.T e t u.1 + 1 ≤ t:=h2
   by_cases hji:j=i
   ·rw [hji,hw] at hu
    rw [← Option.some.inj hu] at h2' ⊢
    have hne:b ≠ e:=fun q=>by
     have h3:upd st.T e t b + 1 ≤ t:=h2'
     rw [q,a7] at h3; exact Nat.not_succ_le_self _ h3
    show bi num div (upd st.S e (bi num div st.S (b,e,d))) (b,e,d) ≤ upd st.S e (bi num div st.S (b,e,d)) e
    rw [a7]; unfold bi
    rw [bS hne]; exact Int.le_refl _
   ·exact keep u h2' (I.s2 j u hu (Nat.lt_of_le_of_ne (Nat.le_of_lt_succ hj) hji) (Nat.le_trans (Nat.add_le_add_right (Tm u.1) 1) h2'))
  ·have hc':∀ v ∈ c,v ≠ e→1 ≤ st.T v:=fun v hv he=>by
    have:1 ≤ upd st.T e t v:=hc v hv
    rw [bS he] at this; exact this
   show 0 < dj (fun v=>div * (upd st.W e d v:Nat) - num) c
   by_cases hec:e ∈ c
   ·have key:dj st.S c < dj (fun v=>st.S (upd st.B e b v) + (div * (upd st.W e d v:Nat) - num)) c:=by
     have hlt':st.S e < st.S b + (div * (d:Int) - num):=Int.lt_of_lt_of_le hlt (Int.le_of_eq (Int.add_sub_assoc _ _ _))
     refine qE (fun v hv=>?_) ⟨e,hec,?_⟩
     ·by_cases he:v=e
      ·rw [he,a7,a7]; exact Int.le_of_lt hlt'
      ·rw [bS he,bS he]
       exact Int.le_trans (I.A v (hc' v hv he)).2 (Int.le_of_eq (Int.add_sub_assoc _ _ _))
     ·rw [a7,a7]; exact hlt'
    rw [mQ,tR (f:=st.S) hy] at key
    lia
   ·have hne:∀ v ∈ c,v ≠ e:=fun v hv q=>hec (q ▸ hv)
    have e1:dj (fun v=>div * (upd st.W e d v:Nat) - num) c=dj (fun v=>div * (st.W v:Nat) - num) c:=by
     unfold dj
     exact congrArg List.sum (List.map_congr_left fun v hv=>by rw [bS (hne v hv)])
    rw [e1]
    exact I.D c (fun v hv=>hc' v hv (hne v hv)) (yx (fun v hv=>bS (hne v hv)) hy)
  ·cases hq; exact a7
 ·rw [if_neg hlt]
  refine ⟨I.A,I.le,I.ch,I.s1,fun j u hu hj h2=>?_,I.D,I.lN,I.lS⟩
  by_cases hji:j=i
  ·rw [hji,hw] at hu
   rw [← Option.some.inj hu]
   exact Int.not_lt.mp hlt
  ·exact I.s2 j u hu (Nat.lt_of_le_of_ne (Nat.le_of_lt_succ hj) hji) h2
end Mine
namespace Mine
theorem pc {ws:List Way}{num div:Int}{B W:Nat→Nat}:Inv ws num div 1 0 ⟨fun _=>0,B,none,fun _=>0,W⟩:=by
 refine ⟨fun v h=>absurd (show 1 ≤ 0 from h) (by decide),fun v=>Nat.zero_le _,fun v h=>absurd (show 2 ≤ 0 from h) (by decide),fun w _ h=>absurd (show 0 + 2 ≤ 1 from h) (by decide),fun j w _ h=>absurd h (Nat.not_lt_zero _),fun c hc hy=>?_,fun _ v=>Nat.le_refl _,fun e h=>nomatch h⟩
 cases c with
 | nil=>exact hy.elim
 | cons v c=>exact absurd (show 1 ≤ 0 from hc v (.head _)) (by decide)
theorem sK {ws:List Way}{num div:Int}{t:Nat}{st:St} (I:Inv ws num div t ws.length st):Inv ws num div (t + 1) 0 { st with last:=none }:=by
 refine ⟨I.A,fun v=>Nat.le_succ_of_le (I.le v),I.ch,fun w hw h=>?_,fun j w _ h=>absurd h (Nat.not_lt_zero _),I.D,fun _ v=>Nat.succ_le_succ (I.le v),fun e h=>nomatch h⟩
 obtain ⟨j,hj,rfl⟩:=List.getElem_of_mem hw
 have h:st.T (ws[j]).1 + 2 ≤ t + 1:=h
 exact I.s2 j _ (List.getElem?_eq_getElem hj) hj (by lia)
theorem s5 {ws:List Way}{num div:Int}{t:Nat}{st:St} (I:Inv ws num div t ws.length st) (h:st.last=none):∀ w ∈ ws,dr num div st.S w:=fun w hw=>by
 obtain ⟨j,hj,rfl⟩:=List.getElem_of_mem hw
 exact I.s2 j _ (List.getElem?_eq_getElem hj) hj (I.lN h _)
noncomputable def iter (B:Nat→Nat):Nat→Nat→Nat
 | 0,v=>v
 | n + 1,v=>B (iter B n v)
theorem bz {B:Nat→Nat}{v:Nat} (a:Nat):∀ b,iter B (a + b) v=iter B b (iter B a v)
 | 0=>rfl
 | b + 1=>by show B (iter B (a + b) v)=B (iter B b (iter B a v)); rw [bz a b]
theorem cV:∀ (m:Nat) (l:List Nat),l.Nodup→(∀ x ∈ l,x < m)→l.length ≤ m
 | 0,[],_,_=>Nat.le_refl _
 | 0,x :: _,_,h=>absurd (h x (.head _)) (Nat.not_lt_zero _)
 | m + 1,l,nd,h=>by
  by_cases hm:m ∈ l
  ·have h1:=cV m (l.erase m) (nd.erase m) fun x hx=>by
    have h2:=(nd.mem_erase_iff.mp hx)
    have:=h x h2.2
    have:=h2.1
    lia
   rw [List.length_erase_of_mem hm] at h1
   lia
  ·have:=cV m l nd fun x hx=>by
    have h1:=h x hx
    have:x ≠ m:=fun q=>hm (q ▸ hx)
    lia
   lia
theorem uk {m:Nat}{f:Nat→Nat} (h:∀ j,j ≤ m→f j < m):∃ i j,i < j ∧ j ≤ m ∧ f i=f j:=by
 apply Classical.byContradiction
 intro hn
 have nd:((List.range (m + 1)).map f).Nodup:=by
  rw [List.Nodup,List.pairwise_iff_getElem]
  intro i j hi hj hij e
  simp only [List.length_map,List.length_range] at hi hj
  simp only [List.getElem_map,List.getElem_range] at e
  exact hn ⟨i,j,hij,by lia,e⟩
 have:=cV m _ nd fun x hx=>by
  obtain ⟨j,hj,rfl⟩:=List.mem_map.mp hx
  exact h j (by have:=List.mem_range.mp hj; lia)
 rw [List.length_map,List.length_range] at this
 lia
theorem zM {P:Nat→Prop} (h:∃ n,P n):∃ n,P n ∧ ∀ k,k < n→¬ P k:=by
 apply Classical.byContradiction
 intro hn
 obtain ⟨n,hp⟩:=h
 have:∀ n,¬ P n:=fun n=>Nat.strongRecOn n fun n ih hp=>hn ⟨n,hp,ih⟩
 exact this n hp
theorem ud {B:Nat→Nat}{e i p:Nat} (e1:iter B i e=iter B (i + p) e) {n:Nat} (hn:i ≤ n):iter B (n + p) e=iter B n e:=by
 obtain ⟨k,rfl⟩:=Nat.exists_eq_add_of_le hn
 rw [Nat.add_right_comm,bz,← e1,← bz]
theorem xF {B T:Nat→Nat}{e i p m:Nat} (e1:iter B i e=iter B (i + p) e) (hp:1 ≤ p) (hj:i + p ≤ m) (hT:∀ j,j ≤ m→1 ≤ T (iter B j e)) (k:Nat):1 ≤ T (iter B k e):=by
 induction k using Nat.strongRecOn with
 | _ k ih =>
  by_cases hk:k ≤ m
  ·exact hT k hk
  ·have h1:p ≤ k ∧ i ≤ k - p ∧ k - p < k:=by clear e1 hT ih; lia
   have:=ud e1 h1.2.1
   rw [Nat.sub_add_cancel h1.1] at this
   rw [this]
   exact ih _ h1.2.2
theorem lg {ws:List Way}{num div:Int}{m:Nat}{st:St}{e:Nat} (hm:∀ w ∈ ws,w.2.1 < m) (I:Inv ws num div (m + 1) ws.length st) (hl:st.last=some e) :
  ∃ q,1 ≤ q ∧ q ≤ m ∧ iter st.B q (iter st.B m e)=iter st.B m e ∧ (∀ k,1 ≤ k→k < q→iter st.B k (iter st.B m e) ≠ iter st.B m e) ∧ ∀ k,1 ≤ st.T (iter st.B k e):=by
 have hT:∀ j,j ≤ m→m + 1 ≤ st.T (iter st.B j e) + j:=by
  intro j
  induction j with
  | zero=>intro _; show m + 1 ≤ st.T e + 0; rw [I.lS e hl]; exact Nat.le_refl _
  | succ j ih =>
   intro hj
   have h1:=ih (Nat.le_of_lt hj)
   have h2:=I.ch _ (Nat.le_of_add_le_add_right (b:=j) (Nat.le_trans (by rw [Nat.add_comm 2]; exact Nat.succ_le_succ hj) h1))
   show m + 1 ≤ st.T (st.B (iter st.B j e)) + (j + 1)
   rw [Nat.add_comm j 1,← Nat.add_assoc]
   exact Nat.le_trans h1 (Nat.add_le_add_right h2 _)
 have hT1:∀ j,j ≤ m→1 ≤ st.T (iter st.B j e):=fun j hj=>Nat.le_of_add_le_add_right (b:=j) (Nat.le_trans (by rw [Nat.add_comm]; exact Nat.succ_le_succ hj) (hT j hj))
 obtain ⟨i,j,hij,hj,e1⟩:=uk (f:=fun j=>iter st.B j e) fun j hj=>hm _ (I.A _ (hT1 j hj)).1
 obtain ⟨p,rfl⟩:=Nat.exists_eq_add_of_lt hij
 have e1:iter st.B i e=iter st.B (i + (p + 1)) e:=e1
 have p0:iter st.B (p + 1) (iter st.B m e)=iter st.B m e:=by rw [← bz]; exact ud e1 (Nat.le_trans (Nat.le_of_lt hij) hj)
 obtain ⟨q,⟨q1,q2⟩,q3⟩:=zM (P:=fun q=>1 ≤ q ∧ iter st.B q (iter st.B m e)=iter st.B m e) ⟨p + 1,Nat.succ_pos _,p0⟩
 refine ⟨q,q1,Nat.le_of_not_lt fun hn=>q3 (p + 1) (Nat.lt_of_le_of_lt (Nat.le_trans (Nat.le_add_left _ i) hj) hn) ⟨Nat.succ_pos _,p0⟩,q2,fun k k1 k2 q=>q3 k k2 ⟨k1,q⟩,xF e1 (Nat.succ_pos _) hj hT1⟩
noncomputable def backs (B:Nat→Nat) (u:Nat) (q:Nat):List Nat:=(List.range q).map fun k=>iter B k u
theorem aV {B:Nat→Nat}{u q:Nat}:(backs B u q).length=q:=by unfold backs; rw [List.length_map,List.length_range]
theorem eO {B:Nat→Nat}{u q k:Nat} (h:k < q):(backs B u q)[k]?=some (iter B k u):=by unfold backs; rw [List.getElem?_map,List.getElem?_range h]; rfl
theorem fw {B:Nat→Nat}{u q:Nat}:backs B u (q + 1)=backs B u q ++ [iter B q u]:=by unfold backs; rw [List.range_succ,List.map_append]; rfl
theorem o8 {B:Nat→Nat}{u q:Nat} (hq:1 ≤ q) (h:iter B q u=u):Cyc B (backs B u q):=by
 obtain ⟨n,rfl⟩:∃ n,q=n + 1:=⟨q - 1,by lia⟩
 have e1:backs B u (n + 1)=u :: (List.range n).map fun k=>iter B (k + 1) u:=by
  unfold backs; rw [List.range_succ_eq_map,List.map_cons,List.map_map]; rfl
 rw [e1]
 show (u :: (List.range n).map fun k=>iter B (k + 1) u).map B=((List.range n).map fun k=>iter B (k + 1) u) ++ [u]
 rw [← e1]
 unfold backs
 rw [List.map_map,List.range_succ,List.map_append]
 refine congr (congrArg _ ?_) ?_
 ·rfl
 ·show [B (iter B n u)]=[u]
  exact congrArg (fun x=>[x]) h
theorem ln {B:Nat→Nat}{u q:Nat} (h:iter B q u=u) (hk:∀ k,1 ≤ k→k < q→iter B k u ≠ u):(backs B u q).Nodup:=by
 unfold backs
 rw [List.Nodup,List.pairwise_iff_getElem]
 intro i j hi hj hij e
 simp only [List.length_map,List.length_range] at hi hj
 simp only [List.getElem_map,List.getElem_range] at e
 -- go on from j to q: from i the same number of steps
 have a1:iter B (q - j) (iter B j u)=u:=by rw [← bz,show j + (q - j)=q by lia]; exact h
 rw [← e,← bz] at a1
 exact hk (i + (q - j)) (by lia) (by lia) a1
end Mine
namespace Mine
set_option backward.match.sparseCases false
open PySem
noncomputable def xcs:List Nat:=[37,49,61,73,85,97]
noncomputable def xc (k:Nat):Nat:=xcs.getD k 0
theorem cps {A:Prop} (h:∀ G:Prop,(A→G)→G):A:=h A id
section
variable {call:Nat→List V→Sto→RE}{wf:Nat}{fr fr1 fr2 fr':Fra} {σ σ1 σ2 σ3 σ4 σ':Sto}{a b c t:E}{es:List E}{v w x y z:V}{vs:List V}{i:Nat}{p q:Bool}
theorem dD:evE call .none fr σ=.ok .none σ:=rfl
theorem fQ:evE call (.bool p) fr σ=.ok (.bool p) σ:=rfl
theorem ak {n:Int}:evE call (.int n) fr σ=.ok (.int n) σ:=rfl
theorem tn {s:Str}:evE call (.str s) fr σ=.ok (.str s) σ:=rfl
theorem zo {m n:Nat}:evE call (.pow m n) fr σ=.ok (.int ((m:Int) ^ n)) σ:=rfl
theorem ac (h:fr[i]?=some (some v)):evE call (.loc i) fr σ=.ok v σ:=by
 show (match fr[i]? with | some (some v)=>RE.ok v σ | _=>.bad)=_; rw [h]
theorem qR {n:Int} (h:evE call a fr σ=.ok (.int n) σ1):evE call (.neg a) fr σ=.ok (.int (-n)) σ1:=by
 show (evE call a fr σ).bind _=_; rw [h]; rfl
theorem wO (h:evE call a fr σ=.ok (.bool p) σ1):evE call (.not a) fr σ=.ok (.bool (!p)) σ1:=by
 show (evE call a fr σ).bind _=_; rw [h]; rfl
theorem rz (h:evE call a fr σ=.ok (.bool false) σ1):evE call (.not a) fr σ=.ok (.bool true) σ1:=wO h
theorem fM (h:evE call a fr σ=.ok (.bool true) σ1):evE call (.not a) fr σ=.ok (.bool false) σ1:=wO h
theorem fy {r:RE} (h:evE call a fr σ=.ok (.bool true) σ1) (h2:evE call b fr σ1=r):evE call (.and a b) fr σ=r:=by
 show (evE call a fr σ).bind _=_; rw [h]; exact h2
theorem wM (h:evE call a fr σ=.ok (.bool false) σ1):evE call (.and a b) fr σ=.ok (.bool false) σ1:=by
 show (evE call a fr σ).bind _=_; rw [h]; rfl
theorem iu {r:RE} (h:evE call a fr σ=.ok (.bool false) σ1) (h2:evE call b fr σ1=r):evE call (.or a b) fr σ=r:=by
 show (evE call a fr σ).bind _=_; rw [h]; exact h2
theorem um (h:evE call a fr σ=.ok (.bool true) σ1):evE call (.or a b) fr σ=.ok (.bool true) σ1:=by
 show (evE call a fr σ).bind _=_; rw [h]; rfl
theorem tc (h:evE call a fr σ=.ok (.bool p) σ) (h2:p=true→evE call b fr σ=.ok (.bool q) σ):evE call (.and a b) fr σ=.ok (.bool (p && q)) σ:=by
 cases p with
 | false=>exact wM h
 | true=>exact fy h (h2 rfl)
theorem AI (h:evE call a fr σ=.ok (.bool p) σ) (h2:p=false→evE call b fr σ=.ok (.bool q) σ):evE call (.or a b) fr σ=.ok (.bool (p || q)) σ:=by
 cases p with
 | true=>exact um h
 | false=>exact iu h (h2 rfl)
theorem ax {op:Operator}{r:RE} (h1:evE call a fr σ=.ok x σ1) (h2:evE call b fr σ1=.ok y σ2) (h3:oA op x y σ2=r):evE call (.bin op a b) fr σ=r:=by
 show (evE call a fr σ).bind _=_; rw [h1]; show (evE call b fr σ1).bind _=_; rw [h2]; exact h3
theorem aH {op:CmpOp} (h1:evE call a fr σ=.ok x σ1) (h2:evE call b fr σ1=.ok y σ2) (h3:gP op x y σ2=some p):evE call (.cmp op a b) fr σ=.ok (.bool p) σ2:=by
 show (evE call a fr σ).bind _=_; rw [h1]; show (evE call b fr σ1).bind _=_; rw [h2]; show dY σ2 (gP op x y σ2)=_; rw [h3]; rfl
theorem uY {o1 o2:CmpOp} (h1:evE call a fr σ=.ok x σ) (h2:evE call b fr σ=.ok y σ) (h3:gP o1 x y σ=some p) (h4:p=true→evE call c fr σ=.ok z σ) (h5:p=true→gP o2 y z σ=some q):evE call (.cmp2 o1 o2 a b c) fr σ=.ok (.bool (p && q)) σ:=by
 show (evE call a fr σ).bind _=_; rw [h1]; show (evE call b fr σ).bind _=_; rw [h2]
 show (match gP o1 x y σ with | some true=>(evE call c fr σ).bind fun z σ=>dY σ (gP o2 y z σ) | some false=>.ok (.bool false) σ | none=>.bad)=_
 rw [h3]
 cases p with
 | false=>rfl
 | true=>show (evE call c fr σ).bind _=_; rw [h4 rfl]; show dY σ (gP o2 y z σ)=_; rw [h5 rfl]; rfl
theorem aK (h1:evE call a fr σ=.ok x σ1) (h2:evE call b fr σ1=.ok y σ2) (h3:lf x y σ2=some v):evE call (.sub a b) fr σ=.ok v σ2:=by
 show (evE call a fr σ).bind _=_; rw [h1]; show (evE call b fr σ1).bind _=_; rw [h2]; show cx σ2 (lf x y σ2)=_; rw [h3]; rfl
theorem rS {l k:Nat}{xs:List V}{r:RE} (h1:evE call a fr σ=.ok (.ref l) σ1) (h2:evE call b fr σ1=.ok (.int k) σ2) (h3:getL σ2 l=some xs) (h4:cQ (xs.drop k) σ2=r):evE call (.slo a b) fr σ=r:=by
 show (evE call a fr σ).bind _=_; rw [h1]; show (evE call b fr σ1).bind _=_; rw [h2]
 show (match getL σ2 l with | some xs=>if (0:Int) ≤ (k:Int) then cQ (xs.drop (k:Int).toNat) σ2 else .bad | none=>.bad)=_
 rw [h3]; show (if (0:Int) ≤ (k:Int) then cQ (xs.drop (k:Int).toNat) σ2 else .bad)=_
 rw [if_pos (Int.natCast_nonneg k)]; exact h4
theorem tJ {l k:Nat}{xs:List V}{r:RE} (h1:evE call a fr σ=.ok (.ref l) σ1) (h2:evE call b fr σ1=.ok (.int k) σ2) (h3:getL σ2 l=some xs) (h4:cQ (xs.take k) σ2=r):evE call (.shi a b) fr σ=r:=by
 show (evE call a fr σ).bind _=_; rw [h1]; show (evE call b fr σ1).bind _=_; rw [h2]
 show (match getL σ2 l with | some xs=>if (0:Int) ≤ (k:Int) then cQ (xs.take (k:Int).toNat) σ2 else .bad | none=>.bad)=_
 rw [h3]; show (if (0:Int) ≤ (k:Int) then cQ (xs.take (k:Int).toNat) σ2 else .bad)=_
 rw [if_pos (Int.natCast_nonneg k)]; exact h4
theorem cO {k:Nat} (h1:evE call a fr σ=.ok x σ1) (h2:jb x k σ1=some v):evE call (.attr a k) fr σ=.ok v σ1:=by
 show (evE call a fr σ).bind _=_; rw [h1]; show cx σ1 (jb x k σ1)=_; rw [h2]; rfl
theorem bc {r:RE} (h:cE call es fr σ=.ok vs σ1) (h2:cQ vs σ1=r):evE call (.list es) fr σ=r:=by
 show (cE call es fr σ).bind _=_; rw [h]; exact h2
theorem iz (h:cE call es fr σ=.ok vs σ1) (h2:vs.length ≤ 1000):evE call (.tup es) fr σ=.ok (.tup vs) σ1:=by
 show (cE call es fr σ).bind _=_; rw [h]; exact if_pos h2
theorem v7:evE call .dict0 fr σ=.ok (.ref σ.length) (σ ++ [.dT []]):=rfl
theorem wE {k:Int} (h1:evE call a fr σ=.ok (.int k) σ1) (h2:evE call b fr σ1=.ok v σ2):evE call (.dict1 a b) fr σ=.ok (.ref σ2.length) (σ2 ++ [.dI [(k,v)]]):=by
 show (evE call a fr σ).bind _=_; rw [h1]; show (evE call b fr σ1).bind _=_; rw [h2]; rfl
theorem aE {k:Nat}{r:RE} (h:cE call es fr σ=.ok vs σ1) (h2:call k vs σ1=r):evE call (.call k es) fr σ=r:=by
 show (cE call es fr σ).bind _=_; rw [h]; exact h2
theorem AF {k:Nat} (h:cE call es fr σ=.ok vs σ1) (h2:call k (.ref (σ1.length + 1) :: vs) (σ1 ++ [.att [],.inst σ1.length])=.ok .none σ2):evE call (.mk k es) fr σ=.ok (.ref (σ1.length + 1)) σ2:=by
 show (cE call es fr σ).bind _=_; rw [h]
 show (match call k (.ref (σ1.length + 1) :: vs) (σ1 ++ [.att [],.inst σ1.length]) with | .ok .none σ'=>RE.ok (.ref (σ1.length + 1)) σ' | .ok _ _=>.bad | .ex x σ'=>.ex x σ' | .bad=>.bad)=_
 rw [h2]
theorem cm {m:MN}{l:Nat}{xs xs2:List V}{r:RE} (h:evE call a fr σ=.ok (.ref l) σ1) (hl:getL σ1 l=some xs) (h2:cE call es fr σ1=.ok vs σ2) (hl2:getL σ2 l=some xs2) (h3:dA m l xs2 vs σ2=r):evE call (.meth a m es) fr σ=r:=by
 show (evE call a fr σ).bind _=_; rw [h]
 show (match getL σ1 l with | some _=>(cE call es fr σ1).bind _ | none=>.bad)=_
 rw [hl]; show (cE call es fr σ1).bind _=_; rw [h2]
 show (match getL σ2 l with | some xs=>dA m l xs vs σ2 | none=>.bad)=_
 rw [hl2]; exact h3
theorem bB {k l d:Nat}{ents:List (Nat × V)}{r:RE} (h:evE call a fr σ=.ok (.ref l) σ1) (h1:σ1[l]?=some (.inst d)) (h2:σ1[d]?=some (.att ents)) (h3:cE call es fr σ1=.ok vs σ2) (h4:call k (.ref l :: vs) σ2=r):evE call (.umeth a k es) fr σ=r:=by
 show (evE call a fr σ).bind _=_; rw [h]
 show (match σ1[l]? with | some o=>(match o with | .inst d=>(match σ1[d]? with | some o=>(match o with | .att _=>(cE call es fr σ1).bind _ | _=>.bad) | none=>.bad) | _=>.bad) | none=>.bad)=_
 rw [h1]; show (match σ1[d]? with | some o=>(match o with | .att _=>(cE call es fr σ1).bind _ | _=>.bad) | none=>.bad)=_
 rw [h2]; show (cE call es fr σ1).bind _=_; rw [h3]; exact h4
theorem aR {n:BN}{r:RE} (h:cE call es fr σ=.ok vs σ1) (h2:gQ n vs σ1=r):evE call (.blt n es) fr σ=r:=by
 show (cE call es fr σ).bind _=_; rw [h]; exact h2
theorem xY {l:Nat}{is:List Int} (h:evE call a fr σ=.ok (.ref l) σ1) (h2:(getL σ1 l).bind aB=some is) (h3:v=match gV is with | some i=>V.int i | none=>V.none):evE call (.maxd a) fr σ=.ok v σ1:=by
 show (evE call a fr σ).bind _=_; rw [h]
 show (match (getL σ1 l).bind aB with | some []=>RE.ok .none σ1 | some is=>cx σ1 ((gV is).map V.int) | none=>.bad)=_
 rw [h2,h3]
 cases is <;> rfl
theorem gF {ty:Ty} (h:evE call a fr σ=.ok x σ1) (h2:uL ty x σ1=some p):evE call (.isi a ty) fr σ=.ok (.bool p) σ1:=by
 show (evE call a fr σ).bind _=_; rw [h]; show dY σ1 (uL ty x σ1)=_; rw [h2]; rfl
theorem Ad {key:KX}{r:RE} (h:evE call a fr σ=.ok x σ1) (h2:yZ key fr x σ1=r):evE call (.srt a key) fr σ=r:=by
 show (evE call a fr σ).bind _=_; rw [h]; exact h2
theorem ae:cE call [] fr σ=.ok [] σ:=rfl
theorem aa (h:evE call a fr σ=.ok v σ1) (h2:cE call es fr σ1=.ok vs σ2):cE call (a :: es) fr σ=.ok (v :: vs) σ2:=by
 show (evE call a fr σ).binds _=_; rw [h]; show (cE call es fr σ1).binds _=_; rw [h2]; rfl
variable {ss bs os:List S}{r:RS}
theorem aS:evSs call wf [] fr σ=.ok .next fr σ:=rfl
theorem aT {s:S} (h:evS call wf s fr σ=.ok .next fr1 σ1) (h2:evSs call wf ss fr1 σ1=r):evSs call wf (s :: ss) fr σ=r:=by
 show (match evS call wf s fr σ with | .ok .next fr σ=>evSs call wf ss fr σ | r=>r)=_; rw [h]; exact h2
theorem gI {s:S} (h:evS call wf s fr σ=.ok (.ret v) fr1 σ1):evSs call wf (s :: ss) fr σ=.ok (.ret v) fr1 σ1:=by
 show (match evS call wf s fr σ with | .ok .next fr σ=>evSs call wf ss fr σ | r=>r)=_; rw [h]
theorem be (h:evE call a fr σ=.ok v σ1) (h2:evSs call wf ss fr σ1=r):evSs call wf (.expr a :: ss) fr σ=r :=
 aT (by show (evE call a fr σ).bindX _ fr _=_; rw [h]; rfl) h2
theorem am (h:evE call a fr σ=.ok v σ1) (hi:i < fr.length) (h2:evSs call wf ss (fr.set i (some v)) σ1=r):evSs call wf (.asg i a :: ss) fr σ=r :=
 aT (by show (evE call a fr σ).bindX _ fr _=_; rw [h]; exact if_pos hi) h2
theorem pv {is:List Nat} (h:evE call a fr σ=.ok v σ1) (hb:bw is false v fr=some fr1) (h2:evSs call wf ss fr1 σ1=r):evSs call wf (.asgT is a :: ss) fr σ=r :=
 aT (dc (by show (evE call a fr σ).bindS fr _=_; rw [h]; show (match bw is false v fr with | some fr=>RS.ok .next fr σ1 | none=>.bad)=_; rw [hb])) h2
theorem qq {k:Nat} (h:evE call a fr σ=.ok v σ1) (h1:evE call b fr σ1=.ok w σ2) (hs:dq w k v σ2=some σ3) (h2:evSs call wf ss fr σ3=r):evSs call wf (.asgA b k a :: ss) fr σ=r :=
 aT (dc (by
  show (evE call a fr σ).bindS fr _=_; rw [h]; show (evE call b fr σ1).bindS fr _=_; rw [h1]
  show (match dq w k v σ2 with | some σ=>RS.ok .next fr σ | none=>.bad)=_; rw [hs])) h2
theorem jx (h:evE call a fr σ=.ok v σ1) (h1:evE call b fr σ1=.ok w σ2) (h0:evE call c fr σ2=.ok x σ3) (hs:dz w x v σ3=some σ4) (h2:evSs call wf ss fr σ4=r):evSs call wf (.asgI b c a :: ss) fr σ=r :=
 aT (dc (by
  show (evE call a fr σ).bindS fr _=_; rw [h]; show (evE call b fr σ1).bindS fr _=_; rw [h1]; show (evE call c fr σ2).bindS fr _=_; rw [h0]
  show (match dz w x v σ3 with | some σ=>RS.ok .next fr σ | none=>.bad)=_; rw [hs])) h2
theorem aI (h:evE call a fr σ=.ok v σ1):evSs call wf (.ret a :: ss) fr σ=.ok (.ret v) fr σ1 :=
 gI (by show (evE call a fr σ).bindX _ fr _=_; rw [h]; rfl)
theorem w9 (h:evE call t fr σ=.ok (.bool true) σ1):evS call wf (.ifS t bs os) fr σ=evSs call wf bs fr σ1:=by
 show (evE call t fr σ).bindS fr _=_; rw [h]; rfl
theorem AK (h:evE call t fr σ=.ok (.bool false) σ1):evS call wf (.ifS t bs os) fr σ=evSs call wf os fr σ1:=by
 show (evE call t fr σ).bindS fr _=_; rw [h]; rfl
theorem d3 (h:evE call t fr σ=.ok (.bool true) σ1) (h1:evSs call wf bs fr σ1=.ok .next fr1 σ2) (h2:evSs call wf ss fr1 σ2=r):evSs call wf (.ifS t bs os :: ss) fr σ=r:=aT ((w9 h).trans h1) h2
theorem oP (h:evE call t fr σ=.ok (.bool false) σ1) (h1:evSs call wf os fr σ1=.ok .next fr1 σ2) (h2:evSs call wf ss fr1 σ2=r):evSs call wf (.ifS t bs os :: ss) fr σ=r:=aT ((AK h).trans h1) h2
theorem aM (h:evE call t fr σ=.ok (.bool false) σ1) (h2:evSs call wf ss fr σ1=r):evSs call wf (.ifS t bs [] :: ss) fr σ=r:=oP h aS h2
theorem cp (h:evE call t fr σ=.ok (.bool true) σ1) (h1:evSs call wf bs fr σ1=.ok (.ret v) fr1 σ2):evSs call wf (.ifS t bs os :: ss) fr σ=.ok (.ret v) fr1 σ2:=gI ((w9 h).trans h1)
end
section
variable {P:Nat→Option Fn}{wf n:Nat}{fr':Fra} {σ σ':Sto}{v:V}
theorem bj {k:Nat}{fn:Fn}{vs:List V} (hP:P k=some fn) (hl:vs.length=fn.ps.length) (h:evSs (evFn P wf n) wf fn.body (aW fn vs) σ=.ok (.ret v) fr' σ'):evFn P wf (n + 1) k vs σ=.ok v σ':=(gz hP hl).trans (congrArg sR h)
theorem uh {k:Nat}{fn:Fn}{vs:List V} (hP:P k=some fn) (hl:vs.length=fn.ps.length) (h:evSs (evFn P wf n) wf fn.body (aW fn vs) σ=.ok .next fr' σ'):evFn P wf (n + 1) k vs σ=.ok .none σ':=(gz hP hl).trans (congrArg sR h)
end
end Mine
namespace Mine
set_option backward.match.sparseCases false
open PySem
theorem ap {σ τ:Sto}{l:Nat}{o:AO} (h:σ[l]?=some o):(σ ++ τ)[l]?=some o:=by
 rw [List.getElem?_append_left (List.getElem?_eq_some_iff.mp h).1]; exact h
theorem aj {σ τ:Sto}{o:AO}:(σ ++ o :: τ)[σ.length]?=some o:=by rw [List.getElem?_append_right (Nat.le_refl _),Nat.sub_self]; rfl
theorem af {σ:Sto}{l:Nat}{xs:List V} (h:σ[l]?=some (.lst xs)):getL σ l=some xs:=by unfold getL; rw [h]
theorem ai {xs:List V} {σ:Sto} (h:xs.length ≤ 16777216):cQ xs σ=.ok (.ref σ.length) (σ ++ [.lst xs]):=if_pos h
theorem jI {fr:Fra}{v:Option V}{i j:Nat} (h:j ≠ i):(fr.set i v)[j]?=fr[j]?:=List.getElem?_set_ne (Ne.symm h)
theorem kR:∀ (l:List (Nat × V)) (fr:Fra),(l.foldl (fun f p=>f.set p.1 (some p.2)) fr).length=fr.length
 | [],_=>rfl
 | p :: l,fr=>by rw [List.foldl_cons,kR l,List.length_set]
theorem kL:∀ (l:List (Nat × V)) (fr:Fra) (j:Nat),j ∉ l.map (·.1)→(l.foldl (fun f p=>f.set p.1 (some p.2)) fr)[j]?=fr[j]?
 | [],_,_,_=>rfl
 | p :: l,fr,j,h=>by
  rw [List.map_cons,List.mem_cons,not_or] at h
  rw [List.foldl_cons,kL l _ j h.2,jI h.1]
theorem fA:∀ (l:List (Nat × V)) (f1 f2:Fra),f1.length=f2.length→(∀ j,j ∉ l.map (·.1)→f1[j]?=f2[j]?)→l.foldl (fun f p=>f.set p.1 (some p.2)) f1=l.foldl (fun f p=>f.set p.1 (some p.2)) f2
 | [],f1,f2,_,h=>List.ext_getElem? fun j=>h j (nomatch ·)
 | p :: l,f1,f2,hl,h=>by
  rw [List.foldl_cons,List.foldl_cons]
  refine fA l _ _ (by rw [List.length_set,List.length_set]; exact hl) fun j hj=>?_
  by_cases hp:j=p.1
  ·subst hp
   rw [List.getElem?_set,List.getElem?_set,if_pos rfl,if_pos rfl,hl]
  ·rw [jI hp,jI hp]
   exact h j (by rw [List.map_cons,List.mem_cons,not_or]; exact ⟨hp,hj⟩)
theorem lY {tg:List Nat}{one:Bool}{v:V}{fr fr1:Fra} (h:bw tg one v fr=some fr1):fr1.length=fr.length ∧ ∀ j,j ∉ tg→fr1[j]?=fr[j]?:=by
 cases one with
 | true =>
  rcases tg with _ | ⟨i,_ | ⟨j,tg⟩⟩
  ·exact nomatch (show none=some fr1 from h)
  ·by_cases hi:i < fr.length
   ·rw [← Option.some.inj ((if_pos hi).symm.trans (show (if i < fr.length then some (fr.set i (some v)) else none)=some fr1 from h))]
    exact ⟨List.length_set,fun j hj=>jI fun q=>hj (by rw [q]; exact .head _)⟩
   ·exact nomatch (if_neg hi).symm.trans (show (if i < fr.length then some (fr.set i (some v)) else none)=some fr1 from h)
  ·exact nomatch (show none=some fr1 from h)
 | false =>
  cases v with
  | tup vs =>
   by_cases hc:vs.length=tg.length ∧ tg.all (· < fr.length)
   ·rw [← Option.some.inj ((if_pos hc).symm.trans h)]
    exact ⟨kR _ _,fun j hj=>kL _ _ j (by rw [List.map_fst_zip (Nat.le_of_eq hc.1.symm)]; exact hj)⟩
   ·exact nomatch (if_neg hc).symm.trans h
  | _=>exact nomatch (show none=some fr1 from h)
theorem nG {tg:List Nat}{one:Bool}{v:V}{fr fr1:Fra} (h:fr1.length=fr.length ∧ ∀ j,j ∉ tg→fr1[j]?=fr[j]?):bw tg one v fr1=bw tg one v fr:=by
 cases one with
 | true =>
  rcases tg with _ | ⟨i,_ | ⟨j,tg⟩⟩
  ·rfl
  ·show (if i < fr1.length then some (fr1.set i (some v)) else none)=if i < fr.length then some (fr.set i (some v)) else none
   rw [h.1,show fr1.set i (some v)=fr.set i (some v) from fA [(i,v)] fr1 fr h.1 h.2]
  ·rfl
 | false =>
  cases v with
  | tup vs =>
   show (if vs.length=tg.length ∧ tg.all (· < fr1.length) then _ else none)=if vs.length=tg.length ∧ tg.all (· < fr.length) then _ else none
   rw [h.1]
   by_cases hc:vs.length=tg.length ∧ tg.all (· < fr.length)
   ·rw [if_pos hc,if_pos hc,fA _ _ _ h.1 (by rw [List.map_fst_zip (Nat.le_of_eq hc.1.symm)]; exact h.2)]
   ·rw [if_neg hc,if_neg hc]
  | _=>rfl
theorem lL {tg:List Nat}{one:Bool}{v v':V}{fr fr1:Fra} (h:bw tg one v fr=some fr1):bw tg one v' fr1=bw tg one v' fr:=nG (lY h)
section
variable {call:Nat→List V→Sto→RE}{wf:Nat}{fr fr1:Fra} {σ σ1:Sto}{tg:List Nat}{one:Bool}{cond elt:Fra→Sto→RE} {α:Type}
theorem ot {v y:V}{p:Bool}{acc:List V} (h1:bw tg one v fr=some fr1) (h2:cond fr1 σ=.ok (.bool p) σ) (h3:p=true→elt fr1 σ=.ok y σ):l5 tg one cond elt v fr σ acc=some (fr1,(if p then acc ++ [y] else acc),σ):=by
 unfold l5
 rw [h1]
 show (cond fr1 σ).opt _=_
 rw [h2]
 cases p with
 | false=>rfl
 | true=>show (elt fr1 σ).opt _=_; rw [h3 rfl]; rfl
inductive oZ (tg:List Nat) (one:Bool) (cond elt:Fra→Sto→RE) (fr:Fra) (σ:Sto) (v:V) (p:Bool) (y:V):Prop
 | mk (fr1:Fra) (h1:bw tg one v fr=some fr1) (h2:cond fr1 σ=.ok (.bool p) σ) (h3:p=true→elt fr1 σ=.ok y σ):oZ tg one cond elt fr σ v p y
theorem oG {p:α→Bool}{f:α→V}{a:α}{ws:List α}{acc:List V}:(if p a then acc ++ [f a] else acc) ++ (ws.filter p).map f=acc ++ ((a :: ws).filter p).map f:=by
 rw [List.filter_cons]
 cases p a with
 | true=>simp
 | false=>rfl
theorem oj {src:Src}{n i:Nat}{acc:List V} (h:a8 σ i src=some none):d6 tg one cond elt src (n + 1) i fr σ acc=.ok acc σ:=by
 show kE (a8 σ i src) _ _ _=_; rw [h]; rfl
theorem nS {src:Src}{n i:Nat}{v:V}{acc acc':List V} {σ':Sto} (h:a8 σ i src=some (some v)) (hf:l5 tg one cond elt v fr σ acc=some (fr1,acc',σ')):d6 tg one cond elt src (n + 1) i fr σ acc=d6 tg one cond elt src n (i + 1) fr1 σ' acc':=by
 show kE (a8 σ i src) _ _ _=_; rw [h]; show jY (l5 tg one cond elt v fr σ acc) _ _=_; rw [hf]; rfl
theorem xE {src:Src}{g:α→V}{xs:List α}{i:Nat} (hs:a8 σ i src=some (xs[i]?.map g)) (hd:xs.drop i=[]):a8 σ i src=some none:=by rw [hs,List.getElem?_eq_none_iff.mpr (List.drop_eq_nil_iff.mp hd)]; rfl
theorem wD {src:Src}{g:α→V}{xs ws:List α}{a:α}{i:Nat} (hs:a8 σ i src=some (xs[i]?.map g)) (hd:xs.drop i=a :: ws):a8 σ i src=some (some (g a)):=by
 have:=congrArg (fun l=>l[0]?) hd
 rw [List.getElem?_drop,Nat.add_zero] at this
 rw [hs,this]; rfl
theorem nM {src:Src}{xs:List α}{g:α→V}{p:α→Bool}{f:α→V}{fr0:Fra} (hs:∀ i,a8 σ i src=some (xs[i]?.map g)):∀ (ws:List α) (n i:Nat) (fr:Fra) (acc:List V),xs.drop i=ws→ws.length < n→(∀ v,bw tg one v fr=bw tg one v fr0) →
  (∀ a ∈ ws,oZ tg one cond elt fr0 σ (g a) (p a) (f a))→d6 tg one cond elt src n i fr σ acc=.ok (acc ++ (ws.filter p).map f) σ:=by
 intro ws
 induction ws with
 | nil =>
  intro n i fr acc hd hn _ _
  cases n with
  | zero=>exact absurd hn (Nat.not_lt_zero _)
  | succ n=>rw [oj (xE (hs i) hd)]; exact congrArg (fun l=>REs.ok l σ) (List.append_nil _).symm
 | cons a ws ih =>
  intro n i fr acc hd hn hfr h
  cases n with
  | zero=>exact absurd hn (Nat.not_lt_zero _)
  | succ n =>
   obtain ⟨fr1,h1,h2,h3⟩:=h a (.head _)
   rw [nS (wD (hs i) hd) (ot ((hfr _).trans h1) h2 h3),ih n (i + 1) fr1 _ (by rw [← List.drop_drop,hd]; rfl) (Nat.lt_of_succ_lt_succ hn) (fun v=>lL h1) fun b hb=>h b (.tail _ hb),oG]
variable {it el:E}{cs:List E}{frm:List (Option Nat)}{g:α→V}{p:α→Bool}{f:α→V}{ws:List α}{r:RE}
theorem oH {v:V}{src:Src} (hv:gK v=some src) (hk:nV σ1 src=some ws.length) (hs:∀ i,a8 σ1 i src=some (ws[i]?.map g)) (h:evE call it fr σ=.ok v σ1) (hp:∀ a ∈ ws,oZ tg one (dS (la call cs)) (evE call el) (dU fr frm) σ1 (g a) (p a) (f a)) (hn:cQ ((ws.filter p).map f) σ1=r) :
  evE call (.comp tg one it cs el frm) fr σ=r:=by
 show (evE call it fr σ).bind _=_; rw [h]
 show REs.bind (jY (gK v) _ _) _=_
 rw [hv]
 show REs.bind (jY (nV σ1 src) _ _) _=_
 rw [hk]
 show (d6 tg one (dS (la call cs)) (evE call el) src (ws.length + 1) 0 (dU fr frm) σ1 []).bind _=_
 rw [nM hs ws _ 0 _ [] rfl (Nat.lt_succ_self _) (fun _=>rfl) hp]
 exact hn
theorem pN {l:Nat}{ws:List α}{g:α→V} (h:getL σ l=some (ws.map g)):nV σ (.live l)=some ws.length:=by show (getL σ l).map _=_; rw [h]; exact congrArg some (List.length_map g)
theorem lM {l:Nat}{ws:List α}{g:α→V} (h:getL σ l=some (ws.map g)) (i:Nat):a8 σ i (.live l)=some (ws[i]?.map g):=by show (getL σ l).map _=_; rw [h]; exact congrArg some List.getElem?_map
theorem Ap {vs:List V}{ws:List α}{g:α→V} (h:vs=ws.map g):nV σ (.tup vs)=some ws.length:=by rw [h]; exact congrArg some (List.length_map g)
theorem xJ {vs:List V}{ws:List α}{g:α→V} (h:vs=ws.map g) (i:Nat):a8 σ i (.tup vs)=some (ws[i]?.map g):=by rw [h]; exact congrArg some List.getElem?_map
theorem wg {lo hi:Int}{ws:List α}{g:α→V} (h:iw lo hi=ws.map g):nV σ (.rng lo hi)=some ws.length:=by
 have:=congrArg List.length h
 rw [List.length_map] at this
 rw [← this]; unfold iw; rw [List.length_map,List.length_range]; rfl
theorem oY {lo hi:Int}{ws:List α}{g:α→V} (h:iw lo hi=ws.map g) (i:Nat):a8 σ i (.rng lo hi)=some (ws[i]?.map g):=by show some (iw lo hi)[i]?=_; rw [h]; exact congrArg some List.getElem?_map
theorem d4 {l:Nat} (h:evE call it fr σ=.ok (.ref l) σ1) (hl:getL σ1 l=some (ws.map g)) (hp:∀ a ∈ ws,oZ tg one (dS (la call cs)) (evE call el) (dU fr frm) σ1 (g a) (p a) (f a)) (hn:cQ ((ws.filter p).map f) σ1=r) :
  evE call (.comp tg one it cs el frm) fr σ=r:=oH rfl (pN hl) (lM hl) h hp hn
theorem pg {vs:List V} (h:evE call it fr σ=.ok (.tup vs) σ1) (hw:vs=ws.map g) (hp:∀ a ∈ ws,oZ tg one (dS (la call cs)) (evE call el) (dU fr frm) σ1 (g a) (p a) (f a)) (hn:cQ ((ws.filter p).map f) σ1=r) :
  evE call (.comp tg one it cs el frm) fr σ=r:=oH rfl (Ap hw) (xJ hw) h hp hn
theorem sP:dS (la call []) fr σ=.ok (.bool true) σ:=rfl
theorem kC {c:E}{q:Bool} (h:evE call c fr σ=.ok (.bool q) σ):dS (la call [c]) fr σ=.ok (.bool q) σ:=by
 show (evE call c fr σ).bind _=_; rw [h]
 cases q <;> rfl
end
section
variable {call:Nat→List V→Sto→RE}{wf:Nat}{fr:Fra} {σ σ1:Sto}{tg:List Nat}{one:Bool}{body:Fra→Sto→RS} {α:Type}{g:α→V}
inductive Nxt (r:RS) (I:Fra→Sto→Prop):Prop
 | mk (fr:Fra) (σ:Sto) (e:r=.ok .next fr σ) (i:I fr σ):Nxt r I
inductive Bck (r:RS) (Rt:V→Sto→Prop):Prop
 | mk (w:V) (fr:Fra) (σ:Sto) (e:r=.ok (.ret w) fr σ) (i:Rt w σ):Bck r Rt
inductive nP (tg:List Nat) (one:Bool) (body:Fra→Sto→RS) (v:V) (fr:Fra) (σ:Sto) (I:Fra→Sto→Prop) (Rt:V→Sto→Prop):Prop
 | mk (fr1:Fra) (h:bw tg one v fr=some fr1) (o:Nxt (body fr1 σ) I ∨ Bck (body fr1 σ) Rt):nP tg one body v fr σ I Rt
def mZ (r:RS) (I:Fra→Sto→Prop) (Rt:V→Sto→Prop):Prop:=Nxt r I ∨ Bck r Rt
theorem mP {src:Src}{ws:List α} (I:Nat→Fra→Sto→Prop) (Rt:V→Sto→Prop) (hI:∀ i fr σ,I i fr σ→a8 σ i src=some (ws[i]?.map g)) (step:∀ i a fr σ,ws[i]?=some a→I i fr σ→nP tg one body (g a) fr σ (I (i + 1)) Rt) :
  ∀ (n i:Nat) (fr:Fra) (σ:Sto),ws.length < i + n→i ≤ ws.length→I i fr σ→mZ (kS tg one body src n i fr σ) (I ws.length) Rt:=by
 intro n
 induction n with
 | zero=>exact fun i fr σ hn hi _=>absurd hn (Nat.not_lt.mpr hi)
 | succ n ih =>
  intro i fr σ hn hi h0
  show mZ (kE (a8 σ i src) _ _ _) _ _
  rw [hI i fr σ h0]
  cases ha:ws[i]? with
  | none =>
   have:=List.getElem?_eq_none_iff.mp ha
   rw [Nat.le_antisymm hi this] at h0
   exact .inl ⟨fr,σ,rfl,h0⟩
  | some a =>
   obtain ⟨fr1,h1,h2⟩:=step i a fr σ ha h0
   show mZ (jY (bw tg one (g a) fr) _ _) _ _
   rw [h1]
   show mZ (rV (body fr1 σ) _) _ _
   rcases h2 with ⟨fr2,σ2,h2,h3⟩ | ⟨w,fr2,σ2,h2,h3⟩
   ·rw [h2]; exact ih (i + 1) fr2 σ2 (by lia) (List.getElem?_eq_some_iff.mp ha).1 h3
   ·rw [h2]; exact .inr ⟨w,fr2,σ2,rfl,h3⟩
variable {it:E}{bs:List S}{ws:List α}
theorem ux {v:V}{src:Src}{k:Nat} (hv:gK v=some src) (hk:nV σ1 src=some k) (h:evE call it fr σ=.ok v σ1):evS call wf (.forS tg one (.e it) bs) fr σ=kS tg one (evSs call wf bs) src (k + 1) 0 fr σ1:=by
 show (evE call it fr σ).bindS fr _=_; rw [h]
 show jY (gK v) _ _=_
 rw [hv]
 show jY (nV σ1 src) _ _=_
 rw [hk]; rfl
theorem uo {v:V}{src:Src} (I:Nat→Fra→Sto→Prop) (Rt:V→Sto→Prop) (hv:gK v=some src) (hk:nV σ1 src=some ws.length) (hI:∀ i fr σ,I i fr σ→a8 σ i src=some (ws[i]?.map g)) (h:evE call it fr σ=.ok v σ1)
  (step:∀ i a fr σ,ws[i]?=some a→I i fr σ→nP tg one (evSs call wf bs) (g a) fr σ (I (i + 1)) Rt) (h0:I 0 fr σ1):mZ (evS call wf (.forS tg one (.e it) bs) fr σ) (I ws.length) Rt:=by
 rw [ux hv hk h]
 exact mP I Rt hI step _ 0 fr σ1 (by lia) (Nat.zero_le _) h0
theorem l8 {l:Nat} (I:Nat→Fra→Sto→Prop) (Rt:V→Sto→Prop) (h:evE call it fr σ=.ok (.ref l) σ1) (hI:∀ i fr σ,I i fr σ→getL σ l=some (ws.map g))
  (step:∀ i a fr σ,ws[i]?=some a→I i fr σ→nP tg one (evSs call wf bs) (g a) fr σ (I (i + 1)) Rt) (h0:I 0 fr σ1):mZ (evS call wf (.forS tg one (.e it) bs) fr σ) (I ws.length) Rt :=
 uo I Rt rfl (pN (hI 0 fr σ1 h0)) (fun i fr σ h=>lM (hI i fr σ h) i) h step h0
theorem kO {lo hi:Int} (I:Nat→Fra→Sto→Prop) (Rt:V→Sto→Prop) (h:evE call it fr σ=.ok (.rng lo hi) σ1) (hw:iw lo hi=ws.map g)
  (step:∀ i a fr σ,ws[i]?=some a→I i fr σ→nP tg one (evSs call wf bs) (g a) fr σ (I (i + 1)) Rt) (h0:I 0 fr σ1):mZ (evS call wf (.forS tg one (.e it) bs) fr σ) (I ws.length) Rt :=
 uo I Rt rfl (wg hw) (fun i _ _ _=>oY hw i) h step h0
theorem mZ.next {r:RS}{I:Fra→Sto→Prop} (h:mZ r I (fun _ _=>False)):Nxt r I:=h.elim id fun ⟨_,_,_,_,q⟩=>q.elim
inductive vg {β:Type} (r:RS) (F:β→Fra) (S:β→Sto) (J:β→Prop):Prop
 | mk (b:β) (e:r=.ok .next (F b) (S b)) (j:J b):vg r F S J
inductive fU {β:Type} (tg:List Nat) (one:Bool) (body:Fra→Sto→RS) (v:V) (fr:Fra) (σ:Sto) (F:β→Fra) (S:β→Sto) (J:β→Prop):Prop
 | mk (fr1:Fra) (h:bw tg one v fr=some fr1) (b:β) (e:body fr1 σ=.ok .next (F b) (S b)) (j:J b):fU tg one body v fr σ F S J
section
variable {β:Type}{F:Nat→β→Fra}{S:Nat→β→Sto}{J:Nat→β→Prop}
inductive InF (F:β→Fra) (S:β→Sto) (J:β→Prop):Fra→Sto→Prop
 | mk (b:β) (j:J b):InF F S J (F b) (S b)
theorem vg.of {r:RS}{F:β→Fra}{S:β→Sto}{J:β→Prop} (h:mZ r (InF F S J) (fun _ _=>False)):vg r F S J:=by
 obtain ⟨fr,σ,e,b,j⟩:=h.next
 exact ⟨b,e,j⟩
theorem fU.to {v:V}{fr:Fra} {σ:Sto}{F:β→Fra}{S:β→Sto}{J:β→Prop}{Rt:V→Sto→Prop} (h:fU tg one body v fr σ F S J):nP tg one body v fr σ (InF F S J) Rt:=by
 obtain ⟨fr1,h1,b,e,j⟩:=h
 exact ⟨fr1,h1,.inl ⟨_,_,e,⟨b,j⟩⟩⟩
theorem lG {lo hi:Int} (b0:β) (h:evE call it (F 0 b0) σ=.ok (.rng lo hi) (S 0 b0)) (hw:iw lo hi=ws.map g) (step:∀ i a b,ws[i]?=some a→J i b→fU tg one (evSs call wf bs) (g a) (F i b) (S i b) (F (i + 1)) (S (i + 1)) (J (i + 1))) (h0:J 0 b0) :
  vg (evS call wf (.forS tg one (.e it) bs) (F 0 b0) σ) (F ws.length) (S ws.length) (J ws.length) :=
 .of (kO (fun i=>InF (F i) (S i) (J i)) _ h hw (fun i a _ _ ha ⟨b,j⟩=>(step i a b ha j).to) ⟨b0,h0⟩)
theorem v6 {l:Nat} (b0:β) (h:evE call it (F 0 b0) σ=.ok (.ref l) (S 0 b0)) (hl:∀ i b,J i b→getL (S i b) l=some (ws.map g)) (step:∀ i a b,ws[i]?=some a→J i b→fU tg one (evSs call wf bs) (g a) (F i b) (S i b) (F (i + 1)) (S (i + 1)) (J (i + 1))) (h0:J 0 b0) :
  vg (evS call wf (.forS tg one (.e it) bs) (F 0 b0) σ) (F ws.length) (S ws.length) (J ws.length) :=
 .of (l8 (fun i=>InF (F i) (S i) (J i)) _ h (fun i _ _ ⟨b,j⟩=>hl i b j) (fun i a _ _ ha ⟨b,j⟩=>(step i a b ha j).to) ⟨b0,h0⟩)
end
theorem ij {test:Fra→Sto→RE}{n:Nat}{fr2:Fra} {σ2:Sto}{r:RS} (h1:test fr σ=.ok (.bool true) σ1) (h2:body fr σ1=.ok .next fr2 σ2) (h3:cS test body n fr2 σ2=r):cS test body (n + 1) fr σ=r:=by
 show (test fr σ).bindS fr _=_; rw [h1]; show rV (body fr σ1) _=_; rw [h2]; exact h3
theorem m6 {test:Fra→Sto→RE}{n:Nat} (h1:test fr σ=.ok (.bool false) σ1):cS test body (n + 1) fr σ=.ok .next fr σ1:=by
 show (test fr σ).bindS fr _=_; rw [h1]; rfl
theorem uF {test:Fra→Sto→RE}{n:Nat}{fr2:Fra} {σ2:Sto}{w:V} (h1:test fr σ=.ok (.bool true) σ1) (h2:body fr σ1=.ok (.ret w) fr2 σ2):cS test body (n + 1) fr σ=.ok (.ret w) fr2 σ2:=by
 show (test fr σ).bindS fr _=_; rw [h1]; show rV (body fr σ1) _=_; rw [h2]; rfl
end
end Mine
namespace Mine
open PySem
noncomputable def cr:Fn:={ ps:=[0,1,2],size:=6,body:=[S.ret (((E.loc 0).isi Ty.int).and (((E.loc 0).isi Ty.bool).not.and (E.cmp2 .LtE .LtE (E.loc 1) (E.loc 0) (E.loc 2))))] }
noncomputable def nU:Fn:={ ps:=[0,1],size:=4,body:=[S.ifS (E.call 8 [E.loc 1,E.int 0,E.bin .Sub ((E.loc 0).attr 0) (E.int 1)]).not [S.raise (xc 1)] []] }
noncomputable def qy:Fn:={ ps:=[0,1,2],size:=4,body :=
 [S.expr ((E.loc 0).umeth 12 [E.loc 1]),S.expr ((E.loc 0).umeth 12 [E.loc 2]),
  S.ret (E.comp [1] true ((E.loc 0).attr 1) [(E.cmp .Eq ((E.loc 1).sub (E.int 0)) (E.loc 2)).and (E.cmp .Eq ((E.loc 1).sub (E.int 1)) (E.loc 3))] ((E.loc 1).sub (E.int 2)) [none,none,some 1,some 2]).maxd] }
noncomputable def bk (w:Way):V:=.tup [.int w.1,.int w.2.1,.int w.2.2]
structure a9 (σ:Sto) (l:Nat) (m:Nat) (ws:List Way):Prop where
 at':∃ d lw,σ[l]?=some (.inst d) ∧ σ[d]?=some (.att [(0,.int m),(1,.ref lw)]) ∧ σ[lw]?=some (.lst (ws.map bk))
theorem a9.app {σ τ:Sto}{l m:Nat}{ws:List Way} (h:a9 σ l m ws):a9 (σ ++ τ) l m ws :=
 let ⟨d,lw,a,b,c⟩:=h.at'; ⟨d,lw,ap a,ap b,ap c⟩
section
variable {P:Nat→Option Fn}{wf n:Nat} {σ:Sto}
theorem gD (hP:P 8=some cr) (x lo hi:Int):evFn P wf (n + 1) 8 [.int x,.int lo,.int hi] σ=.ok (.bool (decide (lo ≤ x) && decide (x ≤ hi))) σ :=
 bj hP rfl (aI (fy (gF (ac rfl) rfl) (fy (rz (gF (ac rfl) rfl)) (uY (ac rfl) (ac rfl) rfl (fun _=>ac rfl) fun _=>rfl))))
theorem iX (hP:P 8=some cr) {x lo hi:Int} (h1:lo ≤ x) (h2:x ≤ hi):evFn P wf (n + 1) 8 [.int x,.int lo,.int hi] σ=.ok (.bool true) σ:=by
 rw [gD hP,decide_eq_true h1,decide_eq_true h2]; rfl
theorem bG {l m d lw:Nat} (a:σ[l]?=some (.inst d)) (b:σ[d]?=some (.att [(0,.int m),(1,.ref lw)])):jb (.ref l) 0 σ=some (.int m):=by
 unfold jb; dsimp only; rw [a]; dsimp only; rw [b]; rfl
theorem dg {l m d lw:Nat} (a:σ[l]?=some (.inst d)) (b:σ[d]?=some (.att [(0,.int m),(1,.ref lw)])):jb (.ref l) 1 σ=some (.ref lw):=by
 unfold jb; dsimp only; rw [a]; dsimp only; rw [b]; rfl
theorem jC (h8:P 8=some cr) (h12:P 12=some nU) {l m x:Nat}{ws:List Way} (w:a9 σ l m ws) (hx:x < m):evFn P wf (n + 2) 12 [.ref l,.int x] σ=.ok .none σ:=by
 obtain ⟨d,lw,a,b,c⟩:=w.at'
 exact uh h12 rfl (aM (fM (aE (aa (ac rfl) (aa ak (aa (ax (cO (ac rfl) (bG a b)) ak rfl) ae))) (iX h8 (Int.natCast_nonneg x) (by lia)))) aS)
theorem bQ:∀ l:List Nat,aB (l.map fun (d:Nat)=>V.int d)=some (l.map fun (d:Nat)=>(d:Int))
 | []=>rfl
 | x :: l=>by
  have:=bQ l
  unfold aB at this ⊢
  rw [List.map_cons,kc,this]; rfl
noncomputable def aG (ws:List Way) (a b:Nat):List Nat:=(ws.filter fun w=>w.1 == a && w.2.1 == b).map (·.2.2)
theorem cj (x y:Nat):((x:Int) == (y:Int))=(x == y):=by
 rw [Bool.eq_iff_iff,beq_iff_eq,beq_iff_eq]; lia
theorem sw (h8:P 8=some cr) (h12:P 12=some nU) (h13:P 13=some qy) {l m x y:Nat}{ws:List Way} (w:a9 σ l m ws) (hx:x < m) (hy:y < m) (hz:ws.length ≤ 60) :
  evFn P wf (n + 3) 13 [.ref l,.int x,.int y] σ=.ok (match gV ((aG ws x y).map fun (d:Nat)=>(d:Int)) with | some i=>V.int i | none=>V.none) (σ ++ [.lst ((aG ws x y).map fun (d:Nat)=>V.int d)]):=by
 obtain ⟨d,lw,a,b,c⟩:=w.at'
 have hn:=fun (z:Nat) (hz:z < m)=>jC (wf:=wf) (n:=n) h8 h12 w hz
 have e1:(aG ws x y).map (fun (d:Nat)=>V.int d)=(ws.filter fun w=>w.1 == x && w.2.1 == y).map fun w=>V.int w.2.2:=by unfold aG; rw [List.map_map]; rfl
 refine bj h13 rfl (be (bB (ac rfl) a b (aa (ac rfl) ae) (hn x hx)) (be (bB (ac rfl) a b (aa (ac rfl) ae) (hn y hy)) (aI (xY (l:=σ.length) (is:=(aG ws x y).map fun (d:Nat)=>(d:Int)) ?_ ?_ rfl))))
 ·rw [e1]
  refine d4 (ws:=ws) (g:=bk) (p:=fun w=>w.1 == x && w.2.1 == y) (f:=fun w=>.int w.2.2) (cO (ac rfl) (dg a b)) (af c) (fun w hw=>⟨_,rfl,kC ?_,fun _=>aK (ac rfl) ak rfl⟩) (ai ?_)
  ·exact tc (aH (aK (ac rfl) ak rfl) (ac rfl) (congrArg some (cj w.1 x))) fun _=>aH (aK (ac rfl) ak rfl) (ac rfl) (congrArg some (cj w.2.1 y))
  ·rw [List.length_map]; exact Nat.le_trans (List.length_filter_le _ _) (Nat.le_trans hz (by decide))
 ·rw [af aj]; exact bQ _
end
end Mine
namespace Mine
open PySem
noncomputable def gt:List S:=[S.asg 2 (E.bin .Mod (E.loc 0) (E.loc 1)),S.asg 0 (E.loc 1),S.asg 1 (E.loc 2)]
noncomputable def jg:Fn:={ ps:=[0,1],size:=3,body:=[S.whileS (E.cmp .NotEq (E.loc 1) (E.int 0)) gt,S.ret (E.loc 0)] }
noncomputable def l0:Fn:={ ps:=[0,1],size:=4,body:=[S.asg 2 (E.call 0 [E.loc 0,E.loc 1]),S.ret (E.tup [E.bin .FloorDiv (E.loc 0) (E.loc 2),E.bin .FloorDiv (E.loc 1) (E.loc 2)])] }
theorem xS (x y:Nat):Int.fmod (x:Int) (y:Int)=((x % y:Nat):Int):=by
 rw [Int.fmod_eq_emod_of_nonneg _ (Int.natCast_nonneg y)]; rfl
theorem zR (x y:Nat):Int.fdiv (x:Int) (y:Int)=((x / y:Nat):Int):=by
 rw [Int.fdiv_eq_ediv_of_nonneg _ (Int.natCast_nonneg y)]; rfl
theorem eU {x y:Nat} {σ:Sto} (h:y ≠ 0):oA .Mod (.int x) (.int y) σ=.ok (.int (x % y:Nat)) σ:=by
 show (if (y:Int)=0 then RE.bad else .ok (.int (Int.fmod x y)) σ)=_
 rw [if_neg (by lia),xS]
theorem kh {x y:Nat} {σ:Sto} (h:y ≠ 0) (h':y < 10 ^ 100):oA .FloorDiv (.int x) (.int y) σ=.ok (.int (x / y:Nat)) σ:=by
 show (if (y:Int) ≠ 0 ∧ (y:Int).natAbs < 10 ^ 100 then RE.ok (.int (Int.fdiv x y)) σ else .bad)=_
 rw [if_pos ⟨by lia,h'⟩,zR]
section
variable {P:Nat→Option Fn}{wf n:Nat} {σ:Sto}
theorem uB {call:Nat→List V→Sto→RE}{te:E} (ht:∀ (x y:Nat) (z:Option V),evE call te [some (.int x),some (.int y),z] σ=.ok (.bool (!(y == 0))) σ):∀ (y f x:Nat) (z:Option V),y < f→∃ z',cS (evE call te) (evSs call wf gt) f [some (.int x),some (.int y),z] σ=.ok .next [some (.int (Nat.gcd x y)),some (.int 0),z'] σ:=by
 intro y
 induction y using Nat.strongRecOn with
 | _ y ih =>
  intro f x z hf
  obtain ⟨f,rfl⟩:∃ k,f=k + 1:=⟨f - 1,by lia⟩
  by_cases hy:y=0
  ·subst hy
   refine ⟨z,?_⟩
   rw [Nat.gcd_zero_right]
   exact m6 (ht x 0 z)
  ·obtain ⟨z',hz⟩:=ih (x % y) (Nat.mod_lt _ (Nat.pos_of_ne_zero hy)) f y (some (.int (x % y:Nat))) (by have:=Nat.mod_lt x (Nat.pos_of_ne_zero hy); lia)
   refine ⟨z',?_⟩
   have e:Nat.gcd x y=Nat.gcd y (x % y):=by rw [Nat.gcd_comm x y,Nat.gcd_rec y x,Nat.gcd_comm]
   rw [e]
   refine ij ((ht x y z).trans ?_) (am (ax (ac rfl) (ac rfl) (eU hy)) (by decide:2 < 3) (am (ac rfl) (by decide:0 < 3) (am (ac rfl) (by decide:1 < 3) aS))) hz
   rw [show (y == 0)=false from beq_eq_false_iff_ne.mpr hy]; rfl
theorem ph (h0:P 0=some jg) {x y:Nat} (hw:y < wf):evFn P wf (n + 1) 0 [.int x,.int y] σ=.ok (.int (Nat.gcd x y)) σ:=by
 obtain ⟨z,hz⟩:=uB (call:=evFn P wf n) (σ:=σ) (te:=E.cmp .NotEq (E.loc 1) (E.int 0)) (fun x y z=>aH (ac rfl) ak (congrArg (fun b=>some (!b)) (cj y 0))) y wf x none hw
 exact bj h0 rfl (aT (show evS (evFn P wf n) wf (S.whileS _ gt) _ σ=_ from dc hz) (aI (ac rfl)))
theorem pk (h0:P 0=some jg) (h1:P 1=some l0) {x y:Nat} (hy:1 ≤ y) (hw:y < wf) (hb:y < 10 ^ 100):evFn P wf (n + 2) 1 [.int x,.int y] σ=.ok (.tup [.int (x / Nat.gcd x y:Nat),.int (y / Nat.gcd x y:Nat)]) σ:=by
 have hg:Nat.gcd x y ≠ 0:=Nat.ne_of_gt (Nat.gcd_pos_of_pos_right _ hy)
 have hgb:Nat.gcd x y < 10 ^ 100:=Nat.lt_of_le_of_lt (Nat.gcd_le_right _ hy) hb
 exact bj h1 rfl (am (aE (aa (ac rfl) (aa (ac rfl) ae)) (ph h0 hw)) (by decide:2 < 4) (aI (iz (aa (ax (ac rfl) (ac rfl) (kh hg hgb)) (aa (ax (ac rfl) (ac rfl) (kh hg hgb)) ae)) (by decide:2 ≤ 1000))))
end
end Mine
namespace Mine
open PySem
section
variable {σ:Sto}{l:Nat}{xs:List V}
theorem bH (h:σ[l]?=some (.lst xs)):gQ .len [.ref l] σ=.ok (.int xs.length) σ:=by
 show cx σ ((sz (.ref l) σ).map V.int)=_
 unfold sz; dsimp only; rw [h]; rfl
theorem bf {k:Nat}{v:V} (h:σ[l]?=some (.lst xs)) (hv:xs[k]?=some v):lf (.ref l) (.int k) σ=some v:=by
 unfold lf; dsimp only; rw [h]; show nE xs k=_; unfold nE; rw [if_pos (Int.natCast_nonneg k)]; exact hv
theorem lm {v:V} (h:σ[l]?=some (.lst xs)) (hv:xs.getLast?=some v):lf (.ref l) (.int (-1)) σ=some v:=by
 have hl:1 ≤ xs.length:=by
  cases xs with
  | nil=>cases hv
  | cons a xs=>exact Nat.succ_le_succ (Nat.zero_le _)
 unfold lf; dsimp only; rw [h]; show nE xs (-1)=_; unfold nE
 rw [if_neg (by decide),if_pos (by lia),show ((-1:Int) + (xs.length:Int)).toNat=xs.length - 1 by lia,← List.getLast?_eq_getElem?]
 exact hv
theorem bo (k:Nat):iw 0 (k:Int)=(List.range k).map fun (i:Nat)=>V.int i:=by
 unfold iw
 rw [show ((k:Int) - 0).toNat=k by lia]
 exact List.map_congr_left fun i _=>by rw [Int.zero_add]
theorem bg {k i v:Nat} (h:(List.range k)[i]?=some v):i < k ∧ i=v:=by
 obtain ⟨h1,h2⟩:=List.getElem?_eq_some_iff.mp h
 rw [List.getElem_range] at h2; rw [List.length_range] at h1
 exact ⟨h1,h2⟩
theorem bh {k:Nat} (h:k ≤ 1000000):gQ .range [.int k] σ=.ok (.rng 0 k) σ:=if_pos ⟨by decide,by decide,by lia,by lia⟩
theorem kH:∀ (is acc:List Int),is.Nodup→(∀ x ∈ is,x ∉ acc)→is.foldl (fun acc v=>if acc.any (· == v) then acc else acc ++ [v]) acc=acc ++ is
 | [],acc,_,_=>by rw [List.foldl_nil,List.append_nil]
 | x :: is,acc,nd,h=>by
  have nd':=List.nodup_cons.mp nd
  have hx:acc.any (· == x)=false:=by
   rw [List.any_eq_false]
   intro y hy q
   exact h x (.head _) (eq_of_beq q ▸ hy)
  rw [List.foldl_cons,hx]
  show is.foldl _ (acc ++ [x])=_
  rw [kH is (acc ++ [x]) nd'.2 fun y hy q=>?_,List.append_assoc]; rfl
  rcases List.mem_append.mp q with q | q
  ·exact h y (.tail _ hy) q
  ·rw [List.mem_singleton.mp q] at hy; exact nd'.1 hy
theorem lE {is:List Int} (h:is.Nodup):eE is=is:=by
 unfold eE; rw [kH is [] h (fun _ _ q=>nomatch q),List.nil_append]
theorem xn {r:List Nat} (h:σ[l]?=some (.lst (r.map fun (v:Nat)=>V.int v))) (nd:r.Nodup) (hz:r.length ≤ 1000):gQ .setLen [.ref l] σ=.ok (.int r.length) σ:=by
 show (match (getL σ l).bind aB with | some is=>if is.length ≤ 1000 then RE.ok (.int (eE is).length) σ else .bad | none=>.bad)=_
 rw [af h]
 show (match aB (r.map fun (v:Nat)=>V.int v) with | some is=>if is.length ≤ 1000 then RE.ok (.int (eE is).length) σ else .bad | none=>.bad)=_
 rw [bQ]
 show (if (r.map fun (d:Nat)=>(d:Int)).length ≤ 1000 then RE.ok (.int (eE (r.map fun (d:Nat)=>(d:Int))).length) σ else .bad)=_
 rw [List.length_map,if_pos hz,lE (List.Pairwise.map _ (fun a b (hab:a ≠ b) q=>hab (by lia)) nd),List.length_map]
end
noncomputable def best (ws:List Way) (a b:Nat):Nat:=(aG ws a b).foldl max 0
theorem mO:∀ (l:List Nat) (a:Nat),(l.map fun (d:Nat)=>(d:Int)).foldl (fun a b=>if a < b then b else a) (a:Int)=((l.foldl max a:Nat):Int)
 | [],a=>rfl
 | x :: l,a=>by
  rw [List.map_cons,List.foldl_cons,List.foldl_cons,← mO l (max a x)]
  congr 1
  show (if (a:Int) < (x:Int) then (x:Int) else (a:Int))=((max a x:Nat):Int)
  split <;> lia
theorem mK {ws:List Way}{a b:Nat} (h:aG ws a b ≠ []):gV ((aG ws a b).map fun (d:Nat)=>(d:Int))=some ((best ws a b:Nat):Int):=by
 unfold best
 cases q:aG ws a b with
 | nil=>exact absurd q h
 | cons x l =>
  show some ((l.map fun (d:Nat)=>(d:Int)).foldl (fun a b=>if a < b then b else a) (x:Int))=_
  rw [mO,List.foldl_cons,Nat.zero_max]
structure cU (ws:List Way) (m:Nat) (r:List Nat):Prop where
 ne:r ≠ []
 nd:r.Nodup
 lt:∀ v ∈ r,v < m
 way:∀ i,i < r.length→aG ws (r.getD i 0) (r.getD ((i + 1) % r.length) 0) ≠ []
noncomputable def rtot (ws:List Way) (r:List Nat):Nat→Nat
 | 0=>0
 | k + 1=>rtot ws r k + best ws (r.getD k 0) (r.getD ((k + 1) % r.length) 0)
noncomputable def yi:E:=(E.loc 0).umeth 13 [(E.loc 1).sub (E.loc 4),(E.loc 1).sub (E.bin .Mod (E.bin .Add (E.loc 4) (E.int 1)) (E.blt .len [E.loc 1]))]
noncomputable def sL:List S:=[S.asg 5 yi,S.ifS (E.cmp .Is (E.loc 5) E.none) [S.raise (xc 4)] [],S.asg 3 (E.bin .Add (E.loc 3) (E.loc 5))]
noncomputable def wW:Fn:={ ps:=[0,1],size:=11,body :=
 [S.forS [2] true (It.e (E.loc 1)) [S.expr ((E.loc 0).umeth 12 [E.loc 2])],
  S.ifS ((E.cmp .Eq (E.blt .len [E.loc 1]) (E.int 0)).or (E.cmp .Lt (E.blt .setLen [E.loc 1]) (E.blt .len [E.loc 1]))) [S.raise (xc 4)] [],
  S.asg 3 (E.int 0),S.forS [4] true (It.e (E.blt .range [E.blt .len [E.loc 1]])) sL,
  S.ret (E.call 1 [E.loc 3,E.blt .len [E.loc 1]])] }
noncomputable def iy (l lr:Nat) (x2 x3 x4 x5:Option V):Fra:=[some (.ref l),some (.ref lr),x2,x3,x4,x5,none,none,none,none,none]
noncomputable def natsV (r:List Nat):List V:=r.map fun (v:Nat)=>V.int v
theorem dl {r:List Nat}{k:Nat} (h:k < r.length):(natsV r)[k]?=some (V.int (r.getD k 0:Nat)):=by
 unfold natsV; rw [List.getElem?_map,List.getElem?_eq_getElem h,List.getD_eq_getElem?_getD,List.getElem?_eq_getElem h]; rfl
theorem av {r:List Nat}:(natsV r).length=r.length:=by unfold natsV; rw [List.length_map]
structure Defs1 (P:Nat→Option Fn):Prop where
 h0:P 0=some jg
 h1:P 1=some l0
 h2:P 2=some wW
 h8:P 8=some cr
 h12:P 12=some nU
 h13:P 13=some qy
section
variable {P:Nat→Option Fn}{wf n:Nat} {σ:Sto}
variable {l m lr i:Nat}{ws:List Way}{r:List Nat}{x2 x3 x4 x5:Option V}
theorem iP (H:Defs1 P) (w:a9 σ l m ws) (hz:ws.length ≤ 60) (hr:σ[lr]?=some (.lst (natsV r))) (lt:∀ v ∈ r,v < m) (hi:i < r.length) :
  evE (evFn P wf (n + 3)) yi (iy l lr x2 x3 (some (.int i)) x5) σ=.ok (match gV ((aG ws (r.getD i 0) (r.getD ((i + 1) % r.length) 0)).map fun (d:Nat)=>(d:Int)) with | some i=>V.int i | none=>V.none) (σ ++ [.lst ((aG ws (r.getD i 0) (r.getD ((i + 1) % r.length) 0)).map fun (d:Nat)=>V.int d)]):=by
 obtain ⟨d,lw,a,b,c⟩:=w.at'
 have hi2:(i + 1) % r.length < r.length:=Nat.mod_lt _ (Nat.lt_of_le_of_lt (Nat.zero_le _) hi)
 have mem:∀ k,k < r.length→r.getD k 0 < m:=fun k hk=>lt _ (by rw [List.getD_eq_getElem?_getD,List.getElem?_eq_getElem hk]; exact List.getElem_mem hk)
 refine bB (ac rfl) a b (aa (aK (ac rfl) (ac rfl) (bf hr (dl hi))) (aa (aK (ac rfl) (ax (ax (ac rfl) ak rfl) (aR (aa (ac rfl) ae) (bH hr)) ?_) (bf hr (dl hi2))) ae)) (sw H.h8 H.h12 H.h13 w (mem i hi) (mem _ hi2) hz)
 rw [av]
 exact eU (x:=i + 1) (by lia)
theorem kK (H:Defs1 P) (w:a9 σ l m ws) (hz:ws.length ≤ 60) (hr:σ[lr]?=some (.lst (natsV r))) (lt:∀ v ∈ r,v < m) (hi:i < r.length) (hw:aG ws (r.getD i 0) (r.getD ((i + 1) % r.length) 0) ≠ []) {z:Option V × Option V × Sto} :
  fU [4] true (evSs (evFn P wf (n + 3)) wf sL) (.int i) (iy l lr x2 (some (.int (rtot ws r i:Nat))) z.1 z.2.1) (σ ++ z.2.2) (fun z:Option V × Option V × Sto=>iy l lr x2 (some (.int (rtot ws r (i + 1):Nat))) z.1 z.2.1) (fun z=>σ ++ z.2.2) (fun _=>True):=by
 have hd:=iP (P:=P) (wf:=wf) (n:=n) (σ:=σ ++ z.2.2) (x2:=x2) (x3:=some (.int (rtot ws r i:Nat))) (x5:=z.2.1) H w.app hz (ap hr) lt hi
 rw [mK hw,List.append_assoc] at hd
 exact ⟨_,rfl,(some (.int i),_,_),am hd (by decide:5 < 11) (aM (aH (ac rfl) dD rfl) (am (ax (ac rfl) (ac rfl) rfl) (by decide:3 < 11) aS)),trivial⟩
theorem jd (H:Defs1 P) (w:a9 σ l m ws) (hr:σ[lr]?=some (.lst (natsV r))) (lt:∀ v ∈ r,v < m):∃ x2,evS (evFn P wf (n + 3)) wf (S.forS [2] true (It.e (E.loc 1)) [S.expr ((E.loc 0).umeth 12 [E.loc 2])]) (iy l lr none none none none) σ=.ok .next (iy l lr x2 none none none) σ:=by
 obtain ⟨d,lw,a,b,c⟩:=w.at'
 obtain ⟨x2,e1,_⟩:=v6 (call:=evFn P wf (n + 3)) (wf:=wf) (tg:=[2]) (one:=true) (ws:=r) (g:=fun (v:Nat)=>V.int v) (it:=E.loc 1) (bs:=[S.expr ((E.loc 0).umeth 12 [E.loc 2])]) (σ:=σ)
  (F:=fun _ (x2:Option V)=>iy l lr x2 none none none) (S:=fun _ _=>σ) (J:=fun _ _=>True) none (ac rfl) (fun _ _ _=>af hr)
  (fun i v x2 hv _=>⟨_,rfl,_,be (bB (ac rfl) a b (aa (ac rfl) ae) (jC H.h8 H.h12 w (lt v (List.mem_of_getElem? hv)))) aS,trivial⟩) trivial
 exact ⟨x2,e1⟩
theorem mT (H:Defs1 P) (w:a9 σ l m ws) (hz:ws.length ≤ 60) (hr:σ[lr]?=some (.lst (natsV r))) (lt:∀ v ∈ r,v < m) (ne:r ≠ []) (way:∀ i,i < r.length→aG ws (r.getD i 0) (r.getD ((i + 1) % r.length) 0) ≠ []) {k:Nat} (hs:gQ .setLen [.ref lr] σ=.ok (.int k) σ) (hk:r.length ≤ k) (hl:r.length ≤ 13) (hw:r.length < wf) :
  ∃ τ,evFn P wf (n + 4) 2 [.ref l,.ref lr] σ=.ok (.tup [.int (rtot ws r r.length / Nat.gcd (rtot ws r r.length) r.length:Nat),.int (r.length / Nat.gcd (rtot ws r r.length) r.length:Nat)]) (σ ++ τ):=by
 have hpos:1 ≤ r.length:=List.length_pos_iff.mpr ne
 obtain ⟨x2,e1⟩:=jd (wf:=wf) (n:=n) H w hr lt
 obtain ⟨x,e2,_⟩:=lG (call:=evFn P wf (n + 3)) (wf:=wf) (tg:=[4]) (one:=true) (ws:=List.range r.length) (g:=fun (v:Nat)=>V.int v) (it:=E.blt .range [E.blt .len [E.loc 1]]) (bs:=sL)
  (F:=fun i (x:Option V × Option V × Sto)=>iy l lr x2 (some (.int (rtot ws r i:Nat))) x.1 x.2.1) (S:=fun _ x=>σ ++ x.2.2) (J:=fun _ _=>True) (σ:=σ ++ []) (none,none,[])
  (aR (aa (aR (aa (ac rfl) ae) (bH (ap hr))) ae) (bh (by rw [av]; lia))) (by rw [av]; exact bo _)
  (fun i v x hv _=>by
   obtain ⟨hi,hvi⟩:=bg hv
   subst hvi
   exact kK H w hz hr lt hi (way i hi)) trivial
 rw [List.append_nil] at e2
 refine ⟨x.2.2,bj H.h2 rfl (aT e1 (aM (iu (aH (p:=false) (aR (aa (ac rfl) ae) (bH hr)) ak ?_) (aH (p:=false) (aR (aa (ac rfl) ae) hs) (aR (aa (ac rfl) ae) (bH hr)) ?_)) (am ak (by decide:3 < 11) (aT e2 (aI (aE (aa (ac rfl) (aa (aR (aa (ac rfl) ae) (bH (ap hr))) ae)) ?_))))))⟩
 ·rw [av]; exact congrArg some (show ((r.length:Int) == 0)=false by simp; exact ne)
 ·rw [av]; exact congrArg some (decide_eq_false (by lia))
 ·rw [av,List.length_range]; exact pk H.h0 H.h1 hpos hw (Nat.lt_of_le_of_lt hl (by decide))
theorem vr (H:Defs1 P) (w:a9 σ l m ws) (hz:ws.length ≤ 60) (hr:σ[lr]?=some (.lst (natsV r))) (R:cU ws m r) (hm:m ≤ 12) (hl:r.length ≤ 12) (hw:13 ≤ wf) :
  ∃ τ,evFn P wf (n + 4) 2 [.ref l,.ref lr] σ=.ok (.tup [.int (rtot ws r r.length / Nat.gcd (rtot ws r r.length) r.length:Nat),.int (r.length / Nat.gcd (rtot ws r r.length) r.length:Nat)]) (σ ++ τ) :=
 mT H w hz hr R.lt R.ne R.way (xn hr R.nd (by lia)) (Nat.le_refl _) (by lia) (by lia)
end
end Mine
namespace Mine
open PySem
theorem mX:∀ (l:List Int) (a:Int),(l.foldl (fun a b=>if b < a then b else a) a=a ∨ l.foldl (fun a b=>if b < a then b else a) a ∈ l) ∧ l.foldl (fun a b=>if b < a then b else a) a ≤ a ∧ ∀ x ∈ l,l.foldl (fun a b=>if b < a then b else a) a ≤ x
 | [],a=>⟨.inl rfl,Int.le_refl _,fun _ h=>nomatch h⟩
 | x :: l,a=>by
  rw [List.foldl_cons]
  obtain ⟨h1,h2,h3⟩:=mX l (if x < a then x else a)
  have h4:(if x < a then x else a) ≤ a ∧ (if x < a then x else a) ≤ x ∧ ((if x < a then x else a)=a ∨ (if x < a then x else a)=x):=by split <;> lia
  refine ⟨?_,by lia,fun y hy=>?_⟩
  ·rcases h1 with h1 | h1
   ·rw [h1]
    rcases h4.2.2 with q | q
    ·exact .inl q
    ·exact .inr (by rw [q]; exact .head _)
   ·exact .inr (.tail _ h1)
  ·rcases List.mem_cons.mp hy with rfl | hy
   ·lia
   ·exact h3 y hy
theorem s7 {is:List Int} (h:is ≠ []):∃ mn,wS is=some mn ∧ mn ∈ is ∧ ∀ x ∈ is,mn ≤ x:=by
 cases is with
 | nil=>exact absurd rfl h
 | cons x l =>
  obtain ⟨h1,h2,h3⟩:=mX l x
  refine ⟨_,rfl,?_,fun y hy=>?_⟩
  ·rcases h1 with h1 | h1
   ·rw [h1]; exact .head _
   ·exact .tail _ h1
  ·rcases List.mem_cons.mp hy with rfl | hy
   ·exact h2
   ·exact h3 y hy
noncomputable def hZ:Fn:={ ps:=[0],size:=3,body:=[S.asg 1 ((E.loc 0).meth .index [E.blt .min [E.loc 0]]),S.ret (E.bin .Add ((E.loc 0).slo (E.loc 1)) ((E.loc 0).shi (E.loc 1)))] }
noncomputable def pt:S:=S.whileS (E.cmp .NotEq ((E.loc 0).sub ((E.loc 4).sub (E.int 1).neg)) (E.loc 1)) [S.expr ((E.loc 4).meth .append [(E.loc 0).sub ((E.loc 4).sub (E.int 1).neg)])]
noncomputable def du:Fn:={ ps:=[0,1,2],size:=9,body :=
 [S.forS [3] true (It.e (E.blt .range [E.loc 2])) [S.asg 1 ((E.loc 0).sub (E.loc 1))],S.asg 4 (E.list [E.loc 1]),pt,S.ret (E.call 3 [E.blt .revl [E.loc 4]])] }
theorem fm {σ:Sto}{l k:Nat}{xs ys:List V} (h1:σ[l]?=some (.lst xs)) (h2:σ[k]?=some (.lst ys)) (hz:xs.length + ys.length ≤ 16777216):oA .Add (.ref l) (.ref k) σ=.ok (.ref σ.length) (σ ++ [.lst (xs ++ ys)]):=by
 show (match getL σ l with | some xs=>(match getL σ k with | some ys=>cQ (xs ++ ys) σ | none=>.bad) | none=>.bad)=_
 rw [af h1]
 show (match getL σ k with | some ys=>cQ (xs ++ ys) σ | none=>.bad)=_
 rw [af h2]
 exact ai (by rw [List.length_append]; exact hz)
theorem ap3 {σ:Sto}{a b c:AO}:σ ++ [a] ++ [b] ++ [c]=σ ++ [a,b,c]:=by rw [List.append_assoc,List.append_assoc]; rfl
theorem oU {σ:Sto}{a b:AO}:(σ ++ [a] ++ [b])[σ.length + 1]?=some b:=by
 have:=aj (σ:=σ ++ [a]) (o:=b) (τ:=[])
 rwa [List.length_append] at this
theorem eu {σ:Sto}{o o':AO} {τ:Sto}:(σ ++ o :: τ).set σ.length o'=σ ++ o' :: τ:=by
 rw [List.set_append_right _ _ (Nat.le_refl _),Nat.sub_self]; rfl
theorem jT {σ:Sto}{l:Nat}{xs:List V}{v:V} (h:xs.length < 16777216):dA .append l xs [v] σ=.ok .none (dw σ l (xs ++ [v])):=if_pos h
theorem yw {σ:Sto}{l:Nat}{xs:List V} (h:σ[l]?=some (.lst xs)) (hz:xs.length ≤ 16777216):gQ .revl [.ref l] σ=.ok (.ref σ.length) (σ ++ [.lst xs.reverse]):=by
 show (match getL σ l with | some xs=>cQ xs.reverse σ | none=>.bad)=_
 rw [af h]
 exact ai (by rw [List.length_reverse]; exact hz)
section
variable {P:Nat→Option Fn}{wf n:Nat} {σ:Sto}
theorem k7 (h3:P 3=some hZ) {l:Nat}{r:List Nat} (hr:σ[l]?=some (.lst (natsV r))) (ne:r ≠ []) (hlt:∀ v ∈ r,v < 12) (hl:r.length ≤ 12) :
  ∃ k,k < r.length ∧ (∀ x ∈ r,r.getD k 0 ≤ x) ∧ evFn P wf (n + 1) 3 [.ref l] σ=.ok (.ref (σ.length + 2)) (σ ++ [.lst (natsV (r.drop k)),.lst (natsV (r.take k)),.lst (natsV (r.drop k ++ r.take k))]):=by
 have hi:(getL σ l).bind aB=some (r.map fun (d:Nat)=>(d:Int)):=by rw [af hr]; exact bQ r
 obtain ⟨mn,h1,h2,h4⟩:=s7 (is:=r.map fun (d:Nat)=>(d:Int)) (by simpa using ne)
 have hk:(r.map fun (d:Nat)=>(d:Int)).idxOf mn < r.length:=by have:=List.idxOf_lt_length_of_mem h2; rwa [List.length_map] at this
 have hmn:((r.getD ((r.map fun (d:Nat)=>(d:Int)).idxOf mn) 0:Nat):Int)=mn:=by
  have e1:(r.map fun (d:Nat)=>(d:Int))[(r.map fun (d:Nat)=>(d:Int)).idxOf mn]'(by rw [List.length_map]; exact hk)=mn:=List.getElem_idxOf _
  rw [List.getElem_map] at e1
  rw [List.getD_eq_getElem?_getD,List.getElem?_eq_getElem hk]; exact e1
 refine ⟨(r.map fun (d:Nat)=>(d:Int)).idxOf mn,hk,fun x hx=>?_,?_⟩
 ·have:=h4 (x:Int) (List.mem_map.mpr ⟨x,hx,rfl⟩)
  lia
 ·have emin:gQ .min [.ref l] σ=.ok (.int mn) σ:=by
   show cx σ ((((getL σ l).bind aB).bind wS).map V.int)=_
   rw [hi]; show cx σ ((wS _).map V.int)=_; rw [h1]; rfl
  have eidx:dA .index l (natsV r) [.int mn] σ=.ok (.int ((r.map fun (d:Nat)=>(d:Int)).idxOf mn:Nat)) σ:=by
   show (match aB (natsV r) with | some is=>if sh mn is then RE.ok (.int (is.idxOf mn)) σ else .bad | none=>.bad)=_
   have:aB (natsV r)=some (r.map fun (d:Nat)=>(d:Int)):=bQ r
   rw [this]
   exact if_pos ⟨h2,by rw [List.length_map]; lia,fun j hj=>by
    obtain ⟨x,hx,rfl⟩:=List.mem_map.mp hj
    have:=hlt x hx
    lia⟩
  refine bj h3 rfl (am (cm (ac rfl) (af hr) (aa (aR (aa (ac rfl) ae) emin) ae) (af hr) eidx) (by decide:1 < 3) (aI (ax (rS (ac rfl) (ac rfl) (af hr) (ai ?_)) (tJ (ac rfl) (ac rfl) (af (ap hr)) (ai ?_)) ?_)))
  ·rw [List.length_drop,av]; lia
  ·rw [List.length_take,av]; lia
  ·have e1:(natsV r).drop ((r.map fun (d:Nat)=>(d:Int)).idxOf mn)=natsV (r.drop ((r.map fun (d:Nat)=>(d:Int)).idxOf mn)):=by unfold natsV; rw [List.map_drop]
   have e2:(natsV r).take ((r.map fun (d:Nat)=>(d:Int)).idxOf mn)=natsV (r.take ((r.map fun (d:Nat)=>(d:Int)).idxOf mn)):=by unfold natsV; rw [List.map_take]
   rw [e1,e2]
   generalize (r.map fun (d:Nat)=>(d:Int)).idxOf mn=k
   rw [List.length_append]
   refine (fm (ap aj) (oU (σ:=σ)) ?_).trans ?_
   ·rw [av,av,List.length_drop,List.length_take]; lia
   ·rw [ap3,show natsV (r.drop k ++ r.take k)=natsV (r.drop k) ++ natsV (r.take k) from List.map_append]
    show RE.ok (.ref (σ ++ [_] ++ [_]).length) _=_
    rw [List.length_append,List.length_append]; rfl
end
end Mine
namespace Mine
open PySem
theorem qf {m v:Nat}{B:Nat→Nat} (h:v < m):(natsV ((List.range m).map B))[v]?=some (V.int (B v:Nat)):=by
 unfold natsV; rw [List.getElem?_map,List.getElem?_map,List.getElem?_range h]; rfl
theorem iV {B:Nat→Nat}{u k:Nat}:(natsV (backs B u (k + 1))).getLast?=some (V.int (iter B k u:Nat)):=by
 unfold natsV; rw [fw,List.map_append,List.map_cons,List.map_nil,List.getLast?_concat]
theorem ne_int {x y:Nat} {σ:Sto} (h:x ≠ y):gP .NotEq (.int x) (.int y) σ=some true:=congrArg some (show ((x:Int) != (y:Int))=true by simp; lia)
theorem mY {x:Nat} {σ:Sto}:gP .NotEq (.int x) (.int x) σ=some false:=congrArg some (show ((x:Int) != (x:Int))=false by simp)
section
variable {P:Nat→Option Fn}{wf n:Nat} {σ:Sto}
theorem pq {call:Nat→List V→Sto→RE}{B:Nat→Nat}{lb m u q:Nat}{x2 x3:Option V}{rest:Fra} (hb:σ[lb]?=some (.lst (natsV ((List.range m).map B)))) (hlt:∀ k,iter B k u < m) (hq:iter B q u=u) (hmin:∀ k,1 ≤ k→k < q→iter B k u ≠ u) (hz:q ≤ 1000) :
  ∀ (d k f:Nat),k + 1 + d=q→d < f→cS (evE call (E.cmp .NotEq ((E.loc 0).sub ((E.loc 4).sub (E.int 1).neg)) (E.loc 1))) (evSs call wf [S.expr ((E.loc 4).meth .append [(E.loc 0).sub ((E.loc 4).sub (E.int 1).neg)])]) f
   (some (.ref lb) :: some (.int u) :: x2 :: x3 :: some (.ref σ.length) :: rest) (σ ++ [.lst (natsV (backs B u (k + 1)))])=.ok .next (some (.ref lb) :: some (.int u) :: x2 :: x3 :: some (.ref σ.length) :: rest) (σ ++ [.lst (natsV (backs B u q))]):=by
 intro d
 have look:∀ k,evE call ((E.loc 0).sub ((E.loc 4).sub (E.int 1).neg)) (some (.ref lb) :: some (.int u) :: x2 :: x3 :: some (.ref σ.length) :: rest) (σ ++ [.lst (natsV (backs B u (k + 1)))])=.ok (.int (iter B (k + 1) u:Nat)) (σ ++ [.lst (natsV (backs B u (k + 1)))]):=fun k =>
  aK (ac rfl) (aK (ac rfl) (qR ak) (lm aj iV)) (bf (ap hb) (qf (hlt k)))
 induction d with
 | zero =>
  intro k f hk hf
  obtain ⟨f,rfl⟩:∃ g,f=g + 1:=⟨f - 1,by lia⟩
  have hk:k + 1=q:=by lia
  rw [← hk]
  refine m6 (aH (look k) (ac rfl) ?_)
  rw [hk,hq]; exact mY
 | succ d ih =>
  intro k f hk hf
  obtain ⟨f,rfl⟩:∃ g,f=g + 1:=⟨f - 1,by lia⟩
  refine ij (aH (look k) (ac rfl) (ne_int (hmin (k + 1) (by lia) (by lia)))) (be (cm (ac rfl) (af aj) (aa (look k) ae) (af aj) (jT ?_)) aS) ?_
  ·rw [av,aV]; lia
  ·have e1:dw (σ ++ [.lst (natsV (backs B u (k + 1)))]) σ.length (natsV (backs B u (k + 1)) ++ [V.int (iter B (k + 1) u:Nat)])=σ ++ [.lst (natsV (backs B u (k + 1 + 1)))]:=by
    unfold dw
    rw [eu,fw (q:=k + 1)]
    unfold natsV
    rw [List.map_append]; rfl
   rw [e1]
   exact ih (k + 1) f (by lia) (by lia)
theorem ix (h3:P 3=some hZ) (h4:P 4=some du) {B:Nat→Nat}{lb m e q:Nat} (hb:σ[lb]?=some (.lst (natsV ((List.range m).map B)))) (hlt:∀ k,iter B k e < m) (hm:m ≤ 12)
  (q1:1 ≤ q) (q2:q ≤ m) (hq:iter B q (iter B m e)=iter B m e) (hmin:∀ k,1 ≤ k→k < q→iter B k (iter B m e) ≠ iter B m e) (hw:13 ≤ wf) :
  ∃ k τ lr,k < q ∧ σ.length ≤ lr ∧ evFn P wf (n + 2) 4 [.ref lb,.int e,.int m] σ=.ok (.ref lr) (σ ++ τ) ∧ (σ ++ τ)[lr]?=some (.lst (natsV ((backs B (iter B m e) q).reverse.drop k ++ (backs B (iter B m e) q).reverse.take k))) ∧
   ∀ x ∈ (backs B (iter B m e) q).reverse,(backs B (iter B m e) q).reverse.getD k 0 ≤ x:=by
 obtain ⟨x3,e1,_⟩:=lG (call:=evFn P wf (n + 1)) (wf:=wf) (tg:=[3]) (one:=true) (ws:=List.range m) (g:=fun (v:Nat)=>V.int v) (it:=E.blt .range [E.loc 2]) (bs:=[S.asg 1 ((E.loc 0).sub (E.loc 1))]) (σ:=σ)
  (F:=fun i (x3:Option V)=>[some (.ref lb),some (.int (iter B i e:Nat)),some (.int m),x3,none,none,none,none,none]) (S:=fun _ _=>σ) (J:=fun _ _=>True) none (aR (aa (ac rfl) ae) (bh (by lia))) (bo m)
  (fun i v x3 hv _=>⟨_,rfl,_,am (aK (ac rfl) (ac rfl) (bf hb (qf (hlt i)))) (by decide:1 < 9) aS,trivial⟩) trivial
 rw [List.length_range] at e1
 have hlt':∀ k,iter B k (iter B m e) < m:=fun k=>by rw [← bz]; exact hlt _
 obtain ⟨k,k1,k2,k3⟩:=k7 (wf:=wf) (n:=n) (σ:=σ ++ [.lst (natsV (backs B (iter B m e) q))] ++ [.lst (natsV (backs B (iter B m e) q)).reverse]) h3 (l:=(σ ++ [AO.lst (natsV (backs B (iter B m e) q))]).length) (r:=(backs B (iter B m e) q).reverse) (by rw [aj]; unfold natsV; rw [List.map_reverse])
  (by
   intro q
   have:=congrArg List.length q
   rw [List.length_reverse,aV] at this
   simp at this; lia)
  (fun v hv=>by
   obtain ⟨j,hj,rfl⟩:=List.mem_map.mp (List.mem_reverse.mp hv)
   have:=hlt' j
   lia) (by rw [List.length_reverse,aV]; lia)
 have e5:∀ (a b c d f:AO),RE.ok (V.ref ((σ ++ [a] ++ [b]).length + 2)) (σ ++ [a] ++ [b] ++ [c,d,f])=RE.ok (V.ref (σ.length + 4)) (σ ++ [a,b,c,d,f]):=fun a b c d f=>by
  rw [List.length_append,List.length_append,List.append_assoc,List.append_assoc]; rfl
 rw [e5] at k3
 refine ⟨k,_,σ.length + 4,by rwa [List.length_reverse,aV] at k1,Nat.le_add_right _ _,bj h4 rfl (aT e1 (am (bc (aa (ac rfl) ae) (ai (by decide:1 ≤ 16777216))) (by decide:4 < 9) (aT (fr1:=[some (.ref lb),some (.int (iter B m e:Nat)),some (.int m),x3,some (.ref σ.length),none,none,none,none]) (σ1:=σ ++ [.lst (natsV (backs B (iter B m e) q))]) ?_ (aI (aE (aa (aR (aa (ac rfl) ae) (yw aj ?_)) ae) k3))))),?_,k2⟩
 ·exact dc <| pq (σ:=σ) hb hlt' hq hmin (by lia) (q - 1) 0 wf (by lia) (by lia)
 ·rw [av,aV]; lia
 ·rw [List.getElem?_append_right (by lia),show σ.length + 4 - σ.length=4 by lia]; rfl
end
end Mine
namespace Mine
theorem l9 {f:Nat→Int}:∀ {c:List Nat},dj f c.reverse=dj f c
 | []=>rfl
 | v :: c=>by
  rw [List.reverse_cons,dN,l9 (c:=c),a5,a5]
  show dj f c + (f v + 0)=_
  lia
theorem ms {f:Nat→Int}{c:List Nat} (k:Nat):dj f (c.drop k ++ c.take k)=dj f c:=by
 have:=dN (f:=f) (c:=c.take k) (d:=c.drop k)
 rw [List.take_append_drop] at this
 rw [dN]; lia
theorem eh {l:List Nat}{i:Nat} (h:i < l.length):l.getD i 0=l[i]:=by rw [List.getD_eq_getElem?_getD,List.getElem?_eq_getElem h]; rfl
theorem nh {l:List Nat}{i:Nat} (h:i < l.length):l.getD i 0 ∈ l:=by rw [eh h]; exact List.getElem_mem h
theorem cy {α:Type}{R:List α}{k:Nat}:(R.drop k ++ R.take k).Perm R:=List.perm_append_comm.trans (by rw [List.take_append_drop])
theorem tK {k i q:Nat} (hk:k < q) (hi:i < q) (h:¬ i < q - k):(k + i) % q=i - (q - k):=by
 rw [show k + i=(i - (q - k)) + q by lia,Nat.add_mod_right,Nat.mod_eq_of_lt (Nat.lt_of_le_of_lt (Nat.sub_le _ _) hi)]
set_option tactic.hygienic true in
theorem fz {R:List Nat}{k i:Nat} (hk:k < R.length) (hi:i < R.length):(R.drop k ++ R.take k).getD i 0=R.getD ((k + i) % R.length) 0:=by
 rw [eh (by rw [cy.length_eq]; exact hi),eh (Nat.mod_lt _ (Nat.zero_lt_of_lt hk)),List.getElem_append]
 split
 ·rename_i h
  rw [List.length_drop] at h
  rw [List.getElem_drop]
  congr 1
  rw [Nat.mod_eq_of_lt (Nat.add_comm i k ▸ Nat.add_lt_of_lt_sub h)]
 ·rename_i h
  rw [List.length_drop] at h
  rw [List.getElem_take]
  congr 1
  rw [List.length_drop,tK hk hi h]
theorem vP {B:Nat→Nat}{u q s:Nat} (hs:s < q):(backs B u q).reverse.getD s 0=iter B (q - 1 - s) u:=by
 have hl:(backs B u q).reverse.length=q:=by rw [List.length_reverse,aV]
 rw [eh (by rw [hl]; exact hs),List.getElem_reverse]
 unfold backs
 rw [List.getElem_map,List.getElem_range,List.length_map,List.length_range]
theorem lK {ws:List Way}{a b d:Nat} (h:(a,b,d) ∈ ws):aG ws a b ≠ [] ∧ d ≤ best ws a b:=by
 have hm:d ∈ aG ws a b:=List.mem_map.mpr ⟨(a,b,d),List.mem_filter.mpr ⟨h,by simp⟩,rfl⟩
 refine ⟨fun q=>(by rw [q] at hm; cases hm),?_⟩
 have key:∀ (l:List Nat) (x:Nat),x ≤ l.foldl max x ∧ ∀ y ∈ l,y ≤ l.foldl max x:=by
  intro l
  induction l with
  | nil=>intro x; exact ⟨Nat.le_refl _,fun _ h=>nomatch h⟩
  | cons z l ih =>
   intro x
   obtain ⟨h1,h2⟩:=ih (max x z)
   rw [List.foldl_cons]
   refine ⟨by lia,fun y hy=>?_⟩
   rcases List.mem_cons.mp hy with rfl | hy
   ·lia
   ·exact h2 y hy
 exact (key _ 0).2 d hm
theorem rh {B:Nat→Nat}{u q s:Nat} (hq:iter B q u=u) (hs:s < q):iter B (q - 1 - (s + 1) % q + 1) u=iter B (q - 1 - s) u:=by
 by_cases hs1:s + 1=q
 ·rw [hs1,Nat.mod_self,Nat.sub_zero,Nat.sub_add_cancel (Nat.zero_lt_of_lt hs),hq,← hs1,Nat.add_sub_cancel,Nat.sub_self]; rfl
 ·have h:s + 1 < q:=Nat.lt_of_le_of_ne hs hs1
  rw [Nat.mod_eq_of_lt h,show q - 1 - (s + 1) + 1=q - 1 - s by clear hq hs1; lia]
theorem vO {r:List Nat} (q1:1 ≤ r.length):((List.range r.length).map fun i=>r.getD ((i + 1) % r.length) 0)=r.drop 1 ++ r.take 1:=by
 match r with
 | [x]=>show [[x].getD ((0 + 1) % 1) 0]=[x]; rw [Nat.mod_self]; rfl
 | x :: y :: r =>
  apply List.ext_getElem
  ·rw [List.length_map,List.length_range,cy.length_eq]
  ·intro i h1 h2
   rw [List.length_map,List.length_range] at h1
   rw [List.getElem_map,List.getElem_range,← eh h2,fz (Nat.succ_lt_succ (Nat.zero_lt_succ _)) h1,Nat.add_comm 1 i]
theorem t5 {div num:Nat}{W:Nat→Nat} (c:List Nat):dj (fun v=>(div:Int) * (W v:Nat) - (num:Int)) c=(div:Int) * dj (fun v=>((W v:Nat):Int)) c - (num:Int) * c.length:=by
 induction c with
 | nil=>show (0:Int)=(div:Int) * 0 - (num:Int) * 0; rw [Int.mul_zero,Int.mul_zero]; rfl
 | cons v c ih=>rw [a5,a5,ih,List.length_cons,Int.mul_add,Int.natCast_succ,Int.mul_add,Int.mul_one]; clear ih; lia
theorem s4 {ws:List Way}{num div m u q k:Nat}{B W:Nat→Nat}{r:List Nat} (hr:r=(backs B u q).reverse.drop k ++ (backs B u q).reverse.take k) (q1:1 ≤ q) (hk:k < q) (hq:iter B q u=u) (hmin:∀ k,1 ≤ k→k < q→iter B k u ≠ u)
  (hway:∀ j,(B (iter B j u),iter B j u,W (iter B j u)) ∈ ws) (hlt:∀ j,iter B j u < m) (hpos:0 < dj (fun v=>(div:Int) * (W v:Nat) - (num:Int)) (backs B u q)) :
  cU ws m r ∧ r.length=q ∧ num * q < div * rtot ws r q:=by
 have hRl:(backs B u q).reverse.length=q:=by rw [List.length_reverse,aV]
 have hl:r.length=q:=by rw [hr,cy.length_eq,hRl]
 have get:∀ i,i < q→r.getD i 0=iter B (q - 1 - (k + i) % q) u:=fun i hi=>by
  rw [hr,fz (by rw [hRl]; exact hk) (by rw [hRl]; exact hi),hRl,vP (Nat.mod_lt _ q1)]
 have back:∀ i,i < q→B (r.getD ((i + 1) % q) 0)=r.getD i 0:=fun i hi=>by
  rw [get _ (Nat.mod_lt _ q1),get i hi]
  show iter B (q - 1 - (k + (i + 1) % q) % q + 1) u=_
  have e1:(k + (i + 1) % q) % q=((k + i) % q + 1) % q:=by rw [Nat.add_mod_mod,Nat.mod_add_mod,Nat.add_assoc]
  rw [e1]
  exact rh hq (Nat.mod_lt _ q1)
 have way:∀ i,i < q→(r.getD i 0,r.getD ((i + 1) % q) 0,W (r.getD ((i + 1) % q) 0)) ∈ ws:=fun i hi=>by
  rw [← back i hi,get _ (Nat.mod_lt _ q1)]
  exact hway _
 have hnd:r.Nodup:=by
  rw [hr]
  exact (cy.trans (List.reverse_perm _)).nodup_iff.mpr (ln hq hmin)
 refine ⟨⟨fun e=>?_,hnd,fun v hv=>?_,fun i hi=>?_⟩,hl,?_⟩
 ·rw [e] at hl; rw [← hl] at q1; exact absurd q1 (by decide)
 ·obtain ⟨i,hi,rfl⟩:=List.getElem_of_mem hv
  rw [← eh hi,get i (hl ▸ hi)]
  exact hlt _
 ·rw [hl] at hi ⊢
  exact (lK (way i hi)).1
 ·-- the sum
  have tot:∀ j,j ≤ q→dj (fun v=>((W v:Nat):Int)) ((List.range j).map fun i=>r.getD ((i + 1) % q) 0) ≤ ((rtot ws r j:Nat):Int):=by
   intro j
   induction j with
   | zero=>intro _; exact Int.le_refl _
   | succ j ih =>
    intro hj
    have h1:=ih (Nat.le_of_lt hj)
    have h2:=(lK (way j hj)).2
    rw [List.range_succ,List.map_append,dN]
    show _ + (((W (r.getD ((j + 1) % q) 0):Nat):Int) + 0) ≤ ((rtot ws r j + best ws (r.getD j 0) (r.getD ((j + 1) % r.length) 0):Nat):Int)
    rw [hl,Int.add_zero,Int.natCast_add]
    exact Int.add_le_add h1 (Int.ofNat_le.mpr h2)
  have t:=tot q (Nat.le_refl _)
  subst hl
  rw [vO q1,ms] at t
  have e2:dj (fun v=>(div:Int) * (W v:Nat) - (num:Int)) (backs B u r.length)=dj (fun v=>(div:Int) * (W v:Nat) - (num:Int)) r:=by
   have:dj (fun v=>(div:Int) * (W v:Nat) - (num:Int)) r=dj (fun v=>(div:Int) * (W v:Nat) - (num:Int)) ((backs B u r.length).reverse.drop k ++ (backs B u r.length).reverse.take k):=congrArg _ hr
   rw [this,ms,l9]
  rw [e2,t5] at hpos
  have h4:(div:Int) * dj (fun v=>((W v:Nat):Int)) r ≤ (div:Int) * ((rtot ws r r.length:Nat):Int):=Int.mul_le_mul_of_nonneg_left t (Int.natCast_nonneg _)
  have h5:((num * r.length:Nat):Int) < ((div * rtot ws r r.length:Nat):Int):=by rw [Int.natCast_mul,Int.natCast_mul]; exact Int.lt_of_lt_of_le (Int.lt_of_sub_pos hpos) h4
  exact Int.ofNat_lt.mp h5
end Mine
namespace Mine
open PySem
noncomputable def g8:List S :=
 [S.asg 10 (E.bin .Sub (E.bin .Add ((E.loc 3).sub (E.loc 7)) (E.bin .Mult (E.loc 2) (E.loc 9))) (E.loc 1)),
  S.ifS (E.cmp .Lt ((E.loc 3).sub (E.loc 8)) (E.loc 10)) [S.asgI (E.loc 3) (E.loc 8) (E.loc 10),S.asgI (E.loc 4) (E.loc 8) (E.loc 7),S.asg 6 (E.loc 8)] []]
noncomputable def eR:List S:=[S.asg 6 E.none,S.forS [7,8,9] false (It.e ((E.loc 0).attr 1)) g8,S.ifS (E.cmp .Is (E.loc 6) E.none) [S.ret (E.tup [E.none,E.loc 3])] []]
noncomputable def gU:Fn:={ ps:=[0,1,2],size:=14,body :=
 [S.ifS ((E.cmp .Lt (E.loc 1) (E.int 0)).or (E.cmp .Lt (E.loc 2) (E.int 1))) [S.raise (xc 5)] [],
  S.asg 3 (E.bin .Mult (E.list [E.int 0]) ((E.loc 0).attr 0)),S.asg 4 (E.bin .Mult (E.list [E.int 0]) ((E.loc 0).attr 0)),
  S.forS [5] true (It.e (E.blt .range [E.bin .Add ((E.loc 0).attr 0) (E.int 1)])) eR,
  S.ret (E.tup [E.call 4 [E.loc 4,E.loc 6,(E.loc 0).attr 0],E.none])] }
noncomputable def intsV (m:Nat) (S:Nat→Int):List V:=(List.range m).map fun v=>V.int (S v)
theorem bK {m:Nat}{S:Nat→Int}:(intsV m S).length=m:=by unfold intsV; rw [List.length_map,List.length_range]
theorem cF {m v:Nat}{S:Nat→Int} (h:v < m):(intsV m S)[v]?=some (V.int (S v)):=by unfold intsV; rw [List.getElem?_map,List.getElem?_range h]; rfl
theorem rf {α:Type}{m e:Nat}{f:Nat→α}{x:α}:((List.range m).map f).set e x=(List.range m).map (upd f e x):=by
 apply List.ext_getElem
 ·rw [List.length_set,List.length_map,List.length_map]
 ·intro i h1 h2
  rw [List.getElem_set,List.getElem_map,List.getElem_map,List.getElem_range]
  unfold upd
  by_cases h:e=i
  ·rw [if_pos h,if_pos h.symm]
  ·rw [if_neg h,if_neg (Ne.symm h)]
theorem oN {m e:Nat}{S:Nat→Int}{x:Int}:(intsV m S).set e (V.int x)=intsV m (upd S e x):=by
 unfold intsV
 rw [rf]
 refine List.map_congr_left fun v _=>?_
 unfold upd; split <;> rfl
theorem px {m e x:Nat}{B:Nat→Nat}:(natsV ((List.range m).map B)).set e (V.int x)=natsV ((List.range m).map (upd B e x)):=by
 unfold natsV
 rw [List.map_map,List.map_map,rf]
 refine List.map_congr_left fun v _=>?_
 show upd _ e _ v=V.int ((upd B e x v:Nat):Int)
 unfold upd; split <;> rfl
theorem rH {σ:Sto}{l k:Nat}{xs:List V}{v:V} (h:σ[l]?=some (.lst xs)) (hk:k < xs.length):dz (.ref l) (.int k) v σ=some (dw σ l (xs.set k v)):=by
 unfold dz; dsimp only; rw [h]; show (if _ then _ else _)=_; rw [if_pos ⟨Int.natCast_nonneg k,Int.ofNat_lt.mpr hk⟩]; rfl
noncomputable def bN (σ:Sto) (m:Nat) (S:Nat→Int) (B:Nat→Nat):Sto:=σ ++ [.lst [.int 0],.lst (intsV m S),.lst [.int 0],.lst (natsV ((List.range m).map B))]
section
variable {σ:Sto}{m:Nat}{S:Nat→Int}{B:Nat→Nat}
theorem jS:(bN σ m S B)[σ.length + 1]?=some (.lst (intsV m S)):=by unfold bN; rw [List.getElem?_append_right (by lia),show σ.length + 1 - σ.length=1 by lia]; rfl
theorem uq:(bN σ m S B)[σ.length + 3]?=some (.lst (natsV ((List.range m).map B))):=by unfold bN; rw [List.getElem?_append_right (by lia),show σ.length + 3 - σ.length=3 by lia]; rfl
theorem r9 {e:Nat}{x:Int}:dw (bN σ m S B) (σ.length + 1) ((intsV m S).set e (V.int x))=bN σ m (upd S e x) B:=by
 unfold dw bN
 rw [oN,List.set_append_right _ _ (by lia),show σ.length + 1 - σ.length=1 by lia]; rfl
theorem p9 {e x:Nat}:dw (bN σ m S B) (σ.length + 3) ((natsV ((List.range m).map B)).set e (V.int x))=bN σ m S (upd B e x):=by
 unfold dw bN
 rw [px,List.set_append_right _ _ (by lia),show σ.length + 3 - σ.length=3 by lia]; rfl
end
noncomputable def n6:Option Nat→V
 | none=>.none
 | some e=>.int e
section
variable {P:Nat→Option Fn}{wf n:Nat} {σ:Sto}{l m num div:Nat}{ws:List Way}
noncomputable def eZ (σ:Sto) (l num div:Nat) (x5 x6 x7 x8 x9 x10:Option V):Fra:=[some (.ref l),some (.int num),some (.int div),some (.ref (σ.length + 1)),some (.ref (σ.length + 3)),x5,x6,x7,x8,x9,x10,none,none,none]
theorem qv {call:Nat→List V→Sto→RE}{t i:Nat}{w:Way}{st:St}{x5 x7 x8 x9 x10:Option V} (ht:1 ≤ t) (hd:div < 2 ^ 64) (hm:∀ w ∈ ws,w.1 < m ∧ w.2.1 < m) (I:Inv ws num div t i st) (hw:ws[i]?=some w) :
  nP [7,8,9] false (evSs call wf g8) (bk w) (eZ σ l num div x5 (some (n6 st.last)) x7 x8 x9 x10) (bN σ m st.S st.B)
   (fun fr σ'=>∃ (st':St) (x7 x8 x9 x10:Option V),Inv ws num div t (i + 1) st' ∧ fr=eZ σ l num div x5 (some (n6 st'.last)) x7 x8 x9 x10 ∧ σ'=bN σ m st'.S st'.B ∧ ((∀ v,st.B v < m)→∀ v,st'.B v < m)) (fun _ _=>False):=by
 obtain ⟨b,e,d⟩:=w
 have hmem:=List.mem_of_getElem? hw
 obtain ⟨hb,he⟩:b < m ∧ e < m:=hm _ hmem
 have I':=ri ht I hw
 have mul:∀ σ:Sto,oA .Mult (.int div) (.int d) σ=.ok (.int ((div:Int) * d)) σ:=fun σ=>if_pos (.inl hd)
 have look:evE call (E.bin .Sub (E.bin .Add ((E.loc 3).sub (E.loc 7)) (E.bin .Mult (E.loc 2) (E.loc 9))) (E.loc 1)) (eZ σ l num div x5 (some (n6 st.last)) (some (.int b)) (some (.int e)) (some (.int d)) x10) (bN σ m st.S st.B)=.ok (.int (bi num div st.S (b,e,d))) (bN σ m st.S st.B) :=
  ax (ax (aK (ac rfl) (ac rfl) (bf jS (cF hb))) (ax (ac rfl) (ac rfl) (mul _)) rfl) (ac rfl) rfl
 refine ⟨eZ σ l num div x5 (some (n6 st.last)) (some (.int b)) (some (.int e)) (some (.int d)) x10,rfl,.inl ?_⟩
 unfold vD at I'
 by_cases hlt:st.S e < bi num div st.S (b,e,d)
 ·rw [if_pos hlt] at I'
  refine ⟨_,_,am look (by decide:10 < 14) (d3 (aH (aK (ac rfl) (ac rfl) (bf jS (cF he))) (ac rfl) (congrArg some (decide_eq_true hlt)))
   (jx (ac rfl) (ac rfl) (ac rfl) (rH jS (by rw [bK]; exact he)) (jx (ac rfl) (ac rfl) (ac rfl) (by rw [r9]; exact rH uq (by rw [av,List.length_map,List.length_range]; exact he)) (am (ac rfl) (by decide:6 < 14) aS))) aS),_,_,_,_,_,I',rfl,?_,fun hB v=>?_⟩
  ·rw [p9]
  ·show upd st.B e b v < m
   unfold upd; split
   ·exact hb
   ·exact hB v
 ·rw [if_neg hlt] at I'
  exact ⟨_,_,am look (by decide:10 < 14) (aM (aH (aK (ac rfl) (ac rfl) (bf jS (cF he))) (ac rfl) (congrArg some (decide_eq_false hlt))) aS),_,_,_,_,_,I',rfl,rfl,fun hB=>hB⟩
end
end Mine
namespace Mine
open PySem
theorem mZ.turn {tg:List Nat}{one:Bool}{body:Fra→Sto→RS}{v:V}{fr fr1:Fra} {σ:Sto}{I J:Fra→Sto→Prop}{Rt:V→Sto→Prop} (h:bw tg one v fr=some fr1) (d:mZ (body fr1 σ) I Rt) (hIJ:∀ fr σ,I fr σ→J fr σ):nP tg one body v fr σ J Rt :=
 ⟨fr1,h,d.elim (fun ⟨f,s,e,i⟩=>.inl ⟨f,s,e,hIJ _ _ i⟩) fun ⟨w,f,s,e,i⟩=>.inr ⟨w,f,s,e,i⟩⟩
inductive lq (σ:Sto) (m num div:Nat) (ws:List Way):V→Sto→Prop
 | mk (S:Nat→Int) (B:Nat→Nat) (hs:∀ w ∈ ws,dr num div S w):lq σ m num div ws (.tup [.none,.ref (σ.length + 1)]) (bN σ m S B)
inductive qN (σ:Sto) (l m num div:Nat) (ws:List Way) (t:Nat) (x5:Option V):Fra→Sto→Prop
 | mk (st:St) (e:Nat) (x7 x8 x9 x10:Option V) (I:Inv ws num div t ws.length st) (hl:st.last=some e) (hB:∀ v,st.B v < m):qN σ l m num div ws t x5 (eZ σ l num div x5 (some (.int e)) x7 x8 x9 x10) (bN σ m st.S st.B)
inductive ul (σ:Sto) (l m num div:Nat) (ws:List Way) (t:Nat) (x5:Option V) (i:Nat):Fra→Sto→Prop
 | mk (st:St) (x7 x8 x9 x10:Option V) (I:Inv ws num div t i st) (hB:∀ v,st.B v < m):ul σ l m num div ws t x5 i (eZ σ l num div x5 (some (n6 st.last)) x7 x8 x9 x10) (bN σ m st.S st.B)
section
variable {P:Nat→Option Fn}{wf n:Nat} {σ:Sto}{l m num div:Nat}{ws:List Way}
theorem qM {call:Nat→List V→Sto→RE}{t:Nat}{st:St}{x5 x6 x7 x8 x9 x10:Option V} (W:a9 σ l m ws) (ht:1 ≤ t) (hd:div < 2 ^ 64) (hm:∀ w ∈ ws,w.1 < m ∧ w.2.1 < m) (I:Inv ws num div t 0 { st with last:=none }) (hB:∀ v,st.B v < m) :
  mZ (evSs call wf eR (eZ σ l num div x5 x6 x7 x8 x9 x10) (bN σ m st.S st.B)) (qN σ l m num div ws t x5) (lq σ m num div ws):=by
 obtain ⟨dd,lw,a,b,c⟩:=W.at'
 have lp:=l8 (call:=call) (wf:=wf) (tg:=[7,8,9]) (one:=false) (ws:=ws) (g:=bk) (it:=(E.loc 0).attr 1) (bs:=g8) (fr:=eZ σ l num div x5 (some .none) x7 x8 x9 x10) (σ:=bN σ m st.S st.B)
  (ul σ l m num div ws t x5) (fun _ _=>False)
  (cO (ac rfl) (dg (ap a) (ap b))) (by rintro i _ _ ⟨st,_,_,_,_,_,_⟩; exact af (ap c))
  (by
   rintro i w _ _ hw ⟨st,y7,y8,y9,y10,I,hB⟩
   obtain ⟨fr1,h1,h2 | ⟨_,_,_,_,q⟩⟩:=qv (call:=call) (wf:=wf) (σ:=σ) (l:=l) (x5:=x5) (x7:=y7) (x8:=y8) (x9:=y9) (x10:=y10) ht hd hm I hw
   ·obtain ⟨fr2,σ2,h2,st',z7,z8,z9,z10,I',rfl,rfl,hB'⟩:=h2
    exact ⟨fr1,h1,.inl ⟨_,_,h2,st',z7,z8,z9,z10,I',hB' hB⟩⟩
   ·exact q.elim) ⟨{ st with last:=none },x7,x8,x9,x10,I,hB⟩
 obtain ⟨fr1,σ1,e1,st1,y7,y8,y9,y10,I1,hB1⟩:=lp.next
 have e0:∀ r,evSs call wf [S.ifS (E.cmp .Is (E.loc 6) E.none) [S.ret (E.tup [E.none,E.loc 3])] []] (eZ σ l num div x5 (some (n6 st1.last)) y7 y8 y9 y10) (bN σ m st1.S st1.B)=r→evSs call wf eR (eZ σ l num div x5 x6 x7 x8 x9 x10) (bN σ m st.S st.B)=r :=
  fun r h=>am dD (by decide:6 < 14) (aT e1 h)
 cases hl:st1.last with
 | none =>
  refine .inr ⟨_,_,_,e0 _ (cp (aH (p:=true) (ac rfl) dD (by rw [hl]; rfl)) (aI (iz (aa dD (aa (ac rfl) ae)) (by decide:2 ≤ 1000)))),⟨_,_,s5 I1 hl⟩⟩
 | some e =>
  refine .inl ⟨eZ σ l num div x5 (some (.int e)) y7 y8 y9 y10,_,e0 _ (aM (aH (p:=false) (ac rfl) dD (by rw [hl]; rfl)) (by rw [hl]; rfl)),⟨st1,e,y7,y8,y9,y10,I1,hl,hB1⟩⟩
inductive lU (σ:Sto) (m num div:Nat) (ws:List Way):V→Sto→Prop
 | none (ls:Nat) (S:Nat→Int) (τ:Sto) (h:(σ ++ τ)[ls]?=some (.lst (intsV m S))) (hs:∀ w ∈ ws,dr num div S w) (hf:σ.length ≤ ls):lU σ m num div ws (.tup [.none,.ref ls]) (σ ++ τ)
 | ring (lr:Nat) (r:List Nat) (τ:Sto) (h:(σ ++ τ)[lr]?=some (.lst (natsV r))) (R:cU ws m r) (hlt:num * r.length < div * rtot ws r r.length) (hmin:∀ x ∈ r,r.getD 0 0 ≤ x) (hf:σ.length ≤ lr):lU σ m num div ws (.tup [.ref lr,.none]) (σ ++ τ)
inductive xL (σ:Sto) (l m num div:Nat) (ws:List Way) (i:Nat):Fra→Sto→Prop
 | mk (st:St) (x5 x6 x7 x8 x9 x10:Option V) (I:Inv ws num div (i + 1) 0 { st with last:=none }) (hB:∀ v,st.B v < m) (hI:1 ≤ i→Inv ws num div i ws.length st ∧ ∃ e,st.last=some e ∧ x6=some (.int e)):xL σ l m num div ws i (eZ σ l num div x5 x6 x7 x8 x9 x10) (bN σ m st.S st.B)
theorem kF (h3:P 3=some hZ) (h4:P 4=some du) (h5:P 5=some gU) (W:a9 σ l m ws) (m1:1 ≤ m) (m2:m ≤ 12) (d1:1 ≤ div) (hd:div < 2 ^ 64) (hm:∀ w ∈ ws,w.1 < m ∧ w.2.1 < m) (hw:13 ≤ wf) :
  ∃ v σ',evFn P wf (n + 3) 5 [.ref l,.int num,.int div] σ=.ok v σ' ∧ lU σ m num div ws v σ':=by
 obtain ⟨dd,lw,a,b,c⟩:=W.at'
 have rep:∀ σ':Sto,oA .Mult (.ref σ'.length) (.int m) (σ' ++ [.lst [.int 0]])=.ok (.ref (σ'.length + 1)) (σ' ++ [.lst [.int 0]] ++ [.lst (List.replicate m (.int 0))]):=fun σ'=>by
  show yR (getL (σ' ++ [.lst [.int 0]]) σ'.length) m (σ' ++ [.lst [.int 0]])=_
  rw [af aj]
  show (if (-1000000:Int) ≤ (m:Int) then cQ (List.replicate (m:Int).toNat (V.int 0)) (σ' ++ [.lst [.int 0]]) else .bad)=_
  rw [if_pos (by lia),ai (by rw [List.length_replicate]; lia),List.length_append]; rfl
 have z1:List.replicate m (V.int 0)=intsV m (fun _=>0):=by
  unfold intsV
  apply List.ext_getElem
  ·rw [List.length_replicate,List.length_map,List.length_range]
  ·intro i h1 h2; rw [List.getElem_replicate,List.getElem_map]
 have z2:List.replicate m (V.int 0)=natsV ((List.range m).map fun _=>0):=by
  rw [z1]; unfold intsV natsV; rw [List.map_map]; rfl
 have lp:=kO (call:=evFn P wf (n + 2)) (wf:=wf) (tg:=[5]) (one:=true) (ws:=List.range (m + 1)) (g:=fun (v:Nat)=>V.int v) (it:=E.blt .range [E.bin .Add ((E.loc 0).attr 0) (E.int 1)]) (bs:=eR) (fr:=eZ σ l num div none none none none none none) (σ:=bN σ m (fun _=>0) (fun _=>0))
  (xL σ l m num div ws) (lq σ m num div ws)
  (aR (aa (ax (cO (ac rfl) (bG (ap a) (ap b))) ak rfl) ae) (bh (k:=m + 1) (by lia))) (bo (m + 1))
  (by
   rintro i v _ _ hv ⟨st,x5,x6,x7,x8,x9,x10,I,hB,_⟩
   refine mZ.turn rfl (qM (x5:=some (.int v)) W (Nat.succ_le_succ (Nat.zero_le _)) hd hm I hB) ?_
   rintro _ _ ⟨st',e,y7,y8,y9,y10,I',hl,hB'⟩
   exact ⟨st',_,_,y7,y8,y9,y10,sK I',hB',fun _=>⟨I',e,hl,rfl⟩⟩)
  ⟨⟨fun _=>0,fun _=>0,none,fun _=>0,fun _=>0⟩,none,none,none,none,none,none,pc,fun _=>m1,fun h=>absurd h (by decide)⟩
 have e0:∀ r,evSs (evFn P wf (n + 2)) wf [S.forS [5] true (It.e (E.blt .range [E.bin .Add ((E.loc 0).attr 0) (E.int 1)])) eR,S.ret (E.tup [E.call 4 [E.loc 4,E.loc 6,(E.loc 0).attr 0],E.none])] (eZ σ l num div none none none none none none) (bN σ m (fun _=>0) (fun _=>0))=r →
   evSs (evFn P wf (n + 2)) wf gU.body (aW gU [.ref l,.int num,.int div]) σ=r:=fun r h=>by
  refine aM (iu (aH (p:=false) (ac rfl) ak (congrArg some (decide_eq_false (by lia)))) (aH (p:=false) (ac rfl) ak (congrArg some (decide_eq_false (by lia))))) (am (ax (bc (aa ak ae) (ai (by decide:1 ≤ 16777216))) (cO (ac rfl) (bG (ap a) (ap b))) (rep σ)) (by decide:3 < 14)
   (am (ax (bc (aa ak ae) (ai (by decide:1 ≤ 16777216))) (cO (ac rfl) (bG (ap (ap (ap a))) (ap (ap (ap b))))) (rep _)) (by decide:4 < 14) ?_))
  have e3:(σ ++ [AO.lst [V.int 0]] ++ [AO.lst (List.replicate m (V.int 0))] ++ [AO.lst [V.int 0]] ++ [AO.lst (List.replicate m (V.int 0))])=bN σ m (fun _=>0) (fun _=>0):=by
   unfold bN; rw [← z1,← z2,List.append_assoc,List.append_assoc,List.append_assoc]; rfl
  rw [e3]
  have e4:(σ ++ [AO.lst [V.int 0]] ++ [AO.lst (List.replicate m (V.int 0))]).length + 1=σ.length + 3:=by rw [List.length_append,List.length_append]; rfl
  rw [e4]
  exact h
 refine cps fun G0 k0=>?_
 rcases lp with ⟨fr,σ1,e1,st,x5,x6,x7,x8,x9,x10,_,hB,hI⟩ | ⟨v,fr,σ1,e1,S,B,hs⟩
 ·rw [List.length_range] at hI
  obtain ⟨I,e,hl,rfl⟩:=hI (Nat.succ_le_succ (Nat.zero_le _))
  obtain ⟨q,q1,q2,q3,q4,q5⟩:=lg (fun w hw=>(hm w hw).2) I hl
  have hway:∀ k,(st.B (iter st.B k e),iter st.B k e,st.W (iter st.B k e)) ∈ ws:=fun k=>(I.A _ (q5 k)).1
  have hlt:∀ k,iter st.B k e < m:=fun k=>(hm _ (hway k)).2
  obtain ⟨k,τ,lr,k1,kf,k2,k3,k4⟩:=ix (wf:=wf) (n:=n) (σ:=bN σ m st.S st.B) h3 h4 uq hlt m2 q1 q2 q3 q4 hw
  obtain ⟨R,R1,R2⟩:=s4 (ws:=ws) (num:=num) (div:=div) (m:=m) (W:=st.W) rfl q1 k1 q3 q4 (fun j=>by rw [← bz]; exact hway _) (fun j=>by rw [← bz]; exact hlt _) (I.D _ (fun v hv=>by
   obtain ⟨j,_,rfl⟩:=List.mem_map.mp hv
   rw [← bz]; exact q5 _) (o8 q1 q3))
  refine k0 ⟨_,_,bj h5 rfl (e0 _ (aT e1 (aI (iz (aa (aE (aa (ac rfl) (aa (ac rfl) (aa (cO (ac rfl) (bG (ap a) (ap b))) ae))) k2) (aa dD ae)) (by decide:2 ≤ 1000))))),?_⟩
  have ea:bN σ m st.S st.B ++ τ=σ ++ ([.lst [.int 0],.lst (intsV m st.S),.lst [.int 0],.lst (natsV ((List.range m).map st.B))] ++ τ):=by unfold bN; rw [List.append_assoc]
  rw [ea] at k3 ⊢
  refine .ring lr _ _ k3 R (by rw [R1]; exact R2) (fun x hx=>?_) (Nat.le_trans (List.Sublist.length_le (List.sublist_append_left _ _)) kf)
  have hq:(backs st.B (iter st.B m e) q).reverse.length=q:=by rw [List.length_reverse,aV]
  rw [fz (by rw [hq]; exact k1) (by rw [hq]; exact q1),Nat.add_zero,Nat.mod_eq_of_lt (by rw [hq]; exact k1)]
  refine k4 x ?_
  rcases List.mem_append.mp hx with h | h
  ·exact List.mem_of_mem_drop h
  ·exact List.mem_of_mem_take h
 ·exact k0 ⟨_,_,bj h5 rfl (e0 _ (gI e1)),.none _ S _ jS hs (Nat.le_add_right _ _)⟩
end
end Mine
namespace Mine
open PySem
theorem fX {ws:List Way}{m:Nat}{r:List Nat} (R:cU ws m r):r.length ≤ m:=cV m r R.nd R.lt
theorem dm {ws:List Way}{m:Nat}{r:List Nat} (R:cU ws m r):1 ≤ r.length:=Nat.pos_of_ne_zero fun e=>R.ne (List.length_eq_zero_iff.mp e)
theorem s6 {ws:List Way}{m:Nat}{r:List Nat} (R:cU ws m r) {k:Nat} (hk:k < r.length):cU ws m (r.drop k ++ r.take k):=by
 have hl:(r.drop k ++ r.take k).length=r.length:=cy.length_eq
 have p:(r.drop k ++ r.take k).Perm r:=List.perm_append_comm.trans (by rw [List.take_append_drop])
 refine ⟨fun q=>?_,p.nodup_iff.mpr R.nd,fun v hv=>R.lt v (p.mem_iff.mp hv),fun i hi=>?_⟩
 ·rw [q] at hl; have:r.length=0:=hl.symm
  lia
 ·rw [hl] at hi ⊢
  rw [fz hk hi,fz hk (Nat.mod_lt _ (by lia)),Nat.add_mod_mod,← Nat.add_assoc,← Nat.mod_add_mod (k + i)]
  exact R.way _ (Nat.mod_lt _ (by lia))
noncomputable def fF (ws:List Way) (a:Nat):List Nat:=(ws.filter fun w=>w.1 == a).map (·.2.1)
noncomputable def nx (ws:List Way) (a:Nat):Nat:=(fF ws a).headD 0
def uR (ws:List Way) (m:Nat):Prop:=∀ a,a < m→∃ w ∈ ws,w.1=a
section
variable {ws:List Way}{m:Nat}
theorem lO (hO:uR ws m) {a:Nat} (h:a < m):(fF ws a)[0]?=some (nx ws a) ∧ ∃ d,(a,nx ws a,d) ∈ ws:=by
 obtain ⟨w,hw,rfl⟩:=hO a h
 unfold nx
 cases q:fF ws w.1 with
 | nil =>
  have:w.2.1 ∈ fF ws w.1:=List.mem_map.mpr ⟨w,List.mem_filter.mpr ⟨hw,by simp⟩,rfl⟩
  rw [q] at this; cases this
 | cons x l =>
  refine ⟨rfl,?_⟩
  have:x ∈ fF ws w.1:=by rw [q]; exact .head _
  obtain ⟨u,hu,rfl⟩:=List.mem_map.mp this
  obtain ⟨hu,he⟩:=List.mem_filter.mp hu
  have he:u.1=w.1:=by simpa using he
  exact ⟨u.2.2,by rw [← he]; exact hu⟩
theorem Al (hO:uR ws m) (hm:∀ w ∈ ws,w.1 < m ∧ w.2.1 < m) {a:Nat} (h:a < m):nx ws a < m:=let ⟨_,d,hd⟩:=lO hO h; (hm _ hd).2
theorem i8 (hO:uR ws m) (hm:∀ w ∈ ws,w.1 < m ∧ w.2.1 < m) {a:Nat} (h:a < m):∀ k,iter (nx ws) k a < m
 | 0=>h
 | k + 1=>Al hO hm (i8 hO hm h k)
theorem mA {B:Nat→Nat}{u q i:Nat} (h:i < q):(backs B u q).getD i 0=iter B i u:=by rw [List.getD_eq_getElem?_getD,eO h]; rfl
theorem su (hO:uR ws m) (hm:∀ w ∈ ws,w.1 < m ∧ w.2.1 < m) {u q:Nat} (hu:u < m) (q1:1 ≤ q) (hq:iter (nx ws) q u=u) (nd:(backs (nx ws) u q).Nodup):cU ws m (backs (nx ws) u q):=by
 refine ⟨fun e=>?_,nd,fun v hv=>?_,fun i hi=>?_⟩
 ·have:=congrArg List.length e
  rw [aV] at this
  simp at this; lia
 ·obtain ⟨j,_,rfl⟩:=List.mem_map.mp hv
  exact i8 hO hm hu j
 ·rw [aV] at hi ⊢
  have e:(backs (nx ws) u q).getD ((i + 1) % q) 0=nx ws (iter (nx ws) i u):=by
   rw [mA (Nat.mod_lt _ q1)]
   by_cases h:i + 1=q
   ·rw [h,Nat.mod_self]
    show u=iter (nx ws) (i + 1) u
    rw [h,hq]
   ·rw [Nat.mod_eq_of_lt (by lia)]; rfl
  rw [e,mA hi]
  obtain ⟨_,d,hd⟩:=lO hO (i8 hO hm hu i)
  exact (lK hd).1
end
noncomputable def rP:List S :=
 [S.asg 2 ((E.comp [1] true ((E.loc 0).attr 1) [E.cmp .Eq ((E.loc 1).sub (E.int 0)) ((E.loc 2).sub (E.int 1).neg)] ((E.loc 1).sub (E.int 1)) [none,none,some 1]).sub (E.int 0)),
  S.ifS (E.cmp .In (E.loc 2) (E.loc 1)) [S.ret (E.call 3 [(E.loc 1).slo ((E.loc 1).meth .index [E.loc 2])])] [],
  S.expr ((E.loc 1).meth .append [E.loc 2])]
noncomputable def jh:Fn:={ ps:=[0],size:=4,body:=[S.asg 1 (E.list [E.int 0]),S.whileS (E.bool true) rP] }
theorem lH {x:Nat}{r:List Nat}:((x:Int) ∈ r.map fun (d:Nat)=>(d:Int)) ↔ x ∈ r:=by
 rw [List.mem_map]
 exact ⟨fun ⟨y,hy,e⟩=>by rwa [← Int.ofNat.inj e],fun h=>⟨x,h,rfl⟩⟩
theorem uH {σ:Sto}{l x:Nat}{r:List Nat} (h:σ[l]?=some (.lst (natsV r))):gP .In (.int x) (.ref l) σ=some (decide (x ∈ r)):=by
 show inV σ (.int x) (.ref l)=_
 unfold inV; dsimp only; rw [h]; show (aB _).map _=_
 have:aB (natsV r)=some (r.map fun (d:Nat)=>(d:Int)):=bQ r
 rw [this]
 show some (decide ((x:Int) ∈ _))=_
 exact congrArg some (decide_eq_decide.mpr lH)
theorem yg {σ:Sto}{l x:Nat}{r:List Nat} (hx:x ∈ r) (hl:r.length ≤ 1000) (hlt:∀ v ∈ r,v < 1000):∃ k,r[k]?=some x ∧ dA .index l (natsV r) [.int x] σ=.ok (.int (k:Nat)) σ:=by
 have hx':(x:Int) ∈ r.map fun (d:Nat)=>(d:Int):=lH.mpr hx
 have hk:(r.map fun (d:Nat)=>(d:Int)).idxOf (x:Int) < (r.map fun (d:Nat)=>(d:Int)).length:=List.idxOf_lt_length_of_mem hx'
 refine ⟨(r.map fun (d:Nat)=>(d:Int)).idxOf (x:Int),?_,?_⟩
 ·have e1:(r.map fun (d:Nat)=>(d:Int))[(r.map fun (d:Nat)=>(d:Int)).idxOf (x:Int)]=(x:Int):=List.getElem_idxOf _
  rw [List.getElem_map] at e1
  rw [List.getElem?_eq_getElem (by rwa [List.length_map] at hk)]
  exact congrArg some (Int.ofNat.inj e1)
 ·show (match aB (natsV r) with | some is=>if sh (x:Int) is then RE.ok (.int (is.idxOf (x:Int))) σ else .bad | none=>.bad)=_
  have:aB (natsV r)=some (r.map fun (d:Nat)=>(d:Int)):=bQ r
  rw [this]
  exact if_pos ⟨hx',by rw [List.length_map]; exact hl,fun j hj=>by
   obtain ⟨y,hy,rfl⟩:=List.mem_map.mp hj
   have:=hlt y hy
   lia⟩
section
variable {P:Nat→Option Fn}{wf n:Nat} {σ:Sto}{l m:Nat}{ws:List Way}
def j0 (σ:Sto) (ws:List Way) (m:Nat) (v:V) (σ':Sto):Prop:=∃ lr r τ,v=.ref lr ∧ σ'=σ ++ τ ∧ (σ ++ τ)[lr]?=some (.lst (natsV r)) ∧ cU ws m r ∧ (∀ x ∈ r,r.getD 0 0 ≤ x) ∧ σ.length ≤ lr
theorem iO {B:Nat→Nat}{i k:Nat} (hi:i < k):(backs B 0 k).drop i=backs B (iter B i 0) (k - i):=by
 apply List.ext_getElem?
 intro j
 rw [List.getElem?_drop]
 by_cases hj:j < k - i
 ·rw [eO (Nat.add_lt_of_lt_sub' hj),eO hj,bz]
 ·rw [List.getElem?_eq_none_iff.mpr (by rw [aV]; lia),List.getElem?_eq_none_iff.mpr (by rw [aV]; exact Nat.le_of_not_lt hj)]
theorem qg {ws:List Way}{m i k:Nat} (hO:uR ws m) (hm:∀ w ∈ ws,w.1 < m ∧ w.2.1 < m) (lt:∀ k,iter (nx ws) k 0 < m) (hi:i < k + 1) (hii:iter (nx ws) i 0=iter (nx ws) (k + 1) 0) (hne:∀ i j,i < j→j ≤ k→iter (nx ws) i 0 ≠ iter (nx ws) j 0):cU ws m ((backs (nx ws) 0 (k + 1)).drop i):=by
 rw [iO hi]
 refine su hO hm (lt i) (Nat.sub_pos_of_lt hi) (by rw [← bz,Nat.add_sub_cancel' (Nat.le_of_lt hi)]; exact hii.symm) ?_
 rw [← iO hi]
 refine List.Sublist.nodup (List.drop_sublist _ _) ?_
 unfold backs
 rw [List.Nodup,List.pairwise_iff_getElem]
 intro p q hp hq hpq e
 rw [List.length_map,List.length_range] at hq
 rw [List.getElem_map,List.getElem_map,List.getElem_range,List.getElem_range] at e
 exact hne p q hpq (Nat.le_of_lt_succ hq) e
theorem se (h3:P 3=some hZ) (W:a9 σ l m ws) (hz:ws.length ≤ 60) (m1:1 ≤ m) (m2:m ≤ 12) (hO:uR ws m) (hm:∀ w ∈ ws,w.1 < m ∧ w.2.1 < m):∀ (d k f:Nat) (τ:Sto) (x2:Option V),k + d=m→d < f→(∀ i j,i < j→j ≤ k→iter (nx ws) i 0 ≠ iter (nx ws) j 0) →
  ∃ v fr σ',cS (evE (evFn P wf (n + 1)) (.bool true)) (evSs (evFn P wf (n + 1)) wf rP) f [some (.ref l),some (.ref σ.length),x2,none] (σ ++ .lst (natsV (backs (nx ws) 0 (k + 1))) :: τ)=.ok (.ret v) fr σ' ∧ j0 σ ws m v σ':=by
 obtain ⟨dd,lw,a,b,c⟩:=W.at'
 have lt:∀ k,iter (nx ws) k 0 < m:=i8 hO hm m1
 intro d
 induction d with
 | zero =>
  intro k f τ x2 hk hf hne
  obtain ⟨i,j,hij,hj,e⟩:=uk (m:=m) (f:=fun j=>iter (nx ws) j 0) fun j _=>lt j
  exact absurd e (hne i j hij (by rw [← hk] at hj; exact hj))
 | succ d ih =>
  intro k f τ x2 hk hf hne
  obtain ⟨f,rfl⟩:=Nat.exists_eq_succ_of_ne_zero (Nat.ne_zero_of_lt hf)
  have hk':=lt k
  have hk12:k + 1 ≤ 12:=Nat.le_trans (by rw [← hk]; exact Nat.add_le_add_left (Nat.succ_pos d) k) m2
  have look:evE (evFn P wf (n + 1)) ((E.comp [1] true ((E.loc 0).attr 1) [E.cmp .Eq ((E.loc 1).sub (E.int 0)) ((E.loc 2).sub (E.int 1).neg)] ((E.loc 1).sub (E.int 1)) [none,none,some 1]).sub (E.int 0))
    [some (.ref l),some (.ref σ.length),x2,none] (σ ++ .lst (natsV (backs (nx ws) 0 (k + 1))) :: τ)=.ok (.int (iter (nx ws) (k + 1) 0:Nat)) (σ ++ .lst (natsV (backs (nx ws) 0 (k + 1))) :: (τ ++ [.lst (natsV (fF ws (iter (nx ws) k 0)))])):=by
   have e1:natsV (fF ws (iter (nx ws) k 0))=(ws.filter fun w=>w.1 == iter (nx ws) k 0).map fun w=>V.int w.2.1:=by unfold natsV fF; rw [List.map_map]; rfl
   have e2:σ ++ .lst (natsV (backs (nx ws) 0 (k + 1))) :: (τ ++ [.lst (natsV (fF ws (iter (nx ws) k 0)))])=(σ ++ .lst (natsV (backs (nx ws) 0 (k + 1))) :: τ) ++ [.lst (natsV (fF ws (iter (nx ws) k 0)))]:=by rw [List.append_assoc,List.cons_append]
   rw [e2,e1]
   refine aK (d4 (ws:=ws) (g:=bk) (p:=fun w=>w.1 == iter (nx ws) k 0) (f:=fun w=>V.int w.2.1) (cO (ac rfl) (dg (ap a) (ap b))) (af (ap c)) (fun w hw=>⟨_,rfl,kC (aH (aK (ac rfl) ak rfl) (aK (ac rfl) (qR ak) (lm aj iV)) (congrArg some (cj _ _))),fun _=>aK (ac rfl) ak rfl⟩) (ai ?_)) ak ?_
   ·rw [List.length_map]; exact Nat.le_trans (List.length_filter_le _ _) (Nat.le_trans hz (by decide))
   ·rw [← e1]
    refine bf (k:=0) aj ?_
    unfold natsV
    rw [List.getElem?_map,(lO hO hk').1]; rfl
  by_cases hin:iter (nx ws) (k + 1) 0 ∈ backs (nx ws) 0 (k + 1)
  ·obtain ⟨i,hi,hx⟩:=yg (σ:=σ ++ .lst (natsV (backs (nx ws) 0 (k + 1))) :: (τ ++ [.lst (natsV (fF ws (iter (nx ws) k 0)))])) (l:=σ.length) hin (by rw [aV]; exact Nat.le_trans hk12 (by decide)) (fun v hv=>by
    obtain ⟨j,_,rfl⟩:=List.mem_map.mp hv
    exact Nat.lt_of_lt_of_le (lt j) (Nat.le_trans m2 (by decide)))
   have hi':i < k + 1:=by have:=(List.getElem?_eq_some_iff.mp hi).1; rwa [aV] at this
   have hii:iter (nx ws) i 0=iter (nx ws) (k + 1) 0:=by rw [eO hi'] at hi; exact Option.some.inj hi
   have R:=qg hO hm lt hi' hii hne
   obtain ⟨q,q1,q2,q3⟩:=k7 (wf:=wf) (n:=n) (σ:=σ ++ .lst (natsV (backs (nx ws) 0 (k + 1))) :: (τ ++ [.lst (natsV (fF ws (iter (nx ws) k 0)))]) ++ [.lst (natsV ((backs (nx ws) 0 (k + 1)).drop i))]) h3 aj R.ne (fun v hv=>Nat.lt_of_lt_of_le (R.lt v hv) m2) (Nat.le_trans (fX R) m2)
   have ex:(natsV (backs (nx ws) 0 (k + 1))).drop i=natsV ((backs (nx ws) 0 (k + 1)).drop i):=by unfold natsV; rw [List.map_drop]
   generalize (backs (nx ws) 0 (k + 1)).drop i=r at *
   rw [← ex] at q3
   refine ⟨_,_,_,uF fQ (am look (by decide:2 < 4) (cp (aH (p:=true) (ac rfl) (ac rfl) ((uH aj).trans (congrArg some (decide_eq_true hin)))) (aI (aE (aa (rS (ac rfl) (cm (ac rfl) (af aj) (aa (ac rfl) ae) (af aj) hx) (af aj) (ai ?_)) ae) q3)))),?_⟩
   ·exact Nat.le_trans (List.Sublist.length_le (List.drop_sublist _ _)) (by rw [av,aV]; exact Nat.le_trans hk12 (by decide))
   ·rw [ex]
    refine ⟨_,r.drop q ++ r.take q,.lst (natsV (backs (nx ws) 0 (k + 1))) :: (τ ++ [.lst (natsV (fF ws (iter (nx ws) k 0)))]) ++ [.lst (natsV r)] ++ [.lst (natsV (r.drop q)),.lst (natsV (r.take q)),.lst (natsV (r.drop q ++ r.take q))],rfl,?_,?_,s6 R q1,fun x hx=>?_,?_⟩
    ·rw [List.append_assoc,List.append_assoc,List.append_assoc]
    ·rw [← List.append_assoc,← List.append_assoc,List.getElem?_append_right (Nat.le_add_right _ 2),Nat.add_sub_cancel_left]; rfl
    ·rw [fz q1 (dm R),Nat.add_zero,Nat.mod_eq_of_lt q1]
     refine q2 x ?_
     rcases List.mem_append.mp hx with h | h
     ·exact List.mem_of_mem_drop h
     ·exact List.mem_of_mem_take h
    ·exact Nat.le_trans (List.Sublist.length_le ((List.sublist_append_left _ _).trans (List.sublist_append_left _ _))) (Nat.le_add_right _ _)
  ·have nin:∀ i,i ≤ k→iter (nx ws) i 0 ≠ iter (nx ws) (k + 1) 0:=fun i hi e=>hin (List.mem_map.mpr ⟨i,List.mem_range.mpr (Nat.lt_succ_of_le hi),e⟩)
   obtain ⟨v,fr,σ',h1,h2⟩:=ih (k + 1) f (τ ++ [.lst (natsV (fF ws (iter (nx ws) k 0)))]) (some (.int (iter (nx ws) (k + 1) 0:Nat))) (by rw [Nat.add_right_comm]; exact hk) (Nat.lt_of_succ_lt_succ hf) (fun i j hij hj=>by
    by_cases h:j=k + 1
    ·subst h; exact nin i (Nat.le_of_lt_succ hij)
    ·exact hne i j hij (Nat.le_of_lt_succ (Nat.lt_of_le_of_ne hj h)))
   refine ⟨v,fr,σ',ij fQ (am look (by decide:2 < 4) (aM (aH (p:=false) (ac rfl) (ac rfl) ((uH aj).trans (congrArg some (decide_eq_false hin)))) (be (cm (ac rfl) (af aj) (aa (ac rfl) ae) (af aj) (jT ?_)) aS))) ?_,h2⟩
   ·rw [av,aV]; exact Nat.lt_of_le_of_lt hk12 (by decide)
   ·have e1:dw (σ ++ .lst (natsV (backs (nx ws) 0 (k + 1))) :: (τ ++ [.lst (natsV (fF ws (iter (nx ws) k 0)))])) σ.length (natsV (backs (nx ws) 0 (k + 1)) ++ [V.int (iter (nx ws) (k + 1) 0:Nat)])=σ ++ .lst (natsV (backs (nx ws) 0 (k + 1 + 1))) :: (τ ++ [.lst (natsV (fF ws (iter (nx ws) k 0)))]):=by
     unfold dw
     rw [eu,fw (q:=k + 1)]
     unfold natsV
     rw [List.map_append]; rfl
    rw [e1]
    exact h1
theorem lu (h3:P 3=some hZ) (h6:P 6=some jh) (W:a9 σ l m ws) (hz:ws.length ≤ 60) (m1:1 ≤ m) (m2:m ≤ 12) (hO:uR ws m) (hm:∀ w ∈ ws,w.1 < m ∧ w.2.1 < m) (hw:13 ≤ wf) :
  ∃ v σ',evFn P wf (n + 2) 6 [.ref l] σ=.ok v σ' ∧ j0 σ ws m v σ':=by
 obtain ⟨v,fr,σ',h1,h2⟩:=se (P:=P) (wf:=wf) (n:=n) h3 W hz m1 m2 hO hm m 0 wf [] none (by lia) (by lia) (fun i j hij hj=>by lia)
 exact ⟨v,σ',bj h6 rfl (am (bc (aa ak ae) (ai (by decide:1 ≤ 16777216))) (by decide:1 < 4) (gI (dc h1))),h2⟩
end
end Mine
namespace Mine
inductive iU (ws:List Way) (a:Nat):Nat→Nat→Nat→Prop
 | nil:iU ws a a 0 0
 | step {b c d n t:Nat} (h:iU ws a b n t) (hw:(b,c,d) ∈ ws):iU ws a c (n + 1) (t + d)
theorem sr {ws:List Way}{a b:Nat} (h:aG ws a b ≠ []):(a,b,best ws a b) ∈ ws:=by
 have key:∀ (l:List Nat) (x:Nat),l.foldl max x=x ∨ l.foldl max x ∈ l:=by
  intro l
  induction l with
  | nil=>intro x; exact .inl rfl
  | cons y l ih =>
   intro x
   rw [List.foldl_cons]
   rcases ih (max x y) with e | e
   ·rw [e]
    by_cases hxy:x ≤ y
    ·rw [Nat.max_eq_right hxy]; exact .inr (.head _)
    ·rw [Nat.max_eq_left (by lia)]; exact .inl rfl
   ·exact .inr (.tail _ e)
 have hm:best ws a b ∈ aG ws a b:=by
  unfold best
  cases q:aG ws a b with
  | nil=>exact absurd q h
  | cons x l =>
   rw [List.foldl_cons,Nat.zero_max]
   rcases key l x with e | e
   ·rw [e]; exact .head _
   ·exact .tail _ e
 obtain ⟨w,hw,e⟩:=List.mem_map.mp hm
 obtain ⟨h1,h2⟩:=List.mem_filter.mp hw
 obtain ⟨wa,wb,wd⟩:=w
 have h2:wa=a ∧ wb=b:=by simpa using h2
 rw [← e,← h2.1,← h2.2]; exact h1
section
variable {ws:List Way}{m:Nat}
theorem pT {r:List Nat}{M:Nat} (hd:∀ w ∈ ws,w.2.2 ≤ M) (R:cU ws m r):∀ k,k ≤ r.length→rtot ws r k ≤ M * k
 | 0,_=>Nat.zero_le _
 | k + 1,h=>by
  have h1:=pT hd R k (by lia)
  have h2:best ws (r.getD k 0) (r.getD ((k + 1) % r.length) 0) ≤ M:=hd _ (sr (R.way k (by lia)))
  rw [Nat.mul_succ]
  exact Nat.add_le_add h1 h2
theorem w4 {t n g:Nat} (hg:g=Nat.gcd t n) (hn:1 ≤ n):t / g * n=n / g * t ∧ 1 ≤ n / g ∧ Nat.gcd (t / g) (n / g)=1 ∧ t=g * (t / g) ∧ n=g * (n / g):=by
 subst hg
 have gp:0 < Nat.gcd t n:=Nat.gcd_pos_of_pos_right _ hn
 have d1:t=Nat.gcd t n * (t / Nat.gcd t n):=(Nat.mul_div_cancel' (Nat.gcd_dvd_left _ _)).symm
 have d2:n=Nat.gcd t n * (n / Nat.gcd t n):=(Nat.mul_div_cancel' (Nat.gcd_dvd_right _ _)).symm
 refine ⟨?_,?_,Nat.Coprime.gcd_eq_one (Nat.coprime_div_gcd_div_gcd gp),d1,d2⟩
 ·generalize Nat.gcd t n=g at *
  generalize t / g=x at *
  generalize n / g=y at *
  rw [d1,d2,← Nat.mul_assoc,← Nat.mul_assoc,Nat.mul_comm x g,Nat.mul_comm y g,Nat.mul_right_comm]
 ·exact Nat.div_pos (Nat.gcd_le_right _ hn) gp
theorem zx {t n t' n' a a' N D:Nat} (hg:N * n=D * t) (hD:1 ≤ D) (hn:1 ≤ n) (h:N * n' < D * t') (e:n * a=n' * a') (ha:1 ≤ n * a):t * a < t' * a':=by
 -- t/n < t'/n'
 have h1:t * n' < t' * n:=by
  apply Decidable.byContradiction
  intro hn1
  have h2:t' * n ≤ t * n':=by lia
  have h3:D * (t' * n) ≤ D * (t * n'):=Nat.mul_le_mul_left _ h2
  have h4:D * (t * n')=N * n' * n:=by rw [← Nat.mul_assoc,← hg,Nat.mul_right_comm]
  have h5:N * n' * n < D * t' * n:=Nat.mul_lt_mul_of_pos_right h hn
  rw [h4,← Nat.mul_assoc] at h3
  lia
 have a1:1 ≤ a':=Nat.pos_of_ne_zero fun q=>by rw [q,Nat.mul_zero] at e; lia
 have a0:1 ≤ a:=Nat.pos_of_ne_zero fun q=>by rw [q,Nat.mul_zero] at ha; lia
 have h6:t * n' * (a * a') < t' * n * (a * a'):=Nat.mul_lt_mul_of_pos_right h1 (Nat.mul_pos a0 a1)
 have e1:t * n' * (a * a')=t * a * (n * a):=by rw [e,Nat.mul_comm a a',Nat.mul_assoc,Nat.mul_assoc,← Nat.mul_assoc n',Nat.mul_comm _ a]
 have e2:t' * n * (a * a')=t' * a' * (n * a):=by rw [Nat.mul_assoc,Nat.mul_assoc,← Nat.mul_assoc n,Nat.mul_comm _ a']
 rw [e1,e2] at h6
 exact Nat.lt_of_mul_lt_mul_right h6
end
end Mine
namespace Mine
open PySem
noncomputable def mS:List S :=
 [S.asgT [2,3] (E.call 2 [E.loc 0,E.loc 1]),S.asg 4 (E.call 5 [E.loc 0,E.loc 2,E.loc 3]),
  S.ifS (E.cmp .Is ((E.loc 4).sub (E.int 0)) E.none) [S.ret (E.tup [E.loc 2,E.loc 3,E.loc 1,(E.loc 4).sub (E.int 1)])] [],
  S.asg 1 ((E.loc 4).sub (E.int 0))]
noncomputable def wV:Fn:={ ps:=[0],size:=8,body:=[S.asg 1 (E.call 6 [E.loc 0]),S.whileS (E.bool true) mS] }
structure wt (m:Nat) (ws:List Way):Prop where
 m1:1 ≤ m
 m2:m ≤ 12
 hz:ws.length ≤ 60
 hm:∀ w ∈ ws,w.1 < m ∧ w.2.1 < m
 hd:∀ w ∈ ws,w.2.2 ≤ 9999
 hO:uR ws m
structure o4 (P:Nat→Option Fn):Prop extends Defs1 P where
 h3:P 3=some hZ
 h4:P 4=some du
 h5:P 5=some gU
 h6:P 6=some jh
 h7:P 7=some wV
structure vx (σ:Sto) (m:Nat) (ws:List Way) (N D lr:Nat) (r:List Nat) (ls:Nat) (S:Nat→Int) (τ:Sto):Prop where
 ring:(σ ++ τ)[lr]?=some (.lst (natsV r))
 start:(σ ++ τ)[ls]?=some (.lst (intsV m S))
 ok:cU ws m r
 min:∀ x ∈ r,r.getD 0 0 ≤ x
 hN:N=rtot ws r r.length / Nat.gcd (rtot ws r r.length) r.length
 hD:D=r.length / Nat.gcd (rtot ws r r.length) r.length
 set:∀ w ∈ ws,dr N D S w
 fresh:σ.length ≤ lr ∧ σ.length ≤ ls
theorem sD:∀ n:Nat,1 ≤ n→n ≤ 12→n * (27720 / n)=27720:=by
 intro n h1 h2
 have:∀ n:Fin 13,1 ≤ n.1→n.1 * (27720 / n.1)=27720:=by decide
 exact this ⟨n,by lia⟩ h1
section
variable {P:Nat→Option Fn}{wf n:Nat} {σ:Sto}{l m:Nat}{ws:List Way}
noncomputable def far (ws:List Way) (r:List Nat):Nat:=rtot ws r r.length * (27720 / r.length)
theorem xZ (hd:∀ w ∈ ws,w.2.2 ≤ 9999) (m2:m ≤ 12) {r:List Nat} (R:cU ws m r):far ws r ≤ 9999 * 27720:=by
 have h:=Nat.mul_le_mul_right (27720 / r.length) (pT hd R _ (Nat.le_refl _))
 rw [Nat.mul_assoc,sD _ (dm R) (Nat.le_trans (fX R) m2)] at h
 exact h
inductive lz (σ:Sto) (m:Nat) (ws:List Way):V→Sto→Prop
 | mk (N D lr:Nat) (r:List Nat) (ls:Nat) (S:Nat→Int) (τ:Sto) (R:vx σ m ws N D lr r ls S τ):lz σ m ws (.tup [.int N,.int D,.ref lr,.ref ls]) (σ ++ τ)
theorem qG (H:o4 P) (W:a9 σ l m ws) (O:wt m ws) (hw:13 ≤ wf):∀ (d f lr:Nat) (r:List Nat) (τ:Sto) (x2 x3 x4:Option V),9999 * 27720 ≤ far ws r + d→d < f→(σ ++ τ)[lr]?=some (.lst (natsV r))→cU ws m r→(∀ x ∈ r,r.getD 0 0 ≤ x)→σ.length ≤ lr →
  ∃ v fr σ',cS (evE (evFn P wf (n + 4)) (.bool true)) (evSs (evFn P wf (n + 4)) wf mS) f [some (.ref l),some (.ref lr),x2,x3,x4,none,none,none] (σ ++ τ)=.ok (.ret v) fr σ' ∧ lz σ m ws v σ':=by
 intro d
 induction d using Nat.strongRecOn with
 | _ d ih =>
  intro f lr r τ x2 x3 x4 hd hf hr R hmin hfr
  obtain ⟨f,rfl⟩:∃ g,f=g + 1:=⟨f - 1,by lia⟩
  have hrl:=Nat.le_trans (fX R) O.m2
  obtain ⟨τ1,e1⟩:=vr (wf:=wf) (n:=n) H.toDefs1 (W.app (τ:=τ)) O.hz hr R O.m2 hrl hw
  obtain ⟨g1,g2,g3,g4,g5⟩:=w4 (t:=rtot ws r r.length) rfl (dm R)
  generalize hN:rtot ws r r.length / Nat.gcd (rtot ws r r.length) r.length=N at e1 g1 g3 g4
  generalize hD:r.length / Nat.gcd (rtot ws r r.length) r.length=D at e1 g1 g2 g3 g5
  have hDl:D < 2 ^ 64:=by
   have:D ≤ r.length:=by rw [← hD]; exact Nat.div_le_self _ _
   exact Nat.lt_of_le_of_lt (Nat.le_trans this hrl) (by decide)
  obtain ⟨v,σ2,e2,res⟩:=kF (wf:=wf) (n:=n + 1) (num:=N) (div:=D) H.h3 H.h4 H.h5 (W.app (τ:=τ).app (τ:=τ1)) O.m1 O.m2 g2 hDl O.hm hw
  cases res with
  | none ls S τ2 hls hs hfs =>
   have ea:σ ++ τ ++ τ1 ++ τ2=σ ++ (τ ++ τ1 ++ τ2):=by rw [List.append_assoc,List.append_assoc,List.append_assoc]
   have hr2:=ap (τ:=τ2) (ap (τ:=τ1) hr)
   rw [ea] at hls e2 hr2
   refine ⟨_,_,_,uF fQ (pv (aE (aa (ac rfl) (aa (ac rfl) ae)) e1) rfl (am (aE (aa (ac rfl) (aa (ac rfl) (aa (ac rfl) ae))) e2) (by decide:4 < 8) (cp (aH (aK (ac rfl) ak rfl) dD rfl) (aI (iz (aa (ac rfl) (aa (ac rfl) (aa (ac rfl) (aa (aK (ac rfl) ak rfl) ae)))) (by decide:4 ≤ 1000)))))),N,D,lr,r,ls,S,τ ++ τ1 ++ τ2,hr2,hls,R,hmin,hN.symm,hD.symm,hs,hfr,Nat.le_trans (List.Sublist.length_le ((List.sublist_append_left _ _).trans (List.sublist_append_left _ _))) hfs⟩
  | ring lr' r' τ2 hr' R' hlt hmin' hfs =>
   have hf':=xZ O.hd O.m2 R'
   have hg:far ws r < far ws r':=zx g1 g2 (dm R) hlt ((sD _ (dm R) hrl).trans (sD _ (dm R') (Nat.le_trans (fX R') O.m2)).symm) (by rw [sD _ (dm R) hrl]; decide)
   have ea:σ ++ τ ++ τ1 ++ τ2=σ ++ (τ ++ τ1 ++ τ2):=by rw [List.append_assoc,List.append_assoc,List.append_assoc]
   rw [ea] at hr' e2
   obtain ⟨v,fr,σ',h1,h2⟩:=ih (far ws r + d - far ws r') (by lia) f lr' r' (τ ++ τ1 ++ τ2) (some (.int N)) (some (.int D)) (some (.tup [.ref lr',.none])) (by lia) (by lia) hr' R' hmin' (Nat.le_trans (List.Sublist.length_le ((List.sublist_append_left _ _).trans (List.sublist_append_left _ _))) hfs)
   exact ⟨v,fr,σ',ij fQ (pv (aE (aa (ac rfl) (aa (ac rfl) ae)) e1) rfl (am (aE (aa (ac rfl) (aa (ac rfl) (aa (ac rfl) ae))) e2) (by decide:4 < 8) (aM (aH (aK (ac rfl) ak rfl) dD rfl) (am (aK (ac rfl) ak rfl) (by decide:1 < 8) aS)))) h1,h2⟩
theorem wJ (H:o4 P) (W:a9 σ l m ws) (O:wt m ws) (hw:9999 * 27720 < wf):∃ v σ',evFn P wf (n + 5) 7 [.ref l] σ=.ok v σ' ∧ lz σ m ws v σ':=by
 obtain ⟨v,σ',e1,lr,r,τ,rfl,rfl,hr,R,hmin,hfr⟩:=lu (wf:=wf) (n:=n + 2) H.h3 H.h6 W O.hz O.m1 O.m2 O.hO O.hm (Nat.le_trans (by decide) (Nat.le_of_lt hw))
 obtain ⟨v,fr,σ',h1,h2⟩:=qG (n:=n) H W O (Nat.le_trans (by decide) (Nat.le_of_lt hw)) (9999 * 27720) wf lr r τ none none none (Nat.le_add_left _ _) hw hr R hmin hfr
 exact ⟨v,σ',bj H.h7 rfl (am (aE (aa (ac rfl) ae) e1) (by decide:1 < 8) (gI (dc h1))),h2⟩
end
end Mine
namespace Mine
open PySem
theorem cu {α β γ:Type}{f:β→Option γ}{g:α→β}{h:α→γ}:∀ {l:List α},(∀ a ∈ l,f (g a)=some (h a))→aP f (l.map g)=some (l.map h)
 | [],_=>rfl
 | a :: l,H=>by rw [List.map_cons,List.map_cons,kc,H a (.head _),cu fun b hb=>H b (.tail _ hb)]
theorem jy {σ:Sto}{l n:Nat}{xs:List V}{ds:List PyData} (h:σ[l]?=some (.lst xs)) (hd:aP (toD n σ) xs=some ds):toD (n + 1) σ (.ref l)=some (.list ds):=by
 show (match getL σ l with | some vs=>(aP (toD n σ) vs).map PyData.list | none=>none)=_
 rw [af h]
 show (aP (toD n σ) xs).map PyData.list=_
 rw [hd]; rfl
theorem vc {ds:List PyData}:PyData.eqv (.list ds) (.list [])=ds.isEmpty:=by
 cases ds with
 | nil=>rfl
 | cons d ds=>rfl
theorem gC {σ:Sto}{l k:Nat}{xs:List V}{ds:List PyData} (h:σ[l]?=some (.lst xs)) (hd:aP (toD 4 σ) xs=some ds) (hk:σ[k]?=some (.lst [])):eqV σ (.ref l) (.ref k)=some ds.isEmpty:=by
 unfold eqV
 rw [jy h hd,jy (ds:=[]) hk rfl]
 exact congrArg some vc
noncomputable def xv (r:List Nat):List PyData:=r.map fun (v:Nat)=>.int v
noncomputable def AZ (w:Way):PyData:=.tuple [.int w.1,.int w.2.1,.int w.2.2]
theorem tQ {σ:Sto}{r:List Nat}:aP (toD 4 σ) (natsV r)=some (xv r):=cu fun _ _=>rfl
theorem vG {σ:Sto}{ws:List Way}:aP (toD 4 σ) (ws.map bk)=some (ws.map AZ):=cu fun _ _=>rfl
noncomputable def rj:S:=S.ifS ((E.cmp .Eq ((E.loc 5).sub (E.int 0)) (E.loc 4)).and (E.cmp .NotIn ((E.loc 5).sub (E.int 1)) (E.loc 2)))
 [S.asgI (E.loc 2) ((E.loc 5).sub (E.int 1)) (E.bool true),S.expr ((E.loc 3).meth .append [(E.loc 5).sub (E.int 1)])] []
noncomputable def mf:List S:=[S.asg 4 ((E.loc 3).meth .pop []),S.forS [5] true (It.e (E.loc 1)) [rj]]
noncomputable def hJ:Fn:={ ps:=[0,1],size:=6,body :=
 [S.asg 2 ((E.int 0).dict1 (E.bool true)),S.asg 3 (E.list [E.int 0]),S.whileS (E.cmp .NotEq (E.loc 3) (E.list [])) mf,S.ret (E.loc 2)] }
noncomputable def iA (F:List Nat):List (Int × V):=F.map fun (v:Nat)=>((v:Int),V.bool true)
theorem sZ {F:List Nat}{x:Nat}:((iA F).any fun e=>e.1 == (x:Int))=decide (x ∈ F):=by
 rw [Bool.eq_iff_iff,List.any_eq_true,decide_eq_true_eq]
 constructor
 ·rintro ⟨e,he,q⟩
  obtain ⟨v,hv,rfl⟩:=List.mem_map.mp he
  have:(v:Int)=(x:Int):=eq_of_beq q
  rwa [← Int.ofNat.inj this]
 ·intro h
  exact ⟨_,List.mem_map.mpr ⟨x,h,rfl⟩,beq_self_eq_true _⟩
theorem nv {x:Nat}:∀ {F:List Nat},x ∉ F→mU (x:Int) (.bool true) (iA F)=iA (F ++ [x])
 | [],_=>rfl
 | v :: F,h=>by
  rw [List.mem_cons,not_or] at h
  show (if ((v:Int) == (x:Int)) then ((v:Int),V.bool true) :: iA F else ((v:Int),V.bool true) :: mU (x:Int) (.bool true) (iA F))=_
  rw [cj,if_neg (by simpa using Ne.symm h.1),nv h.2]; rfl
noncomputable def bF (σ:Sto) (F Q:List Nat) (τ:Sto):Sto:=σ ++ .dI (iA F) :: .lst (natsV Q) :: τ
section
variable {σ τ:Sto}{F Q:List Nat}
theorem uZ:(bF σ F Q τ)[σ.length]?=some (.dI (iA F)):=aj
theorem kl:(bF σ F Q τ)[σ.length + 1]?=some (.lst (natsV Q)):=by unfold bF; rw [List.getElem?_append_right (by lia),show σ.length + 1 - σ.length=1 by lia]; rfl
theorem rg {x:Nat} (h:x ∉ F) (hl:F.length ≤ 1000):dz (.ref σ.length) (.int x) (.bool true) (bF σ F Q τ)=some (bF σ (F ++ [x]) Q τ):=by
 unfold dz; dsimp only; rw [uZ]; show (if _ then _ else _)=_
 rw [if_pos (by unfold iA; rw [List.length_map]; lia),nv h]
 unfold bF
 rw [eu]
theorem kU {Q':List Nat}:dw (bF σ F Q τ) (σ.length + 1) (natsV Q')=bF σ F Q' τ:=by
 unfold dw bF
 rw [List.set_append_right _ _ (by lia),show σ.length + 1 - σ.length=1 by lia]; rfl
theorem iL {x:Nat}:gP .NotIn (.int x) (.ref σ.length) (bF σ F Q τ)=some (decide (x ∉ F)):=by
 show iG (bF σ F Q τ) (.int x) (.ref σ.length)=_
 unfold iG inV; dsimp only; rw [uZ]; show some (!(List.any _ _))=_
 rw [sZ]
 refine congrArg some ?_
 by_cases h:x ∈ F <;> simp [h]
theorem rZ {o:AO}:bF σ F Q τ ++ [o]=bF σ F Q (τ ++ [o]):=by unfold bF; rw [List.append_assoc]; rfl
end
def zP (ws:List Way) (v:Nat):Prop:=∀ G:Nat→Prop,G 0→(∀ w ∈ ws,G w.1→G w.2.1)→G v
structure uf (m:Nat) (F Q:List Nat) (ex:Nat→List Way) (ws:List Way):Prop where
 nd:F.Nodup
 lt:∀ v ∈ F,v < m
 mn:∀ v ∈ F,zP ws v
 zero:0 ∈ F
 sub:∀ v ∈ Q,v ∈ F
 cl:∀ w ∈ ws,w.1 ∈ F→w.1 ∉ Q→w ∉ ex w.1→w.2.1 ∈ F
section
variable {P:Nat→Option Fn}{wf n:Nat} {σ:Sto}{lw m:Nat}{ws:List Way}
noncomputable def gM (σ:Sto) (m lw:Nat) (x4 x5:Option V):Fra:=[some (.int m),some (.ref lw),some (.ref σ.length),some (.ref (σ.length + 1)),x4,x5]
noncomputable def after (ws:List Way) (h i:Nat) (v:Nat):List Way:=if v=h then ws.drop i else []
inductive vJ (σ:Sto) (m lw:Nat) (ws:List Way) (h c i:Nat):Fra→Sto→Prop
 | mk (F Q:List Nat) (τ:Sto) (x5:Option V) (C:uf m F Q (after ws h i) ws) (hF:h ∈ F) (hc:Q.length + c=F.length):vJ σ m lw ws h c i (gM σ m lw (some (.int h)) x5) (bF σ F Q τ)
set_option tactic.hygienic true in
theorem oS {call:Nat→List V→Sto→RE}{h i c:Nat}{w:Way}{F Q:List Nat} {τ:Sto}{x5:Option V} (hm:∀ w ∈ ws,w.1 < m ∧ w.2.1 < m) (m2:m ≤ 12) (hw:ws[i]?=some w) (C:uf m F Q (after ws h i) ws) (hF:h ∈ F) (hc:Q.length + c=F.length) :
  nP [5] true (evSs call wf [rj]) (bk w) (gM σ m lw (some (.int h)) x5) (bF σ F Q τ)
   (vJ σ m lw ws h c (i + 1)) (fun _ _=>False):=by
 have hmem:=List.mem_of_getElem? hw
 have hlen:=cV m F C.nd C.lt
 obtain ⟨a,b,d⟩:=w
 have hb:b < m:=(hm _ hmem).2
 have hdrop:ws.drop i=(a,b,d) :: ws.drop (i + 1):=by
  obtain ⟨h1,h2⟩:=List.getElem?_eq_some_iff.mp hw
  rw [List.drop_eq_getElem_cons h1,h2]
 have next:∀ u:Way,u ∉ after ws h (i + 1) u.1→u ≠ (a,b,d)→u ∉ after ws h i u.1:=fun u hu hne=>by
  unfold after at hu ⊢
  split at hu
  ·rename_i e
   rw [if_pos e,hdrop,List.mem_cons,not_or]; exact ⟨hne,hu⟩
  ·rename_i e
   rw [if_neg e]; exact hu
 have test1:evE call (E.cmp .Eq ((E.loc 5).sub (E.int 0)) (E.loc 4)) (gM σ m lw (some (.int h)) (some (bk (a,b,d)))) (bF σ F Q τ)=.ok (.bool (a == h)) (bF σ F Q τ):=aH (aK (ac rfl) ak rfl) (ac rfl) (congrArg some (cj a h))
 refine ⟨gM σ m lw (some (.int h)) (some (bk (a,b,d))),rfl,.inl ?_⟩
 by_cases hn:a=h ∧ b ∉ F
 ·obtain ⟨rfl,hn⟩:=hn
  refine ⟨_,_,d3 (fy (test1.trans (by rw [beq_self_eq_true])) (aH (p:=true) (aK (ac rfl) ak rfl) (ac rfl) (iL.trans (congrArg some (decide_eq_true hn)))))
   (jx fQ (ac rfl) (aK (ac rfl) ak rfl) (rg hn (by lia)) (be (cm (ac rfl) (af kl) (aa (aK (ac rfl) ak rfl) ae) (af kl) (jT ?_)) (?_:_=RS.ok Fl.next (gM σ m lw (some (.int a)) (some (bk (a,b,d)))) (bF σ (F ++ [b]) (Q ++ [b]) τ)))) aS,F ++ [b],Q ++ [b],τ,some (bk (a,b,d)),⟨?_,?_,?_,?_,?_,?_⟩,List.mem_append_left _ hF,?_⟩
  ·rw [av]
   lia
  ·rw [show natsV Q ++ [V.int (b:Nat)]=natsV (Q ++ [b]) by unfold natsV; rw [List.map_append]; rfl,kU]; exact aS
  ·rw [List.nodup_append]
   exact ⟨C.nd,by simp,fun x hx y hy e=>hn (by rw [← List.mem_singleton.mp hy,← e]; exact hx)⟩
  ·intro v hv
   rcases List.mem_append.mp hv with hv | hv
   ·exact C.lt v hv
   ·rw [List.mem_singleton.mp hv]; exact hb
  ·intro v hv
   rcases List.mem_append.mp hv with hv | hv
   ·exact C.mn v hv
   ·rw [List.mem_singleton.mp hv]; exact fun G g0 gs=>gs _ hmem (C.mn a hF G g0 gs)
  ·exact List.mem_append_left _ C.zero
  ·intro v hv
   rcases List.mem_append.mp hv with hv | hv
   ·exact List.mem_append_left _ (C.sub v hv)
   ·exact List.mem_append_right _ hv
  ·intro u hu h1 h2 h3
   by_cases e:u=(a,b,d)
   ·rw [e]; exact List.mem_append_right _ (.head _)
   ·rw [List.mem_append,not_or] at h2
    rcases List.mem_append.mp h1 with h1 | h1
    ·exact List.mem_append_left _ (C.cl u hu h1 h2.1 (next u h3 e))
    ·exact absurd h1 h2.2
  ·rw [List.length_append,List.length_append]
   show Q.length + 1 + c=F.length + 1
   lia
 ·refine ⟨_,_,aM ((tc (p:=a == h) (q:=decide (b ∉ F)) test1 fun _=>aH (aK (ac rfl) ak rfl) (ac rfl) iL).trans ?_) aS,F,Q,τ,some (bk (a,b,d)),⟨C.nd,C.lt,C.mn,C.zero,C.sub,fun u hu h1 h2 h3=>?_⟩,hF,hc⟩
  ·have:(a == h && decide (b ∉ F))=false:=by
    rw [Bool.eq_false_iff]
    intro q
    rw [Bool.and_eq_true,beq_iff_eq,decide_eq_true_eq] at q
    exact hn q
   rw [this]
  ·by_cases e:u=(a,b,d)
   ·subst e
    by_cases ha:a=h
    ·exact Decidable.byContradiction fun hb=>hn ⟨ha,hb⟩
    ·exact C.cl _ hu h1 h2 (by unfold after; rw [if_neg ha]; exact fun q=>nomatch q)
   ·exact C.cl u hu h1 h2 (next u h3 e)
end
end Mine
namespace Mine
open PySem
def bR (ws:List Way) (a b:Nat):Prop:=∃ n t,iU ws a b n t
section
variable {P:Nat→Option Fn}{wf n:Nat} {σ:Sto}{lw m:Nat}{ws:List Way}
theorem wz {a b c q m d:Nat} (hd:a + 1 + m ≤ d + 1 + b) (hq:a + 1 ≤ b) (h2:q + (b - a)=c):q + m ≤ d + c ∧ q ≤ c:=by lia
theorem r6 {q m f:Nat} (hd:q + m ≤ 0 + f) (hl:f ≤ m):q=0:=by lia
theorem pb {call:Nat→List V→Sto→RE} (hm:∀ w ∈ ws,w.1 < m ∧ w.2.1 < m) (m2:m ≤ 12) (hlw:σ[lw]?=some (.lst (ws.map bk))):∀ (d f:Nat) (F Q:List Nat) (τ:Sto) (x4 x5:Option V),Q.length + m ≤ d + F.length→d < f→Q.length ≤ F.length→uf m F Q (fun _=>[]) ws →
  ∃ F' τ' y4 y5,cS (evE call (E.cmp .NotEq (E.loc 3) (E.list []))) (evSs call wf mf) f (gM σ m lw x4 x5) (bF σ F Q τ)=.ok .next (gM σ m lw y4 y5) (bF σ F' [] τ') ∧ uf m F' [] (fun _=>[]) ws:=by
 have ct:∀ (F Q:List Nat) (τ:Sto) (x4 x5:Option V),evE call (E.cmp .NotEq (E.loc 3) (E.list [])) (gM σ m lw x4 x5) (bF σ F Q τ)=.ok (.bool (!(xv Q).isEmpty)) (bF σ F Q (τ ++ [.lst []])):=fun F Q τ x4 x5=>by
  refine aH (ac rfl) (bc ae (ai (by decide:0 ≤ 16777216))) ?_ |>.trans (by rw [rZ])
  show (eqV _ _ _).map _=_
  rw [gC (ap kl) tQ aj]; rfl
 have cf:∀ (F:List Nat) (τ:Sto) (x4 x5:Option V),evE call (E.cmp .NotEq (E.loc 3) (E.list [])) (gM σ m lw x4 x5) (bF σ F [] τ)=.ok (.bool false) (bF σ F [] (τ ++ [.lst []])):=fun F τ x4 x5=>(ct F [] τ x4 x5).trans rfl
 intro d
 induction d with
 | zero =>
  intro f F Q τ x4 x5 hd hf hq C
  obtain ⟨f,rfl⟩:=Nat.exists_eq_succ_of_ne_zero (Nat.ne_zero_of_lt hf)
  have:Q=[]:=List.length_eq_zero_iff.mp (r6 hd (cV m F C.nd C.lt))
  subst this
  exact ⟨F,τ ++ [.lst []],x4,x5,m6 (cf F τ x4 x5),C⟩
 | succ d ih =>
  intro f F Q τ x4 x5 hd hf hq C
  obtain ⟨f,rfl⟩:=Nat.exists_eq_succ_of_ne_zero (Nat.ne_zero_of_lt hf)
  rcases List.eq_nil_or_concat Q with rfl | ⟨Q0,h,rfl⟩
  ·exact ⟨F,τ ++ [.lst []],x4,x5,m6 (cf F τ x4 x5),C⟩
  ·rw [List.concat_eq_append] at *
   have hQ:(Q0 ++ [h]).length=Q0.length + 1:=by rw [List.length_append]; rfl
   rw [hQ] at hd hq
   have hF:h ∈ F:=C.sub h (List.mem_append_right _ (.head _))
   have C0:uf m F Q0 (after ws h 0) ws:=⟨C.nd,C.lt,C.mn,C.zero,fun v hv=>C.sub v (List.mem_append_left _ hv),fun w hw h1 h2 h3=>by
    by_cases e:w.1=h
    ·exact absurd (by unfold after; rw [if_pos e]; exact hw) h3
    ·exact C.cl w hw h1 (fun q=>(List.mem_append.mp q).elim h2 fun q=>e (List.mem_singleton.mp q)) fun q=>nomatch q⟩
   have lp:=l8 (call:=call) (wf:=wf) (tg:=[5]) (one:=true) (ws:=ws) (g:=bk) (it:=E.loc 1) (bs:=[rj]) (fr:=gM σ m lw (some (.int h)) x5) (σ:=bF σ F Q0 (τ ++ [.lst []]))
    (vJ σ m lw ws h (F.length - Q0.length)) (fun _ _=>False)
    (ac rfl) (by rintro i _ _ ⟨F',Q',τ',x5,_,_,_⟩; exact af (ap hlw))
    (by
     rintro i w _ _ hw ⟨F',Q',τ',x5,C',h1,h2⟩
     exact oS hm m2 hw C' h1 h2) ⟨F,Q0,_,x5,C0,hF,Nat.add_sub_cancel' (Nat.le_of_lt hq)⟩
   refine cps fun G0 k0=>?_
   obtain ⟨fr1,σ1,e1,F',Q',τ',y5,C',h1,h2⟩:=lp.next
   have C1:uf m F' Q' (fun _=>[]) ws:=⟨C'.nd,C'.lt,C'.mn,C'.zero,C'.sub,fun w hw a1 a2 a3=>C'.cl w hw a1 a2 (by unfold after; rw [List.drop_length,ite_self]; exact a3)⟩
   have om:=wz hd hq h2
   obtain ⟨F2,τ2,z4,z5,e2,C2⟩:=ih f F' Q' τ' (some (.int h)) y5 om.1 (Nat.lt_of_succ_lt_succ hf) om.2 C1
   refine k0 ⟨F2,τ2,z4,z5,ij (σ1:=bF σ F (Q0 ++ [h]) (τ ++ [.lst []])) ((ct F (Q0 ++ [h]) τ x4 x5).trans ?_) (am (cm (ac rfl) (af kl) ae (af kl) (?_:dA .pop _ _ _ _=.ok (.int h) (bF σ F Q0 (τ ++ [.lst []])))) (by decide:4 < 6) (aT e1 aS)) e2,C2⟩
   ·congr 2
    cases Q0 <;> rfl
   ·have e3:natsV (Q0 ++ [h])=natsV Q0 ++ [V.int (h:Nat)]:=by unfold natsV; rw [List.map_append]; rfl
    show (match (natsV (Q0 ++ [h])).getLast? with | some v=>RE.ok v (dw _ _ (natsV (Q0 ++ [h])).dropLast) | none=>.bad)=_
    rw [e3,List.getLast?_concat,List.dropLast_concat]
    show RE.ok _ (dw _ _ (natsV Q0))=_
    rw [kU]
theorem tF {F:List Nat} (C:uf m F [] (fun _=>[]) ws) (hR:∀ v,v < m→bR ws 0 v):F.length=m:=by
 have h1:=cV m F C.nd C.lt
 have h2:∀ {b n t:Nat},iU ws 0 b n t→b ∈ F:=by
  intro b n t h
  induction h with
  | nil=>exact C.zero
  | step h hw ih=>exact C.cl _ hw ih (fun q=>nomatch q) fun q=>nomatch q
 have h3:(List.range m).length ≤ F.length:=(List.nodup_range).length_le_of_subset fun v hv=>by
  obtain ⟨n,t,hw⟩:=hR v (List.mem_range.mp hv)
  exact h2 hw
 rw [List.length_range] at h3
 lia
theorem qr (h9:P 9=some hJ) (hlw:σ[lw]?=some (.lst (ws.map bk))) (hm:∀ w ∈ ws,w.1 < m ∧ w.2.1 < m) (m1:1 ≤ m) (m2:m ≤ 12) (hw:14 ≤ wf) :
  ∃ τ F,uf m F [] (fun _=>[]) ws ∧ evFn P wf (n + 1) 9 [.int m,.ref lw] σ=.ok (.ref σ.length) (σ ++ τ) ∧ gQ .len [.ref σ.length] (σ ++ τ)=.ok (.int F.length) (σ ++ τ):=by
 obtain ⟨F,τ,y4,y5,e1,C⟩:=pb (call:=evFn P wf n) (wf:=wf) hm m2 hlw (m + 1) wf [0] [0] [] none none (by lia) (by lia) (Nat.le_refl _) ⟨by simp,fun v hv=>by rw [List.mem_singleton.mp hv]; exact m1,fun v hv=>by rw [List.mem_singleton.mp hv]; exact fun G g0 _=>g0,.head _,fun v hv=>hv,fun w hw h1 h2=>absurd h1 h2⟩
 refine ⟨_,F,C,bj h9 rfl (am (wE ak fQ) (by decide:2 < 6) (am (bc (aa ak ae) (ai (by decide:1 ≤ 16777216))) (by decide:3 < 6) (aT (?_:evS _ _ _ _ _=.ok .next (gM σ m lw y4 y5) (bF σ F [] τ)) (aI (ac rfl))))),?_⟩
 ·have e2:σ ++ [AO.dI [(0,V.bool true)]] ++ [AO.lst [V.int 0]]=bF σ [0] [0] []:=by rw [List.append_assoc]; rfl
  have e3:(σ ++ [AO.dI [(0,V.bool true)]]).length=σ.length + 1:=by rw [List.length_append]; rfl
  rw [e2,e3]
  exact dc e1
 ·show cx _ ((sz (.ref σ.length) _).map V.int)=_
  unfold sz; dsimp only; rw [aj]; dsimp only
  show RE.ok (.int ((iA F).length:Nat)) _=_
  unfold iA
  rw [List.length_map]
theorem iR (h9:P 9=some hJ) (hlw:σ[lw]?=some (.lst (ws.map bk))) (hm:∀ w ∈ ws,w.1 < m ∧ w.2.1 < m) (m1:1 ≤ m) (m2:m ≤ 12) (hR:∀ v,v < m→bR ws 0 v) (hw:14 ≤ wf) :
  ∃ τ,evFn P wf (n + 1) 9 [.int m,.ref lw] σ=.ok (.ref σ.length) (σ ++ τ) ∧ gQ .len [.ref σ.length] (σ ++ τ)=.ok (.int m) (σ ++ τ):=by
 obtain ⟨τ,F,C,h1,h2⟩:=qr (n:=n) h9 hlw hm m1 m2 hw
 rw [tF C hR] at h2
 exact ⟨τ,h1,h2⟩
end
end Mine
namespace Mine
open PySem
noncomputable def sx (w:Way):Way:=(w.2.1,w.1,w.2.2)
noncomputable def flip (ws:List Way):List Way:=ws.map sx
theorem m7 {ws:List Way}{a b d:Nat}:(a,b,d) ∈ flip ws ↔ (b,a,d) ∈ ws:=by
 constructor
 ·intro h
  obtain ⟨⟨x,y,z⟩,hw,e⟩:=List.mem_map.mp h
  unfold sx at e
  cases e
  exact hw
 ·exact fun h=>List.mem_map.mpr ⟨_,h,rfl⟩
theorem iU.app {ws:List Way}{a b c n t n' t':Nat} (h:iU ws a b n t) (h':iU ws b c n' t'):iU ws a c (n + n') (t + t'):=by
 induction h' with
 | nil=>exact h
 | step _ hw ih=>rw [← Nat.add_assoc t]; exact .step ih hw
theorem iU.one {ws:List Way}{a b d:Nat} (h:(a,b,d) ∈ ws):iU ws a b 1 d:=by
 have:=iU.step (iU.nil (ws:=ws) (a:=a)) h
 rwa [Nat.zero_add,Nat.zero_add] at this
theorem iU.flip {ws:List Way}{a b n t:Nat} (h:iU ws a b n t):iU (Mine.flip ws) b a n t:=by
 induction h with
 | nil=>exact .nil
 | @step b c d n t _ hw ih =>
  have:=(iU.one (m7.mpr hw)).app ih
  rwa [Nat.add_comm 1,Nat.add_comm d t] at this
theorem bR.trans {ws:List Way}{a b c:Nat} (h:bR ws a b) (h':bR ws b c):bR ws a c :=
 let ⟨_,_,p⟩:=h; let ⟨_,_,q⟩:=h'; ⟨_,_,p.app q⟩
theorem bR.one {ws:List Way}{a b d:Nat} (h:(a,b,d) ∈ ws):bR ws a b:=⟨_,_,iU.one h⟩
theorem bR.self {ws:List Way}{a:Nat}:bR ws a a:=⟨_,_,iU.nil⟩
theorem bR.flip {ws:List Way}{a b:Nat} (h:bR ws a b):bR (Mine.flip ws) b a:=let ⟨_,_,p⟩:=h; ⟨_,_,p.flip⟩
structure aQ (m:Nat) (ws:List Way):Prop where
 m1:1 ≤ m
 m2:m ≤ 12
 hz:ws.length ≤ 60
 hm:∀ w ∈ ws,w.1 < m ∧ w.2.1 < m
 hd:∀ w ∈ ws,w.2.2 ≤ 9999
 sc:∀ a b,a < m→b < m→bR ws a b
 ne:ws ≠ []
theorem xh {ws:List Way}{a b n t:Nat} (h:iU ws a b n t):a=b ∨ ∃ w ∈ ws,w.1=a:=by
 induction h with
 | nil=>exact .inl rfl
 | step _ hw ih =>
  rcases ih with rfl | ih
  ·exact .inr ⟨_,hw,rfl⟩
  ·exact .inr ih
theorem aQ.ok {m:Nat}{ws:List Way} (G:aQ m ws):wt m ws:=by
 refine ⟨G.m1,G.m2,G.hz,G.hm,G.hd,fun a ha=>?_⟩
 by_cases h:m=1
 ·cases q:ws with
  | nil=>exact absurd q G.ne
  | cons w r =>
   refine ⟨w,.head _,?_⟩
   have:=(G.hm w (by rw [q]; exact .head _)).1
   lia
 ·obtain ⟨b,hb,hab⟩:∃ b,b < m ∧ a ≠ b:=by
   by_cases h0:a=0
   ·exact ⟨1,by have:=G.m1; lia,by lia⟩
   ·exact ⟨0,G.m1,h0⟩
  obtain ⟨n,t,hw⟩:=G.sc a b ha hb
  rcases xh hw with e | e
  ·exact absurd e hab
  ·exact e
theorem aQ.flip {m:Nat}{ws:List Way} (G:aQ m ws):aQ m (Mine.flip ws):=by
 refine ⟨G.m1,G.m2,?_,fun w hw=>?_,fun w hw=>?_,fun a b ha hb=>(G.sc b a hb ha).flip,fun q=>?_⟩
 ·unfold Mine.flip; rw [List.length_map]; exact G.hz
 ·obtain ⟨u,hu,rfl⟩:=List.mem_map.mp hw
  exact ⟨(G.hm u hu).2,(G.hm u hu).1⟩
 ·obtain ⟨u,hu,rfl⟩:=List.mem_map.mp hw
  exact G.hd u hu
 ·exact G.ne (List.map_eq_nil_iff.mp q)
noncomputable def ia:Fn:={ ps:=[0,1],size:=5,body :=
 [S.ifS (E.cmp .Eq (E.loc 1) (E.list [])) [S.ret (E.bool false)] [],
  S.asg 2 (E.comp [1] true (E.loc 1) [] (E.tup [(E.loc 1).sub (E.int 1),(E.loc 1).sub (E.int 0),(E.loc 1).sub (E.int 2)]) [none,none]),
  S.ret ((E.cmp .Eq (E.blt .len [E.call 9 [E.loc 0,E.loc 1]]) (E.loc 0)).and (E.cmp .Eq (E.blt .len [E.call 9 [E.loc 0,E.loc 2]]) (E.loc 0)))] }
noncomputable def xI:Fn:={ ps:=[0,1,2],size:=15,body :=
 [S.ifS (E.call 8 [E.loc 1,E.int 1,E.int 12]).not [S.raise (xc 0)] [],
  S.ifS (E.cmp .Gt (E.blt .len [E.loc 2]) (E.int 60)) [S.raise (xc 0)] [],
  S.forS [3] true (It.e (E.loc 2)) [S.ifS ((E.call 8 [(E.loc 3).sub (E.int 0),E.int 0,E.bin .Sub (E.loc 1) (E.int 1)]).not.or (E.call 8 [(E.loc 3).sub (E.int 1),E.int 0,E.bin .Sub (E.loc 1) (E.int 1)]).not) [S.raise (xc 1)] []],
  S.forS [3] true (It.e (E.loc 2)) [S.ifS (E.call 8 [(E.loc 3).sub (E.int 2),E.int 0,E.int 9999]).not [S.raise (xc 2)] []],
  S.ifS (E.call 10 [E.loc 1,E.loc 2]).not [S.raise (xc 3)] [],S.asgA (E.loc 0) 0 (E.loc 1),S.asgA (E.loc 0) 1 (E.blt .list [E.loc 2])] }
noncomputable def fB:Fn:={ ps:=[0],size:=2,body :=
 [S.ret (E.mk 11 [(E.loc 0).attr 0,E.comp [1] true ((E.loc 0).attr 1) [] (E.tup [(E.loc 1).sub (E.int 1),(E.loc 1).sub (E.int 0),(E.loc 1).sub (E.int 2)]) [none,none]])] }
section
variable {P:Nat→Option Fn}{wf n:Nat} {σ σ1:Sto}{lw m:Nat}{ws:List Way}
theorem uS {call:Nat→List V→Sto→RE}{e:E}{fr:Fra} (h:evE call e fr σ=.ok (.ref lw) σ1) (hlw:σ1[lw]?=some (.lst (ws.map bk))) (hz:ws.length ≤ 60) :
  evE call (E.comp [1] true e [] (E.tup [(E.loc 1).sub (E.int 1),(E.loc 1).sub (E.int 0),(E.loc 1).sub (E.int 2)]) [none,none]) fr σ=.ok (.ref σ1.length) (σ1 ++ [.lst ((flip ws).map bk)]):=by
 refine d4 (ws:=ws) (g:=bk) (p:=fun _=>true) (f:=fun w=>bk (sx w)) h (af hlw) (fun w hw=>⟨_,rfl,sP,fun _=>iz (aa (aK (ac rfl) ak rfl) (aa (aK (ac rfl) ak rfl) (aa (aK (ac rfl) ak rfl) ae))) (by decide:3 ≤ 1000)⟩) ?_
 rw [List.filter_eq_self.mpr (fun _ _=>rfl),show (ws.map fun w=>bk (sx w))=(flip ws).map bk by unfold flip; rw [List.map_map]; rfl]
 exact ai (by unfold flip; rw [List.length_map,List.length_map]; lia)
theorem kr (h9:P 9=some hJ) (h10:P 10=some ia) (hlw:σ[lw]?=some (.lst (ws.map bk))) (G:aQ m ws) (hw:14 ≤ wf):∃ τ,evFn P wf (n + 2) 10 [.int m,.ref lw] σ=.ok (.bool true) (σ ++ τ):=by
 have F:=G.flip
 obtain ⟨τ1,a1,a2⟩:=iR (wf:=wf) (n:=n) (σ:=σ ++ [.lst []] ++ [.lst ((flip ws).map bk)]) h9 (ap (ap hlw)) G.hm G.m1 G.m2 (fun v hv=>G.sc 0 v G.m1 hv) hw
 obtain ⟨τ2,b1,b2⟩:=iR (wf:=wf) (n:=n) (σ:=σ ++ [.lst []] ++ [.lst ((flip ws).map bk)] ++ τ1) (lw:=(σ ++ [AO.lst []]).length) h9 (ap aj) F.hm G.m1 G.m2 (fun v hv=>F.sc 0 v G.m1 hv) hw
 refine ⟨[.lst []] ++ [.lst ((flip ws).map bk)] ++ τ1 ++ τ2,bj h10 rfl (aM (aH (p:=false) (ac rfl) (bc ae (ai (by decide:0 ≤ 16777216))) ?_) (am (uS (ac rfl) (ap hlw) G.hz) (by decide:2 < 5) (aI (fy (aH (aR (aa (aE (aa (ac rfl) (aa (ac rfl) ae)) a1) ae) a2) (ac rfl) ?_) ((aH (p:=true) (aR (aa (aE (aa (ac rfl) (aa (ac rfl) ae)) b1) ae) b2) (ac rfl) ?_).trans ?_)))))⟩
 ·show eqV _ _ _=_
  rw [gC (ap hlw) vG aj]
  cases q:ws with
  | nil=>exact absurd q G.ne
  | cons w r=>rfl
 ·exact congrArg some (beq_self_eq_true _)
 ·exact congrArg some (beq_self_eq_true _)
 ·rw [List.append_assoc,List.append_assoc,List.append_assoc,List.append_assoc,List.append_assoc]
structure lT (P:Nat→Option Fn):Prop where
 h8:P 8=some cr
 h9:P 9=some hJ
 h10:P 10=some ia
 h11:P 11=some xI
theorem jc {σ:Sto}{l:Nat}{xs:List V} (h:σ[l]?=some (.lst xs)) (hz:xs.length ≤ 16777216):gQ .list [.ref l] σ=.ok (.ref σ.length) (σ ++ [.lst xs]):=by
 show (match getL σ l with | some xs=>cQ xs σ | none=>.bad)=_
 rw [af h]
 exact ai hz
noncomputable def dF (σ:Sto) (o:List (Nat × V)) (τ:Sto):Sto:=σ ++ [.att o,.inst σ.length] ++ τ
theorem mC {o:List (Nat × V)} {τ:Sto}:(dF σ o τ).length=σ.length + 2 + τ.length:=by unfold dF; rw [List.length_append,List.length_append]; rfl
theorem uQ {o:List (Nat × V)} {τ:Sto}:(dF σ o τ)[σ.length + 1]?=some (.inst σ.length):=by unfold dF; rw [List.append_assoc,List.getElem?_append_right (by lia),show σ.length + 1 - σ.length=1 by lia]; rfl
theorem uO {o:List (Nat × V)} {τ:Sto}:(dF σ o τ)[σ.length]?=some (.att o):=by unfold dF; rw [List.append_assoc]; exact aj
theorem mF {k:Nat}{v:V}{o:List (Nat × V)} {τ:Sto} (ho:o.length < 100):dq (.ref (σ.length + 1)) k v (dF σ o τ)=some (dF σ (sB k v o) τ):=by
 unfold dq; dsimp only; rw [uQ]; dsimp only; rw [uO]; dsimp only
 rw [if_pos ho]
 unfold dF
 rw [List.append_assoc]
 show some ((σ ++ _ :: _).set _ _)=_
 rw [eu,List.append_assoc]; rfl
noncomputable def r7 (σ:Sto) (m lw:Nat) (x3:Option V):Fra:=[some (.ref (σ.length + 1)),some (.int m),some (.ref lw),x3,none,none,none,none,none,none,none,none,none,none,none]
theorem qo (H:lT P) (hlw:σ[lw]?=some (.lst (ws.map bk))) (G:aQ m ws) (hw:14 ≤ wf) :
  ∃ τ,evFn P wf (n + 3) 11 [.ref (σ.length + 1),.int m,.ref lw] (σ ++ [.att [],.inst σ.length])=.ok .none (σ ++ τ) ∧ ∀ σ0:Sto,σ0.length=σ.length→a9 (σ0 ++ τ) (σ.length + 1) m ws:=by
 have wh:∀ {x lo hi:Int} (σ':Sto),lo ≤ x→x ≤ hi→evFn P wf (n + 2) 8 [.int x,.int lo,.int hi] σ'=.ok (.bool true) σ':=fun σ' h1 h2=>iX H.h8 h1 h2
 obtain ⟨τ,ej⟩:=kr (wf:=wf) (n:=n) H.h9 H.h10 (ap (τ:=[.att [],.inst σ.length]) hlw) G hw
 obtain ⟨x3,e1,_⟩:=v6 (call:=evFn P wf (n + 2)) (wf:=wf) (tg:=[3]) (one:=true) (ws:=ws) (g:=bk) (it:=E.loc 2) (bs:=[S.ifS ((E.call 8 [(E.loc 3).sub (E.int 0),E.int 0,E.bin .Sub (E.loc 1) (E.int 1)]).not.or (E.call 8 [(E.loc 3).sub (E.int 1),E.int 0,E.bin .Sub (E.loc 1) (E.int 1)]).not) [S.raise (xc 1)] []]) (σ:=σ ++ [.att [],.inst σ.length])
  (F:=fun _ x3=>r7 σ m lw x3) (S:=fun _ _=>σ ++ [.att [],.inst σ.length]) (J:=fun _ _=>True) none (ac rfl) (fun _ _ _=>af (ap hlw))
  (fun i w x3 hv _=>by
   have hm:=G.hm w (List.mem_of_getElem? hv)
   exact ⟨_,rfl,_,aM (iu (fM (aE (aa (aK (ac rfl) ak rfl) (aa ak (aa (ax (ac rfl) ak rfl) ae))) (wh _ (Int.natCast_nonneg w.1) (by lia)))) (fM (aE (aa (aK (ac rfl) ak rfl) (aa ak (aa (ax (ac rfl) ak rfl) ae))) (wh _ (Int.natCast_nonneg w.2.1) (by lia))))) aS,trivial⟩) trivial
 obtain ⟨y3,e2,_⟩:=v6 (call:=evFn P wf (n + 2)) (wf:=wf) (tg:=[3]) (one:=true) (ws:=ws) (g:=bk) (it:=E.loc 2) (bs:=[S.ifS (E.call 8 [(E.loc 3).sub (E.int 2),E.int 0,E.int 9999]).not [S.raise (xc 2)] []]) (σ:=σ ++ [.att [],.inst σ.length])
  (F:=fun _ x3=>r7 σ m lw x3) (S:=fun _ _=>σ ++ [.att [],.inst σ.length]) (J:=fun _ _=>True) x3 (ac rfl) (fun _ _ _=>af (ap hlw))
  (fun i w x3 hv _=>by
   have hd:=G.hd w (List.mem_of_getElem? hv)
   exact ⟨_,rfl,_,aM (fM (aE (aa (aK (ac rfl) ak rfl) (aa ak (aa ak ae))) (wh _ (Int.natCast_nonneg w.2.2) (by lia)))) aS,trivial⟩) trivial
 have hl1:(dF σ [(0,.int m)] τ)[lw]?=some (.lst (ws.map bk)):=ap (ap hlw)
 have e3:evSs (evFn P wf (n + 2)) wf [S.asgA (E.loc 0) 0 (E.loc 1),S.asgA (E.loc 0) 1 (E.blt .list [E.loc 2])] (r7 σ m lw y3) (dF σ [] τ)=.ok .next (r7 σ m lw y3) (dF σ [(0,.int m),(1,.ref (σ.length + 2 + τ.length))] (τ ++ [.lst (ws.map bk)])):=by
  refine qq (ac rfl) (ac rfl) (mF (o:=[]) (show 0 < 100 by decide)) (qq (aR (aa (ac rfl) ae) ?_) (ac rfl) (mF (o:=[(0,.int m)]) (show 1 < 100 by decide)) aS)
  show (match getL (dF σ [(0,.int m)] τ) lw with | some xs=>cQ xs (dF σ [(0,.int m)] τ) | none=>.bad)=_
  rw [af hl1]
  refine (ai (by rw [List.length_map]; have:=G.hz; lia)).trans ?_
  rw [mC]
  unfold dF
  rw [List.append_assoc (σ ++ _)]
 have e4:∀ (σ:Sto) o τ',dF σ o τ'=σ ++ ([.att o,.inst σ.length] ++ τ'):=fun σ o τ'=>List.append_assoc _ _ _
 refine ⟨[.att [(0,.int m),(1,.ref (σ.length + 2 + τ.length))],.inst σ.length] ++ (τ ++ [.lst (ws.map bk)]),?_,?_⟩
 ·rw [← e4]
  refine uh H.h11 rfl (aM (fM (aE (aa (ac rfl) (aa ak (aa ak ae))) (wh _ (by have:=G.m1; lia) (by have:=G.m2; lia)))) (aM (aH (p:=false) (aR (aa (ac rfl) ae) (bH (ap hlw))) ak ?_) (aT e1 (aT e2 (aM (fM (aE (aa (ac rfl) (aa (ac rfl) ae)) ej)) e3)))))
  rw [List.length_map]
  exact congrArg some (decide_eq_false (by have:=G.hz; lia))
 ·intro σ0 h0
  rw [← h0,← e4]
  refine ⟨σ0.length,σ0.length + 2 + τ.length,uQ,uO,?_⟩
  generalize he:[(0,V.int m),(1,V.ref (σ0.length + 2 + τ.length))]=o
  rw [← mC (σ:=σ0) (o:=o)]
  unfold dF
  rw [← List.append_assoc]
  exact aj
theorem yt (H:lT P) {es:List E}{fr:Fra} (he:cE (evFn P wf (n + 3)) es fr σ=.ok [.int m,.ref lw] σ1) (hlw:σ1[lw]?=some (.lst (ws.map bk))) (G:aQ m ws) (hw:14 ≤ wf) :
  ∃ l τ,evE (evFn P wf (n + 3)) (.mk 11 es) fr σ=.ok (.ref l) (σ1 ++ τ) ∧ ∀ σ0:Sto,σ0.length=σ1.length→a9 (σ0 ++ τ) l m ws :=
 (qo (wf:=wf) (n:=n) H hlw G hw).elim fun τ h=>⟨_,τ,AF he h.1,h.2⟩
theorem zV (H:lT P) {es:List E}{fr:Fra} (he:cE (evFn P wf (n + 3)) es fr σ=.ok [.int m,.ref lw] σ1) (hlw:σ1[lw]?=some (.lst (ws.map bk))) (G:aQ m ws) (hw:14 ≤ wf) :
  ∃ l τ,evE (evFn P wf (n + 3)) (.mk 11 es) fr σ=.ok (.ref l) (σ1 ++ τ) ∧ a9 (σ1 ++ τ) l m ws :=
 let ⟨l,τ,h1,h2⟩:=yt H he hlw G hw; ⟨l,τ,h1,h2 _ rfl⟩
theorem pw (H:lT P) (h14:P 14=some fB) {l:Nat} (W:a9 σ l m ws) (G:aQ m ws) (hw:14 ≤ wf):∃ l' τ,evFn P wf (n + 4) 14 [.ref l] σ=.ok (.ref l') (σ ++ τ) ∧ a9 (σ ++ τ) l' m (flip ws):=by
 obtain ⟨d,lw,a,b,c⟩:=W.at'
 obtain ⟨l',τ,h1,h2⟩:=zV (wf:=wf) (n:=n) (σ:=σ) H (es:=[(E.loc 0).attr 0,E.comp [1] true ((E.loc 0).attr 1) [] (E.tup [(E.loc 1).sub (E.int 1),(E.loc 1).sub (E.int 0),(E.loc 1).sub (E.int 2)]) [none,none]]) (fr:=aW fB [.ref l])
  (aa (cO (ac rfl) (bG a b)) (aa (uS (cO (ac rfl) (dg a b)) c G.hz) ae)) aj G.flip hw
 rw [List.append_assoc] at h1 h2
 exact ⟨l',_,bj h14 rfl (aI h1),h2⟩
end
end Mine
namespace Mine
open PySem
structure d9 (m M:Nat) (o:List Nat) (ring:Bool) (i:Nat) (ws:List Way):Prop where
 len:ws.length ≤ 2 * i
 ends:∀ w ∈ ws,w.1 < m ∧ w.2.1 < m
 del:∀ w ∈ ws,w.2.2 < M
 r:ring=true→∀ k,k < i→∃ d,(o.getD k 0,o.getD ((k + 1) % m) 0,d) ∈ ws
 t:ring=false→∀ k,1 ≤ k→k < i→(∃ p d,p < k ∧ (o.getD p 0,o.getD k 0,d) ∈ ws) ∧ ∃ p d,p < k ∧ (o.getD k 0,o.getD p 0,d) ∈ ws
theorem bW {α:Type}{l:List α}{x y:α} (h:x ∈ l ++ [y]):x ∈ l ∨ x=y:=(List.mem_append.mp h).imp_right fun h=>List.mem_singleton.mp h
section
variable {m M i:Nat}{o:List Nat}{ring:Bool}{ws:List Way}
theorem d9.start:d9 m M o ring 0 []:=⟨Nat.zero_le _,(fun _ h=>nomatch h),(fun _ h=>nomatch h),fun _ _ h=>absurd h (Nat.not_lt_zero _),fun _ _ _ h=>absurd h (Nat.not_lt_zero _)⟩
theorem d9.ring1 (B:d9 m M o true i ws) (ho:∀ k,k < m→o.getD k 0 < m) (hi:i < m) {d:Nat} (hd:d < M):d9 m M o true (i + 1) (ws ++ [(o.getD i 0,o.getD ((i + 1) % m) 0,d)]):=by
 refine ⟨?_,fun w hw=>?_,fun w hw=>?_,fun _ k hk=>?_,fun h=>nomatch h⟩
 ·rw [List.length_append]; have:=B.len; show ws.length + 1 ≤ _; lia
 ·rcases bW hw with hw | rfl
  ·exact B.ends w hw
  ·exact ⟨ho i hi,ho _ (Nat.mod_lt _ (by lia))⟩
 ·rcases bW hw with hw | rfl
  ·exact B.del w hw
  ·exact hd
 ·by_cases e:k=i
  ·subst e; exact ⟨d,List.mem_append_right _ (.head _)⟩
  ·obtain ⟨d,h⟩:=B.r rfl k (by lia)
   exact ⟨d,List.mem_append_left _ h⟩
theorem d9.tree0 (B:d9 m M o false 0 ws):d9 m M o false 1 ws:=⟨Nat.le_trans B.len (by decide),B.ends,B.del,(fun h=>nomatch h),fun _ k h1 h2=>by lia⟩
theorem d9.tree1 (B:d9 m M o false i ws) (ho:∀ k,k < m→o.getD k 0 < m) (hi:i < m) {p q d d':Nat} (hp:p < i) (hq:q < i) (hd:d < M) (hd':d' < M):d9 m M o false (i + 1) (ws ++ [(o.getD p 0,o.getD i 0,d)] ++ [(o.getD i 0,o.getD q 0,d')]):=by
 refine ⟨?_,fun w hw=>?_,fun w hw=>?_,(fun h=>nomatch h),fun _ k h1 hk=>?_⟩
 ·rw [List.length_append,List.length_append]; have:=B.len; show ws.length + 1 + 1 ≤ _; lia
 ·rcases bW hw with hw | rfl
  ·rcases bW hw with hw | rfl
   ·exact B.ends w hw
   ·exact ⟨ho p (by lia),ho i hi⟩
  ·exact ⟨ho i hi,ho q (by lia)⟩
 ·rcases bW hw with hw | rfl
  ·rcases bW hw with hw | rfl
   ·exact B.del w hw
   ·exact hd
  ·exact hd'
 ·by_cases e:k=i
  ·subst e
   exact ⟨⟨p,d,hp,List.mem_append_left _ (List.mem_append_right _ (.head _))⟩,q,d',hq,List.mem_append_right _ (.head _)⟩
  ·obtain ⟨⟨p,d,h1,h2⟩,q,d',h3,h4⟩:=B.t rfl k h1 (by lia)
   exact ⟨⟨p,d,h1,List.mem_append_left _ (List.mem_append_left _ h2)⟩,q,d',h3,List.mem_append_left _ (List.mem_append_left _ h4)⟩
structure bL (m M K:Nat) (ws:List Way):Prop where
 len:ws.length ≤ K
 ends:∀ w ∈ ws,w.1 < m ∧ w.2.1 < m
 del:∀ w ∈ ws,w.2.2 < M
 sc:∀ a b,a < m→b < m→bR ws a b
 ne:ws ≠ []
theorem bR.mono {ws':List Way} (h:∀ w ∈ ws,w ∈ ws') {a b:Nat} (r:bR ws a b):bR ws' a b:=by
 obtain ⟨n,t,w⟩:=r
 refine ⟨n,t,?_⟩
 induction w with
 | nil=>exact .nil
 | step _ hw ih=>exact .step ih (h _ hw)
theorem bL.more (L:bL m M i ws) {w:Way} (h1:w.1 < m) (h2:w.2.1 < m) (h3:w.2.2 < M):bL m M (i + 1) (ws ++ [w]):=by
 refine ⟨?_,fun u hu=>?_,fun u hu=>?_,fun a b ha hb=>(L.sc a b ha hb).mono fun w hw=>List.mem_append_left _ hw,fun q=>L.ne (List.append_eq_nil_iff.mp q).1⟩
 ·rw [List.length_append]; exact Nat.succ_le_succ L.len
 ·rcases bW hu with hu | rfl
  ·exact L.ends u hu
  ·exact ⟨h1,h2⟩
 ·rcases bW hu with hu | rfl
  ·exact L.del u hu
  ·exact h3
theorem d9.good (B:d9 m M o ring m ws) (hm:1 ≤ m) (hr:m=1→ring=true) (hp:o.Perm (List.range m)):bL m M (2 * m) ws:=by
 have hl:o.length=m:=by rw [hp.length_eq,List.length_range]
 have at':∀ a,a < m→∃ k,k < m ∧ o.getD k 0=a:=fun a ha=>by
  obtain ⟨k,hk,e⟩:=List.getElem_of_mem (hp.mem_iff.mpr (List.mem_range.mpr ha))
  exact ⟨k,by lia,by rw [eh hk]; exact e⟩
 have sc:∀ k k',k < m→k' < m→bR ws (o.getD k 0) (o.getD k' 0):=by
  intro k k' hk hk'
  cases ring with
  | true =>
   have go:∀ j,bR ws (o.getD k 0) (o.getD ((k + j) % m) 0):=fun j=>by
    induction j with
    | zero=>rw [Nat.add_zero,Nat.mod_eq_of_lt hk]; exact bR.self
    | succ j ih =>
     obtain ⟨d,h⟩:=B.r rfl ((k + j) % m) (Nat.mod_lt _ hm)
     rw [Nat.mod_add_mod] at h
     exact ih.trans (bR.one h)
   have:=go (m - k + k')
   rwa [show k + (m - k + k')=k' + m by lia,Nat.add_mod_right,Nat.mod_eq_of_lt hk'] at this
  | false =>
   have up:∀ k,k < m→bR ws (o.getD 0 0) (o.getD k 0):=fun k=>by
    induction k using Nat.strongRecOn with
    | _ k ih =>
     intro hk
     by_cases h0:k=0
     ·subst h0; exact bR.self
     ·obtain ⟨⟨p,d,h1,h2⟩,_⟩:=B.t rfl k (by lia) hk
      exact (ih p h1 (by lia)).trans (bR.one h2)
   have down:∀ k,k < m→bR ws (o.getD k 0) (o.getD 0 0):=fun k=>by
    induction k using Nat.strongRecOn with
    | _ k ih =>
     intro hk
     by_cases h0:k=0
     ·subst h0; exact bR.self
     ·obtain ⟨_,p,d,h1,h2⟩:=B.t rfl k (by lia) hk
      exact (bR.one h2).trans (ih p h1 (by lia))
   exact (down k hk).trans (up k' hk')
 refine ⟨B.len,B.ends,B.del,fun a b ha hb=>?_,fun q=>?_⟩
 ·obtain ⟨k,hk,rfl⟩:=at' a ha
  obtain ⟨k',hk',rfl⟩:=at' b hb
  exact sc k k' hk hk'
 ·cases ring with
  | true =>
   obtain ⟨d,h⟩:=B.r rfl 0 hm
   rw [q] at h; cases h
  | false =>
   have:m ≠ 1:=fun e=>nomatch hr e
   obtain ⟨⟨p,d,_,h⟩,_⟩:=B.t rfl 1 (Nat.le_refl _) (by lia)
   rw [q] at h; cases h
theorem bL.good (L:bL m M i ws) (m1:1 ≤ m) (m2:m ≤ 12) (hi:i ≤ 60) (hM:M ≤ 10000):aQ m ws :=
 ⟨m1,m2,Nat.le_trans L.len hi,L.ends,fun w hw=>by have:=L.del w hw; lia,L.sc,L.ne⟩
end
theorem nw {α:Type} (p:Int × α):∀ l:List (Int × α),(oz p l).Perm (p :: l)
 | []=>.refl _
 | q :: r=>by
  show (if p.1 < q.1 then p :: q :: r else q :: oz p r).Perm _
  split
  ·exact .refl _
  ·exact ((nw p r).cons q).trans (.swap _ _ _)
theorem me {α:Type}:∀ l:List (Int × α),(fJ l).Perm l
 | []=>.refl _
 | p :: r=>(nw p _).trans ((me r).cons p)
noncomputable def wG (v:V):Nat:=match v with | .int i=>i.toNat | _=>0
theorem oJ {l:List V}{r:List Nat} (h:l.Perm (natsV r)):∃ o:List Nat,l=natsV o ∧ o.Perm r:=by
 refine ⟨l.map wG,?_,?_⟩
 ·unfold natsV
  rw [List.map_map]
  refine Eq.trans (List.map_id _).symm (List.map_congr_left fun v hv=>?_)
  obtain ⟨x,_,rfl⟩:=List.mem_map.mp (h.mem_iff.mp hv)
  rfl
 ·have:=h.map wG
  unfold natsV at this
  rw [List.map_map] at this
  have e:(wG ∘ fun (v:Nat)=>V.int v)=id:=rfl
  rwa [e,List.map_id] at this
theorem nT:∀ (c:Nat),1 ≤ c→c ≤ 12→∀ j k:Nat,j < 12→k < 12→(j + 1) * c % 13=(k + 1) * c % 13→j=k:=by
 intro c c1 c2 j k hj hk
 have:∀ (c:Fin 13) (j k:Fin 12),1 ≤ c.1→(j.1 + 1) * c.1 % 13=(k.1 + 1) * c.1 % 13→j.1=k.1:=by decide
 exact this ⟨c,by lia⟩ ⟨j,hj⟩ ⟨k,hk⟩ c1
end Mine
namespace Mine
open PySem
noncomputable def cW:Fn:={ ps:=[0,1],size:=3,body:=[S.ifS (E.cmp .Lt (E.loc 1) (E.blt .len [E.loc 0])) [S.ret ((E.loc 0).sub (E.loc 1))] [],S.ret (E.int 0)] }
noncomputable def oE:Fn:={ ps:=[0],size:=4,body:=[S.ret (((E.loc 0).isi Ty.int).and ((E.loc 0).isi Ty.bool).not)] }
noncomputable def iW:Fn:={ ps:=[0,1],size:=2,body:=[S.ret (E.bin .Mod (E.bin .Mult (E.bin .Add (E.bin .Add (E.loc 0) (E.bin .Mult (E.int 7919) (E.loc 1))) (E.int 1)) (E.int 48271)) (E.int 2147483647))] }
noncomputable def gc (M:Nat):Fn:={ ps:=[0],size:=1,body :=
 [S.ret ((E.list [E.bin .Mod (E.bin .FloorDiv (E.loc 0) (E.int 3)) (E.int 5),E.bin .Mod (E.bin .FloorDiv (E.loc 0) (E.int 3)) (E.int 100),E.bin .Mod (E.bin .FloorDiv (E.loc 0) (E.int 3)) (E.int M)]).sub (E.bin .Mod (E.loc 0) (E.int 3)))] }
theorem ye {x y:Int} {σ:Sto} (h:x.natAbs < 2 ^ 64):oA .Mult (.int x) (.int y) σ=.ok (.int (x * y)) σ:=if_pos (.inl h)
theorem yG {x y:Int} {σ:Sto} (h:y.natAbs < 2 ^ 64):oA .Mult (.int x) (.int y) σ=.ok (.int (x * y)) σ:=if_pos (.inr (.inl h))
theorem cP {x y:Int} {σ:Sto} (h:y ≠ 0):oA .Mod (.int x) (.int y) σ=.ok (.int (x.fmod y)) σ:=if_neg h
theorem ik {x y:Int} {σ:Sto} (h:y ≠ 0) (h':y.natAbs < 10 ^ 100):oA .FloorDiv (.int x) (.int y) σ=.ok (.int (x.fdiv y)) σ:=if_pos ⟨h,h'⟩
section
variable {P:Nat→Option Fn}{wf n:Nat} {σ:Sto}
def aC (σ:Sto) (sc:List Int):Prop:=σ[0]?=some (.frz (sc.map V.int))
theorem cY (h:P 20=some cW) {sc:List Int} (hs:aC σ sc) (k:Nat):evFn P wf (n + 1) 20 [.ref 0,.int k] σ=.ok (.int (sc.getD k 0)) σ:=by
 have hl:gQ .len [.ref 0] σ=.ok (.int sc.length) σ:=by
  show cx σ ((sz (.ref 0) σ).map V.int)=_
  unfold sz; dsimp only; rw [hs]; dsimp only
  show RE.ok (.int ((sc.map V.int).length:Nat)) σ=_
  rw [List.length_map]
 by_cases hk:k < sc.length
 ·refine bj h rfl (cp (aH (ac rfl) (aR (aa (ac rfl) ae) hl) (congrArg some (decide_eq_true (Int.ofNat_lt.mpr hk)))) (aI (aK (ac rfl) (ac rfl) ?_)))
  unfold lf; dsimp only; rw [hs]; show nE _ _=_; unfold nE
  rw [if_pos (Int.natCast_nonneg k)]
  show (sc.map V.int)[k]?=_
  rw [List.getElem?_map,List.getElem?_eq_getElem hk,List.getD_eq_getElem?_getD,List.getElem?_eq_getElem hk]; rfl
 ·rw [List.getD_eq_getElem?_getD,List.getElem?_eq_none_iff.mpr (Nat.le_of_not_lt hk)]
  exact bj h rfl (aM (aH (ac rfl) (aR (aa (ac rfl) ae) hl) (congrArg some (decide_eq_false (by lia)))) (aI ak))
theorem sI (h:P 21=some oE) {x:Int}:evFn P wf (n + 1) 21 [.int x] σ=.ok (.bool true) σ :=
 bj h rfl (aI (fy (gF (ac rfl) rfl) (rz (gF (ac rfl) rfl))))
noncomputable def mixN (c k:Int):Nat:=(Int.fmod ((c + 7919 * k + 1) * 48271) 2147483647).toNat
theorem gm (h:P 22=some iW) {c k:Int}:evFn P wf (n + 1) 22 [.int c,.int k] σ=.ok (.int (mixN c k:Nat)) σ:=by
 refine bj h rfl (aI (ax (ax (ax (ax (ac rfl) (ax ak (ac rfl) (ye (by decide))) rfl) ak rfl) ak (yG (by decide))) ak ((cP (by decide)).trans ?_)))
 unfold mixN
 rw [Int.toNat_of_nonneg (Int.fmod_nonneg_of_pos _ (by decide))]
theorem lx {M:Nat} (h:P 23=some (gc M)) (hM:100 ≤ M) (N:Nat):∃ d o,d < M ∧ evFn P wf (n + 1) 23 [.int N] σ=.ok (.int (d:Nat)) (σ ++ [o]):=by
 have hb:∀ q:Nat,q ≠ 0→evE (evFn P wf n) (E.bin .Mod (E.bin .FloorDiv (E.loc 0) (E.int 3)) (E.int q)) (aW (gc M) [.int N]) σ=.ok (.int (N / 3 % q:Nat)) σ:=fun q hq =>
  ax (ax (ac rfl) ak (kh (y:=3) (by decide) (by decide))) ak (eU (x:=N / 3) hq)
 have hl:N % 3 < 3:=Nat.mod_lt _ (by decide)
 obtain ⟨d,hd,he⟩:∃ d,d < M ∧ [V.int (N / 3 % 5:Nat),V.int (N / 3 % 100:Nat),V.int (N / 3 % M:Nat)][N % 3]?=some (V.int (d:Nat)):=by
  have h5:N / 3 % 5 < 5:=Nat.mod_lt _ (by decide)
  have h6:N / 3 % 100 < 100:=Nat.mod_lt _ (by decide)
  have h7:N / 3 % M < M:=Nat.mod_lt _ (by lia)
  match hr:N % 3,hl with
  | 0,_=>exact ⟨_,by lia,rfl⟩
  | 1,_=>exact ⟨_,by lia,rfl⟩
  | 2,_=>exact ⟨_,h7,rfl⟩
 refine ⟨d,.lst [V.int (N / 3 % 5:Nat),V.int (N / 3 % 100:Nat),V.int (N / 3 % M:Nat)],hd,bj h rfl (aI (aK (bc (aa (hb 5 (by decide)) (aa (hb 100 (by decide)) (aa (hb M (by lia)) ae))) (ai (by decide:3 ≤ 16777216))) (ax (ac rfl) ak (eU (y:=3) (by decide))) ?_))⟩
 exact bf aj he
end
noncomputable def sWay (a b d:E):S:=S.expr ((E.loc 3).meth .append [E.tup [a,b,d]])
noncomputable def sT (j:Nat):List S :=
 [S.asg 5 (E.call 22 [E.call 20 [E.loc 0,E.int 2],E.loc 4]),
  S.ifS ((E.cmp .Eq (E.loc 1) (E.int 1)).or (E.cmp .Eq (E.bin .Mod (E.bin .FloorDiv (E.loc (j + 6)) (E.int 12)) (E.int 2)) (E.int 0)))
   [sWay ((E.loc 2).sub (E.loc 4)) ((E.loc 2).sub (E.bin .Mod (E.bin .Add (E.loc 4) (E.int 1)) (E.loc 1))) (E.call 23 [E.loc 5])]
   [S.ifS (E.cmp .Gt (E.loc 4) (E.int 0))
    [sWay ((E.loc 2).sub (E.bin .Mod (E.bin .FloorDiv (E.loc 5) (E.int 7)) (E.loc 4))) ((E.loc 2).sub (E.loc 4)) (E.call 23 [E.bin .FloorDiv (E.loc 5) (E.int 64)]),
     sWay ((E.loc 2).sub (E.loc 4)) ((E.loc 2).sub (E.bin .Mod (E.bin .FloorDiv (E.loc 5) (E.int 512)) (E.loc 4))) (E.call 23 [E.bin .FloorDiv (E.loc 5) (E.int 4096)])] []]]
noncomputable def pi:List S :=
 [S.asg 5 (E.call 22 [E.call 20 [E.loc 0,E.bin .Add (E.int 3) (E.bin .Mod (E.loc 4) (E.int 6))],E.loc 4]),
  sWay (E.bin .Mod (E.loc 5) (E.loc 1)) (E.bin .Mod (E.bin .FloorDiv (E.loc 5) (E.int 16)) (E.loc 1)) (E.call 23 [E.bin .FloorDiv (E.loc 5) (E.int 256)])]
noncomputable def hG (j:Nat):KX:=((KX.par.add (KX.num 1)).mul ((KX.num 1).add ((KX.var (j + 6)).mod (KX.num 12)))).mod (KX.num 13)
noncomputable def lZ (j size:Nat) (md:Int) (rest:List S):Fn:={ ps:=[0,1],size:=size,body :=
 (S.asg (j + 6) (E.call 20 [E.loc 0,E.int 1]) :: S.asg 2 ((E.blt .range [E.loc 1]).srt (hG j)) :: S.asg 3 (E.list []) ::
  S.forS [4] true (It.e (E.blt .range [E.loc 1])) (sT j) ::
  S.forS [4] true (It.e (E.blt .range [E.bin .Mod (E.bin .FloorDiv (E.loc (j + 6)) (E.int 24)) (E.int md)])) pi :: rest) }
noncomputable def cI (β:Sto) (ws:List Way) (τ:Sto):Sto:=β ++ .lst (ws.map bk) :: τ
noncomputable def fV (m lo lw:Nat) (x4 x5:Option V) (rest:Fra):Fra:=some (.ref 0) :: some (.int m) :: some (.ref lo) :: some (.ref lw) :: x4 :: x5 :: rest
section
variable {call:Nat→List V→Sto→RE}{wf:Nat} {β τ τ':Sto}{ws:List Way}{m lo:Nat}{x4 x5:Option V}{rest:Fra}
theorem t4 {e1 e2 e3:E}{ss:List S}{r:RS}{a b d:Nat} (h1:evE call e1 (fV m lo β.length x4 x5 rest) (cI β ws τ)=.ok (.int a) (cI β ws τ)) (h2:evE call e2 (fV m lo β.length x4 x5 rest) (cI β ws τ)=.ok (.int b) (cI β ws τ))
  (h3:evE call e3 (fV m lo β.length x4 x5 rest) (cI β ws τ)=.ok (.int d) (cI β ws τ')) (hz:ws.length ≤ 1000) (h:evSs call wf ss (fV m lo β.length x4 x5 rest) (cI β (ws ++ [(a,b,d)]) τ')=r):evSs call wf (sWay e1 e2 e3 :: ss) (fV m lo β.length x4 x5 rest) (cI β ws τ)=r:=by
 refine be (cm (ac rfl) (af aj) (aa (iz (aa h1 (aa h2 (aa h3 ae))) (by decide:3 ≤ 1000)) ae) (af aj) (jT ?_)) ?_
 ·rw [List.length_map]; lia
 ·have e:dw (cI β ws τ') β.length (ws.map bk ++ [.tup [.int a,.int b,.int d]])=cI β (ws ++ [(a,b,d)]) τ':=by
   unfold dw cI
   rw [eu,List.map_append]; rfl
  rw [e]; exact h
theorem sq {o:AO}:cI β ws τ ++ [o]=cI β ws (τ ++ [o]):=by unfold cI; rw [List.append_assoc]; rfl
end
structure jE (P:Nat→Option Fn) (M:Nat):Prop where
 h20:P 20=some cW
 h22:P 22=some iW
 h23:P 23=some (gc M)
section
variable {P:Nat→Option Fn}{wf n:Nat} {β:Sto}{sc:List Int}{m M lo j:Nat}{o:List Nat}{rest:Fra}{cell:Int}
theorem ju (H:jE P M) (hM:100 ≤ M) {e:E}{fr:Fra}{ws:List Way} {τ:Sto}{N:Nat} (h:evE (evFn P wf (n + 1)) e fr (cI β ws τ)=.ok (.int N) (cI β ws τ)):∃ d τ',d < M ∧ evE (evFn P wf (n + 1)) (E.call 23 [e]) fr (cI β ws τ)=.ok (.int (d:Nat)) (cI β ws τ'):=by
 obtain ⟨d,o,hd,hc⟩:=lx (wf:=wf) (n:=n) (σ:=cI β ws τ) H.h23 hM N
 rw [sq] at hc
 exact ⟨d,_,hd,aE (aa h ae) hc⟩
inductive W1 (β:Sto) (m M lo:Nat) (o:List Nat) (rest:Fra) (ring:Bool) (i:Nat):Fra→Sto→Prop
 | mk (ws:List Way) (τ:Sto) (x4 x5:Option V) (B:d9 m M o ring i ws):W1 β m M lo o rest ring i (fV m lo β.length x4 x5 rest) (cI β ws τ)
noncomputable def nW (m:Nat) (cell:Int):Bool:=(m:Int) == 1 || Int.fmod (Int.fdiv cell 12) 2 == 0
theorem ow (H:jE P M) (hM:100 ≤ M) (hs:aC β sc) (hlo:β[lo]?=some (.lst (natsV o))) (hol:o.length=m) (ho:∀ k,k < m→o.getD k 0 < m) (m2:m ≤ 12) (hj:rest[j]?=some (some (.int cell))) {i:Nat} (hi:i < m) {fr:Fra} {σ:Sto} (I:W1 β m M lo o rest (nW m cell) i fr σ) :
  nP [4] true (evSs (evFn P wf (n + 1)) wf (sT j)) (.int i) fr σ (W1 β m M lo o rest (nW m cell) (i + 1)) (fun _ _=>False):=by
 obtain ⟨ws,τ,x4,x5,B⟩:=I
 have hlen:ws.length ≤ 24:=by have:=B.len; lia
 refine ⟨fV m lo β.length (some (.int i)) x5 rest,rfl,.inl ?_⟩
 have hsc:∀ ws τ,aC (cI β ws τ) sc:=fun ws τ=>ap hs
 have hord:∀ ws τ k,k < m→lf (.ref lo) (.int k) (cI β ws τ)=some (.int (o.getD k 0:Nat)):=fun ws τ k hk=>bf (ap hlo) (dl (by lia))
 have e1:evE (evFn P wf (n + 1)) (E.call 22 [E.call 20 [E.loc 0,E.int 2],E.loc 4]) (fV m lo β.length (some (.int i)) x5 rest) (cI β ws τ)=.ok (.int (mixN (sc.getD 2 0) i:Nat)) (cI β ws τ) :=
  aE (aa (aE (aa (ac rfl) (aa ak ae)) (cY H.h20 (hsc _ _) 2)) (aa (ac rfl) ae)) (gm H.h22)
 generalize mixN (sc.getD 2 0) i=N at e1
 have et:evE (evFn P wf (n + 1)) ((E.cmp .Eq (E.loc 1) (E.int 1)).or (E.cmp .Eq (E.bin .Mod (E.bin .FloorDiv (E.loc (j + 6)) (E.int 12)) (E.int 2)) (E.int 0))) (fV m lo β.length (some (.int i)) (some (.int N)) rest) (cI β ws τ)=.ok (.bool (nW m cell)) (cI β ws τ):=by
  refine AI (aH (ac rfl) ak rfl) fun _=>aH (ax (ax (ac hj) ak (ik (by decide) (by decide))) ak (cP (by decide))) ak rfl
 have hmod:evE (evFn P wf (n + 1)) (E.bin .Mod (E.bin .Add (E.loc 4) (E.int 1)) (E.loc 1)) (fV m lo β.length (some (.int i)) (some (.int N)) rest) (cI β ws τ)=.ok (.int ((i + 1) % m:Nat)) (cI β ws τ):=ax (ax (ac rfl) ak rfl) (ac rfl) (eU (x:=i + 1) (by lia))
 cases hr:nW m cell with
 | true =>
  rw [hr] at B et
  obtain ⟨d,τ',hd,e2⟩:=ju (n:=n) (wf:=wf) H hM (e:=E.loc 5) (fr:=fV m lo β.length (some (.int i)) (some (.int N)) rest) (ws:=ws) (τ:=τ) (N:=N) (ac rfl)
  refine ⟨_,_,am e1 (show 5 < rest.length + 6 by lia) (d3 et (t4 (aK (ac rfl) (ac rfl) (hord _ _ i hi)) (aK (ac rfl) hmod (hord _ _ _ (Nat.mod_lt _ (by lia)))) e2 (by lia) aS) aS),⟨_,_,_,_,B.ring1 ho hi hd⟩⟩
 | false =>
  rw [hr] at B et
  by_cases h0:i=0
  ·subst h0
   exact ⟨_,_,am e1 (show 5 < rest.length + 6 by lia) (oP et (aM (aH (p:=false) (ac rfl) ak rfl) aS) aS),⟨_,_,_,_,B.tree0⟩⟩
  ·have hdv:∀ (q:Nat) ws τ,q ≠ 0→q < 10 ^ 100→evE (evFn P wf (n + 1)) (E.bin .FloorDiv (E.loc 5) (E.int q)) (fV m lo β.length (some (.int i)) (some (.int N)) rest) (cI β ws τ)=.ok (.int (N / q:Nat)) (cI β ws τ):=fun q ws τ h1 h2=>ax (ac rfl) ak (kh h1 h2)
   obtain ⟨d,τ',hd,e2⟩:=ju (n:=n) (wf:=wf) H hM (ws:=ws) (τ:=τ) (hdv 64 ws τ (by decide) (by decide))
   obtain ⟨d',τ2,hd',e3⟩:=ju (n:=n) (wf:=wf) H hM (ws:=ws ++ [(o.getD (N / 7 % i) 0,o.getD i 0,d)]) (τ:=τ') (hdv 4096 _ τ' (by decide) (by decide))
   have b1:N / 7 % i < i:=Nat.mod_lt _ (by lia)
   have b2:N / 512 % i < i:=Nat.mod_lt _ (by lia)
   have hlen1:(ws ++ [(o.getD (N / 7 % i) 0,o.getD i 0,d)]).length ≤ 1000:=by rw [List.length_append]; show ws.length + 1 ≤ _; lia
   refine ⟨_,_,am e1 (show 5 < rest.length + 6 by lia) (oP et (d3 (aH (p:=true) (ac rfl) ak (congrArg some (decide_eq_true (by lia)))) (t4 (aK (ac rfl) (ax (hdv 7 _ _ (by decide) (by decide)) (ac rfl) (eU h0)) (hord _ _ _ (by lia))) (aK (ac rfl) (ac rfl) (hord _ _ i hi)) e2 (by lia) (t4 (aK (ac rfl) (ac rfl) (hord _ _ i hi)) (aK (ac rfl) (ax (hdv 512 _ _ (by decide) (by decide)) (ac rfl) (eU h0)) (hord _ _ _ (by lia))) e3 hlen1 aS)) aS) aS),⟨_,_,_,_,B.tree1 ho hi b1 b2 hd hd'⟩⟩
end
end Mine
namespace Mine
set_option backward.match.sparseCases false
open PySem
section
variable {P:Nat→Option Fn}{wf n:Nat} {σ β:Sto}{sc:List Int}{m M lo j:Nat}{o:List Nat}{rest:Fra}{cell:Int}
theorem bV (q:Nat) (hq:1 ≤ q) (c:Int):∃ k:Nat,k < q ∧ c.fmod q=(k:Int):=by
 have h1:=Int.fmod_nonneg_of_pos c (b:=(q:Int)) (by lia)
 have h2:=Int.fmod_lt_of_pos c (b:=(q:Int)) (by lia)
 exact ⟨(c.fmod q).toNat,by lia,by lia⟩
theorem rW {fr:Fra}{key:KX} (hk:key=hG j) (hc:fr[j + 6]?=some (some (.int cell))) (ht:σ[1]?=some (.tab false)) (m1:1 ≤ m) (m2:m ≤ 12) :
  ∃ o:List Nat,o.Perm (List.range m) ∧ yZ key fr (.rng 0 m) σ=.ok (.ref σ.length) (σ.set 1 (AO.tab true) ++ [AO.lst (natsV o)]):=by
 obtain ⟨c,hc1,hc2⟩:=bV 12 (by decide) cell
 have e1:∀ i:Nat,i < m→kxV fr (i:Int) (hG j)=some (((i + 1) * (c + 1) % 13:Nat):Int):=fun i hi=>by
  unfold hG
  show (((some ((i:Int) + 1)).bind fun p=>(((some (1:Int)).bind fun p=>((kxV fr (i:Int) ((KX.var (j + 6)).mod (KX.num 12))).map fun q=>p + q))).bind fun q=>if nY p q then some (p * q) else none).bind fun p=>(some (13:Int)).bind fun q=>if q ≠ 0 then some (p.fmod q) else none)=_
  have ev:kxV fr (i:Int) ((KX.var (j + 6)).mod (KX.num 12))=some (c:Int):=by
   show ((match fr[j + 6]? with | some (some (.int v))=>some v | _=>none).bind fun p=>(some (12:Int)).bind fun q=>if q ≠ 0 then some (p.fmod q) else none)=_
   rw [hc]
   show (if (12:Int) ≠ 0 then some (cell.fmod 12) else none)=_
   rw [if_pos (by decide)]; exact congrArg some hc2
  rw [ev]
  show ((if nY ((i:Int) + 1) (1 + (c:Int)) then some (((i:Int) + 1) * (1 + (c:Int))) else none).bind fun p=>if (13:Int) ≠ 0 then some (p.fmod 13) else none)=_
  rw [if_pos (.inl (by lia))]
  show (if (13:Int) ≠ 0 then some ((((i:Int) + 1) * (1 + (c:Int))).fmod 13) else none)=_
  rw [if_pos (by decide)]
  have:((i:Int) + 1) * (1 + (c:Int))=(((i + 1) * (c + 1):Nat):Int):=by rw [Int.natCast_mul,Int.add_comm 1]; rfl
  rw [this]
  exact congrArg some (xS _ 13)
 have e2:aP (fun (i:Nat)=>kxV fr (i:Int) key) (List.range m)=some ((List.range m).map fun i=>(((i + 1) * (c + 1) % 13:Nat):Int)):=by
  have:=cu (f:=fun (i:Nat)=>kxV fr (i:Int) key) (g:=id) (h:=fun i=>(((i + 1) * (c + 1) % 13:Nat):Int)) (l:=List.range m) fun i hi=>by rw [hk]; exact e1 i (List.mem_range.mp hi)
  rwa [List.map_id] at this
 have nd:((List.range m).map fun i=>(((i + 1) * (c + 1) % 13:Nat):Int)).Nodup:=by
  rw [List.Nodup,List.pairwise_iff_getElem]
  intro p q hp hq hpq e
  rw [List.length_map,List.length_range] at hp hq
  rw [List.getElem_map,List.getElem_map,List.getElem_range,List.getElem_range] at e
  have:=nT (c + 1) (by lia) (by lia) p q (by lia) (by lia) (Int.ofNat.inj e)
  lia
 have hp:((fJ (((List.range m).map fun i=>(((i + 1) * (c + 1) % 13:Nat):Int)).zip (iw 0 m))).map (·.2)).Perm (natsV (List.range m)):=by
  refine ((me _).map _).trans ?_
  have:(((List.range m).map fun i=>(((i + 1) * (c + 1) % 13:Nat):Int)).zip (iw 0 m)).map (·.2)=iw 0 m:=List.map_snd_zip (by rw [bo,List.length_map,List.length_map]; exact Nat.le_refl _)
  rw [this,bo]
  exact .refl _
 obtain ⟨o,ho,hperm⟩:=oJ hp
 refine ⟨o,hperm,?_⟩
 show (if (0:Int)=0 ∧ (m:Int) < 60 then zF σ[1]? (ze (aP (fun (i:Nat)=>kxV fr (i:Int) key) (List.range (m:Int).toNat)) m σ) else .bad)=_
 rw [if_pos ⟨rfl,by lia⟩,ht]
 show ze (aP (fun (i:Nat)=>kxV fr (i:Int) key) (List.range m)) m σ=_
 rw [e2]
 show (if ((List.range m).map fun i=>(((i + 1) * (c + 1) % 13:Nat):Int)).Nodup then cQ ((fJ (((List.range m).map fun i=>(((i + 1) * (c + 1) % 13:Nat):Int)).zip (iw 0 m))).map (·.2)) (σ.set 1 (.tab true)) else .bad)=_
 rw [if_pos nd,ho,ai (by rw [av,hperm.length_eq,List.length_range]; lia),List.length_set]
inductive W2 (β:Sto) (m M lo K:Nat) (rest:Fra) (i:Nat):Fra→Sto→Prop
 | mk (ws:List Way) (τ:Sto) (x4 x5:Option V) (L:bL m M (K + i) ws):W2 β m M lo K rest i (fV m lo β.length x4 x5 rest) (cI β ws τ)
theorem ou (H:jE P M) (hM:100 ≤ M) (hs:aC β sc) (m1:1 ≤ m) {K i:Nat} (hK:K + i ≤ 1000) {fr:Fra} {σ:Sto} (I:W2 β m M lo K rest i fr σ) :
  nP [4] true (evSs (evFn P wf (n + 1)) wf pi) (.int i) fr σ (W2 β m M lo K rest (i + 1)) (fun _ _=>False):=by
 obtain ⟨ws,τ,x4,x5,L⟩:=I
 refine ⟨fV m lo β.length (some (.int i)) x5 rest,rfl,.inl ?_⟩
 have e1:evE (evFn P wf (n + 1)) (E.call 22 [E.call 20 [E.loc 0,E.bin .Add (E.int 3) (E.bin .Mod (E.loc 4) (E.int 6))],E.loc 4]) (fV m lo β.length (some (.int i)) x5 rest) (cI β ws τ)=.ok (.int (mixN (sc.getD (3 + i % 6) 0) i:Nat)) (cI β ws τ) :=
  aE (aa (aE (aa (ac rfl) (aa (ax ak (ax (ac rfl) ak (eU (x:=i) (y:=6) (by decide))) rfl) ae)) (cY H.h20 (show aC (cI β ws τ) sc from ap hs) (3 + i % 6))) (aa (ac rfl) ae)) (gm H.h22)
 generalize mixN (sc.getD (3 + i % 6) 0) i=N at e1
 obtain ⟨d,τ',hd,e2⟩:=ju (n:=n) (wf:=wf) H hM (e:=E.bin .FloorDiv (E.loc 5) (E.int 256)) (fr:=fV m lo β.length (some (.int i)) (some (.int N)) rest) (ws:=ws) (τ:=τ) (N:=N / 256) (ax (ac rfl) ak (kh (y:=256) (by decide) (by decide)))
 have hlen:=L.len
 exact ⟨_,_,am e1 (show 5 < rest.length + 6 by lia) (t4 (ax (ac rfl) (ac rfl) (eU (by lia))) (ax (ax (ac rfl) ak (kh (y:=16) (by decide) (by decide))) (ac rfl) (eU (by lia))) e2 (by lia) aS),⟨_,_,_,_,L.more (Nat.mod_lt _ m1) (Nat.mod_lt _ m1) hd⟩⟩
noncomputable def wk (j:Nat) (rest:List S):List S :=
 S.asg (j + 6) (E.call 20 [E.loc 0,E.int 1]) :: S.asg 2 ((E.blt .range [E.loc 1]).srt (hG j)) :: S.asg 3 (E.list []) :: S.forS [4] true (It.e (E.blt .range [E.loc 1])) (sT j) :: rest
theorem sj (H:jE P M) (hM:100 ≤ M) (hs:aC σ sc) (ht:σ[1]?=some (.tab false)) (m1:1 ≤ m) (m2:m ≤ 12) {tail:List S}{rest0:Fra} (hj:j < rest0.length) {G:Prop}
  (k:∀ ws o τ x4 x5,bL m M (2 * m) ws→(∀ r,evSs (evFn P wf (n + 1)) wf tail (fV m σ.length (σ.length + 1) x4 x5 (rest0.set j (some (.int (sc.getD 1 0))))) (cI (σ.set 1 (.tab true) ++ [o]) ws τ)=r→evSs (evFn P wf (n + 1)) wf (wk j tail) (some (.ref 0) :: some (.int m) :: none :: none :: none :: none :: rest0) σ=r)→G):G:=by
 generalize hcell:sc.getD 1 0=cell at k
 have hj':(rest0.set j (some (V.int cell)))[j]?=some (some (.int cell)):=List.getElem?_set_self hj
 obtain ⟨o,hp,eo⟩:=rW (σ:=σ) (m:=m) (j:=j) (cell:=cell) (fr:=some (.ref 0) :: some (.int m) :: none :: none :: none :: none :: rest0.set j (some (.int cell))) rfl hj' ht m1 m2
 have hol:o.length=m:=by rw [hp.length_eq,List.length_range]
 have ho:∀ k,k < m→o.getD k 0 < m:=fun k hk=>List.mem_range.mp (hp.mem_iff.mp (nh (by lia)))
 have hlb:(σ.set 1 (AO.tab true) ++ [AO.lst (natsV o)]).length=σ.length + 1:=by rw [List.length_append,List.length_set]; rfl
 have hlo:(σ.set 1 (AO.tab true) ++ [AO.lst (natsV o)])[σ.length]?=some (.lst (natsV o)):=by
  have:=aj (σ:=σ.set 1 (.tab true)) (o:=.lst (natsV o)) (τ:=[])
  rwa [List.length_set] at this
 have hs':aC (σ.set 1 (AO.tab true) ++ [AO.lst (natsV o)]) sc:=ap (by rw [List.getElem?_set_ne (by decide)]; exact hs)
 obtain ⟨fr1,σ1,l1,ws1,τ1,y4,y5,B⟩:=(kO (call:=evFn P wf (n + 1)) (wf:=wf) (tg:=[4]) (one:=true) (ws:=List.range m) (g:=fun (v:Nat)=>V.int v) (it:=E.blt .range [E.loc 1]) (bs:=sT j) (fr:=fV m σ.length (σ.set 1 (AO.tab true) ++ [AO.lst (natsV o)]).length none none (rest0.set j (some (.int cell)))) (σ:=cI (σ.set 1 (AO.tab true) ++ [AO.lst (natsV o)]) [] [])
  (W1 (σ.set 1 (AO.tab true) ++ [AO.lst (natsV o)]) m M σ.length o (rest0.set j (some (.int cell))) (nW m cell)) (fun _ _=>False) (aR (aa (ac rfl) ae) (bh (by lia))) (bo m)
  (by
   intro i v fr σ' hv I
   obtain ⟨hi,rfl⟩:=bg hv
   exact ow H hM hs' hlo hol ho m2 hj' hi I) ⟨[],[],none,none,d9.start⟩).next
 rw [List.length_range] at B
 refine k ws1 (.lst (natsV o)) τ1 y4 y5 (B.good m1 (fun e=>by unfold nW; rw [e]; rfl) hp) fun r h=>?_
 rw [← hlb] at h
 refine am (aE (aa (ac rfl) (aa ak ae)) (cY H.h20 hs 1)) (show j + 6 < rest0.length + 6 by lia) ?_
 rw [hcell]
 exact am (Ad (aR (aa (ac rfl) ae) (bh (by lia))) eo) (show 2 < _ + 6 by lia) (am (bc ae (ai (by decide:0 ≤ 16777216))) (show 3 < _ + 6 by lia) (aT l1 h))
theorem sW (H:jE P M) (hM:100 ≤ M) (hs:aC β sc) (m1:1 ≤ m) {K k:Nat} (hK:K + k ≤ 1000) {ws:List Way} {τ:Sto}{x4 x5:Option V}{e:E} (L:bL m M K ws) (he:evE (evFn P wf (n + 1)) e (fV m lo β.length x4 x5 rest) (cI β ws τ)=.ok (.rng 0 k) (cI β ws τ)) :
  ∃ ws' τ' y4 y5,bL m M (K + k) ws' ∧ evS (evFn P wf (n + 1)) wf (S.forS [4] true (It.e e) pi) (fV m lo β.length x4 x5 rest) (cI β ws τ)=.ok .next (fV m lo β.length y4 y5 rest) (cI β ws' τ'):=by
 obtain ⟨fr2,σ2,l2,ws2,τ2,z4,z5,L2⟩:=(kO (call:=evFn P wf (n + 1)) (wf:=wf) (tg:=[4]) (one:=true) (ws:=List.range k) (g:=fun (v:Nat)=>V.int v) (it:=e) (bs:=pi) (fr:=fV m lo β.length x4 x5 rest) (σ:=cI β ws τ)
  (W2 β m M lo K rest) (fun _ _=>False) he (bo k)
  (by
   intro i v fr σ' hv I
   obtain ⟨hi,rfl⟩:=bg hv
   exact ou H hM hs m1 (by lia) I) ⟨ws,τ,x4,x5,L⟩).next
 rw [List.length_range] at L2
 exact ⟨ws2,τ2,z4,z5,L2,l2⟩
theorem nR (H:jE P M) (hM:100 ≤ M) (hs:aC σ sc) (ht:σ[1]?=some (.tab false)) (m1:1 ≤ m) (m2:m ≤ 12) {size md:Nat} (hd1:1 ≤ md) (hd2:md ≤ 100) {tail:List S}{rest0:Fra} (hfr:aW (lZ j size md tail) [.ref 0,.int m]=some (.ref 0) :: some (.int m) :: none :: none :: none :: none :: rest0) (hj:j < rest0.length) :
  ∃ ws o τ x4 x5,bL m M (2 * m + (md - 1)) ws ∧ ∀ r,evSs (evFn P wf (n + 1)) wf tail (fV m σ.length (σ.length + 1) x4 x5 (rest0.set j (some (.int (sc.getD 1 0))))) (cI (σ.set 1 (.tab true) ++ [o]) ws τ)=r→evSs (evFn P wf (n + 1)) wf (lZ j size md tail).body (aW (lZ j size md tail) [.ref 0,.int m]) σ=r:=by
 refine sj (wf:=wf) (n:=n) (tail:=S.forS [4] true (It.e (E.blt .range [E.bin .Mod (E.bin .FloorDiv (E.loc (j + 6)) (E.int 24)) (E.int md)])) pi :: tail) H hM hs ht m1 m2 hj fun ws o τ x4 x5 L e1=>?_
 obtain ⟨k,hk1,hk2⟩:=bV md hd1 (Int.fdiv (sc.getD 1 0) 24)
 have hlb:(σ.set 1 (AO.tab true) ++ [o]).length=σ.length + 1:=by rw [List.length_append,List.length_set]; rfl
 rw [← hlb] at e1
 obtain ⟨ws2,τ2,z4,z5,L2,l2⟩:=sW (wf:=wf) (n:=n) (lo:=σ.length) (x4:=x4) (x5:=x5) (τ:=τ) (rest:=rest0.set j (some (.int (sc.getD 1 0)))) (e:=E.blt .range [E.bin .Mod (E.bin .FloorDiv (E.loc (j + 6)) (E.int 24)) (E.int md)]) H hM (show aC (σ.set 1 (AO.tab true) ++ [o]) sc from ap (by rw [List.getElem?_set_ne (by decide)]; exact hs)) m1 (K:=2 * m) (k:=k) (by lia) L
  (aR (aa (ax (ax (ac (List.getElem?_set_self hj)) ak (ik (by decide) (by decide))) ak ((cP (by lia)).trans (by rw [hk2]))) ae) (bh (k:=k) (by lia)))
 refine ⟨ws2,o,τ2,z4,z5,⟨Nat.le_trans L2.len (by lia),L2.ends,L2.del,L2.sc,L2.ne⟩,fun r h=>?_⟩
 rw [← hlb] at h
 rw [hfr]
 exact e1 r (aT l2 h)
theorem mG (HL:P 20=some cW) {sc:List Int} (hs:aC σ sc) {fr:Fra}{e:E}{k q:Nat} (h0:fr[0]?=some (some (.ref 0))) (he:evE (evFn P wf (n + 1)) e fr σ=.ok (.int q) σ) (hq:1 ≤ q) :
  ∃ c:Nat,c < q ∧ evE (evFn P wf (n + 1)) (E.bin .Mod (E.call 20 [E.loc 0,E.int k]) e) fr σ=.ok (.int c) σ:=by
 obtain ⟨c,h1,h2⟩:=bV q hq (sc.getD k 0)
 refine ⟨c,h1,ax (aE (aa (ac h0) (aa ak ae)) (cY HL hs k)) he ((cP (by lia)).trans ?_)⟩
 rw [h2]
end
end Mine
namespace Mine
open PySem
theorem rI (l:List Int):∀ a:Int,(l.foldl (fun a b=>if a < b then b else a) a=a ∨ l.foldl (fun a b=>if a < b then b else a) a ∈ l) ∧ a ≤ l.foldl (fun a b=>if a < b then b else a) a ∧ ∀ x ∈ l,x ≤ l.foldl (fun a b=>if a < b then b else a) a:=by
 induction l with
 | nil=>exact fun a=>⟨.inl rfl,Int.le_refl _,nofun⟩
 | cons x l ih =>
  intro a
  rw [List.foldl_cons]
  obtain ⟨h1,h2,h3⟩:=ih (if a < x then x else a)
  have h4:a ≤ (if a < x then x else a) ∧ x ≤ (if a < x then x else a) ∧ ((if a < x then x else a)=a ∨ (if a < x then x else a)=x):=by split <;> lia
  refine ⟨?_,Int.le_trans h4.1 h2,fun y hy=>?_⟩
  ·rcases h1 with h1 | h1
   ·rw [h1]
    rcases h4.2.2 with q | q
    ·exact .inl q
    ·exact .inr (by rw [q]; exact .head _)
   ·exact .inr (.tail _ h1)
  ·rcases List.mem_cons.mp hy with rfl | hy
   ·exact Int.le_trans h4.2.1 h2
   ·exact h3 y hy
theorem qB {is:List Int} (h:is ≠ []):∃ mx,gV is=some mx ∧ mx ∈ is ∧ ∀ x ∈ is,x ≤ mx:=by
 cases is with
 | nil=>exact absurd rfl h
 | cons x l =>
  obtain ⟨h1,h2,h3⟩:=rI l x
  refine ⟨_,rfl,?_,fun y hy=>?_⟩
  ·rcases h1 with h1 | h1
   ·rw [h1]; exact .head _
   ·exact .tail _ h1
  ·rcases List.mem_cons.mp hy with rfl | hy
   ·exact h2
   ·exact h3 y hy
noncomputable def uT (ws:List Way) (x:Nat→Int) (v:Nat):List Int:=(ws.filter fun w=>w.2.1 == v).map fun w=>x w.1 + (w.2.2:Int)
noncomputable def fi (ws:List Way) (x:Nat→Int) (v:Nat):Int:=(gV (uT ws x v)).getD 0
noncomputable def cb (ws:List Way) (x:Nat→Int):Nat→Nat→Int
 | 0=>x
 | t + 1=>fi ws (cb ws x t)
structure Ins (ws:List Way) (m:Nat):Prop where
 hm:∀ w ∈ ws,w.1 < m ∧ w.2.1 < m
 inn:∀ v,v < m→∃ w ∈ ws,w.2.1=v
section
variable {ws:List Way}{m:Nat}{x y S:Nat→Int}{c:Int}
theorem wn (H:Ins ws m) {v:Nat} (hv:v < m):uT ws x v ≠ []:=fun e=>by
 obtain ⟨w,hw,rfl⟩:=H.inn v hv
 have:x w.1 + (w.2.2:Int) ∈ uT ws x w.2.1:=List.mem_map.mpr ⟨w,List.mem_filter.mpr ⟨hw,beq_self_eq_true _⟩,rfl⟩
 rw [e] at this; cases this
theorem tY (H:Ins ws m) {v:Nat} (hv:v < m):gV (uT ws x v)=some (fi ws x v):=by
 obtain ⟨mx,h,_⟩:=qB (wn (x:=x) H hv)
 unfold fi; rw [h]; rfl
end
end Mine
namespace Mine
open PySem
noncomputable def xM:Fn:={ ps:=[0,1],size:=2,body :=
 [S.expr ((E.loc 0).umeth 12 [E.loc 1]),S.ret (E.comp [1] true ((E.loc 0).attr 1) [E.cmp .Eq ((E.loc 1).sub (E.int 1)) (E.loc 2)] (E.tup [(E.loc 1).sub (E.int 0),(E.loc 1).sub (E.int 2)]) [none,none,some 1])] }
noncomputable def uE:E:=E.comp [1,2] false ((E.loc 0).umeth 15 [E.loc 3]) [] (E.bin .Add ((E.loc 3).sub (E.loc 1)) (E.loc 2)) [none,none,none,some 1]
noncomputable def ut:List S:=[S.expr ((E.loc 2).meth .append [E.blt .max [uE]])]
noncomputable def u5:Fn:={ ps:=[0,1],size:=8,body :=
 [S.ifS (E.cmp .NotEq (E.blt .len [E.loc 1]) ((E.loc 0).attr 0)) [S.raise (xc 0)] [],S.asg 2 (E.list []),
  S.forS [3] true (It.e (E.blt .range [(E.loc 0).attr 0])) ut,S.ret (E.loc 2)] }
noncomputable def uV:List S:=[S.expr ((E.loc 3).meth .append [(E.loc 0).umeth 16 [(E.loc 3).sub (E.int 1).neg]])]
noncomputable def m8:Fn:={ ps:=[0,1,2],size:=9,body :=
 [S.ifS (E.cmp .NotEq (E.blt .len [E.loc 1]) ((E.loc 0).attr 0)) [S.raise (xc 0)] [],S.asg 3 (E.list [E.blt .list [E.loc 1]]),
  S.forS [4] true (It.e (E.blt .range [E.loc 2])) uV,S.ret (E.loc 3)] }
noncomputable def sE (w:Way):V:=.tup [.int w.1,.int w.2.2]
noncomputable def a4 (σ:Sto) (xs:List V) (τ:Sto):Sto:=σ ++ .lst xs :: τ
theorem eT {σ τ:Sto}{xs ys:List V}:dw (a4 σ xs τ) σ.length ys=a4 σ ys τ:=by unfold dw a4; exact eu
theorem bX {σ τ υ:Sto}{xs:List V}:a4 σ xs τ ++ υ=a4 σ xs (τ ++ υ):=List.append_assoc _ _ _
theorem iY {i:Nat}{y:Nat→Int}:intsV (i + 1) y=intsV i y ++ [V.int (y i)]:=by
 unfold intsV; rw [List.range_succ,List.map_append]; rfl
theorem eB (is:List Int):aB (is.map V.int)=some is:=by
 have:aP yA (is.map V.int)=some (is.map id):=cu fun _ _=>rfl
 rwa [List.map_id] at this
theorem yE {σ:Sto}{l:Nat}{is:List Int}{i:Int} (h:σ[l]?=some (.lst (is.map V.int))) (h2:gV is=some i):gQ .max [.ref l] σ=.ok (.int i) σ:=by
 show cx σ ((((getL σ l).bind aB).bind gV).map V.int)=_
 rw [af h]
 show cx σ (((aB (is.map V.int)).bind gV).map V.int)=_
 rw [eB]
 show cx σ ((gV is).map V.int)=_
 rw [h2]; rfl
theorem aQ.ins {m:Nat}{ws:List Way} (G:aQ m ws):Ins ws m:=⟨G.hm,fun v hv=>by
 obtain ⟨w,hw,e⟩:=G.flip.ok.hO v hv
 obtain ⟨a,b,d⟩:=w
 exact ⟨(b,a,d),m7.mp hw,e⟩⟩
structure gR (P:Nat→Option Fn):Prop where
 h8:P 8=some cr
 h12:P 12=some nU
 h15:P 15=some xM
 h16:P 16=some u5
 h17:P 17=some m8
section
variable {P:Nat→Option Fn}{wf n:Nat} {σ:Sto}{l m lt:Nat}{ws:List Way}{x:Nat→Int}
theorem o5 (H:gR P) (W:a9 σ l m ws) (hz:ws.length ≤ 60) {v:Nat} (hv:v < m):evFn P wf (n + 3) 15 [.ref l,.int v] σ=.ok (.ref σ.length) (σ ++ [.lst ((ws.filter fun w=>w.2.1 == v).map sE)]):=by
 obtain ⟨d,lw,a,b,c⟩:=W.at'
 refine bj H.h15 rfl (be (bB (ac rfl) a b (aa (ac rfl) ae) (jC (n:=n) H.h8 H.h12 W hv)) (aI (d4 (ws:=ws) (g:=bk) (p:=fun w=>w.2.1 == v) (f:=sE) (cO (ac rfl) (dg a b)) (af c) (fun w hw=>⟨_,rfl,kC (aH (aK (ac rfl) ak rfl) (ac rfl) (congrArg some (cj w.2.1 v))),fun _=>iz (aa (aK (ac rfl) ak rfl) (aa (aK (ac rfl) ak rfl) ae)) (by decide:2 ≤ 1000)⟩) (ai ?_))))
 rw [List.length_map]; exact Nat.le_trans (List.length_filter_le _ _) (Nat.le_trans hz (by decide))
theorem wv (H:gR P) (W:a9 σ l m ws) (G:aQ m ws) (ht:σ[lt]?=some (.lst (intsV m x))) {v:Nat} (hv:v < m) {fr:Fra} (h0:fr[0]?=some (some (.ref l))) (h3:fr[3]?=some (some (.int v))) (hs:dU fr [none,none,none,some 1]=[none,none,none,some (.ref lt)]) :
  ∃ τ,evE (evFn P wf (n + 3)) (E.blt .max [uE]) fr σ=.ok (.int (fi ws x v)) (σ ++ τ):=by
 obtain ⟨d,lw,a,b,c⟩:=W.at'
 refine ⟨[.lst ((ws.filter fun w=>w.2.1 == v).map sE)] ++ [.lst ((uT ws x v).map V.int)],?_⟩
 rw [← List.append_assoc]
 refine aR (aa (d4 (ws:=ws.filter fun w=>w.2.1 == v) (g:=sE) (p:=fun _=>true) (f:=fun w=>V.int (x w.1 + (w.2.2:Int))) (bB (ac h0) a b (aa (ac h3) ae) (o5 (n:=n) H W G.hz hv)) (af aj) (fun w hw=>?_) ?_) ae) (yE aj (tY G.ins hv))
 ·rw [hs]
  exact ⟨_,rfl,sP,fun _=>ax (aK (ac rfl) (ac rfl) (bf (ap ht) (cF (G.hm w (List.mem_filter.mp hw).1).1))) (ac rfl) rfl⟩
 ·rw [List.filter_eq_self.mpr (fun _ _=>rfl),show ((ws.filter fun w=>w.2.1 == v).map fun w=>V.int (x w.1 + (w.2.2:Int)))=(uT ws x v).map V.int by unfold uT; rw [List.map_map]; rfl]
  refine ai ?_
  unfold uT
  rw [List.length_map,List.length_map]; exact Nat.le_trans (List.length_filter_le _ _) (Nat.le_trans G.hz (by decide))
theorem uG {call:Nat→List V→Sto→RE}{e:E}{k:Nat}{fr:Fra}{xs:List V} {τ τ':Sto}{v:V} (hk:fr[k]?=some (some (.ref σ.length))) (he:evE call e fr (a4 σ xs τ)=.ok v (a4 σ xs τ')) (hz:xs.length < 16777216):evSs call wf [S.expr ((E.loc k).meth .append [e])] fr (a4 σ xs τ)=.ok .next fr (a4 σ (xs ++ [v]) τ'):=by
 refine be (cm (ac hk) (af aj) (aa he ae) (af aj) (jT hz)) ?_
 rw [eT]; exact aS
theorem oR (h:σ[lt]?=some (.lst (intsV m x))) {d lw:Nat}{call:Nat→List V→Sto→RE}{fr:Fra} (h0:fr[0]?=some (some (.ref l))) (h1:fr[1]?=some (some (.ref lt))) (a:σ[l]?=some (.inst d)) (b:σ[d]?=some (.att [(0,.int m),(1,.ref lw)])) :
  evE call (E.cmp .NotEq (E.blt .len [E.loc 1]) ((E.loc 0).attr 0)) fr σ=.ok (.bool false) σ:=by
 refine aH (aR (aa (ac h1) ae) (bH h)) (cO (ac h0) (bG a b)) ?_
 rw [bK]; exact mY
theorem jt (H:gR P) (W:a9 σ l m ws) (G:aQ m ws) (ht:σ[lt]?=some (.lst (intsV m x))) :
  ∃ τ,evFn P wf (n + 4) 16 [.ref l,.ref lt] σ=.ok (.ref σ.length) (a4 σ (intsV m (fi ws x)) τ):=by
 obtain ⟨d,lw,a,b,c⟩:=W.at'
 have hm:=G.m2
 obtain ⟨z,e1,_⟩:=lG (call:=evFn P wf (n + 3)) (wf:=wf) (tg:=[3]) (one:=true) (ws:=List.range m) (g:=fun (v:Nat)=>V.int v) (it:=E.blt .range [(E.loc 0).attr 0]) (bs:=ut) (σ:=a4 σ [] [])
  (F:=fun _ (z:Option V × Sto)=>[some (.ref l),some (.ref lt),some (.ref σ.length),z.1,none,none,none,none]) (S:=fun i z=>a4 σ (intsV i (fi ws x)) z.2) (J:=fun _ _=>True) (none,[])
  (aR (aa (cO (ac rfl) (bG (ap a) (ap b))) ae) (bh (by lia))) (bo m)
  (fun i v z hv _=>by
   obtain ⟨hi,rfl⟩:=bg hv
   obtain ⟨υ,e⟩:=wv (wf:=wf) (n:=n) (σ:=a4 σ (intsV i (fi ws x)) z.2) (x:=x) (fr:=[some (.ref l),some (.ref lt),some (.ref σ.length),some (.int i),none,none,none,none]) H (W.app (τ:=_)) G (ap ht) hi rfl rfl rfl
   rw [bX] at e
   refine ⟨_,rfl,(some (.int i),z.2 ++ υ),?_,trivial⟩
   rw [iY]
   exact uG rfl e (by rw [bK]; lia)) trivial
 rw [List.length_range] at e1
 exact ⟨z.2,bj H.h16 rfl (aM (oR ht rfl rfl a b) (am (bc ae (ai (by decide:0 ≤ 16777216))) (by decide:2 < 8) (aT e1 (aI (ac rfl)))))⟩
end
end Mine
namespace Mine
open PySem
noncomputable def ui:E:=E.blt .tuple [E.comp [1] true (E.loc 3) [] (E.bin .Sub (E.loc 1) ((E.loc 2).sub (E.int 0))) [none,none,some 3]]
noncomputable def jo:List S :=
 [S.asg 7 ui,
  S.ifS (E.cmp .In (E.loc 7) (E.loc 4)) [S.ret (E.tup [(E.loc 4).sub (E.loc 7),E.bin .Sub (E.loc 6) ((E.loc 4).sub (E.loc 7)),E.bin .Sub ((E.loc 3).sub (E.int 0)) ((E.loc 5).sub ((E.loc 4).sub (E.loc 7)))])] [],
  S.asgI (E.loc 4) (E.loc 7) (E.loc 6),S.expr ((E.loc 5).meth .append [(E.loc 3).sub (E.int 0)]),S.asg 3 ((E.loc 0).umeth 16 [E.loc 3])]
noncomputable def cw:Fn:={ ps:=[0,1,2],size:=10,body :=
 [S.asg 3 (((E.loc 0).umeth 17 [E.loc 1,E.int 0]).sub (E.int 0)),S.asg 4 E.dict0,S.asg 5 (E.list []),
  S.forS [6] true (It.e (E.blt .range [E.bin .Add (E.loc 2) (E.int 1)])) jo,S.ret E.none] }
noncomputable def bp (m:Nat) (x:Nat→Int):List Int:=(List.range m).map fun v=>x v - x 0
theorem tH {m:Nat}{x y:Nat→Int} (h:bp m x=bp m y) {v:Nat} (hv:v < m):y v=x v + (y 0 - x 0):=by
 have:=congrArg (fun l=>l[v]?) h
 unfold bp at this
 rw [List.getElem?_map,List.getElem?_map,List.getElem?_range hv] at this
 have h2:x v - x 0=y v - y 0:=Option.some.inj this
 lia
noncomputable def cK (m:Nat) (X:Nat→Nat→Int) (i:Nat):List (List Int × V):=(List.range i).map fun t=>(bp m (X t),V.int (t:Nat))
theorem jW {m i:Nat}{X:Nat→Nat→Int}:cK m X (i + 1)=cK m X i ++ [(bp m (X i),V.int (i:Nat))]:=by
 unfold cK; rw [List.range_succ,List.map_append]; rfl
theorem vo {k:List Int}{v:V}{es:List (List Int × V)} (h:(es.any fun e=>e.1 == k)=false):ly k v es=es ++ [(k,v)]:=by
 induction es with
 | nil=>rfl
 | cons e es ih =>
  rw [List.any_cons,Bool.or_eq_false_iff] at h
  show (if (e.1 == k)=true then (e.1,v) :: es else e :: ly k v es)=_
  rw [h.1,ih h.2]; rfl
theorem tV {m i:Nat}{X:Nat→Nat→Int}{k:List Int} (h:((cK m X i).any fun e=>e.1 == k)=true):∃ t,t < i ∧ bp m (X t)=k ∧ (cK m X i).lookup k=some (V.int (t:Nat)):=by
 induction i with
 | zero=>exact absurd h Bool.false_ne_true
 | succ i ih =>
  rw [jW] at h ⊢
  have happ:∀ {es es':List (List Int × V)},(es ++ es').lookup k=(es.lookup k).or (es'.lookup k):=fun {es es'}=>by
   induction es with
   | nil=>rfl
   | cons e es ih2 =>
    rw [List.cons_append,List.lookup_cons,List.lookup_cons,ih2]
    cases k == e.1 <;> rfl
  rw [happ]
  by_cases h1:((cK m X i).any fun e=>e.1 == k)=true
  ·obtain ⟨t,ht,hk,hl⟩:=ih h1
   exact ⟨t,by lia,hk,by rw [hl]; rfl⟩
  ·have h1:=Bool.eq_false_iff.mpr h1
   rw [List.any_append,h1,Bool.false_or,List.any_cons,List.any_nil,Bool.or_false] at h
   have hk:bp m (X i)=k:=eq_of_beq h
   have hn:(cK m X i).lookup k=none:=by
    rw [List.lookup_eq_none_iff]
    intro e he
    rw [List.any_eq_false] at h1
    have:=h1 e he
    rw [Bool.not_eq_true,beq_eq_false_iff_ne] at this
    exact bne_iff_ne.mpr (Ne.symm this)
   refine ⟨i,Nat.lt_succ_self _,hk,?_⟩
   rw [hn,List.lookup_cons,show (k == bp m (X i))=true from beq_iff_eq.mpr hk.symm]; rfl
section
variable {P:Nat→Option Fn}{wf n:Nat} {σ:Sto}{l m lt lh:Nat}{ws:List Way}{x:Nat→Int}{call:Nat→List V→Sto→RE}
theorem tB {fr:Fra} (hm:1 ≤ m ∧ m ≤ 12) (h3:fr[3]?=some (some (.ref lh))) (hs:dU fr [none,none,some 3]=[none,none,some (.ref lh)]) (ht:σ[lh]?=some (.lst (intsV m x))) :
  evE call ui fr σ=.ok (.tup ((bp m x).map V.int)) (σ ++ [.lst ((bp m x).map V.int)]):=by
 have e1:evE call (E.comp [1] true (E.loc 3) [] (E.bin .Sub (E.loc 1) ((E.loc 2).sub (E.int 0))) [none,none,some 3]) fr σ=.ok (.ref σ.length) (σ ++ [.lst ((bp m x).map V.int)]):=by
  refine d4 (ws:=List.range m) (g:=fun v=>V.int (x v)) (p:=fun _=>true) (f:=fun v=>V.int (x v - x 0)) (ac h3) (af ht) (fun v hv=>?_) ?_
  ·rw [hs]
   exact ⟨_,rfl,sP,fun _=>ax (ac rfl) (aK (ac rfl) ak (bf (k:=0) ht (cF hm.1))) rfl⟩
  ·rw [List.filter_eq_self.mpr (fun _ _=>rfl),show ((List.range m).map fun v=>V.int (x v - x 0))=(bp m x).map V.int by unfold bp; rw [List.map_map]; rfl]
   refine ai ?_
   unfold bp; rw [List.length_map,List.length_map,List.length_range]; lia
 refine aR (aa e1 ae) ?_
 show (match getL (σ ++ [AO.lst ((bp m x).map V.int)]) σ.length with | some xs=>RE.ok (.tup xs) (σ ++ [AO.lst ((bp m x).map V.int)]) | none=>.bad)=_
 rw [af aj]
theorem pO (H:gR P) (W:a9 σ l m ws) (hm:m ≤ 12) (ht:σ[lt]?=some (.lst (intsV m x))):evFn P wf (n + 1) 17 [.ref l,.ref lt,.int 0] σ=.ok (.ref (σ.length + 1)) (σ ++ [.lst (intsV m x)] ++ [.lst [.ref σ.length]]):=by
 obtain ⟨d,lw,a,b,c⟩:=W.at'
 have e1:evE (evFn P wf n) (E.list [E.blt .list [E.loc 1]]) (aW m8 [.ref l,.ref lt,.int 0]) σ=.ok (.ref (σ.length + 1)) (σ ++ [.lst (intsV m x)] ++ [.lst [.ref σ.length]]) :=
  (bc (aa (aR (aa (ac rfl) ae) (jc ht (by rw [bK]; lia))) ae) (ai (by decide:1 ≤ 16777216))).trans (by rw [List.length_append]; rfl)
 exact bj H.h17 rfl (aM (oR ht rfl rfl a b) (am e1 (by decide:3 < 9) (aT (fr1:=[some (.ref l),some (.ref lt),some (.int 0),some (.ref (σ.length + 1)),none,none,none,none,none]) (σ1:=σ ++ [.lst (intsV m x)] ++ [.lst [.ref σ.length]]) rfl (aI (ac rfl)))))
end
end Mine
namespace Mine
open PySem
noncomputable def fL (σ:Sto) (es:List (List Int × V)) (fs:List V) (τ:Sto):Sto:=σ ++ .dT es :: .lst fs :: τ
section
variable {σ τ:Sto}{es es':List (List Int × V)}{fs fs':List V}
theorem kT:(fL σ es fs τ)[σ.length]?=some (.dT es):=aj
theorem rU:(fL σ es fs τ)[σ.length + 1]?=some (.lst fs):=by
 unfold fL; rw [List.getElem?_append_right (Nat.le_add_right _ _),Nat.add_sub_cancel_left]; rfl
theorem fW {υ:Sto}:fL σ es fs τ ++ υ=fL σ es fs (τ ++ υ):=List.append_assoc _ _ _
theorem qI {o:List (List Int × V)}:(fL σ es fs τ).set σ.length (.dT o)=fL σ o fs τ:=eu
theorem pU {o:List V}:dw (fL σ es fs τ) (σ.length + 1) o=fL σ es o τ:=by
 unfold dw fL; rw [List.set_append_right _ _ (Nat.le_add_right _ _),Nat.add_sub_cancel_left]; rfl
theorem vk {k:Nat} (h1:k ≠ σ.length) (h2:k ≠ σ.length + 1):(fL σ es fs τ)[k]?=(fL σ es' fs' τ)[k]?:=by
 unfold fL
 by_cases h:k < σ.length
 ·rw [List.getElem?_append_left h,List.getElem?_append_left h]
 ·obtain ⟨j,rfl⟩:∃ j,k=σ.length + (j + 2):=⟨k - σ.length - 2,by lia⟩
  rw [List.getElem?_append_right (Nat.le_add_right _ _),List.getElem?_append_right (Nat.le_add_right _ _),Nat.add_sub_cancel_left]; rfl
theorem td:(fL σ es fs τ).length=σ.length + (2 + τ.length):=by unfold fL; rw [List.length_append,List.length_cons,List.length_cons]; lia
theorem qc {d:Nat}{k:List Int} (h:σ[d]?=some (.dT es)):gP .In (.tup (k.map V.int)) (.ref d) σ=some (es.any fun e=>e.1 == k):=by
 show inV σ (.tup (k.map V.int)) (.ref d)=_
 unfold inV; dsimp only; rw [h]; show (aB _).map _=_; rw [eB]; rfl
theorem tZ {d:Nat}{k:List Int}{v:V} (h:σ[d]?=some (.dT es)) (hv:es.lookup k=some v):lf (.ref d) (.tup (k.map V.int)) σ=some v:=by
 unfold lf; dsimp only; rw [h]; show (aB _).bind _=_; rw [eB]; exact hv
theorem sv {d:Nat}{k:List Int}{v:V} (h:σ[d]?=some (.dT es)) (hz:es.length < 1000000):dz (.ref d) (.tup (k.map V.int)) v σ=some (σ.set d (.dT (ly k v es))):=by
 unfold dz; dsimp only; rw [h]; show (aB _).bind _=_; rw [eB]; exact if_pos hz
end
section
variable {P:Nat→Option Fn}{wf n:Nat} {σ σ0:Sto}{l m lt:Nat}{ws:List Way}{x:Nat→Int}
noncomputable def wR (l lt most lh d:Nat) (x6 x7:Option V):Fra:=[some (.ref l),some (.ref lt),some (.int most),some (.ref lh),some (.ref d),some (.ref (d + 1)),x6,x7,none,none]
noncomputable def yY (m:Nat) (X:Nat→Nat→Int) (i:Nat):Bool:=(cK m X i).any fun e=>e.1 == bp m (X i)
noncomputable def AW (m:Nat) (X:Nat→Nat→Int) (i:Nat):V:=match (cK m X i).lookup (bp m (X i)) with
 | some (.int t)=>.tup [.int t,.int ((i:Int) - t),.int (X i 0 - X t.toNat 0)]
 | _=>.none
def oW (m most:Nat) (X:Nat→Nat→Int) (w:V):Prop:=(w=.none ∧ ∀ j,j < most + 1→yY m X j=false) ∨ ∃ i,i < most + 1 ∧ yY m X i=true ∧ (∀ j,j < i→yY m X j=false) ∧ w=AW m X i
inductive S1 (σ:Sto) (l lt most m:Nat) (ws:List Way) (x:Nat→Int) (i:Nat):Fra→Sto→Prop
 | mk (lh:Nat) (τ:Sto) (x6 x7:Option V) (hh:(fL σ (cK m (cb ws x) i) (intsV i fun t=>cb ws x t 0) τ)[lh]?=some (.lst (intsV m (cb ws x i)))) (hne:lh ≠ σ.length + 1) (hno:∀ j,j < i→yY m (cb ws x) j=false):S1 σ l lt most m ws x i (wR l lt most lh σ.length x6 x7) (fL σ (cK m (cb ws x) i) (intsV i fun t=>cb ws x t 0) τ)
structure yf (σ:Sto) (most m:Nat) (ws:List Way) (x:Nat→Int) (w:V) (σ':Sto):Prop where
 ex:∃ (t s:Nat) (g:Int) (τ:Sto),w=.tup [.int t,.int s,.int g] ∧ σ'=σ ++ τ ∧ 1 ≤ s ∧ t + s ≤ most ∧ (∀ v,v < m→cb ws x (t + s) v=cb ws x t v + g) ∧ oW m most (cb ws x) w
theorem lX (H:gR P) (W:a9 σ l m ws) (G:aQ m ws) {most i:Nat} (hi:i < most + 1) (hmost:most ≤ 1000) {fr:Fra} {σ':Sto} (I:S1 σ l lt most m ws x i fr σ') :
  nP [6] true (evSs (evFn P wf (n + 4)) wf jo) (.int i) fr σ' (S1 σ l lt most m ws x (i + 1)) (yf σ most m ws x):=by
 obtain ⟨lh,τ,x6,x7,hh,hne,hno⟩:=I
 have hm:1 ≤ m ∧ m ≤ 12:=⟨G.m1,G.m2⟩
 have hd:lh ≠ σ.length:=fun q=>by rw [q,kT] at hh; cases hh
 have e7:=tB (call:=evFn P wf (n + 4)) (fr:=wR l lt most lh σ.length (some (.int i)) x7) hm rfl rfl hh
 rw [fW] at e7
 have hh1:∀ es fs,(fL σ es fs (τ ++ [.lst ((bp m (cb ws x i)).map V.int)]))[lh]?=some (.lst (intsV m (cb ws x i))):=fun es fs=>by
  rw [vk hd hne (es':=cK m (cb ws x) i) (fs':=intsV i fun t=>cb ws x t 0),← fW]; exact ap hh
 generalize hτ:τ ++ [.lst ((bp m (cb ws x i)).map V.int)]=τ1 at e7 hh1
 have h0:∀ es fs,lf (.ref lh) (.int 0) (fL σ es fs τ1)=some (.int (cb ws x i 0)):=fun es fs=>bf (k:=0) (hh1 es fs) (cF hm.1)
 refine ⟨wR l lt most lh σ.length (some (.int i)) x7,rfl,?_⟩
 cases hb:(cK m (cb ws x) i).any fun e=>e.1 == bp m (cb ws x i) with
 | true =>
  obtain ⟨t,ht,hk,hl⟩:=tV hb
  have hs:∀ {fr:Fra},fr[4]?=some (some (.ref σ.length))→fr[7]?=some (some (.tup ((bp m (cb ws x i)).map V.int)))→evE (evFn P wf (n + 4)) ((E.loc 4).sub (E.loc 7)) fr (fL σ (cK m (cb ws x) i) (intsV i fun t=>cb ws x t 0) τ1)=.ok (.int t) (fL σ (cK m (cb ws x) i) (intsV i fun t=>cb ws x t 0) τ1):=fun h4 h7=>aK (ac h4) (ac h7) (tZ kT hl)
  refine .inr ⟨_,_,_,am e7 (by decide:7 < 10) (cp (aH (ac rfl) (ac rfl) ((qc kT).trans (congrArg some hb))) (aI (iz (aa (hs rfl rfl) (aa (ax (ac rfl) (hs rfl rfl) rfl) (aa (ax (aK (ac rfl) ak (h0 _ _)) (aK (ac rfl) (hs rfl rfl) (bf rU (cF ht))) rfl) ae))) (by decide:3 ≤ 1000)))),t,i - t,cb ws x i 0 - cb ws x t 0,_,?_,rfl,by lia,by lia,fun v hv=>?_,.inr ⟨i,hi,hb,hno,?_⟩⟩
  ·rw [show ((i - t:Nat):Int)=(i:Int) - t by lia]
  ·rw [show t + (i - t)=i by lia]
   exact tH hk hv
  ·unfold AW; rw [hl]; rfl
 | false =>
  have hz:(cK m (cb ws x) i).length < 1000000:=by unfold cK; rw [List.length_map,List.length_range]; lia
  obtain ⟨υ,e3⟩:=jt (wf:=wf) (n:=n) (σ:=fL σ (cK m (cb ws x) (i + 1)) (intsV (i + 1) fun t=>cb ws x t 0) τ1) H W.app G (hh1 _ _)
  obtain ⟨dd,lw,a,b,c⟩:=(W.app (τ:=.dT (cK m (cb ws x) (i + 1)) :: .lst (intsV (i + 1) fun t=>cb ws x t 0) :: τ1)).at'
  refine .inl ⟨wR l lt most (fL σ (cK m (cb ws x) (i + 1)) (intsV (i + 1) fun t=>cb ws x t 0) τ1).length σ.length (some (.int i)) (some (.tup ((bp m (cb ws x i)).map V.int))),a4 (fL σ (cK m (cb ws x) (i + 1)) (intsV (i + 1) fun t=>cb ws x t 0) τ1) (intsV m (fi ws (cb ws x i))) υ,am e7 (by decide:7 < 10) (aM (aH (ac rfl) (ac rfl) ((qc kT).trans (congrArg some hb))) (jx (ac rfl) (ac rfl) (ac rfl) (sv kT hz) ?_)),?_⟩
  ·rw [qI,vo hb,← jW]
   refine be (cm (ac rfl) (af rU) (aa (aK (ac rfl) ak (h0 _ _)) ae) (af rU) (jT (by rw [bK]; lia))) ?_
   rw [pU,show intsV i (fun t=>cb ws x t 0) ++ [V.int (cb ws x i 0)]=intsV (i + 1) (fun t=>cb ws x t 0) from iY.symm]
   exact am (bB (ac rfl) a b (aa (ac rfl) ae) e3) (by decide:3 < 10) aS
  ·show S1 σ l lt most m ws x (i + 1) _ (fL σ (cK m (cb ws x) (i + 1)) (intsV (i + 1) fun t=>cb ws x t 0) τ1 ++ (.lst (intsV m (fi ws (cb ws x i))) :: υ))
   rw [fW]
   refine ⟨_,_,_,_,by rw [← fW]; exact aj,?_,fun j hj=>?_⟩
   ·rw [td]; lia
   ·by_cases q:j=i
    ·rw [q]; exact hb
    ·exact hno j (Nat.lt_of_le_of_ne (Nat.le_of_lt_succ hj) q)
theorem lv (H:gR P) (h18:P 18=some cw) (W:a9 σ l m ws) (G:aQ m ws) (ht:σ[lt]?=some (.lst (intsV m x))) {most:Nat} (hmost:most ≤ 1000) :
  ∃ w τ,evFn P wf (n + 5) 18 [.ref l,.ref lt,.int most] σ=.ok w (σ ++ τ) ∧ (w=.none ∨ ∃ (t s:Nat) (g:Int),w=.tup [.int t,.int s,.int g] ∧ 1 ≤ s ∧ t + s ≤ most ∧ ∀ v,v < m→cb ws x (t + s) v=cb ws x t v + g) ∧ oW m most (cb ws x) w:=by
 obtain ⟨d,lw,a,b,c⟩:=W.at'
 have e0:evE (evFn P wf (n + 4)) (((E.loc 0).umeth 17 [E.loc 1,E.int 0]).sub (E.int 0)) (aW cw [.ref l,.ref lt,.int most]) σ=.ok (.ref σ.length) (σ ++ [AO.lst (intsV m x)] ++ [AO.lst [.ref σ.length]]) :=
  aK (bB (ac rfl) a b (aa (ac rfl) (aa ak ae)) (pO (n:=n + 3) H W G.m2 ht)) ak (bf (k:=0) oU rfl)
 have hh:(σ ++ [AO.lst (intsV m x)] ++ [AO.lst [.ref σ.length]])[σ.length]?=some (.lst (intsV m x)):=ap aj
 have hlen:(σ ++ [AO.lst (intsV m x)] ++ [AO.lst [.ref σ.length]]).length=σ.length + 2:=by rw [List.length_append,List.length_append]; rfl
 have W0:a9 (σ ++ [AO.lst (intsV m x)] ++ [AO.lst [.ref σ.length]]) l m ws:=W.app.app
 have ea:σ ++ [AO.lst (intsV m x)] ++ [AO.lst [.ref σ.length]]=σ ++ [AO.lst (intsV m x),AO.lst [.ref σ.length]]:=by rw [List.append_assoc]; rfl
 generalize hσ:σ ++ [AO.lst (intsV m x)] ++ [AO.lst [.ref σ.length]]=σ0 at *
 have key:=kO (call:=evFn P wf (n + 4)) (wf:=wf) (tg:=[6]) (one:=true) (ws:=List.range (most + 1)) (g:=fun (v:Nat)=>V.int v) (it:=E.blt .range [E.bin .Add (E.loc 2) (E.int 1)]) (bs:=jo) (fr:=wR l lt most σ.length σ0.length none none) (σ:=fL σ0 [] [] [])
  (S1 σ0 l lt most m ws x) (yf σ0 most m ws x) (aR (aa (ax (ac rfl) ak rfl) ae) (bh (k:=most + 1) (by lia))) (bo (most + 1))
  (by
   intro i v fr σ' hv I
   obtain ⟨hi,rfl⟩:=bg hv
   exact lX H W0 G hi hmost I) ⟨σ.length,[],none,none,ap hh,by lia,fun j h=>absurd h (Nat.not_lt_zero _)⟩
 have front:∀ r,evSs (evFn P wf (n + 4)) wf (S.forS [6] true (It.e (E.blt .range [E.bin .Add (E.loc 2) (E.int 1)])) jo :: [S.ret E.none]) (wR l lt most σ.length σ0.length none none) (fL σ0 [] [] [])=r→evSs (evFn P wf (n + 4)) wf cw.body (aW cw [.ref l,.ref lt,.int most]) σ=r:=fun r h=>by
  refine am e0 (by decide:3 < 10) (am v7 (by decide:4 < 10) (am (bc ae (ai (by decide:0 ≤ 16777216))) (by decide:5 < 10) ?_))
  rw [List.append_assoc,List.length_append]
  exact h
 rcases key with ⟨fr,σ',e,lh,τ,x6,x7,_,_,hno⟩ | ⟨w,fr,σ',e,t,s,g,τ,rfl,rfl,h1,h2,h3,h4⟩
 ·refine ⟨.none,[AO.lst (intsV m x),AO.lst [.ref σ.length]] ++ (.dT (cK m (cb ws x) (List.range (most + 1)).length) :: .lst (intsV (List.range (most + 1)).length fun t=>cb ws x t 0) :: τ),?_,.inl rfl,.inl ⟨rfl,fun j hj=>hno j (by rw [List.length_range]; exact hj)⟩⟩
  rw [← List.append_assoc,← ea]
  exact bj h18 rfl (front _ (aT e (aI dD)))
 ·refine ⟨_,[AO.lst (intsV m x),AO.lst [.ref σ.length]] ++ τ,?_,.inr ⟨t,s,g,rfl,h1,h2,h3⟩,h4⟩
  rw [← List.append_assoc,← ea]
  exact bj h18 rfl (front _ (gI e))
theorem oq (H:gR P) (h18:P 18=some cw) (W:a9 σ l m ws) (G:aQ m ws) (ht:σ[lt]?=some (.lst (intsV m x))) {most:Nat} (hmost:most ≤ 1000) :
  ∃ w τ,evFn P wf (n + 5) 18 [.ref l,.ref lt,.int most] σ=.ok w (σ ++ τ) ∧ (w=.none ∨ ∃ (t s:Nat) (g:Int),w=.tup [.int t,.int s,.int g] ∧ 1 ≤ s ∧ t + s ≤ most ∧ ∀ v,v < m→cb ws x (t + s) v=cb ws x t v + g) :=
 let ⟨w,τ,e,h,_⟩:=lv H h18 W G ht hmost
 ⟨w,τ,e,h⟩
end
end Mine
namespace Mine
open PySem
section
variable {P:Nat→Option Fn}{wf n:Nat} {σ:Sto}{m l lt:Nat}{ws:List Way}{x:Nat→Int}
theorem vd {τ:Sto}{xs ys:List V}{k:Nat} (h:k ≠ σ.length):(a4 σ xs τ)[k]?=(a4 σ ys τ)[k]?:=by
 unfold a4
 by_cases hk:k < σ.length
 ·rw [List.getElem?_append_left hk,List.getElem?_append_left hk]
 ·obtain ⟨j,rfl⟩:∃ j,k=σ.length + (j + 1):=⟨k - σ.length - 1,by lia⟩
  rw [List.getElem?_append_right (Nat.le_add_right _ _),List.getElem?_append_right (Nat.le_add_right _ _),Nat.add_sub_cancel_left]; rfl
theorem ml {τ:Sto}{xs:List V}:(a4 σ xs τ).length=σ.length + (1 + τ.length):=by unfold a4; rw [List.length_append,List.length_cons,Nat.add_comm 1]
structure kG (σ':Sto) (p:Nat) (ls:List Nat) (X:Nat→Nat→Int) (m i:Nat):Prop where
 len:ls.length=i
 row:∀ k l,ls[k]?=some l→l ≠ p ∧ σ'[l]?=some (.lst (intsV m (X k)))
theorem kG.last {σ':Sto}{p i:Nat}{ls:List Nat}{X:Nat→Nat→Int} (R:kG σ' p ls X m (i + 1)):∃ l,(ls.map V.ref).getLast?=some (V.ref l) ∧ σ'[l]?=some (.lst (intsV m (X i))):=by
 obtain ⟨l,hl⟩:∃ l,ls[i]?=some l:=⟨_,List.getElem?_eq_getElem (by rw [R.len]; exact Nat.lt_succ_self _)⟩
 exact ⟨l,by rw [List.getLast?_eq_getElem?,List.length_map,List.getElem?_map,R.len,Nat.add_sub_cancel,hl]; rfl,(R.row i l hl).2⟩
theorem kG.push {τ υ:Sto}{i:Nat}{ls:List Nat}{X:Nat→Nat→Int} (R:kG (a4 σ (ls.map V.ref) τ) σ.length ls X m i):kG (a4 σ ((ls ++ [(a4 σ (ls.map V.ref) τ).length]).map V.ref) (τ ++ (.lst (intsV m (X i)) :: υ))) σ.length (ls ++ [(a4 σ (ls.map V.ref) τ).length]) X m (i + 1):=by
 have hne:(a4 σ (ls.map V.ref) τ).length ≠ σ.length:=by rw [ml]; lia
 refine ⟨by rw [List.length_append,R.len]; rfl,fun k l' h=>?_⟩
 have e:∀ {k},k ≠ σ.length→(a4 σ ((ls ++ [(a4 σ (ls.map V.ref) τ).length]).map V.ref) (τ ++ (.lst (intsV m (X i)) :: υ)))[k]?=(a4 σ (ls.map V.ref) τ ++ (.lst (intsV m (X i)) :: υ))[k]?:=fun hk=>by rw [bX]; exact vd hk
 by_cases hk:k < ls.length
 ·rw [List.getElem?_append_left hk] at h
  obtain ⟨h1,h2⟩:=R.row k l' h
  exact ⟨h1,by rw [e h1]; exact ap h2⟩
 ·have hk2:k=ls.length:=by
   have:=(List.getElem?_eq_some_iff.mp h).1
   rw [List.length_append] at this
   exact Nat.le_antisymm (Nat.le_of_lt_succ this) (Nat.le_of_not_lt hk)
  subst hk2
  rw [List.getElem?_append_right (Nat.le_refl _),Nat.sub_self] at h
  have:(a4 σ (ls.map V.ref) τ).length=l':=Option.some.inj h
  subst this
  refine ⟨hne,?_⟩
  rw [e hne,R.len]; exact aj
theorem zJ {call:Nat→List V→Sto→RE}{k i:Nat}{e:E}{fr:Fra} {τ υ:Sto}{ls:List Nat}{X:Nat→Nat→Int} (hk:fr[k]?=some (some (.ref σ.length))) (R:kG (a4 σ (ls.map V.ref) τ) σ.length ls X m i) (hi:i < 16777216)
  (he:evE call e fr (a4 σ (ls.map V.ref) τ)=.ok (.ref (a4 σ (ls.map V.ref) τ).length) (a4 (a4 σ (ls.map V.ref) τ) (intsV m (X i)) υ)) :
  evSs call wf [S.expr ((E.loc k).meth .append [e])] fr (a4 σ (ls.map V.ref) τ)=.ok .next fr (a4 σ ((ls ++ [(a4 σ (ls.map V.ref) τ).length]).map V.ref) (τ ++ (.lst (intsV m (X i)) :: υ))):=by
 have e1:a4 (a4 σ (ls.map V.ref) τ) (intsV m (X i)) υ=a4 σ (ls.map V.ref) (τ ++ (.lst (intsV m (X i)) :: υ)):=bX
 rw [e1] at he
 rw [List.map_append]
 exact uG hk he (by rw [List.length_map,R.len]; exact hi)
theorem tN (H:gR P) (W:a9 σ l m ws) (G:aQ m ws) (ht:σ[lt]?=some (.lst (intsV m x))) {c:Nat} (hc:c ≤ 1000) :
  ∃ ls τ,evFn P wf (n + 5) 17 [.ref l,.ref lt,.int c] σ=.ok (.ref (σ.length + 1)) (a4 (σ ++ [.lst (intsV m x)]) (ls.map V.ref) τ) ∧ kG (a4 (σ ++ [.lst (intsV m x)]) (ls.map V.ref) τ) (σ.length + 1) ls (cb ws x) m (c + 1) ∧ ∀ l ∈ ls,σ.length ≤ l:=by
 obtain ⟨d,lw,a,b,_⟩:=W.at'
 have hm:=G.m2
 have hlen:(σ ++ [AO.lst (intsV m x)]).length=σ.length + 1:=by rw [List.length_append]; rfl
 have e1:evE (evFn P wf (n + 4)) (E.list [E.blt .list [E.loc 1]]) (aW m8 [.ref l,.ref lt,.int c]) σ=.ok (.ref (σ.length + 1)) (a4 (σ ++ [.lst (intsV m x)]) [.ref σ.length] []) :=
  (bc (aa (aR (aa (ac rfl) ae) (jc ht (by rw [bK]; lia))) ae) (ai (by decide:1 ≤ 16777216))).trans (by rw [hlen]; rfl)
 have W1:a9 (σ ++ [.lst (intsV m x)]) l m ws:=W.app
 have h0:(σ ++ [AO.lst (intsV m x)])[σ.length]?=some (.lst (intsV m x)):=aj
 rw [← hlen] at e1 ⊢
 generalize hσ:σ ++ [AO.lst (intsV m x)]=σ1 at *
 have hle:σ.length ≤ σ1.length:=by rw [hlen]; exact Nat.le_add_right _ _
 obtain ⟨d,lw,a1,b1,_⟩:=W1.at'
 obtain ⟨z,e2,R,hf⟩:=lG (call:=evFn P wf (n + 4)) (wf:=wf) (tg:=[4]) (one:=true) (ws:=List.range c) (g:=fun (v:Nat)=>V.int v) (it:=E.blt .range [E.loc 2]) (bs:=uV) (σ:=a4 σ1 [.ref σ.length] [])
  (F:=fun _ (z:List Nat × Sto × Option V)=>[some (.ref l),some (.ref lt),some (.int c),some (.ref σ1.length),z.2.2,none,none,none,none]) (S:=fun _ z=>a4 σ1 (z.1.map V.ref) z.2.1) (J:=fun i z=>kG (a4 σ1 (z.1.map V.ref) z.2.1) σ1.length z.1 (cb ws x) m (i + 1) ∧ ∀ l ∈ z.1,σ.length ≤ l) ([σ.length],[],none)
  (aR (aa (ac rfl) ae) (bh (by lia))) (bo c)
  (fun i v z hv ⟨R,hf⟩=>by
   obtain ⟨hi,rfl⟩:=bg hv
   obtain ⟨q,hq1,hq2⟩:=R.last
   obtain ⟨υ,e⟩:=jt (wf:=wf) (n:=n) (σ:=a4 σ1 (z.1.map V.ref) z.2.1) H W1.app G hq2
   refine ⟨_,rfl,(_,_,some (.int i)),zJ (X:=cb ws x) (i:=i + 1) rfl R (by lia) (bB (ac rfl) (ap a1) (ap b1) (aa (aK (ac rfl) (qR ak) (lm aj hq1)) ae) e),R.push,fun l hl=>?_⟩
   rcases bW hl with hl | rfl
   ·exact hf l hl
   ·rw [ml]; exact Nat.le_trans hle (Nat.le_add_right _ _))
  ⟨⟨rfl,fun k l h=>by
   cases k with
   | zero=>cases Option.some.inj h; exact ⟨by lia,ap h0⟩
   | succ k=>cases h⟩,fun l hl=>by rw [List.mem_singleton.mp hl]; exact Nat.le_refl _⟩
 rw [List.length_range] at R
 exact ⟨z.1,z.2.1,bj H.h17 rfl (aM (oR ht rfl rfl a b) (am e1 (by decide:3 < 9) (aT e2 (aI (ac rfl))))),R,hf⟩
end
end Mine
namespace Mine
open PySem
noncomputable def mH (a b:Int):E:=E.bin .Mod (E.bin .FloorDiv (E.loc 2) (E.int a)) (E.int b)
noncomputable def wx:E:=E.comp [1] true (E.call 5 [E.loc 0,mH 8 50,E.bin .Add (E.int 1) (mH 400 5)]) [E.cmp .IsNot (E.loc 1) E.none] (E.loc 1) [none,none]
noncomputable def tm:List S:=[S.ifS ((E.loc 5).isi Ty.list) [S.expr ((E.loc 5).meth .clear [])] []]
noncomputable def stirIf (k:Int) (b:S):S:=S.ifS (E.cmp .Eq (E.loc 3) (E.int k)) [b] []
noncomputable def ge:Fn:={ ps:=[0,1,2],size:=12,body :=
 [S.asg 3 (E.bin .Mod (E.loc 2) (E.int 8)),S.asg 4 (E.list []),
  stirIf 1 (S.asg 4 ((E.loc 0).umeth 16 [E.blt .list [E.loc 1]])),
  stirIf 2 (S.asg 4 ((E.loc 0).umeth 17 [E.blt .list [E.loc 1],E.bin .Add (E.int 1) (mH 8 3)])),
  stirIf 3 (S.expr (E.call 18 [E.loc 0,E.blt .list [E.loc 1],mH 8 7])),
  stirIf 4 (S.asg 4 ((E.call 7 [E.loc 0]).sub (E.bin .Add (E.int 2) (mH 8 2)))),
  stirIf 5 (S.asg 4 wx),
  stirIf 6 (S.asg 4 ((E.loc 0).umeth 15 [E.bin .Mod (E.bin .FloorDiv (E.loc 2) (E.int 8)) (E.blt .len [E.loc 1])])),
  stirIf 7 (S.asg 4 ((((E.loc 0).umeth 14 []).attr 1).shi (E.int 0))),
  S.forS [5] true (It.e (E.loc 4)) tm,S.expr ((E.loc 4).meth .clear []),S.ret (E.bool true)] }
noncomputable def bn (l lt:Nat) (cell way:Int) (p:Nat) (x5:Option V):Fra:=[some (.ref l),some (.ref lt),some (.int cell),some (.int way),some (.ref p),x5,none,none,none,none,none,none]
def oy (σ σ':Sto) (p:Nat) (v:V):Prop:=(∃ i,v=.int i) ∨ (∃ ts,v=.tup ts) ∨ ∃ q xs,v=.ref q ∧ σ.length ≤ q ∧ q ≠ p ∧ σ'[q]?=some (.lst xs)
structure fk (σ σ':Sto) (p:Nat):Prop where
 pre:∃ τ,σ'=σ ++ τ
 new:σ.length ≤ p
 lst:∃ vs,σ'[p]?=some (.lst vs) ∧ ∀ v ∈ vs,oy σ σ' p v
section
variable {P:Nat→Option Fn}{wf n:Nat} {σ σ':Sto}{l lt m p:Nat}{ws:List Way}{x:Nat→Int}{cell way:Int}{call:Nat→List V→Sto→RE}
theorem fP {τ:Sto}{q:Nat} (h:(σ ++ τ).length ≤ q):σ.length ≤ q:=Nat.le_trans (List.Sublist.length_le (List.sublist_append_left _ _)) h
theorem fk.app (T:fk σ σ' p) (τ:Sto):fk σ (σ' ++ τ) p:=by
 obtain ⟨⟨τ0,rfl⟩,h1,vs,h2,h3⟩:=T
 refine ⟨⟨_,List.append_assoc _ _ _⟩,h1,vs,ap h2,fun v hv=>?_⟩
 rcases h3 v hv with h | h | ⟨q,xs,a,b,c,d⟩
 ·exact .inl h
 ·exact .inr (.inl h)
 ·exact .inr (.inr ⟨q,xs,a,b,c,ap d⟩)
theorem fk.of {vs:List V} (T:fk σ σ' p) {τ:Sto}{q:Nat} (hq:σ'.length ≤ q) (h:(σ' ++ τ)[q]?=some (.lst vs)) (hv:∀ v ∈ vs,oy σ (σ' ++ τ) q v):fk σ (σ' ++ τ) q:=by
 obtain ⟨⟨τ0,rfl⟩,_⟩:=T
 exact ⟨⟨_,List.append_assoc _ _ _⟩,fP hq,vs,h,hv⟩
theorem kt {y:Nat→Int}{q:Nat}:∀ v ∈ intsV m y,oy σ σ' q v:=fun v hv=>by
 obtain ⟨k,_,rfl⟩:=List.mem_map.mp hv
 exact .inl ⟨_,rfl⟩
theorem rE {r:List Nat}{q:Nat}:∀ v ∈ natsV r,oy σ σ' q v:=fun v hv=>by
 obtain ⟨k,_,rfl⟩:=List.mem_map.mp hv
 exact .inl ⟨_,rfl⟩
theorem ef (T:fk σ σ' p) {k:Int}{b:S} (hb:∃ p' σ2,evSs call wf [b] (bn l lt cell way p none) σ'=.ok .next (bn l lt cell way p' none) σ2 ∧ fk σ σ2 p') :
  ∃ p' σ2,fk σ σ2 p' ∧ ∀ ss r,evSs call wf ss (bn l lt cell way p' none) σ2=r→evSs call wf (stirIf k b :: ss) (bn l lt cell way p none) σ'=r:=by
 by_cases h:way=k
 ·obtain ⟨p',σ2,e,T2⟩:=hb
  exact ⟨p',σ2,T2,fun ss r hr=>d3 (aH (p:=true) (ac rfl) ak (congrArg some (beq_iff_eq.mpr h))) e hr⟩
 ·exact ⟨p,σ',T,fun ss r hr=>aM (aH (p:=false) (ac rfl) ak (congrArg some (beq_eq_false_iff_ne.mpr h))) hr⟩
theorem il {a q:Nat} (ha:1 ≤ a) (hb:a < 10 ^ 100) (hq:1 ≤ q) {fr:Fra} (h2:fr[2]?=some (some (.int cell))):∃ k:Nat,k < q ∧ ∀ σ,evE call (mH a q) fr σ=.ok (.int k) σ:=by
 obtain ⟨k,hk,ek⟩:=bV q hq (cell.fdiv a)
 exact ⟨k,hk,fun σ=>ax (ax (ac h2) ak (ik (by lia) (by lia))) ak ((cP (by lia)).trans (congrArg (fun z=>RE.ok (.int z) _) ek))⟩
end
end Mine
namespace Mine
open PySem
structure fH (P:Nat→Option Fn) (wf:Nat) (σ:Sto) (l lt m:Nat) (ws:List Way) (x:Nat→Int):Prop where
 T:gR P
 h18:P 18=some cw
 H:o4 P
 HW:lT P
 h14:P 14=some fB
 W:a9 σ l m ws
 G:aQ m ws
 ht:σ[lt]?=some (.lst (intsV m x))
 hw:9999 * 27720 < wf
section
variable {P:Nat→Option Fn}{wf n:Nat} {σ σ':Sto}{l lt m p:Nat}{ws:List Way}{x:Nat→Int}{cell way:Int}
theorem fH.app (X:fH P wf σ l lt m ws x) (T:fk σ σ' p):fH P wf σ' l lt m ws x:=by
 obtain ⟨⟨τ,rfl⟩,_⟩:=T
 exact ⟨X.T,X.h18,X.H,X.HW,X.h14,X.W.app,X.G,ap X.ht,X.hw⟩
theorem fH.copy (X:fH P wf σ l lt m ws x) {fr:Fra}{call:Nat→List V→Sto→RE} (h1:fr[1]?=some (some (.ref lt))):evE call (E.blt .list [E.loc 1]) fr σ=.ok (.ref σ.length) (σ ++ [.lst (intsV m x)]) :=
 aR (aa (ac h1) ae) (jc X.ht (by rw [bK]; exact Nat.le_trans X.G.m2 (by decide)))
theorem zf (X:fH P wf σ' l lt m ws x) (T:fk σ σ' p):∃ p' σ2,evSs (evFn P wf (n + 5)) wf [S.asg 4 ((E.loc 0).umeth 16 [E.blt .list [E.loc 1]])] (bn l lt cell way p none) σ'=.ok .next (bn l lt cell way p' none) σ2 ∧ fk σ σ2 p':=by
 obtain ⟨d,lw,a,b,_⟩:=X.W.at'
 obtain ⟨υ,e⟩:=jt (wf:=wf) (n:=n + 1) (σ:=σ' ++ [.lst (intsV m x)]) (x:=x) X.T X.W.app X.G aj
 have ea:a4 (σ' ++ [AO.lst (intsV m x)]) (intsV m (fi ws x)) υ=σ' ++ ([AO.lst (intsV m x)] ++ .lst (intsV m (fi ws x)) :: υ):=List.append_assoc _ _ _
 have h:(a4 (σ' ++ [AO.lst (intsV m x)]) (intsV m (fi ws x)) υ)[(σ' ++ [AO.lst (intsV m x)]).length]?=some (.lst (intsV m (fi ws x))):=aj
 rw [ea] at e h
 exact ⟨_,_,am (bB (ac rfl) a b (aa (X.copy rfl) ae) e) (by decide:4 < 12) aS,T.of (fP (Nat.le_refl _)) h kt⟩
theorem Aq (X:fH P wf σ' l lt m ws x) (T:fk σ σ' p):∃ p' σ2,evSs (evFn P wf (n + 5)) wf [S.asg 4 ((E.loc 0).umeth 17 [E.blt .list [E.loc 1],E.bin .Add (E.int 1) (mH 8 3)])] (bn l lt cell way p none) σ'=.ok .next (bn l lt cell way p' none) σ2 ∧ fk σ σ2 p':=by
 obtain ⟨d,lw,a,b,_⟩:=X.W.at'
 obtain ⟨k,hk,ek⟩:=il (call:=evFn P wf (n + 5)) (a:=8) (q:=3) (cell:=cell) (fr:=bn l lt cell way p none) (by decide) (by decide) (by decide) rfl
 obtain ⟨ls,τ,e,R,hf⟩:=tN (wf:=wf) (n:=n) (σ:=σ' ++ [.lst (intsV m x)]) (x:=x) (c:=1 + k) X.T X.W.app X.G aj (by lia)
 have ea:a4 (σ' ++ [AO.lst (intsV m x)] ++ [AO.lst (intsV m x)]) (ls.map V.ref) τ=σ' ++ ([AO.lst (intsV m x)] ++ ([AO.lst (intsV m x)] ++ .lst (ls.map V.ref) :: τ)):=by unfold a4; rw [List.append_assoc,List.append_assoc]
 have hlen:(σ' ++ [AO.lst (intsV m x)] ++ [AO.lst (intsV m x)]).length=(σ' ++ [AO.lst (intsV m x)]).length + 1:=by rw [List.length_append]; rfl
 have h:(a4 (σ' ++ [AO.lst (intsV m x)] ++ [AO.lst (intsV m x)]) (ls.map V.ref) τ)[(σ' ++ [AO.lst (intsV m x)]).length + 1]?=some (.lst (ls.map V.ref)):=by rw [← hlen]; exact aj
 rw [ea] at e h R
 refine ⟨_,_,am (bB (ac rfl) a b (aa (X.copy rfl) (aa (ax ak (ek _) (rfl:_=RE.ok (.int ((1 + k:Nat):Int)) _)) ae)) e) (by decide:4 < 12) aS,T.of (Nat.le_trans (fP (Nat.le_refl _)) (Nat.le_add_right _ _)) h fun v hv=>?_⟩
 obtain ⟨q,hq,rfl⟩:=List.mem_map.mp hv
 obtain ⟨i,hi⟩:=List.getElem?_of_mem hq
 obtain ⟨h1,h2⟩:=R.row i q hi
 obtain ⟨⟨τ0,rfl⟩,_⟩:=T
 exact .inr (.inr ⟨q,_,rfl,fP (fP (hf q hq)),h1,h2⟩)
theorem Am (X:fH P wf σ' l lt m ws x) (T:fk σ σ' p):∃ p' σ2,evSs (evFn P wf (n + 5)) wf [S.expr (E.call 18 [E.loc 0,E.blt .list [E.loc 1],mH 8 7])] (bn l lt cell way p none) σ'=.ok .next (bn l lt cell way p' none) σ2 ∧ fk σ σ2 p':=by
 obtain ⟨k,hk,ek⟩:=il (call:=evFn P wf (n + 5)) (a:=8) (q:=7) (cell:=cell) (fr:=bn l lt cell way p none) (by decide) (by decide) (by decide) rfl
 obtain ⟨w,τ,e,_⟩:=oq (wf:=wf) (n:=n) (σ:=σ' ++ [.lst (intsV m x)]) (lt:=σ'.length) (x:=x) (most:=k) X.T X.h18 X.W.app X.G aj (by lia)
 exact ⟨p,_,be (aE (aa (ac rfl) (aa (X.copy rfl) (aa (ek _) ae))) e) aS,(T.app _).app _⟩
theorem zd (X:fH P wf σ' l lt m ws x) (T:fk σ σ' p):∃ p' σ2,evSs (evFn P wf (n + 5)) wf [S.asg 4 ((E.call 7 [E.loc 0]).sub (E.bin .Add (E.int 2) (mH 8 2)))] (bn l lt cell way p none) σ'=.ok .next (bn l lt cell way p' none) σ2 ∧ fk σ σ2 p':=by
 obtain ⟨k,hk,ek⟩:=il (call:=evFn P wf (n + 5)) (a:=8) (q:=2) (cell:=cell) (fr:=bn l lt cell way p none) (by decide) (by decide) (by decide) rfl
 obtain ⟨v,σ5,e5,N,D,lr,r,ls,SS,τ5,R⟩:=wJ (wf:=wf) (n:=n) X.H X.W X.G.ok X.hw
 have go:∀ {q:Nat}{vs:List V},lf (.tup [.int N,.int D,.ref lr,.ref ls]) (.int ((2 + k:Nat):Int)) (σ' ++ τ5)=some (.ref q)→σ'.length ≤ q→(σ' ++ τ5)[q]?=some (.lst vs)→(∀ v ∈ vs,oy σ (σ' ++ τ5) q v)→∃ p' σ2,evSs (evFn P wf (n + 5)) wf [S.asg 4 ((E.call 7 [E.loc 0]).sub (E.bin .Add (E.int 2) (mH 8 2)))] (bn l lt cell way p none) σ'=.ok .next (bn l lt cell way p' none) σ2 ∧ fk σ σ2 p':=fun h1 h2 h3 h4 =>
  ⟨_,_,am (aK (aE (aa (ac rfl) ae) e5) (ax ak (ek _) (rfl:_=RE.ok (.int ((2 + k:Nat):Int)) _)) h1) (by decide:4 < 12) aS,T.of h2 h3 h4⟩
 rcases k with _ | _ | k
 ·exact go rfl R.fresh.1 R.ring rE
 ·exact go rfl R.fresh.2 R.start kt
 ·lia
theorem zS (X:fH P wf σ' l lt m ws x) (T:fk σ σ' p):∃ p' σ2,evSs (evFn P wf (n + 5)) wf [S.asg 4 wx] (bn l lt cell way p none) σ'=.ok .next (bn l lt cell way p' none) σ2 ∧ fk σ σ2 p':=by
 obtain ⟨k,hk,ek⟩:=il (call:=evFn P wf (n + 5)) (a:=8) (q:=50) (cell:=cell) (fr:=bn l lt cell way p none) (by decide) (by decide) (by decide) rfl
 obtain ⟨j,hj,ej⟩:=il (call:=evFn P wf (n + 5)) (a:=400) (q:=5) (cell:=cell) (fr:=bn l lt cell way p none) (by decide) (by decide) (by decide) rfl
 obtain ⟨v,σ2,e2,res⟩:=kF (wf:=wf) (n:=n + 2) (num:=k) (div:=1 + j) X.H.h3 X.H.h4 X.H.h5 X.W X.G.m1 X.G.m2 (by lia) (by lia) X.G.hm (Nat.le_trans (by decide) (Nat.le_of_lt X.hw))
 have ec:evE (evFn P wf (n + 5)) (E.call 5 [E.loc 0,mH 8 50,E.bin .Add (E.int 1) (mH 400 5)]) (bn l lt cell way p none) σ'=.ok v σ2 :=
  aE (aa (ac rfl) (aa (ek _) (aa (ax ak (ej _) (rfl:_=RE.ok (.int ((1 + j:Nat):Int)) _)) ae))) e2
 have go:∀ {q:Nat}{vs:List V} {τ:Sto}{us:List V},evE (evFn P wf (n + 5)) (E.call 5 [E.loc 0,mH 8 50,E.bin .Add (E.int 1) (mH 400 5)]) (bn l lt cell way p none) σ'=.ok (.tup us) (σ' ++ τ)→((us.filter fun v=>!isNone v).map id)=[V.ref q]→us.length=2→σ'.length ≤ q→(σ' ++ τ)[q]?=some (.lst vs)→∃ p' σ2,evSs (evFn P wf (n + 5)) wf [S.asg 4 wx] (bn l lt cell way p none) σ'=.ok .next (bn l lt cell way p' none) σ2 ∧ fk σ σ2 p':=by
  intro q vs τ us ec hus hl hq hv
  have e3:=pg (tg:=[1]) (one:=true) (cs:=[E.cmp .IsNot (E.loc 1) E.none]) (el:=E.loc 1) (frm:=[none,none]) (ws:=us) (g:=id) (p:=fun v=>!isNone v) (f:=id) (r:=.ok (.ref (σ' ++ τ).length) (σ' ++ τ ++ [.lst [V.ref q]])) ec (List.map_id _).symm (fun v hv=>⟨_,rfl,kC (aH (ac rfl) dD rfl),fun _=>ac rfl⟩) (by rw [hus]; exact ai (by decide:1 ≤ 16777216))
  have hne:q ≠ (σ' ++ τ).length:=Nat.ne_of_lt (List.getElem?_eq_some_iff.mp hv).1
  rw [List.append_assoc] at e3
  refine ⟨_,_,am e3 (by decide:4 < 12) aS,T.of (fP (Nat.le_refl _)) (by rw [← List.append_assoc]; exact aj) fun v hv'=>?_⟩
  rw [List.mem_singleton.mp hv']
  refine .inr (.inr ⟨q,vs,rfl,?_,hne,by rw [← List.append_assoc]; exact ap hv⟩)
  exact T.pre.elim fun τ0 q0=>fP (τ:=τ0) (by rw [← q0]; exact hq)
 cases res with
 | none ls S τ h hs hf=>exact go ec rfl rfl hf h
 | ring lr r τ h R hlt hmin hf=>exact go ec rfl rfl hf h
theorem zr (X:fH P wf σ' l lt m ws x) (T:fk σ σ' p):∃ p' σ2,evSs (evFn P wf (n + 5)) wf [S.asg 4 ((E.loc 0).umeth 15 [E.bin .Mod (E.bin .FloorDiv (E.loc 2) (E.int 8)) (E.blt .len [E.loc 1])])] (bn l lt cell way p none) σ'=.ok .next (bn l lt cell way p' none) σ2 ∧ fk σ σ2 p':=by
 obtain ⟨d,lw,a,b,_⟩:=X.W.at'
 obtain ⟨k,hk,ek⟩:=bV m X.G.m1 (cell.fdiv 8)
 have e:=o5 (wf:=wf) (n:=n + 2) X.T X.W X.G.hz hk
 have hl:gQ .len [.ref lt] σ'=.ok (.int m) σ':=by have:=bH X.ht; rwa [bK] at this
 refine ⟨_,_,am (bB (ac rfl) a b (aa (ax (ax (ac rfl) ak (ik (by decide) (by decide))) (aR (aa (ac rfl) ae) hl) ((cP (by have:=X.G.m1; lia)).trans (congrArg (fun z=>RE.ok (.int z) _) ek))) ae) e) (by decide:4 < 12) aS,T.of (Nat.le_refl _) aj fun v hv=>?_⟩
 obtain ⟨w,_,rfl⟩:=List.mem_map.mp hv
 exact .inr (.inl ⟨_,rfl⟩)
theorem Aw (X:fH P wf σ' l lt m ws x) (T:fk σ σ' p):∃ p' σ2,evSs (evFn P wf (n + 5)) wf [S.asg 4 ((((E.loc 0).umeth 14 []).attr 1).shi (E.int 0))] (bn l lt cell way p none) σ'=.ok .next (bn l lt cell way p' none) σ2 ∧ fk σ σ2 p':=by
 obtain ⟨d,lw,a,b,_⟩:=X.W.at'
 obtain ⟨l',τ,e,W'⟩:=pw (wf:=wf) (n:=n + 1) X.HW X.h14 X.W X.G (Nat.le_trans (by decide) (Nat.le_of_lt X.hw))
 obtain ⟨d',lw',a',b',c'⟩:=W'.at'
 have e1:evE (evFn P wf (n + 5)) ((((E.loc 0).umeth 14 []).attr 1).shi (E.int 0)) (bn l lt cell way p none) σ'=.ok (.ref (σ' ++ τ).length) (σ' ++ τ ++ [.lst []]) :=
  tJ (k:=0) (cO (bB (ac rfl) a b ae e) (dg a' b')) ak (af c') (ai (Nat.zero_le _))
 rw [List.append_assoc] at e1
 exact ⟨_,_,am e1 (by decide:4 < 12) aS,T.of (vs:=[]) (fP (Nat.le_refl _)) (by rw [← List.append_assoc]; exact aj) (fun v hv=>nomatch hv)⟩
theorem tr {q:Nat}{xs:List V} (h:σ[q]?=some (.lst xs)):uL .list (.ref q) σ=some true:=by
 show ((getL σ q).map fun _=>4).map _=_; rw [af h]; rfl
theorem qZ {τ:Sto}{q:Nat}{o:AO} (h:σ.length ≤ q):(σ ++ τ).set q o=σ ++ τ.set (q - σ.length) o:=List.set_append_right _ _ h
structure Clr (σ:Sto) (l lt:Nat) (cell way:Int) (p:Nat) (vs:List V) (i:Nat) (fr:Fra) (σ':Sto):Prop where
 ex:∃ x5 τ,fr=bn l lt cell way p x5 ∧ σ'=σ ++ τ ∧ σ'[p]?=some (.lst vs) ∧ ∀ v ∈ vs,oy σ σ' p v
theorem tC {call:Nat→List V→Sto→RE}{vs:List V}{i:Nat}{v:V} (hv:vs[i]?=some v) {fr:Fra} (I:Clr σ l lt cell way p vs i fr σ'):nP [5] true (evSs call wf tm) (id v) fr σ' (Clr σ l lt cell way p vs (i + 1)) (fun _ _=>False):=by
 obtain ⟨x5,τ,rfl,rfl,hp,hT⟩:=I
 refine ⟨bn l lt cell way p (some v),rfl,.inl ?_⟩
 have skip:uL .list v (σ ++ τ)=some false→Nxt (evSs call wf tm (bn l lt cell way p (some v)) (σ ++ τ)) (Clr σ l lt cell way p vs (i + 1)):=fun h =>
  ⟨_,_,aM (gF (ac rfl) h) aS,_,τ,rfl,rfl,hp,hT⟩
 rcases hT v (List.mem_of_getElem? hv) with ⟨i,rfl⟩ | ⟨ts,rfl⟩ | ⟨q,xs,rfl,h1,h2,h3⟩
 ·exact skip rfl
 ·exact skip rfl
 ·have hi:=tr h3
  refine ⟨_,_,d3 (gF (ac rfl) hi) (be (cm (ac rfl) (af h3) ae (af h3) (rfl:dA .clear q xs [] (σ ++ τ)=.ok .none (dw (σ ++ τ) q []))) aS) aS,_,_,rfl,qZ h1,?_,fun u hu=>?_⟩
  ·unfold dw; rw [List.getElem?_set_ne h2]; exact hp
  ·rcases hT u hu with h | h | ⟨q2,xs2,rfl,k1,k2,k3⟩
   ·exact .inl h
   ·exact .inr (.inl h)
   ·by_cases hq:q=q2
    ·subst hq
     exact .inr (.inr ⟨q,[],rfl,k1,k2,List.getElem?_set_self (List.getElem?_eq_some_iff.mp k3).1⟩)
    ·exact .inr (.inr ⟨q2,xs2,rfl,k1,k2,by unfold dw; rw [List.getElem?_set_ne hq]; exact k3⟩)
theorem nK (h19:P 19=some ge) (X:fH P wf σ l lt m ws x):∃ τ,evFn P wf (n + 6) 19 [.ref l,.ref lt,.int cell] σ=.ok (.bool true) (σ ++ τ):=by
 have T0:fk σ (σ ++ [.lst []]) σ.length:=⟨⟨_,rfl⟩,Nat.le_refl _,[],aj,fun v hv=>nomatch hv⟩
 obtain ⟨p1,σ1,T1,e1⟩:=ef (call:=evFn P wf (n + 5)) (wf:=wf) (l:=l) (lt:=lt) (cell:=cell) (way:=cell.fmod 8) (k:=1) T0 (zf (n:=n) (X.app T0) T0)
 obtain ⟨p2,σ2,T2,e2⟩:=ef (call:=evFn P wf (n + 5)) (wf:=wf) (l:=l) (lt:=lt) (cell:=cell) (way:=cell.fmod 8) (k:=2) T1 (Aq (n:=n) (X.app T1) T1)
 obtain ⟨p3,σ3,T3,e3⟩:=ef (call:=evFn P wf (n + 5)) (wf:=wf) (l:=l) (lt:=lt) (cell:=cell) (way:=cell.fmod 8) (k:=3) T2 (Am (n:=n) (X.app T2) T2)
 obtain ⟨p4,σ4,T4,e4⟩:=ef (call:=evFn P wf (n + 5)) (wf:=wf) (l:=l) (lt:=lt) (cell:=cell) (way:=cell.fmod 8) (k:=4) T3 (zd (n:=n) (X.app T3) T3)
 obtain ⟨p5,σ5,T5,e5⟩:=ef (call:=evFn P wf (n + 5)) (wf:=wf) (l:=l) (lt:=lt) (cell:=cell) (way:=cell.fmod 8) (k:=5) T4 (zS (n:=n) (X.app T4) T4)
 obtain ⟨p6,σ6,T6,e6⟩:=ef (call:=evFn P wf (n + 5)) (wf:=wf) (l:=l) (lt:=lt) (cell:=cell) (way:=cell.fmod 8) (k:=6) T5 (zr (n:=n) (X.app T5) T5)
 obtain ⟨p,σ7,T7,e7⟩:=ef (call:=evFn P wf (n + 5)) (wf:=wf) (l:=l) (lt:=lt) (cell:=cell) (way:=cell.fmod 8) (k:=7) T6 (Aw (n:=n) (X.app T6) T6)
 obtain ⟨⟨τ7,rfl⟩,hp,vs,h7,hT⟩:=T7
 obtain ⟨fr8,σ8,e8,x5,τ8,rfl,rfl,h8,_⟩:=(l8 (call:=evFn P wf (n + 5)) (wf:=wf) (tg:=[5]) (one:=true) (ws:=vs) (g:=id) (it:=E.loc 4) (bs:=tm) (fr:=bn l lt cell (cell.fmod 8) p none) (σ:=σ ++ τ7)
  (Clr σ l lt cell (cell.fmod 8) p vs) (fun _ _=>False) (ac rfl) (by rintro i _ _ ⟨x5,τ,rfl,rfl,h,_⟩; rw [List.map_id]; exact af h) (fun i v fr σ' hv I=>tC hv I) ⟨none,τ7,rfl,rfl,h7,hT⟩).next
 refine ⟨τ8.set (p - σ.length) (.lst []),bj (fr':=bn l lt cell (cell.fmod 8) p x5) h19 rfl (am (ax (ac rfl) ak (cP (by decide))) (by decide:3 < 12) (am (bc ae (ai (by decide:0 ≤ 16777216))) (by decide:4 < 12) (e1 _ _ (e2 _ _ (e3 _ _ (e4 _ _ (e5 _ _ (e6 _ _ (e7 _ _ (aT e8 (be (cm (ac rfl) (af h8) ae (af h8) (rfl:dA .clear p vs [] (σ ++ τ8)=.ok .none (dw (σ ++ τ8) p []))) ?_)))))))))))⟩
 unfold dw
 rw [qZ hp]
 exact aI fQ
end
end Mine
namespace Mine
open PySem
noncomputable def di:Fn:={ ps:=[0,1],size:=3,body:=[S.whileS (E.cmp .Gt (E.loc 1) (E.int 0)) gt,S.ret (E.loc 0)] }
section
variable {P:Nat→Option Fn}{wf n:Nat} {σ:Sto}{m lw lr:Nat}{ws:List Way}{r:List Nat}
theorem w2 {l:Nat}{is:List Nat}{i:Int} (h:σ[l]?=some (.lst (is.map fun (d:Nat)=>V.int d))) (h2:gV (is.map fun (d:Nat)=>(d:Int))=some i):gQ .max [.ref l] σ=.ok (.int i) σ:=by
 show cx σ ((((getL σ l).bind aB).bind gV).map V.int)=_
 rw [af h]
 show cx σ (((aB (is.map fun (d:Nat)=>V.int d)).bind gV).map V.int)=_
 rw [bQ]
 show cx σ ((gV (is.map fun (d:Nat)=>(d:Int))).map V.int)=_
 rw [h2]; rfl
theorem uw {l k:Nat}{is:List Nat} (h:σ[l]?=some (.lst (is.map fun (d:Nat)=>V.int d))) (hk:σ[k]?=some (.lst [])):gP .Eq (.ref l) (.ref k) σ=some is.isEmpty:=by
 have h1:aP (toD 4 σ) (is.map fun (d:Nat)=>V.int d)=some (is.map fun (d:Nat)=>PyData.int d):=cu fun _ _=>rfl
 refine (gC h h1 hk).trans ?_
 cases is <;> rfl
theorem i7 {k:Nat} (h28:P k=some di) {x y:Nat} (hw:y < wf):evFn P wf (n + 1) k [.int x,.int y] σ=.ok (.int (Nat.gcd x y)) σ:=by
 obtain ⟨z,hz⟩:=uB (call:=evFn P wf n) (wf:=wf) (σ:=σ) (te:=E.cmp .Gt (E.loc 1) (E.int 0)) (fun x y z=>aH (ac rfl) ak (congrArg some (by
  rw [Bool.eq_iff_iff,decide_eq_true_eq,Bool.not_eq_true',beq_eq_false_iff_ne]; lia))) y wf x none hw
 exact bj h28 rfl (aT (show evS (evFn P wf n) wf (S.whileS _ gt) _ σ=_ from dc hz) (aI (ac rfl)))
end
end Mine
namespace Mine
set_option backward.match.sparseCases false
open PySem
theorem kq {σ:Sto}{l x:Nat}{r:List Nat} (h:σ[l]?=some (.lst (natsV r))):gP .NotIn (.int x) (.ref l) σ=some (!decide (x ∈ r)):=by
 show iG σ (.int x) (.ref l)=_
 unfold iG inV; dsimp only; rw [h]; show ((aB _).map _).map _=_
 have:aB (natsV r)=some (r.map fun (d:Nat)=>(d:Int)):=bQ r
 rw [this]
 show some (!decide ((x:Int) ∈ _))=_
 exact congrArg (fun b=>some (!b)) (decide_eq_decide.mpr lH)
end Mine
namespace Mine
open PySem
noncomputable def sJ:Fn:={ ps:=[0],size:=3,body :=
 [S.asg 1 (E.call 20 [E.loc 0,E.int 0]),S.ifS (E.cmp .Eq (E.bin .Mod (E.bin .FloorDiv (E.loc 1) (E.int 6)) (E.int 8)) (E.int 1)) [S.ret (E.bin .Add (E.int 7) (E.bin .Mod (E.bin .FloorDiv (E.loc 1) (E.int 48)) (E.int 6)))] [],
  S.ret (E.bin .Add (E.int 1) (E.bin .Mod (E.loc 1) (E.int 6)))] }
noncomputable def dP:List S:=[S.asg 6 (E.bin .Mod (E.call 20 [E.loc 0,E.int 2]) (E.blt .len [E.loc 3])),S.ret (E.bin .Add ((E.loc 3).slo (E.loc 6)) ((E.loc 3).shi (E.loc 6)))]
theorem bL.rot {m M K k:Nat}{ws:List Way} (L:bL m M K ws):bL m M K (ws.drop k ++ ws.take k):=by
 have hm:∀ {w},w ∈ ws.drop k ++ ws.take k→w ∈ ws:=fun h=>cy.mem_iff.mp h
 exact ⟨by rw [cy.length_eq]; exact L.len,fun w hw=>L.ends w (hm hw),fun w hw=>L.del w (hm hw),fun a b ha hb=>(L.sc a b ha hb).mono fun w hw=>cy.mem_iff.mpr hw,fun q=>L.ne (List.length_eq_zero_iff.mp ((cy (R:=ws) (k:=k)).length_eq.symm.trans (by rw [q]; rfl)))⟩
section
variable {P:Nat→Option Fn}{wf n:Nat} {σ:Sto}{m lw lr:Nat}{ws:List Way}{r:List Nat}
theorem vQ (h20:P 20=some cW) (h24:P 24=some sJ) {sc:List Int} (hs:aC σ sc):∃ m:Nat,1 ≤ m ∧ m ≤ 12 ∧ evFn P wf (n + 2) 24 [.ref 0] σ=.ok (.int m) σ:=by
 have ec:evE (evFn P wf (n + 1)) (E.call 20 [E.loc 0,E.int 0]) (aW sJ [.ref 0]) σ=.ok (.int (sc.getD 0 0)) σ:=aE (aa (ac rfl) (aa ak ae)) (cY h20 hs 0)
 generalize sc.getD 0 0=c at ec
 obtain ⟨k,hk,ek⟩:=bV 6 (by decide) (c.fdiv 48)
 obtain ⟨j,hj,ej⟩:=bV 6 (by decide) c
 have e1:∀ b,(Int.fmod (c.fdiv 6) 8 == 1)=b→evE (evFn P wf (n + 1)) (E.cmp .Eq (E.bin .Mod (E.bin .FloorDiv (E.loc 1) (E.int 6)) (E.int 8)) (E.int 1)) [some (.ref 0),some (.int c),none] σ=.ok (.bool b) σ:=fun b hb=>aH (ax (ax (ac rfl) ak (ik (by decide) (by decide))) ak (cP (by decide))) ak (congrArg some hb)
 cases hb:(Int.fmod (c.fdiv 6) 8 == 1) with
 | true=>exact ⟨7 + k,by lia,by lia,bj h24 rfl (am ec (by decide:1 < 3) (cp (e1 _ hb) (aI (ax ak (ax (ax (ac rfl) ak (ik (by decide) (by decide))) ak ((cP (by decide)).trans (congrArg (fun z=>RE.ok (.int z) _) ek))) (rfl:_=RE.ok (.int ((7 + k:Nat):Int)) _)))))⟩
 | false=>exact ⟨1 + j,by lia,by lia,bj h24 rfl (am ec (by decide:1 < 3) (aM (e1 _ hb) (aI (ax ak (ax (ac rfl) ak ((cP (by decide)).trans (congrArg (fun z=>RE.ok (.int z) _) ej))) (rfl:_=RE.ok (.int ((1 + j:Nat):Int)) _)))))⟩
theorem yD {l k:Nat}{is:List Int} (h:σ[l]?=some (.lst (is.map V.int))) (hk:σ[k]?=some (.lst [])):gP .NotEq (.ref l) (.ref k) σ=some (!is.isEmpty):=by
 have h1:aP (toD 4 σ) (is.map V.int)=some (is.map PyData.int):=cu fun _ _=>rfl
 show (eqV σ (.ref l) (.ref k)).map (!·)=_
 rw [gC h h1 hk]
 cases is <;> rfl
end
end Mine
namespace Mine
open PySem
noncomputable def uA:E:=E.comp [1] true (E.loc 1) [E.cmp .Eq ((E.loc 1).sub (E.int 0)) (E.loc 2)] ((E.loc 1).sub (E.int 1)) [none,none,some 4]
section
variable {m h:Nat}{ws:List Way}{r:List Nat}
theorem mw {x:Nat}:(r ++ [x]).length=r.length + 1:=List.length_append
end
section
variable {P:Nat→Option Fn}{wf n:Nat} {σ:Sto}{m lw:Nat}{ws:List Way}{sc:List Int}{M:Nat}
theorem vH {h i:Nat} (hi:i < (fF ws h).length):∃ w ∈ ws,w.1=h ∧ w.2.1=(fF ws h).getD i 0:=by
 have:=nh hi
 obtain ⟨w,hw,e⟩:=List.mem_map.mp this
 obtain ⟨h1,h2⟩:=List.mem_filter.mp hw
 exact ⟨w,h1,of_decide_eq_true h2,e⟩
end
end Mine
namespace Mine
open PySem
section
variable {P:Nat→Option Fn}{wf n:Nat} {σ σ1:Sto}{m lw:Nat}{ws:List Way}{sc:List Int}
theorem t3 {c:Int}:List.replicate m (V.int c)=intsV m (fun _=>c):=by
 unfold intsV
 rw [List.map_const',List.length_range]
theorem xX {call:Nat→List V→Sto→RE}{fr:Fra}{e ce:E}{c:Int} (hm:m ≤ 12) (hc:evE call ce fr σ=.ok (.int c) σ) (he:evE call e fr (σ ++ [.lst [.int c]])=.ok (.int m) (σ ++ [.lst [.int c]])):evE call (E.bin .Mult (E.list [ce]) e) fr σ=.ok (.ref (σ ++ [AO.lst [.int c]]).length) (σ ++ [.lst [.int c]] ++ [.lst (intsV m fun _=>c)]):=by
 refine ax (bc (aa hc ae) (ai (by decide:1 ≤ 16777216))) he ?_
 show yR (getL (σ ++ [.lst [.int c]]) σ.length) m (σ ++ [.lst [.int c]])=_
 rw [af aj]
 show (if (-1000000:Int) ≤ (m:Int) then cQ (List.replicate (m:Int).toNat (V.int c)) (σ ++ [.lst [.int c]]) else .bad)=_
 rw [if_pos (Int.le_trans (by decide) (Int.natCast_nonneg m)),Int.toNat_natCast,t3,ai (by rw [bK]; exact Nat.le_trans hm (by decide))]
structure wi (P:Nat→Option Fn) (wf m:Nat) (ws:List Way):Prop where
 T:gR P
 h18:P 18=some cw
 h19:P 19=some ge
 H:o4 P
 HW:lT P
 h14:P 14=some fB
 h20:P 20=some cW
 G:aQ m ws
 hw:9999 * 27720 < wf
theorem nF (H:jE P 10000) (h25:P 25=some (lZ 1 14 13 dP)) (m1:1 ≤ m) (m2:m ≤ 12) :
  ∃ ws l σ',ws.length ≤ 36 ∧ aQ m ws ∧ evFn P wf (n + 2) 25 [.ref 0,.int m] [.frz (sc.map V.int),.tab false]=.ok (.ref l) σ' ∧ aC σ' sc ∧ σ'[1]?=some (.tab true) ∧ σ'[l]?=some (.lst (ws.map bk)):=by
 obtain ⟨ws,o,τ,x4,x5,L,e2⟩:=nR (P:=P) (wf:=wf) (n:=n) (j:=1) (size:=14) (md:=13) (tail:=dP) (σ:=[.frz (sc.map V.int),.tab false]) (sc:=sc) (m:=m) H (by decide) rfl rfl m1 m2 (by decide) (by decide) (rest0:=[none,none,none,none,none,none,none,none]) rfl (by decide:1 < 8)
 have hl:(ws.map bk).length ≤ 16777216:=by rw [List.length_map]; exact Nat.le_trans L.len (by lia)
 have h3:(cI ([.frz (sc.map V.int),.tab true] ++ [o]) ws τ)[3]?=some (.lst (ws.map bk)):=rfl
 have hs:aC (cI ([.frz (sc.map V.int),.tab true] ++ [o]) ws τ) sc:=rfl
 have ht:(cI ([.frz (sc.map V.int),.tab true] ++ [o]) ws τ)[1]?=some (.tab true):=rfl
 generalize hσ:cI ([.frz (sc.map V.int),.tab true] ++ [o]) ws τ=σ at *
 have hlen:1 ≤ (ws.map bk).length:=by rw [List.length_map]; exact Nat.pos_of_ne_zero fun e=>L.ne (List.length_eq_zero_iff.mp e)
 obtain ⟨k,hk,e6⟩:=mG (wf:=wf) (n:=n) (P:=P) H.h20 hs (fr:=fV m 2 3 x4 x5 [none,some (.int (sc.getD 1 0)),none,none,none,none,none,none]) (e:=E.blt .len [E.loc 3]) (k:=2) rfl (aR (aa (ac rfl) ae) (bH h3)) hlen
 have hd:((ws.map bk).drop k).length + ((ws.map bk).take k).length ≤ 16777216:=by rw [List.length_drop,List.length_take]; lia
 have hd1:=Nat.le_trans (Nat.le_add_right _ _) hd
 have hd2:=Nat.le_trans (Nat.le_add_left _ _) hd
 have c2:evFn P wf (n + 2) 25 [.ref 0,.int m] [.frz (sc.map V.int),.tab false]=.ok (.ref _) (σ ++ [.lst ((ws.map bk).drop k)] ++ [.lst ((ws.map bk).take k)] ++ [.lst ((ws.map bk).drop k ++ (ws.map bk).take k)]) :=
  bj h25 rfl (e2 _ (by
   show evSs (evFn P wf (n + 1)) wf dP (fV m 2 3 x4 x5 [none,some (.int (sc.getD 1 0)),none,none,none,none,none,none]) (cI ([.frz (sc.map V.int),.tab true] ++ [o]) ws τ)=_
   rw [hσ]
   exact am e6 (by decide:6 < 14) (aI (ax (rS (ac rfl) (ac rfl) (af h3) (ai hd1)) (tJ (ac rfl) (ac rfl) (af (ap h3)) (ai hd2)) (fm (ap aj) aj hd)))))
 rw [show (ws.map bk).drop k ++ (ws.map bk).take k=(ws.drop k ++ ws.take k).map bk by rw [List.map_append,List.map_drop,List.map_take]] at c2
 exact ⟨_,_,_,Nat.le_trans L.rot.len (by lia),L.rot.good m1 m2 (by lia) (Nat.le_refl _),c2,ap (ap (ap hs)),ap (ap (ap ht)),aj⟩
theorem qO (H:jE P 10000) (h25:P 25=some (lZ 1 14 13 dP)) (m1:1 ≤ m) (m2:m ≤ 12) :
  ∃ ws l σ',aQ m ws ∧ evFn P wf (n + 2) 25 [.ref 0,.int m] [.frz (sc.map V.int),.tab false]=.ok (.ref l) σ' ∧ aC σ' sc ∧ σ'[1]?=some (.tab true) ∧ σ'[l]?=some (.lst (ws.map bk)) :=
 let ⟨ws,l,s,_,h⟩:=nF H h25 m1 m2; ⟨ws,l,s,h⟩
theorem vC {call:Nat→List V→Sto→RE}{e:E}{fr:Fra}{l:Nat}{xs:List V}{ss:List S}{r:RS} (he:evE call e fr σ=.ok (.ref l) σ) (h:σ[l]?=some (.lst xs)) (h2:evSs call wf ss fr (σ.set l (.lst []))=r):evSs call wf (.expr (e.meth .clear []) :: ss) fr σ=r :=
 be (cm he (af h) ae (af h) (rfl:dA .clear l xs [] σ=.ok .none (dw σ l []))) h2
end
end Mine
namespace Mine
set_option backward.match.sparseCases false
open PySem
section
variable {call callH:Nat→List V→Sto→RE}{wf:Nat}{fr fr1 fr2:Fra} {σ σ1 σ2:Sto}{t a:E}{ss bs os:List S}{x c i:Nat}{es:List E}{vs:List V}{r:RS}
theorem lI:evSs call wf (.raise c :: ss) fr σ=.ex c fr σ:=rfl
theorem xW {s:S} (h:evS call wf s fr σ=.ex x fr1 σ1):evSs call wf (s :: ss) fr σ=.ex x fr1 σ1:=by
 show (match evS call wf s fr σ with | .ok .next fr σ=>evSs call wf ss fr σ | r=>r)=_; rw [h]
theorem lV (h:evE call t fr σ=.ok (.bool true) σ1) (h1:evSs call wf bs fr σ1=.ex x fr1 σ2):evSs call wf (.ifS t bs os :: ss) fr σ=.ex x fr1 σ2:=xW ((w9 h).trans h1)
theorem y6 {P:Nat→Option Fn}{n k:Nat}{fn:Fn} (hP:P k=some fn) (hl:vs.length=fn.ps.length) (h:evSs (evFn P wf n) wf fn.body (aW fn vs) σ=.ex x fr1 σ1):evFn P wf (n + 1) k vs σ=.ex x σ1:=by
 exact (gz hP hl).trans (congrArg sR h)
theorem u0 {b h:List S}{ds:List Nat}:evT call callH wf (.tryS b ds i h :: ss) fr σ=(match evSs call wf b fr σ with
   | .ok f fr σ=>(match f with | .next=>evT call callH wf ss fr σ | f=>.ok f fr σ)
   | .ex x fr σ=>if ds.contains x ∧ i < fr.length then (match evSs callH wf h (fr.set i (some (.exc x))) σ with
    | .ok f fr σ=>(match f with | .next=>evT call callH wf ss (fr.set i none) σ | f=>.ok f (fr.set i none) σ)
    | _=>.bad) else .bad
   | .bad=>.bad):=rfl
end
end Mine
namespace Mine
set_option backward.match.sparseCases false
open PySem
section
variable {P T:Nat→Option Fn}{wf n k i:Nat}{vs:List V} {σ σ1 σ2:Sto}{fn:Fn}{v:V}{fr fr1 fr2:Fra}{call callH:Nat→List V→Sto→RE}{a:E}{es:List E}{ss b h:List S}{x:Nat}{ds:List Nat}
theorem sH (hT:T k=none):cq P T wf n k vs σ=evFn P wf n k vs σ:=by unfold cq; rw [hT]
theorem kX (hT:T k=some fn) (hl:vs.length=fn.ps.length) (e:evT (evFn P wf n) (evFn P wf n) wf fn.body (aW fn vs) σ=.ok (.ret v) fr σ1):cq P T wf n k vs σ=.ok v σ1:=by
 unfold cq; rw [hT]
 show (if vs.length=fn.ps.length then _ else _)=_
 rw [if_pos hl,e]; rfl
theorem vz (h:cE call es fr σ=.ok vs σ1) (h2:call k vs σ1=.ok v σ2):evE call (.tcall k es) fr σ=.ok v σ2:=by
 show (cE call es fr σ).bind _=_; rw [h]; show noX (call k vs σ1)=_; rw [h2]; rfl
theorem qD (hc:aN a=true) (h:evE call a fr σ=.ex x σ1):evSs call wf (.expr a :: ss) fr σ=.ex x fr σ1:=xW (by
 show (evE call a fr σ).bindX (aN a) fr _=_; rw [h,hc]; rfl)
theorem tj (hb:evSs call wf b fr σ=.ex x fr1 σ1) (hx:ds.contains x=true) (hi:i < fr1.length) (hh:evSs callH wf h (fr1.set i (some (.exc x))) σ1=.ok (.ret v) fr2 σ2):evT call callH wf (.tryS b ds i h :: ss) fr σ=.ok (.ret v) (fr2.set i none) σ2:=by
 rw [u0,hb]; dsimp only; rw [if_pos ⟨hx,hi⟩,hh]
end
noncomputable def dn (s:Str) (k:Nat):E:=E.tup [E.str s,(E.loc 0).isi (Ty.exc (xc k) xcs)]
noncomputable def j5:Fn:={ ps:=[0],size:=10,body :=
 [S.asg 1 (E.list [dn "count" 0,dn "meeting" 1]),
  S.asg 1 (E.bin .Add (E.loc 1) (E.list [dn "delay" 2,dn "apart" 3])),
  S.asg 1 (E.bin .Add (E.loc 1) (E.list [dn "ring" 4,dn "pace" 5])),
  S.asg 2 (E.comp [1,2] false (E.loc 1) [(E.loc 2).and ((E.loc 5).isi (Ty.val xcs))] (E.loc 1) [none,none,none,none,none,some 0]),
  S.ifS (E.cmp .Eq (E.loc 2) (E.list [])) [S.ret (E.list [E.str "other"])] [],S.ret (E.loc 2)] }
noncomputable def bu:List (Str × Nat):=[("count",0),("meeting",1),("delay",2),("apart",3),("ring",4),("pace",5)]
noncomputable def dB (k:Nat) (p:Str × Nat):V:=.tup [.str p.1,.bool (xc k == xc p.2)]
theorem ru {α:Type}{g:α→PyData} (hg:∀ a,PyData.eqv (g a) (g a)=true) (vs:List α):PyData.eqvAll (vs.map g) (vs.map g)=true:=by
 induction vs with
 | nil=>rfl
 | cons v vs ih =>
  show (PyData.eqv (g v) (g v) && PyData.eqvAll (vs.map g) (vs.map g))=true
  rw [ih,hg]; rfl
section
variable {P:Nat→Option Fn}{wf n:Nat} {σ:Sto}
theorem sX {l k:Nat}{xs xs':List V}{ds:List PyData} (h:σ[l]?=some (.lst xs)) (h':σ[k]?=some (.lst xs')) (hd:aP (toD 4 σ) xs=some ds) (hd':aP (toD 4 σ) xs'=some ds) (he:PyData.eqvAll ds ds=true):eqV σ (.ref l) (.ref k)=some true:=by
 unfold eqV
 rw [jy h hd,jy h' hd']
 exact congrArg some he
theorem Bb {s:Str} (hs:PyData.strOk s=true):aP (toD 4 σ) [V.str s]=some [.str s]:=cu (f:=toD 4 σ) (l:=[()]) (g:=fun _=>V.str s) (h:=fun _=>PyData.str s) fun _ _=>if_pos hs
theorem tG (h39:P 39=some j5) {k:Nat}{s:Str} (hin:xcs.contains (xc k)=true) (hf:(bu.filter fun p=>xc k == xc p.2 && true).map (fun p=>V.str p.1)=[.str s]) (hs:PyData.strOk s=true) :
  ∃ l τ,evFn P wf (n + 1) 39 [.exc (xc k)] σ=.ok (.ref l) (σ ++ τ) ∧ (σ ++ τ)[l]?=some (.lst [.str s]):=by
 have ep:∀ (fr:Fra) (σ':Sto) s j,fr[0]?=some (some (.exc (xc k)))→evE (evFn P wf n) (dn s j) fr σ'=.ok (dB k (s,j)) σ':=fun fr σ' s j h0 =>
  iz (aa tn (aa (gF (ac h0) (if_pos hin)) ae)) (by decide:2 ≤ 1000)
 have l2:∀ (fr:Fra) (σ':Sto) s j s' j',fr[0]?=some (some (.exc (xc k)))→evE (evFn P wf n) (E.list [dn s j,dn s' j']) fr σ'=.ok (.ref σ'.length) (σ' ++ [.lst ([(s,j),(s',j')].map (dB k))]):=fun fr σ' s j s' j' h0 =>
  bc (aa (ep fr σ' s j h0) (aa (ep fr σ' s' j' h0) ae)) (ai (by decide:2 ≤ 16777216))
 have ec:∀ {σ':Sto}{l:Nat}{x2:Option V},σ'[l]?=some (.lst (bu.map (dB k)))→evE (evFn P wf n) (E.comp [1,2] false (E.loc 1) [(E.loc 2).and ((E.loc 5).isi (Ty.val xcs))] (E.loc 1) [none,none,none,none,none,some 0]) [some (.exc (xc k)),some (.ref l),x2,none,none,none,none,none,none,none] σ'=.ok (.ref σ'.length) (σ' ++ [.lst [.str s]]):=fun h =>
  d4 (ws:=bu) (g:=dB k) (p:=fun p=>xc k == xc p.2 && true) (f:=fun p=>.str p.1) (ac rfl) (af h) (fun p hp=>⟨_,rfl,kC (tc (ac rfl) fun _=>gF (ac rfl) (if_pos hin)),fun _=>ac rfl⟩) ((congrArg (fun l=>cQ l _) hf).trans (ai (by decide:1 ≤ 16777216)))
 generalize hσ:σ ++ [AO.lst (bu.take 2 |>.map (dB k))] ++ [AO.lst (([("delay",2),("apart",3)]:List (Str × Nat)).map (dB k))] ++ [AO.lst ((bu.take 4).map (dB k))] ++ [AO.lst (([("ring",4),("pace",5)]:List (Str × Nat)).map (dB k))]=σ' at *
 have hq:gP .Eq (.ref (σ' ++ [AO.lst (bu.map (dB k))]).length) (.ref (σ' ++ [AO.lst (bu.map (dB k))] ++ [AO.lst [V.str s]]).length) (σ' ++ [.lst (bu.map (dB k))] ++ [.lst [.str s]] ++ [.lst []])=some false:=by
  show eqV _ _ _=_
  exact gC (ap aj) (Bb hs) aj
 refine ⟨(σ' ++ [AO.lst (bu.map (dB k))]).length,[AO.lst (bu.take 2 |>.map (dB k))] ++ [AO.lst (([("delay",2),("apart",3)]:List (Str × Nat)).map (dB k))] ++ [AO.lst ((bu.take 4).map (dB k))] ++ [AO.lst (([("ring",4),("pace",5)]:List (Str × Nat)).map (dB k))] ++ [.lst (bu.map (dB k))] ++ [.lst [.str s]] ++ [.lst []],?_⟩
 rw [← List.append_assoc,← List.append_assoc,← List.append_assoc,← List.append_assoc,← List.append_assoc,← List.append_assoc,hσ]
 refine ⟨?_,ap aj⟩
 subst hσ
 exact bj h39 rfl (am (l2 _ _ _ _ _ _ rfl) (by decide:1 < 10) (am (ax (ac rfl) (l2 _ _ _ _ _ _ rfl) (fm (ap aj) aj (by decide:2 + 2 ≤ 16777216))) (by decide:1 < 10) (am (ax (ac rfl) (l2 _ _ _ _ _ _ rfl) (fm (ap aj) aj (by decide:4 + 2 ≤ 16777216))) (by decide:1 < 10) (am (ec aj) (by decide:2 < 10) (aM (aH (ac rfl) (bc ae (ai (by decide:0 ≤ 16777216))) hq) (aI (ac rfl)))))))
theorem v5 (h8:P 8=some cr) (h12:P 12=some nU) {l m:Nat}{x:Int}{ws:List Way} (w:a9 σ l m ws) (hx:x < 0 ∨ (m:Int) ≤ x):evFn P wf (n + 2) 12 [.ref l,.int x] σ=.ex (xc 1) σ:=by
 obtain ⟨d,lw,a,b,c⟩:=w.at'
 refine y6 h12 rfl (lV (rz (aE (aa (ac rfl) (aa ak (aa (ax (cO (ac rfl) (bG a b)) ak rfl) ae))) ?_)) lI)
 rw [gD h8]
 refine congrArg (fun b=>RE.ok (.bool b) σ) ?_
 rw [Bool.and_eq_false_iff,decide_eq_false_iff_not,decide_eq_false_iff_not]
 lia
end
end Mine
namespace Mine
open PySem
noncomputable def wN:List S:=[S.ifS (E.cmp .NotIn (E.loc 4) (E.loc 3))
 [S.expr ((E.loc 3).meth .append [E.loc 4]),S.asg 7 uA,
  S.asg 4 ((E.loc 7).sub (E.bin .Mod (E.call 22 [E.call 20 [E.loc 0,E.bin .Add (E.int 11) (E.bin .Mod (E.loc 6) (E.int 4))],E.loc 6]) (E.blt .len [E.loc 7])))] []]
noncomputable def yh:List S:=[S.expr ((E.loc 3).meth .append [E.bin .Mod (E.call 22 [E.call 20 [E.loc 0,E.int 12],E.loc 6]) (E.loc 2)])]
noncomputable def wY:S:=S.ifS (E.cmp .Lt (E.loc 5) (E.int 2))
 [S.forS [6] true (It.e (E.blt .range [E.bin .Add (E.loc 2) (E.int 1)])) wN,
  S.ifS (E.cmp .Eq (E.loc 5) (E.int 0)) [S.asg 3 ((E.loc 3).slo ((E.loc 3).meth .index [E.loc 4]))] []]
 [S.forS [6] true (It.e (E.blt .range [E.bin .Mod (E.call 20 [E.loc 0,E.int 11]) (E.int 5)])) yh]
noncomputable def wB:E:=(E.list [(E.int 1).neg,E.loc 2,E.bin .Add (E.loc 2) (E.loc 9),E.bin .Sub (E.int 1).neg (E.loc 9)]).sub (E.bin .Mod (E.call 20 [E.loc 0,E.int 17]) (E.int 4))
noncomputable def w1:S:=S.ifS (E.cmp .Eq (E.bin .Mod (E.call 20 [E.loc 0,E.int 16]) (E.int 7)) (E.int 1))
 [S.asg 8 (E.bin .Mod (E.bin .FloorDiv (E.call 20 [E.loc 0,E.int 16]) (E.int 7)) (E.bin .Add (E.blt .len [E.loc 3]) (E.int 1))),
  S.asg 9 (E.bin .Mod (E.call 20 [E.loc 0,E.int 17]) (E.pow 10 20)),
  S.asg 3 (E.bin .Add (E.bin .Add ((E.loc 3).shi (E.loc 8)) (E.list [wB])) ((E.loc 3).slo (E.loc 8)))] []
noncomputable def wy:Fn:={ ps:=[0,1,2],size:=14,body :=
 [S.asg 3 (E.list []),S.asg 4 (E.bin .Mod (E.call 20 [E.loc 0,E.int 9]) (E.loc 2)),S.asg 5 (E.bin .Mod (E.call 20 [E.loc 0,E.int 10]) (E.int 3)),wY,w1,S.ret (E.loc 3)] }
noncomputable def dv (lw m l h w:Nat) (x6 x7 x8 x9:Option V):Fra:=[some (.ref 0),some (.ref lw),some (.int m),some (.ref l),some (.int h),some (.int w),x6,x7,x8,x9,none,none,none,none]
section
variable {P:Nat→Option Fn}{wf n:Nat} {σ:Sto}{m lw w:Nat}{ws:List Way}{sc:List Int}
theorem xR {call:Nat→List V→Sto→RE}{l h:Nat}{x6 x7:Option V} (hlw:σ[lw]?=some (.lst (ws.map bk))) (hz:ws.length ≤ 60) :
  evE call uA (dv lw m l h w x6 x7 none none) σ=.ok (.ref σ.length) (σ ++ [.lst (natsV (fF ws h))]):=by
 have e1:natsV (fF ws h)=(ws.filter fun w=>w.1 == h).map fun w=>V.int w.2.1:=by unfold natsV fF; rw [List.map_map]; rfl
 rw [e1]
 refine d4 (ws:=ws) (g:=bk) (p:=fun w=>w.1 == h) (f:=fun w=>V.int w.2.1) (ac rfl) (af hlw) (fun w hw=>⟨_,rfl,kC (aH (aK (ac rfl) ak rfl) (ac rfl) (congrArg some (cj _ _))),fun _=>aK (ac rfl) ak rfl⟩) (ai ?_)
 rw [List.length_map]; exact Nat.le_trans (List.length_filter_le _ _) (Nat.le_trans hz (by decide))
structure wj (m i:Nat) (r:List Nat) (h:Nat):Prop where
 nd:r.Nodup
 lt:∀ x ∈ r,x < m
 hl:h < m
 len:r.length=i ∨ h ∈ r
abbrev B6:=List Nat × Nat × Option V × Option V × Sto
theorem nQ (h20:P 20=some cW) (h22:P 22=some iW) (hs:aC σ sc) (hlw:σ[lw]?=some (.lst (ws.map bk))) (G:aQ m ws) {i:Nat} (hi:i ≤ 12) {z:B6} (g:wj m i z.1 z.2.1) :
  fU [6] true (evSs (evFn P wf (n + 1)) wf wN) (.int i) (dv lw m σ.length z.2.1 w z.2.2.1 z.2.2.2.1 none none) (a4 σ (natsV z.1) z.2.2.2.2) (fun z:B6=>dv lw m σ.length z.2.1 w z.2.2.1 z.2.2.2.1 none none) (fun z=>a4 σ (natsV z.1) z.2.2.2.2) (fun z=>wj m (i + 1) z.1 z.2.1):=by
 obtain ⟨r,h,x6,x7,τ⟩:=z
 by_cases hin:h ∈ r
 ·exact ⟨_,rfl,(r,h,some (.int i),x7,τ),aM (aH (p:=false) (ac rfl) (ac rfl) ((kq aj).trans (congrArg (fun b=>some (!b)) (decide_eq_true hin)))) aS,g.nd,g.lt,g.hl,.inr hin⟩
 ·have hl:r.length=i:=g.len.resolve_right hin
  have hne:0 < (fF ws h).length:=by
   obtain ⟨w,hw,e⟩:=G.ok.hO h g.hl
   exact List.length_pos_of_mem (List.mem_map.mpr ⟨w,List.mem_filter.mpr ⟨hw,decide_eq_true e⟩,rfl⟩)
  have hs':aC (a4 σ (natsV (r ++ [h])) τ ++ [.lst (natsV (fF ws h))]) sc:=ap (ap hs)
  have eg:=xR (call:=evFn P wf (n + 1)) (m:=m) (l:=σ.length) (h:=h) (w:=w) (x6:=some (.int i)) (x7:=x7) (show (a4 σ (natsV (r ++ [h])) τ)[lw]?=some (.lst (ws.map bk)) from ap hlw) G.hz
  have elen:=bH (aj (σ:=a4 σ (natsV (r ++ [h])) τ) (o:=.lst (natsV (fF ws h))) (τ:=[]))
  rw [av] at elen
  have hN:=Nat.mod_lt (mixN (sc.getD (11 + i % 4) 0) i) hne
  obtain ⟨w',hw1,hw2,hw3⟩:=vH hN
  refine ⟨_,rfl,(r ++ [h],(fF ws h).getD (mixN (sc.getD (11 + i % 4) 0) i % (fF ws h).length) 0,some (.int i),some (.ref (a4 σ (natsV (r ++ [h])) τ).length),τ ++ [.lst (natsV (fF ws h))]),?_,⟨List.nodup_append.mpr ⟨g.nd,List.nodup_cons.mpr ⟨nofun,List.nodup_nil⟩,fun x hx y hy e=>hin ?_⟩,fun x hx=>?_,hw3 ▸ (G.hm w' hw1).2,.inl (mw.trans (congrArg Nat.succ hl))⟩⟩
  ·refine d3 (aH (p:=true) (ac rfl) (ac rfl) ((kq aj).trans (congrArg (fun b=>some (!b)) (decide_eq_false hin)))) (be (cm (ac rfl) (af aj) (aa (ac rfl) ae) (af aj) (jT (by rw [av]; lia))) ?_) aS
   rw [eT,show natsV r ++ [V.int h]=natsV (r ++ [h]) by unfold natsV; rw [List.map_append]; rfl,← bX]
   exact am eg (by decide:7 < 14) (am (aK (ac rfl) (ax (aE (aa (aE (aa (ac rfl) (aa (ax ak (ax (ac rfl) ak (eU (x:=i) (y:=4) (by decide))) rfl) ae)) (cY h20 hs' (11 + i % 4))) (aa (ac rfl) ae)) (gm h22)) (aR (aa (ac rfl) ae) elen) (eU (by lia))) (bf aj (dl hN))) (by decide:4 < 14) aS)
  ·rw [List.mem_singleton.mp hy] at e; rwa [← e]
  ·rcases bW hx with hx | hx
   ·exact g.lt x hx
   ·rw [hx]; exact g.hl
theorem ua (h20:P 20=some cW) (h22:P 22=some iW) (hs:aC σ sc) (hlw:σ[lw]?=some (.lst (ws.map bk))) (G:aQ m ws) {h:Nat} (hh:h < m) :
  ∃ r l τ x6 x7 h',r.length ≤ 12 ∧ (σ ++ τ)[l]?=some (.lst (natsV r)) ∧ evS (evFn P wf (n + 1)) wf wY (dv lw m σ.length h w none none none none) (a4 σ (natsV []) [])=.ok .next (dv lw m l h' w x6 x7 none none) (σ ++ τ):=by
 have hm1:=G.m1
 have hm:=G.m2
 by_cases hw:w < 2
 ·obtain ⟨z,e,g⟩:=lG (call:=evFn P wf (n + 1)) (wf:=wf) (tg:=[6]) (one:=true) (ws:=List.range (m + 1)) (g:=fun (v:Nat)=>V.int v) (it:=E.blt .range [E.bin .Add (E.loc 2) (E.int 1)]) (bs:=wN) (σ:=a4 σ (natsV []) [])
   (F:=fun _ (z:B6)=>dv lw m σ.length z.2.1 w z.2.2.1 z.2.2.2.1 none none) (S:=fun _ z=>a4 σ (natsV z.1) z.2.2.2.2) (J:=fun i z=>wj m i z.1 z.2.1) ([],h,none,none,[]) (aR (aa (ax (ac rfl) ak (rfl:_=RE.ok (.int ((m + 1:Nat):Int)) _)) ae) (bh (k:=m + 1) (by lia))) (bo (m + 1))
   (fun i v z hv g=>by
    obtain ⟨hi,rfl⟩:=bg hv
    exact nQ h20 h22 hs hlw G (by lia) g) ⟨List.nodup_nil,(fun _ h=>nomatch h),hh,.inl rfl⟩
  obtain ⟨r,h',x6,x7,τ⟩:=z
  rw [List.length_range] at g
  have hlen:r.length ≤ m:=cV m r g.nd g.lt
  have hin:h' ∈ r:=g.len.resolve_left (by have:r.length ≤ m:=hlen; show r.length ≠ m + 1; lia)
  have et:∀ {σ'},evE (evFn P wf (n + 1)) (E.cmp .Eq (E.loc 5) (E.int 0)) (dv lw m σ.length h' w x6 x7 none none) σ'=.ok (.bool (w == 0)) σ':=aH (ac rfl) ak (congrArg some (cj w 0))
  have e0:evE (evFn P wf (n + 1)) (E.cmp .Lt (E.loc 5) (E.int 2)) (dv lw m σ.length h w none none none none) (a4 σ (natsV []) [])=.ok (.bool true) (a4 σ (natsV []) []):=aH (ac rfl) ak (congrArg some (decide_eq_true (by lia)))
  cases hb:w == 0 with
  | false=>rw [hb] at et; exact ⟨r,σ.length,.lst (natsV r) :: τ,x6,x7,h',by lia,aj,(w9 e0).trans (aT e (aM et aS))⟩
  | true =>
   rw [hb] at et
   obtain ⟨k,hk,ek⟩:=yg (σ:=a4 σ (natsV r) τ) (l:=σ.length) hin (by lia) (fun v hv=>by have:=g.lt v hv; lia)
   refine ⟨r.drop k,(a4 σ (natsV r) τ).length,.lst (natsV r) :: (τ ++ [.lst (natsV (r.drop k))]),x6,x7,h',by rw [List.length_drop]; lia,?_,?_⟩
   ·show (σ ++ (.lst (natsV r) :: τ ++ [.lst (natsV (r.drop k))]))[_]?=_
    rw [← List.append_assoc]; exact aj
   ·refine (w9 e0).trans (aT e (d3 et (am (rS (ac rfl) (cm (ac rfl) (af aj) (aa (ac rfl) ae) (af aj) ek) (af aj) ?_) (by decide:3 < 14) aS) aS))
    rw [show (natsV r).drop k=natsV (r.drop k) by unfold natsV; rw [List.map_drop]]
    rw [ai (by rw [av,List.length_drop]; lia)]
    show RE.ok _ (a4 σ (natsV r) τ ++ _)=_
    unfold a4; rw [List.append_assoc]; rfl
 ·have e0:evE (evFn P wf (n + 1)) (E.cmp .Lt (E.loc 5) (E.int 2)) (dv lw m σ.length h w none none none none) (a4 σ (natsV []) [])=.ok (.bool false) (a4 σ (natsV []) []):=aH (ac rfl) ak (congrArg some (decide_eq_false (by lia)))
  obtain ⟨c,hc,ec⟩:=mG (P:=P) (wf:=wf) (n:=n) (σ:=a4 σ (natsV []) []) (sc:=sc) h20 (show aC (a4 σ (natsV []) []) sc from ap hs) (fr:=dv lw m σ.length h w none none none none) (e:=E.int 5) (k:=11) (q:=5) rfl ak (by decide)
  obtain ⟨z,e,g⟩:=lG (call:=evFn P wf (n + 1)) (wf:=wf) (tg:=[6]) (one:=true) (ws:=List.range c) (g:=fun (v:Nat)=>V.int v) (it:=E.blt .range [E.bin .Mod (E.call 20 [E.loc 0,E.int 11]) (E.int 5)]) (bs:=yh) (σ:=a4 σ (natsV []) [])
   (F:=fun _ (z:List Nat × Option V)=>dv lw m σ.length h w z.2 none none none) (S:=fun _ z=>a4 σ (natsV z.1) []) (J:=fun i z=>z.1.length=i) ([],none) (aR (aa ec ae) (bh (by lia))) (bo c)
   (fun i v z hv g=>by
    obtain ⟨hi,rfl⟩:=bg hv
    refine ⟨_,rfl,(z.1 ++ [mixN (sc.getD 12 0) i % m],some (.int i)),be (cm (ac rfl) (af aj) (aa (ax (aE (aa (aE (aa (ac rfl) (aa ak ae)) (cY h20 (show aC (a4 σ (natsV z.1) []) sc from ap hs) 12)) (aa (ac rfl) ae)) (gm h22)) (ac rfl) (eU (by lia))) ae) (af aj) (jT (by rw [av,g]; lia))) ?_,mw.trans (congrArg Nat.succ g)⟩
    rw [eT,show natsV z.1 ++ [V.int (mixN (sc.getD 12 0) i % m:Nat)]=natsV (z.1 ++ [mixN (sc.getD 12 0) i % m]) by unfold natsV; rw [List.map_append]; rfl]
    exact aS) rfl
  rw [List.length_range] at g
  exact ⟨z.1,σ.length,[.lst (natsV z.1)],z.2,none,h,by lia,aj,(AK e0).trans (aT e aS)⟩
theorem ii {r:List Nat}:natsV r=(r.map fun (d:Nat)=>(d:Int)).map V.int:=by unfold natsV; rw [List.map_map]; rfl
theorem tD (h20:P 20=some cW) (hs:aC σ sc) {l h:Nat}{x6 x7:Option V}{r:List Int} (hl:σ[l]?=some (.lst (r.map V.int))) (hr:r.length ≤ 12) :
  ∃ (L:List Int) (p:Nat) (τ:Sto) (fr:Fra),L.length ≤ 13 ∧ (σ ++ τ)[p]?=some (.lst (L.map V.int)) ∧ evSs (evFn P wf (n + 1)) wf [w1,S.ret (E.loc 3)] (dv lw m l h w x6 x7 none none) σ=.ok (.ret (.ref p)) fr (σ ++ τ):=by
 have cell:∀ {fr:Fra} {σ':Sto} (k:Nat),fr[0]?=some (some (.ref 0))→aC σ' sc→evE (evFn P wf (n + 1)) (E.call 20 [E.loc 0,E.int k]) fr σ'=.ok (.int (sc.getD k 0)) σ':=fun k h hs=>aE (aa (ac h) (aa ak ae)) (cY h20 hs k)
 have et:evE (evFn P wf (n + 1)) (E.cmp .Eq (E.bin .Mod (E.call 20 [E.loc 0,E.int 16]) (E.int 7)) (E.int 1)) (dv lw m l h w x6 x7 none none) σ=.ok (.bool ((sc.getD 16 0).fmod 7 == 1)) σ:=aH (ax (cell 16 rfl hs) ak (cP (by decide))) ak rfl
 cases hb:(sc.getD 16 0).fmod 7 == 1 with
 | false=>rw [hb] at et; exact ⟨r,l,[],_,by lia,ap hl,by rw [List.append_nil]; exact aM et (aI (ac rfl))⟩
 | true =>
  rw [hb] at et
  obtain ⟨k,hk,ek⟩:=bV (r.length + 1) (Nat.succ_le_succ (Nat.zero_le _)) ((sc.getD 16 0).fdiv 7)
  obtain ⟨j,hj,ej⟩:=bV 4 (by decide) (sc.getD 17 0)
  have e8:evE (evFn P wf (n + 1)) (E.bin .Mod (E.bin .FloorDiv (E.call 20 [E.loc 0,E.int 16]) (E.int 7)) (E.bin .Add (E.blt .len [E.loc 3]) (E.int 1))) (dv lw m l h w x6 x7 none none) σ=.ok (.int k) σ :=
   ax (ax (cell 16 rfl hs) ak (ik (by decide) (by decide))) (ax (aR (aa (ac rfl) ae) (bH hl)) ak rfl) ((cP (by rw [List.length_map]; lia)).trans (congrArg (fun x=>RE.ok (.int x) σ) (by rw [List.length_map]; exact ek)))
  have e9:evE (evFn P wf (n + 1)) (E.bin .Mod (E.call 20 [E.loc 0,E.int 17]) (E.pow 10 20)) (dv lw m l h w x6 x7 (some (.int k)) none) σ=.ok (.int ((sc.getD 17 0).fmod (10 ^ 20))) σ:=ax (cell 17 rfl hs) zo (cP (by decide))
  generalize (sc.getD 17 0).fmod (10 ^ 20)=far at e9
  have htk:(r.take k).length ≤ 12:=Nat.le_trans (List.length_take_le _ _) (by lia)
  have hdk:(r.drop k).length ≤ 12:=by rw [List.length_drop]; lia
  have pick:∀ σ':Sto,aC σ' sc→∃ x:Int,evE (evFn P wf (n + 1)) wB (dv lw m l h w x6 x7 (some (.int k)) (some (.int far))) σ'=.ok (.int x) (σ' ++ [.lst ([-1,(m:Int),m + far,-1 - far].map V.int)]):=fun σ' hs'=>by
   obtain ⟨x,hx⟩:∃ x,[-1,(m:Int),m + far,-1 - far][j]?=some x:=⟨_,List.getElem?_eq_getElem (show j < 4 from hj)⟩
   refine ⟨x,aK (bc (aa (qR ak) (aa (ac rfl) (aa (ax (ac rfl) (ac rfl) rfl) (aa (ax (qR ak) (ac rfl) rfl) ae)))) (ai (by exact (by decide:4 ≤ 16777216)))) (ax (cell 17 rfl (ap hs')) ak ((cP (by decide)).trans (congrArg (fun x=>RE.ok (.int x) _) ej))) (bf aj ?_)⟩
   show ([-1,(m:Int),m + far,-1 - far].map V.int)[j]?=_
   rw [List.getElem?_map,hx]; rfl
  obtain ⟨x,ex⟩:=pick (σ ++ [.lst ((r.take k).map V.int)]) (ap hs)
  have q1:cQ ((r.map V.int).take k) σ=.ok (.ref σ.length) (σ ++ [.lst ((r.take k).map V.int)]):=by rw [← List.map_take]; exact ai (by rw [List.length_map]; lia)
  obtain ⟨υ,hυ⟩:∃ υ:Sto,υ=[.lst ((r.take k).map V.int)] ++ [.lst ([-1,(m:Int),m + far,-1 - far].map V.int)] ++ [.lst [.int x]] ++ [.lst ((r.take k).map V.int ++ [.int x])] ++ [.lst ((r.map V.int).drop k)]:=⟨_,rfl⟩
  have hυ':σ ++ [.lst ((r.take k).map V.int)] ++ [.lst ([-1,(m:Int),m + far,-1 - far].map V.int)] ++ [.lst [.int x]] ++ [.lst ((r.take k).map V.int ++ [.int x])] ++ [.lst ((r.map V.int).drop k)]=σ ++ υ:=by
   rw [hυ,← List.append_assoc,← List.append_assoc,← List.append_assoc,← List.append_assoc]
  have key:evE (evFn P wf (n + 1)) (E.bin .Add (E.bin .Add ((E.loc 3).shi (E.loc 8)) (E.list [wB])) ((E.loc 3).slo (E.loc 8))) (dv lw m l h w x6 x7 (some (.int k)) (some (.int far))) σ=.ok (.ref (σ ++ υ).length) (σ ++ υ ++ [.lst ((r.take k).map V.int ++ [.int x] ++ (r.map V.int).drop k)]):=by
   rw [← hυ']
   exact ax (ax (tJ (ac rfl) (ac rfl) (af hl) q1) (bc (aa ex ae) (ai (by decide:1 ≤ 16777216))) (fm (ap (ap aj)) aj (by rw [List.length_map]; show _ + 1 ≤ _; lia))) (rS (ac rfl) (ac rfl) (af (ap (ap (ap (ap hl))))) (ai (by rw [← List.map_drop,List.length_map]; lia))) (fm (ap aj) aj (by rw [List.length_append,List.length_map,← List.map_drop,List.length_map]; show _ + 1 + _ ≤ _; lia))
  refine ⟨r.take k ++ [x] ++ r.drop k,(σ ++ υ).length,υ ++ [.lst ((r.take k).map V.int ++ [.int x] ++ (r.map V.int).drop k)],dv lw m (σ ++ υ).length h w x6 x7 (some (.int k)) (some (.int far)),?_,?_,?_⟩
  ·rw [List.length_append,List.length_append,List.length_take,List.length_drop]; show _ + 1 + _ ≤ _; lia
  ·rw [← List.append_assoc,List.map_append,List.map_append,← List.map_drop]; exact aj
  ·rw [← List.append_assoc]
   exact d3 et (am e8 (by decide:8 < 14) (am e9 (by decide:9 < 14) (am key (by decide:3 < 14) aS))) (aI (ac rfl))
theorem wl (h20:P 20=some cW) (h22:P 22=some iW) (h26:P 26=some wy) (hs:aC σ sc) (hlw:σ[lw]?=some (.lst (ws.map bk))) (G:aQ m ws) :
  ∃ (L:List Int) (p:Nat) (τ:Sto),L.length ≤ 13 ∧ (σ ++ τ)[p]?=some (.lst (L.map V.int)) ∧ evFn P wf (n + 2) 26 [.ref 0,.ref lw,.int m] σ=.ok (.ref p) (σ ++ τ):=by
 obtain ⟨c,hc,ec⟩:=mG (P:=P) (wf:=wf) (n:=n) (σ:=a4 σ (natsV []) []) (sc:=sc) h20 (show aC (a4 σ (natsV []) []) sc from ap hs) (fr:=[some (.ref 0),some (.ref lw),some (.int m),some (.ref σ.length),none,none,none,none,none,none,none,none,none,none]) (e:=E.loc 2) (k:=9) (q:=m) rfl (ac rfl) G.m1
 obtain ⟨w,hw,ew⟩:=mG (P:=P) (wf:=wf) (n:=n) (σ:=a4 σ (natsV []) []) (sc:=sc) h20 (show aC (a4 σ (natsV []) []) sc from ap hs) (fr:=[some (.ref 0),some (.ref lw),some (.int m),some (.ref σ.length),some (.int c),none,none,none,none,none,none,none,none,none]) (e:=E.int 3) (k:=10) (q:=3) rfl ak (by decide)
 obtain ⟨r,l,τ,x6,x7,h',hr,hl,e⟩:=ua (wf:=wf) (n:=n) (w:=w) h20 h22 hs hlw G hc
 rw [ii] at hl
 obtain ⟨L,p,τ',fr,hL,hp,e'⟩:=tD (wf:=wf) (n:=n) (lw:=lw) (m:=m) (w:=w) (h:=h') (x6:=x6) (x7:=x7) h20 (show aC (σ ++ τ) sc from ap hs) hl (by rw [List.length_map]; exact hr)
 rw [List.append_assoc] at hp e'
 exact ⟨L,p,τ ++ τ',hL,hp,bj h26 rfl (am (bc ae (ai (by decide:0 ≤ 16777216))) (by decide:3 < 14) (am ec (by decide:4 < 14) (am ew (by decide:5 < 14) (aT e e'))))⟩
end
end Mine
namespace Mine
open PySem
section
variable {call:Nat→List V→Sto→RE}{wf:Nat}{tg:List Nat}{one:Bool}{body:Fra→Sto→RS} {α β:Type}{g:α→V}{F:Nat→β→Fra}{St:Nat→β→Sto}{J:Nat→β→Prop}{ws:List α}{src:Src} {σ:Sto}{it:E}{bs:List S}
inductive yU (tg:List Nat) (one:Bool) (body:Fra→Sto→RS) (v:V) (fr:Fra) (σ:Sto) (Q:RS→Prop):Prop
 | mk (fr1:Fra) (h:bw tg one v fr=some fr1) (r:RS) (e:body fr1 σ=r) (s:∀ c,rV r c=r) (q:Q r):yU tg one body v fr σ Q
theorem oD {k:Nat}{a:α}{Q:RS→Prop} (hk:ws[k]?=some a) (hI:∀ i b,J i b→a8 (St i b) i src=some (ws[i]?.map g))
  (step:∀ i a b,i < k→ws[i]?=some a→J i b→fU tg one body (g a) (F i b) (St i b) (F (i + 1)) (St (i + 1)) (J (i + 1))) (last:∀ b,J k b→yU tg one body (g a) (F k b) (St k b) Q) :
  ∀ (d n i:Nat) (b:β),i + d=k→k < i + n→J i b→Q (kS tg one body src n i (F i b) (St i b)):=by
 intro d
 induction d with
 | zero =>
  intro n i b hd hn j
  cases n with
  | zero=>exact absurd hn (by lia)
  | succ n =>
   rw [show i=k from hd] at j ⊢
   show Q (kE (a8 (St k b) k src) _ _ _)
   rw [hI k b j,hk]
   obtain ⟨fr1,h1,r,e,s,q⟩:=last b j
   show Q (jY (bw tg one (g a) (F k b)) _ _)
   rw [h1]
   show Q (rV (body fr1 (St k b)) _)
   rw [e,s]; exact q
 | succ d ih =>
  intro n i b hd hn j
  cases n with
  | zero=>exact absurd hn (by lia)
  | succ n =>
   obtain ⟨a',ha⟩:∃ a',ws[i]?=some a':=⟨_,List.getElem?_eq_getElem (Nat.lt_trans (by lia:i < k) (List.getElem?_eq_some_iff.mp hk).1)⟩
   show Q (kE (a8 (St i b) i src) _ _ _)
   rw [hI i b j,ha]
   obtain ⟨fr1,h1,b',e,j'⟩:=step i a' b (by lia) ha j
   show Q (jY (bw tg one (g a') (F i b)) _ _)
   rw [h1]
   show Q (rV (body fr1 (St i b)) _)
   rw [e]
   exact ih n (i + 1) b' (by lia) (by lia) j'
theorem qW {v:V}{k:Nat}{a:α}{Q:RS→Prop} (b0:β) (hk:ws[k]?=some a) (h:evE call it (F 0 b0) σ=.ok v (St 0 b0)) (hv:gK v=some src) (hn:nV (St 0 b0) src=some ws.length) (hI:∀ i b,J i b→a8 (St i b) i src=some (ws[i]?.map g))
  (step:∀ i a b,i < k→ws[i]?=some a→J i b→fU tg one (evSs call wf bs) (g a) (F i b) (St i b) (F (i + 1)) (St (i + 1)) (J (i + 1))) (last:∀ b,J k b→yU tg one (evSs call wf bs) (g a) (F k b) (St k b) Q) (h0:J 0 b0):Q (evS call wf (.forS tg one (.e it) bs) (F 0 b0) σ):=by
 rw [ux hv hn h]
 exact oD hk hI step last k _ 0 b0 (Nat.zero_add k) (by rw [Nat.zero_add]; exact Nat.lt_succ_of_lt (List.getElem?_eq_some_iff.mp hk).1) h0
end
noncomputable def uJ:E:=E.comp [1] true (E.loc 0) [(E.cmp .Eq ((E.loc 1).sub (E.int 0)) ((E.loc 4).sub (E.loc 3))).and (E.cmp .Eq ((E.loc 1).sub (E.int 1)) ((E.loc 4).sub (E.bin .Mod (E.bin .Add (E.loc 3) (E.int 1)) (E.blt .len [E.loc 4]))))] ((E.loc 1).sub (E.int 2)) [none,none,none,some 4,some 1]
noncomputable def pz:List S:=[S.asg 5 uJ,S.ifS (E.cmp .Eq (E.loc 5) (E.list [])) [S.ret (E.str "ring")] [],S.asg 3 (E.bin .Add (E.loc 3) (E.blt .max [E.loc 5]))]
noncomputable def vm:E:=E.comp [1] true (E.loc 1) [(E.cmp2 .LtE .Lt (E.int 0) (E.loc 1) (E.loc 2)).not] (E.loc 1) [none,none,some 2]
noncomputable def lC:Fn:={ ps:=[0,1,2],size:=12,body :=
 [S.ifS (E.cmp .NotEq vm (E.list [])) [S.ret (E.str "meeting")] [],
  S.ifS ((E.cmp .Eq (E.loc 1) (E.list [])).or (E.cmp .Lt (E.blt .setLen [E.loc 1]) (E.blt .len [E.loc 1]))) [S.ret (E.str "ring")] [],
  S.asg 3 (E.int 0),S.forS [4] true (It.e (E.blt .range [E.blt .len [E.loc 1]])) pz,
  S.asg 6 (E.call 29 [E.loc 3,E.blt .len [E.loc 1]]),
  S.ret (E.tup [E.bin .FloorDiv (E.loc 3) (E.loc 6),E.bin .FloorDiv (E.blt .len [E.loc 1]) (E.loc 6)])] }
noncomputable def gG:Fn:={ ps:=[0,1],size:=6,body:=[S.tryS [S.ret (E.call 2 [E.loc 0,E.loc 1])] xcs 2 [S.ret (E.join " " (E.call 39 [E.loc 2]))]] }
noncomputable def oi (lw lr m:Nat) (x3 x4 x5 x6:Option V):Fra:=[some (.ref lw),some (.ref lr),some (.int m),x3,x4,x5,x6,none,none,none,none,none]
section
variable {P T:Nat→Option Fn}{wf n:Nat} {σ:Sto}{l m lw lr i:Nat}{ws:List Way}{r:List Nat}{x3 x4 x5 x6:Option V}
theorem m9 {call:Nat→List V→Sto→RE} (hr:σ[lr]?=some (.lst (natsV r))) (hlw:σ[lw]?=some (.lst (ws.map bk))) (hz:ws.length ≤ 60) (hi:i < r.length) :
  evE call uJ (oi lw lr m x3 (some (.int i)) x5 x6) σ=.ok (.ref σ.length) (σ ++ [.lst ((aG ws (r.getD i 0) (r.getD ((i + 1) % r.length) 0)).map fun (d:Nat)=>V.int d)]):=by
 have e1:∀ b,(aG ws (r.getD i 0) b).map (fun (d:Nat)=>V.int d)=(ws.filter fun w=>w.1 == r.getD i 0 && w.2.1 == b).map fun w=>V.int w.2.2:=fun b=>by unfold aG; rw [List.map_map]; rfl
 have hi2:(i + 1) % r.length < r.length:=Nat.mod_lt _ (Nat.lt_of_le_of_lt (Nat.zero_le _) hi)
 have el:∀ v,evE call (E.bin .Mod (E.bin .Add (E.loc 3) (E.int 1)) (E.blt .len [E.loc 4])) [none,some v,none,some (.int i),some (.ref lr)] σ=.ok (.int ((i + 1) % r.length:Nat)) σ:=fun v =>
  ax (ax (ac rfl) ak rfl) (aR (aa (ac rfl) ae) (bH hr)) (by rw [av]; exact eU (x:=i + 1) (by lia))
 rw [e1]
 refine d4 (ws:=ws) (g:=bk) (p:=fun w=>w.1 == r.getD i 0 && w.2.1 == r.getD ((i + 1) % r.length) 0) (f:=fun w=>.int w.2.2) (ac rfl) (af hlw) (fun w hw=>⟨_,rfl,kC ?_,fun _=>aK (ac rfl) ak rfl⟩) (ai ?_)
 ·exact tc (aH (aK (ac rfl) ak rfl) (aK (ac rfl) (ac rfl) (bf hr (dl hi))) (congrArg some (cj w.1 _))) fun _=>aH (aK (ac rfl) ak rfl) (aK (ac rfl) (el _) (bf hr (dl hi2))) (congrArg some (cj w.2.1 _))
 ·rw [List.length_map]; exact Nat.le_trans (List.length_filter_le _ _) (Nat.le_trans hz (by decide))
theorem mR {call:Nat→List V→Sto→RE}{is:List Nat}{b:Bool} (h:σ[i]?=some (.lst (is.map fun (d:Nat)=>V.int d))) (hb:is.isEmpty=b):evE call (E.cmp .Eq (E.loc 5) (E.list [])) (oi lw lr m x3 x4 (some (.ref i)) x6) σ=.ok (.bool b) (σ ++ [.lst []]) :=
 aH (ac rfl) (bc ae (ai (by decide:0 ≤ 16777216))) ((uw (ap h) aj).trans (congrArg some hb))
theorem kJ {call:Nat→List V→Sto→RE} (hr:σ[lr]?=some (.lst (natsV r))) (hlw:σ[lw]?=some (.lst (ws.map bk))) (hz:ws.length ≤ 60) (hi:i < r.length) (hw:aG ws (r.getD i 0) (r.getD ((i + 1) % r.length) 0) ≠ []) {z:Option V × Option V × Sto} :
  fU [4] true (evSs call wf pz) (.int i) (oi lw lr m (some (.int (rtot ws r i:Nat))) z.1 z.2.1 none) (σ ++ z.2.2) (fun z:Option V × Option V × Sto=>oi lw lr m (some (.int (rtot ws r (i + 1):Nat))) z.1 z.2.1 none) (fun z=>σ ++ z.2.2) (fun _=>True):=by
 refine ⟨_,rfl,(some (.int i),some (.ref (σ ++ z.2.2).length),z.2.2 ++ [.lst ((aG ws (r.getD i 0) (r.getD ((i + 1) % r.length) 0)).map fun (d:Nat)=>V.int d)] ++ [.lst []]),?_,trivial⟩
 rw [← List.append_assoc,← List.append_assoc]
 exact am (m9 (ap hr) (ap hlw) hz hi) (by decide:5 < 12) (aM (mR aj (List.isEmpty_eq_false_iff.mpr hw)) (am (ax (ac rfl) (aR (aa (ac rfl) ae) (w2 (ap aj) (mK hw))) rfl) (by decide:3 < 12) aS))
theorem qJ {call:Nat→List V→Sto→RE} (hr:σ[lr]?=some (.lst (natsV r))) (hlw:σ[lw]?=some (.lst (ws.map bk))) (hz:ws.length ≤ 60) (hi:i < r.length) (hw:aG ws (r.getD i 0) (r.getD ((i + 1) % r.length) 0)=[]) {τ:Sto} :
  yU [4] true (evSs call wf pz) (.int i) (oi lw lr m x3 x4 x5 none) (σ ++ τ) (fun R=>∃ fr τ,R=.ok (.ret (.str "ring")) fr (σ ++ τ)):=by
 refine ⟨_,rfl,_,am (m9 (x6:=none) (ap hr) (ap hlw) hz hi) (by decide:5 < 12) (cp (mR aj (List.isEmpty_iff.mpr hw)) (aI tn)),fun _=>rfl,oi lw lr m x3 (some (.int i)) (some (.ref (σ ++ τ).length)) none,τ ++ [.lst ((aG ws (r.getD i 0) (r.getD ((i + 1) % r.length) 0)).map fun (d:Nat)=>V.int d)] ++ [.lst []],?_⟩
 rw [← List.append_assoc,← List.append_assoc]; rfl
theorem re {L:List Int} (h:σ[l]?=some (.lst (L.map V.int))) (hz:L.length ≤ 1000):gQ .setLen [.ref l] σ=.ok (.int (eE L).length) σ:=by
 show (match (getL σ l).bind aB with | some is=>if is.length ≤ 1000 then RE.ok (.int (eE is).length) σ else .bad | none=>.bad)=_
 rw [af h]
 show (match aB (L.map V.int) with | some is=>if is.length ≤ 1000 then RE.ok (.int (eE is).length) σ else .bad | none=>.bad)=_
 rw [eB]
 exact if_pos hz
theorem pD {call:Nat→List V→Sto→RE}{L:List Int} (hl:σ[lr]?=some (.lst (L.map V.int))) (hz:L.length ≤ 13) :
  evE call (E.cmp .NotEq vm (E.list [])) (oi lw lr m none none none none) σ=.ok (.bool (!(L.filter fun x=>!(decide (0 ≤ x) && decide (x < (m:Int)))).isEmpty)) (σ ++ [.lst ((L.filter fun x=>!(decide (0 ≤ x) && decide (x < (m:Int)))).map V.int)] ++ [.lst []]) :=
 aH (d4 (ws:=L) (g:=V.int) (p:=fun x=>!(decide (0 ≤ x) && decide (x < (m:Int)))) (f:=V.int) (ac rfl) (af hl) (fun x hx=>⟨_,rfl,kC (wO (uY ak (ac rfl) rfl (fun _=>ac rfl) fun _=>rfl)),fun _=>ac rfl⟩) (ai (by
  rw [List.length_map]; exact Nat.le_trans (List.length_filter_le _ _) (Nat.le_trans hz (by decide))))) (bc ae (ai (by decide:0 ≤ 16777216))) (yD (ap aj) aj)
noncomputable def qU (r:List Nat):List Int:=r.map fun (d:Nat)=>(d:Int)
theorem l3 (hr:σ[lr]?=some (.lst (natsV r))):σ[lr]?=some (.lst ((qU r).map V.int)):=hr.trans (congrArg (fun l=>some (AO.lst l)) ii)
theorem eX:(qU r).length=r.length:=List.length_map _
noncomputable def sY (r:List Nat):Bool:=r.isEmpty || decide ((eE (qU r)).length < r.length)
theorem lP {call:Nat→List V→Sto→RE} (hr:σ[lr]?=some (.lst (natsV r))) (hz:r.length ≤ 13) :
  evE call ((E.cmp .Eq (E.loc 1) (E.list [])).or (E.cmp .Lt (E.blt .setLen [E.loc 1]) (E.blt .len [E.loc 1]))) (oi lw lr m none none none none) σ=.ok (.bool (sY r)) (σ ++ [.lst []]):=by
 have e1:evE call (E.cmp .Eq (E.loc 1) (E.list [])) (oi lw lr m none none none none) σ=.ok (.bool r.isEmpty) (σ ++ [.lst []]):=aH (ac rfl) (bc ae (ai (by decide:0 ≤ 16777216))) (uw (ap hr) aj)
 unfold sY
 cases q:r.isEmpty with
 | true=>rw [q] at e1; exact um e1
 | false =>
  rw [q] at e1
  refine iu e1 (aH (aR (aa (ac rfl) ae) (re (L:=qU r) (l3 (ap hr)) (by rw [eX]; lia))) (aR (aa (ac rfl) ae) (bH (ap hr))) ?_)
  rw [av]
  exact congrArg some (decide_eq_decide.mpr Int.ofNat_lt)
theorem jv {call:Nat→List V→Sto→RE} (hr:σ[lr]?=some (.lst (natsV r))) (lt:∀ v ∈ r,v < m) (hz:r.length ≤ 13):∃ τ,evE call (E.cmp .NotEq vm (E.list [])) (oi lw lr m none none none none) σ=.ok (.bool false) (σ ++ τ):=by
 have h:=pD (call:=call) (lw:=lw) (m:=m) (L:=qU r) (l3 hr) (by rw [eX]; exact hz)
 rw [show (qU r).filter (fun x=>!(decide (0 ≤ x) && decide (x < (m:Int))))=[] from List.filter_eq_nil_iff.mpr fun x hx=>by
  obtain ⟨v,hv,rfl⟩:=List.mem_map.mp hx
  have:=lt v hv
  rw [decide_eq_true (Int.natCast_nonneg v),decide_eq_true (Int.ofNat_lt.mpr this)]; decide,List.append_assoc] at h
 exact ⟨_,h⟩
theorem oV (h27:P 27=some lC) {L:List Int} (hl:σ[lr]?=some (.lst (L.map V.int))) (hz:L.length ≤ 13) {x:Int} (hx:x ∈ L) (hb:x < 0 ∨ (m:Int) ≤ x):∃ τ,evFn P wf (n + 1) 27 [.ref lw,.ref lr,.int m] σ=.ok (.str "meeting") (σ ++ τ):=by
 have h:=pD (call:=evFn P wf n) (lw:=lw) (m:=m) hl hz
 rw [show (L.filter fun x=>!(decide (0 ≤ x) && decide (x < (m:Int)))).isEmpty=false from List.isEmpty_eq_false_iff_exists_mem.mpr ⟨x,List.mem_filter.mpr ⟨hx,by
  rw [Bool.not_eq_true',Bool.and_eq_false_iff,decide_eq_false_iff_not,decide_eq_false_iff_not]; lia⟩⟩,List.append_assoc] at h
 exact ⟨_,bj h27 rfl (cp h (aI tn))⟩
theorem t6 (h27:P 27=some lC) (hr:σ[lr]?=some (.lst (natsV r))) (lt:∀ v ∈ r,v < m) (hz:r.length ≤ 13) (hd:sY r=true):∃ τ,evFn P wf (n + 1) 27 [.ref lw,.ref lr,.int m] σ=.ok (.str "ring") (σ ++ τ):=by
 obtain ⟨τ,e⟩:=jv (call:=evFn P wf n) (lw:=lw) hr lt hz
 have h:=lP (call:=evFn P wf n) (lw:=lw) (m:=m) (ap (τ:=τ) hr) hz
 rw [hd,List.append_assoc] at h
 exact ⟨_,bj h27 rfl (aM e (cp h (aI tn)))⟩
theorem sV (h27:P 27=some lC) (hr:σ[lr]?=some (.lst (natsV r))) (hlw:σ[lw]?=some (.lst (ws.map bk))) (hzw:ws.length ≤ 60) (lt:∀ v ∈ r,v < m) (hz:r.length ≤ 13) (hd:sY r=false) {k:Nat} (hk:k < r.length) (way:∀ i,i < k→aG ws (r.getD i 0) (r.getD ((i + 1) % r.length) 0) ≠ []) (gap:aG ws (r.getD k 0) (r.getD ((k + 1) % r.length) 0)=[]) :
  ∃ τ,evFn P wf (n + 1) 27 [.ref lw,.ref lr,.int m] σ=.ok (.str "ring") (σ ++ τ):=by
 obtain ⟨τ,e⟩:=jv (call:=evFn P wf n) (lw:=lw) hr lt hz
 have h:=lP (call:=evFn P wf n) (lw:=lw) (m:=m) (ap (τ:=τ) hr) hz
 rw [hd,List.append_assoc] at h
 obtain ⟨fr,τ',e2⟩:=qW (call:=evFn P wf n) (wf:=wf) (tg:=[4]) (one:=true) (ws:=List.range r.length) (g:=fun (v:Nat)=>V.int v) (it:=E.blt .range [E.blt .len [E.loc 1]]) (bs:=pz) (src:=.rng 0 r.length)
  (F:=fun i (x:Option V × Option V × Sto)=>oi lw lr m (some (.int (rtot ws r i:Nat))) x.1 x.2.1 none) (St:=fun _ x=>σ ++ x.2.2) (J:=fun _ _=>True) (σ:=σ ++ (τ ++ [.lst []])) (none,none,τ ++ [.lst []]) (List.getElem?_range hk)
  (aR (aa (aR (aa (ac rfl) ae) (bH (ap hr))) ae) (by rw [av]; exact bh (by lia))) rfl (wg (bo _)) (fun i _ _=>oY (bo _) i)
  (fun i v x hi hv _=>by
   obtain ⟨hi',hvi⟩:=bg hv
   subst hvi
   exact kJ hr hlw hzw hi' (way i hi)) (fun x _=>qJ hr hlw hzw hk gap) trivial
 exact ⟨_,bj h27 rfl (aM e (aM h (am ak (by decide:3 < 12) (gI e2))))⟩
theorem qu (h27:P 27=some lC) (h29:P 29=some di) (hr:σ[lr]?=some (.lst (natsV r))) (hlw:σ[lw]?=some (.lst (ws.map bk))) (hzw:ws.length ≤ 60) (lt:∀ v ∈ r,v < m) (hz:r.length ≤ 13) (hd:sY r=false) (way:∀ i,i < r.length→aG ws (r.getD i 0) (r.getD ((i + 1) % r.length) 0) ≠ []) (hpos:1 ≤ r.length) (hw:r.length < wf) :
  ∃ τ,evFn P wf (n + 2) 27 [.ref lw,.ref lr,.int m] σ=.ok (.tup [.int (rtot ws r r.length / Nat.gcd (rtot ws r r.length) r.length:Nat),.int (r.length / Nat.gcd (rtot ws r r.length) r.length:Nat)]) (σ ++ τ):=by
 obtain ⟨τ,e⟩:=jv (call:=evFn P wf (n + 1)) (lw:=lw) hr lt hz
 have h:=lP (call:=evFn P wf (n + 1)) (lw:=lw) (m:=m) (ap (τ:=τ) hr) hz
 rw [hd,List.append_assoc] at h
 obtain ⟨x,e2,_⟩:=lG (call:=evFn P wf (n + 1)) (wf:=wf) (tg:=[4]) (one:=true) (ws:=List.range r.length) (g:=fun (v:Nat)=>V.int v) (it:=E.blt .range [E.blt .len [E.loc 1]]) (bs:=pz)
  (F:=fun i (x:Option V × Option V × Sto)=>oi lw lr m (some (.int (rtot ws r i:Nat))) x.1 x.2.1 none) (S:=fun _ x=>σ ++ x.2.2) (J:=fun _ _=>True) (σ:=σ ++ (τ ++ [.lst []])) (none,none,τ ++ [.lst []])
  (aR (aa (aR (aa (ac rfl) ae) (bH (ap hr))) ae) (by rw [av]; exact bh (by lia))) (bo _)
  (fun i v x hv _=>by
   obtain ⟨hi',hvi⟩:=bg hv
   subst hvi
   exact kJ hr hlw hzw hi' (way i hi')) trivial
 rw [List.length_range] at e2
 have hg:Nat.gcd (rtot ws r r.length) r.length ≠ 0:=Nat.ne_of_gt (Nat.gcd_pos_of_pos_right _ hpos)
 have hgb:Nat.gcd (rtot ws r r.length) r.length < 10 ^ 100:=Nat.lt_of_le_of_lt (Nat.gcd_le_right _ hpos) (Nat.lt_of_le_of_lt hz (by decide))
 have el:∀ {x3 x4 x5 x6:Option V} {τ:Sto},evE (evFn P wf (n + 1)) (E.blt .len [E.loc 1]) (oi lw lr m x3 x4 x5 x6) (σ ++ τ)=.ok (.int r.length) (σ ++ τ):=fun {x3 x4 x5 x6 τ}=>aR (aa (ac rfl) ae) (by rw [← av]; exact bH (ap hr))
 exact ⟨x.2.2,bj h27 rfl (aM e (aM h (am ak (by decide:3 < 12) (aT e2 (am (aE (aa (ac rfl) (aa el ae)) (i7 h29 hw)) (by decide:6 < 12) (aI (iz (aa (ax (ac rfl) (ac rfl) (kh hg hgb)) (aa (ax el (ac rfl) (kh hg hgb)) ae)) (by decide:2 ≤ 1000))))))))⟩
theorem rk (H:Defs1 P) (W:a9 σ l m ws) {L:List Int} (hl:σ[lr]?=some (.lst (L.map V.int))) {k:Nat}{x:Int} (hk:L[k]?=some x) (hb:x < 0 ∨ (m:Int) ≤ x) (pre:∀ i y,i < k→L[i]?=some y→0 ≤ y ∧ y < m):evFn P wf (n + 4) 2 [.ref l,.ref lr] σ=.ex (xc 1) σ:=by
 obtain ⟨d,lw,a,b,c⟩:=W.at'
 obtain ⟨fr,e⟩:=qW (call:=evFn P wf (n + 3)) (wf:=wf) (tg:=[2]) (one:=true) (ws:=L) (g:=V.int) (it:=E.loc 1) (bs:=[S.expr ((E.loc 0).umeth 12 [E.loc 2])]) (σ:=σ) (src:=.live lr) (Q:=fun R=>∃ fr,R=.ex (xc 1) fr σ)
  (F:=fun _ (x2:Option V)=>iy l lr x2 none none none) (St:=fun _ _=>σ) (J:=fun _ _=>True) none hk (ac rfl) rfl (pN (af hl)) (fun i _ _=>lM (af hl) i)
  (fun i y x2 hi hy _=>by
   obtain ⟨v,rfl⟩:=Int.eq_ofNat_of_zero_le (pre i y hi hy).1
   exact ⟨_,rfl,_,be (bB (ac rfl) a b (aa (ac rfl) ae) (jC H.h8 H.h12 W (Int.ofNat_lt.mp (pre i _ hi hy).2))) aS,trivial⟩)
  (fun x2 _=>⟨_,rfl,_,qD rfl (bB (ac rfl) a b (aa (ac rfl) ae) (v5 H.h8 H.h12 W hb)),fun _=>rfl,_,rfl⟩) trivial
 exact y6 H.h2 rfl (xW e)
theorem kM {call:Nat→List V→Sto→RE}{x2:Option V} (hr:σ[lr]?=some (.lst (natsV r))) (hz:r.length ≤ 13) :
  evE call ((E.cmp .Eq (E.blt .len [E.loc 1]) (E.int 0)).or (E.cmp .Lt (E.blt .setLen [E.loc 1]) (E.blt .len [E.loc 1]))) (iy l lr x2 none none none) σ=.ok (.bool (sY r)) σ:=by
 refine AI (aH (aR (aa (ac rfl) ae) (bH hr)) ak ?_) fun _=>aH (aR (aa (ac rfl) ae) (re (L:=qU r) (l3 hr) (by rw [eX]; lia))) (aR (aa (ac rfl) ae) (bH hr)) ?_
 ·rw [av]; refine congrArg some ((cj r.length 0).trans ?_); cases r <;> rfl
 ·rw [av]; exact congrArg some (decide_eq_decide.mpr Int.ofNat_lt)
theorem t0 (H:Defs1 P) (W:a9 σ l m ws) (hr:σ[lr]?=some (.lst (natsV r))) (lt:∀ v ∈ r,v < m) (hz:r.length ≤ 13) (hd:sY r=true):evFn P wf (n + 4) 2 [.ref l,.ref lr] σ=.ex (xc 4) σ:=by
 obtain ⟨x2,e1⟩:=jd (wf:=wf) (n:=n) H W hr lt
 have h:=kM (call:=evFn P wf (n + 3)) (l:=l) (x2:=x2) hr hz
 rw [hd] at h
 exact y6 H.h2 rfl (aT e1 (lV h lI))
theorem sU (H:Defs1 P) (W:a9 σ l m ws) (hzw:ws.length ≤ 60) (hr:σ[lr]?=some (.lst (natsV r))) (lt:∀ v ∈ r,v < m) (hz:r.length ≤ 13) (hd:sY r=false) {k:Nat} (hk:k < r.length) (way:∀ i,i < k→aG ws (r.getD i 0) (r.getD ((i + 1) % r.length) 0) ≠ []) (gap:aG ws (r.getD k 0) (r.getD ((k + 1) % r.length) 0)=[]) :
  ∃ τ,evFn P wf (n + 4) 2 [.ref l,.ref lr] σ=.ex (xc 4) (σ ++ τ):=by
 obtain ⟨x2,e1⟩:=jd (wf:=wf) (n:=n) H W hr lt
 have h:=kM (call:=evFn P wf (n + 3)) (l:=l) (x2:=x2) hr hz
 rw [hd] at h
 obtain ⟨fr,τ,e2⟩:=qW (call:=evFn P wf (n + 3)) (wf:=wf) (tg:=[4]) (one:=true) (ws:=List.range r.length) (g:=fun (v:Nat)=>V.int v) (it:=E.blt .range [E.blt .len [E.loc 1]]) (bs:=sL) (src:=.rng 0 r.length) (Q:=fun R=>∃ fr τ,R=.ex (xc 4) fr (σ ++ τ))
  (F:=fun i (x:Option V × Option V × Sto)=>iy l lr x2 (some (.int (rtot ws r i:Nat))) x.1 x.2.1) (St:=fun _ x=>σ ++ x.2.2) (J:=fun _ _=>True) (σ:=σ ++ []) (none,none,[]) (List.getElem?_range hk)
  (aR (aa (aR (aa (ac rfl) ae) (bH (ap hr))) ae) (by rw [av]; exact bh (by lia))) rfl (wg (bo _)) (fun i _ _=>oY (bo _) i)
  (fun i v x hi hv _=>by
   obtain ⟨hi',hvi⟩:=bg hv
   subst hvi
   exact kK H W hzw hr lt hi' (way i hi))
  (fun x _=>by
   have hd:=iP (P:=P) (wf:=wf) (n:=n) (σ:=σ ++ x.2.2) (x2:=x2) (x3:=some (.int (rtot ws r k:Nat))) (x5:=x.2.1) H W.app hzw (ap hr) lt hk
   rw [gap,List.append_assoc] at hd
   exact ⟨_,rfl,_,am hd (by decide:5 < 11) (lV (aH (ac rfl) dD rfl) lI),fun _=>rfl,_,_,rfl⟩) trivial
 rw [List.append_nil] at e2
 exact ⟨τ,y6 H.h2 rfl (aT e1 (aM h (am ak (by decide:3 < 11) (xW e2))))⟩
theorem xB {call:Nat→List V→Sto→RE}{fr:Fra}{a:E} {σ σ1:Sto}{s x:Str}{l:Nat} (h:evE call a fr σ=.ok (.ref l) σ1) (hl:getL σ1 l=some [.str x]):evE call (.join s a) fr σ=.ok (.str x) σ1:=by
 show (evE call a fr σ).bind _=_; rw [h]
 show (match getL σ1 l with | some xs=>vv xs σ1 | none=>.bad)=_
 rw [hl]; rfl
theorem rX {call:Nat→List V→Sto→RE}{fr:Fra}{a:E}{ss:List S}{x:Nat} {σ1:Sto} (hc:aN a=true) (h:evE call a fr σ=.ex x σ1):evSs call wf (.ret a :: ss) fr σ=.ex x fr σ1:=xW (by
 show (evE call a fr σ).bindX (aN a) fr _=_; rw [h,hc]; rfl)
theorem yL (h28:T 28=some gG) {v:V} {σ1:Sto} (e:evFn P wf n 2 [.ref l,.ref lr] σ=.ok v σ1):cq P T wf n 28 [.ref l,.ref lr] σ=.ok v σ1 :=
 kX (fr:=[some (.ref l),some (.ref lr),none,none,none,none]) h28 rfl (by
  show evT _ _ wf (.tryS _ _ _ _ :: []) _ σ=_
  rw [u0,show evSs (evFn P wf n) wf [S.ret (E.call 2 [E.loc 0,E.loc 1])] (aW gG [.ref l,.ref lr]) σ=.ok (.ret v) [some (.ref l),some (.ref lr),none,none,none,none] σ1 from aI (aE (aa (ac rfl) (aa (ac rfl) ae)) e)])
theorem ro (h28:T 28=some gG) (h39:P 39=some j5) {k:Nat}{s:Str} (hin:xcs.contains (xc k)=true) (hf:(bu.filter fun p=>xc k == xc p.2 && true).map (fun p=>V.str p.1)=[.str s]) (hs:PyData.strOk s=true) {τ:Sto} (e:evFn P wf (n + 1) 2 [.ref l,.ref lr] σ=.ex (xc k) (σ ++ τ)):∃ τ,cq P T wf (n + 1) 28 [.ref l,.ref lr] σ=.ok (.str s) (σ ++ τ):=by
 obtain ⟨lw,τ',e',hl⟩:=tG (wf:=wf) (n:=n) (σ:=σ ++ τ) h39 hin hf hs
 rw [List.append_assoc] at e' hl
 exact ⟨_,kX h28 rfl (tj (rX rfl (aE (aa (ac rfl) (aa (ac rfl) ae)) e)) hin (by decide:2 < 6) (aI (xB (aE (aa (ac rfl) ae) e') (af hl))))⟩
inductive Ans:V→Prop
 | str (s:Str) (h:PyData.strOk s=true) (hq:PyData.eqv (.str s) (.str s)=true):Ans (.str s)
 | tup (x y:Nat):Ans (.tup [.int x,.int y])
structure Ask (P T:Nat→Option Fn) (wf n m:Nat) (ws:List Way) (L:List Int) (v:V):Prop where
 good:Ans v
 due:∀ {σ:Sto}{lw lr:Nat},σ[lw]?=some (.lst (ws.map bk))→σ[lr]?=some (.lst (L.map V.int))→∃ τ,evFn P wf (n + 6) 27 [.ref lw,.ref lr,.int m] σ=.ok v (σ ++ τ)
 told:∀ {σ:Sto}{l lr:Nat},a9 σ l m ws→σ[lr]?=some (.lst (L.map V.int))→∃ τ,cq P T wf (n + 6) 28 [.ref l,.ref lr] σ=.ok v (σ ++ τ)
theorem pH (p:Nat→Prop):∀ N,(∀ i,i < N→p i) ∨ ∃ k,k < N ∧ ¬ p k ∧ ∀ i,i < k→p i
 | 0=>.inl fun i hi=>absurd hi (Nat.not_lt_zero _)
 | N + 1=>(pH p N).elim (fun h=>(Classical.em (p N)).elim (fun q=>.inl fun i hi=>(Nat.lt_succ_iff_lt_or_eq.mp hi).elim (h i) fun e=>e ▸ q) fun q=>.inr ⟨N,Nat.lt_succ_self _,q,h⟩) fun ⟨k,h1,h2⟩=>.inr ⟨k,Nat.lt_succ_of_lt h1,h2⟩
theorem A7 (h27:P 27=some lC) (h29:P 29=some di) (h28:T 28=some gG) (h39:P 39=some j5) (H:Defs1 P) (hzw:ws.length ≤ 60) (hw:14 ≤ wf) (L:List Int) (hz:L.length ≤ 13):∃ v,Ask P T wf n m ws L v:=by
 rcases pH (fun i=>∀ y,L[i]?=some y→0 ≤ y ∧ y < (m:Int)) L.length with h | ⟨k,hk,hb,pre⟩
 ·obtain ⟨r,hr,lt⟩:∃ r:List Nat,L=qU r ∧ ∀ v ∈ r,v < m:=by
   refine ⟨L.map Int.toNat,?_,fun v hv=>?_⟩
   ·refine List.ext_getElem? fun i=>?_
    unfold qU
    rw [List.map_map,List.getElem?_map]
    cases q:L[i]? with
    | none=>rfl
    | some y=>exact congrArg some (Int.toNat_of_nonneg (h i (List.getElem?_eq_some_iff.mp q).1 y q).1).symm
   ·obtain ⟨y,hy,rfl⟩:=List.mem_map.mp hv
    obtain ⟨i,hi,q⟩:=List.mem_iff_getElem.mp hy
    have:=h i hi y (by rw [List.getElem?_eq_getElem hi,q])
    lia
  subst hr
  rw [eX] at hz
  have un:∀ {σ:Sto}{lr:Nat},σ[lr]?=some (.lst ((qU r).map V.int))→σ[lr]?=some (.lst (natsV r)):=fun h=>h.trans (congrArg (fun l=>some (AO.lst l)) ii.symm)
  cases hd:sY r with
  | true =>
   exact ⟨.str "ring",.str _ (by decide +kernel) (by decide +kernel),fun _ h=>t6 h27 (un h) lt hz hd,fun W h=>ro (τ:=[]) (k:=4) h28 h39 rfl rfl (by decide +kernel) ((t0 (n:=n + 2) H W (un h) lt hz hd).trans (by rw [List.append_nil]))⟩
  | false =>
   have hpos:1 ≤ r.length:=by
    cases r with
    | nil=>exact absurd hd (by decide)
    | cons=>exact Nat.succ_le_succ (Nat.zero_le _)
   rcases pH (fun i=>aG ws (r.getD i 0) (r.getD ((i + 1) % r.length) 0) ≠ []) r.length with way | ⟨k,hk,gap,way⟩
   ·have hdd:r.length ≤ (eE (qU r)).length:=Nat.not_lt.mp (of_decide_eq_false (Bool.or_eq_false_iff.mp hd).2)
    exact ⟨_,.tup _ _,fun hlw h=>qu (n:=n + 4) h27 h29 (un h) hlw hzw lt hz hd way hpos (by lia),fun W h=>let ⟨τ,e⟩:=mT (n:=n + 2) H W hzw (un h) lt (List.length_pos_iff.mp hpos) way (re h (by rw [eX]; lia)) hdd hz (by lia); ⟨τ,yL h28 e⟩⟩
   ·have gap:=Classical.not_not.mp gap
    exact ⟨.str "ring",.str _ (by decide +kernel) (by decide +kernel),fun hlw h=>sV h27 (un h) hlw hzw lt hz hd hk way gap,fun W h=>let ⟨τ,e⟩:=sU (n:=n + 2) H W hzw (un h) lt hz hd hk way gap; ro (k:=4) h28 h39 rfl rfl (by decide +kernel) e⟩
 ·obtain ⟨x,hx⟩:∃ x,L[k]?=some x:=⟨_,List.getElem?_eq_getElem hk⟩
  have hb:x < 0 ∨ (m:Int) ≤ x:=Classical.byContradiction fun q=>hb fun y hy=>by
   cases Option.some.inj (hx.symm.trans hy); lia
  exact ⟨.str "meeting",.str _ (by decide +kernel) (by decide +kernel),fun _ h=>oV h27 h hz (List.mem_of_getElem? hx) hb,fun W h=>ro (τ:=[]) (k:=1) h28 h39 rfl rfl (by decide +kernel) ((rk (n:=n + 2) H W h hx hb fun i y hi hy=>pre i hi y hy).trans (by rw [List.append_nil]))⟩
end
end Mine
namespace Mine
set_option backward.match.sparseCases false
open PySem
section
variable {call:Nat→List V→Sto→RE}{wf:Nat} {σ:Sto}{tg:List Nat}{one:Bool}{it:E}{bs:List S}{vs:List V} {β:Type}{F:Nat→β→Fra}{St:Nat→β→Sto}{J:Nat→β→Prop}
theorem vA {l:Nat} (h:getL σ l=some vs) (i:Nat):a8 σ i (.enum l)=some ((List.range vs.length)[i]?.map fun j=>V.tup [.int (j:Nat),vs.getD j .none]):=by
 show (getL σ l).map _=_
 rw [h]
 refine congrArg some ?_
 show vs[i]?.map (fun v=>V.tup [.int (i:Nat),v])=_
 by_cases hi:i < vs.length
 ·rw [List.getElem?_range hi,List.getElem?_eq_getElem hi]
  show _=some (V.tup [.int (i:Nat),vs.getD i .none])
  rw [List.getD_eq_getElem?_getD,List.getElem?_eq_getElem hi]; rfl
 ·rw [List.getElem?_eq_none_iff.mpr (Nat.not_lt.mp hi),List.getElem?_eq_none_iff.mpr (by rw [List.length_range]; exact Nat.not_lt.mp hi)]; rfl
theorem Aa {l:Nat} (b0:β) (h:evE call it (F 0 b0) σ=.ok (.ref l) (St 0 b0)) (hl:∀ i b,J i b→getL (St i b) l=some vs) (step:∀ i b,i < vs.length→J i b→fU tg one (evSs call wf bs) (.tup [.int (i:Nat),vs.getD i .none]) (F i b) (St i b) (F (i + 1)) (St (i + 1)) (J (i + 1))) (h0:J 0 b0) :
  vg (evS call wf (.forS tg one (.enum it) bs) (F 0 b0) σ) (F vs.length) (St vs.length) (J vs.length):=by
 have e:evS call wf (.forS tg one (.enum it) bs) (F 0 b0) σ=nN (kS tg one (evSs call wf bs) (.enum l) (vs.length + 1) 0 (F 0 b0) (St 0 b0)):=by
  show nN ((evE call it (F 0 b0) σ).bindS (F 0 b0) _)=_; rw [h]
  show nN (jY (nV (St 0 b0) (.enum l)) _ _)=_
  rw [show nV (St 0 b0) (.enum l)=some vs.length from congrArg (Option.map List.length) (hl 0 b0 h0)]; rfl
 rw [e]
 have k:=mP (ws:=List.range vs.length) (g:=fun j=>V.tup [.int (j:Nat),vs.getD j .none]) (tg:=tg) (one:=one) (body:=evSs call wf bs) (src:=.enum l) (fun i=>InF (F i) (St i) (J i)) (fun _ _=>False) (fun i _ _ ⟨b,j⟩=>vA (hl i b j) i)
  (fun i a _ _ ha ⟨b,j⟩=>by
   obtain ⟨hi,hia⟩:=bg ha
   subst hia
   exact (step i b hi j).to) (vs.length + 1) 0 (F 0 b0) (St 0 b0) (by rw [List.length_range]; lia) (Nat.zero_le _) ⟨b0,h0⟩
 rw [List.length_range] at k
 obtain ⟨b,e,j⟩:=vg.of k
 exact ⟨b,dc e,j⟩
end
noncomputable def ng:List S :=
 [S.expr (E.call 19 [E.loc 4,E.bin .Mult (E.list [E.loc 7]) (E.loc 1),E.call 20 [E.loc 0,E.bin .Add (E.int 30) (E.loc 7)]]),
  S.asg 9 (E.call 27 [E.loc 2,E.loc 8,E.loc 1]),S.expr ((E.loc 6).meth .clear []),S.expr ((E.loc 6).meth .extend [E.loc 8]),S.asg 10 (E.tcall 28 [E.loc 4,E.loc 6]),
  S.ifS ((E.loc 9).isi Ty.tuple) [S.ifS (((E.loc 10).isi Ty.tuple).not.or (E.blt .all [E.comp [1] true (E.loc 10) [] (E.call 21 [E.loc 1]) [none,none,none]]).not) [S.ret (E.bool false)] []] [],
  S.ifS ((E.cmp .NotEq (E.loc 10) (E.loc 9)).or (E.cmp .NotEq (E.loc 6) (E.loc 8))) [S.ret (E.bool false)] []]
noncomputable def mu:E:=E.list [E.loc 3,E.blt .revl [E.loc 3],E.loc 5,E.loc 3]
noncomputable def qY:Fn:={ ps:=[0],size:=25,body :=
 [S.asg 1 (E.call 24 [E.loc 0]),S.asg 2 (E.call 25 [E.loc 0,E.loc 1]),S.asg 3 (E.call 26 [E.loc 0,E.loc 2,E.loc 1]),S.asg 4 (E.mk 11 [E.loc 1,E.blt .list [E.loc 2]]),
  S.asg 5 (E.list [E.bin .Mod (E.call 20 [E.loc 0,E.int 18]) (E.loc 1)]),S.asg 6 (E.list []),
  S.forS [7,8] false (It.enum mu) ng,S.ret (E.bool true)] }
noncomputable def i4 (m lw p l lo lh:Nat) (x7 x8 x9 x10:Option V):Fra:=[some (.ref 0),some (.int m),some (.ref lw),some (.ref p),some (.ref l),some (.ref lo),some (.ref lh),x7,x8,x9,x10,none,none,none,none,none,none,none,none,none,none,none,none,none,none]
structure lj (P T:Nat→Option Fn):Prop where
 HL:jE P 10000
 h21:P 21=some oE
 h26:P 26=some wy
 h27:P 27=some lC
 h29:P 29=some di
 h39:P 39=some j5
 hT:∀ k,k < 28→T k=none
 h28:T 28=some gG
section
variable {P T:Nat→Option Fn}{wf n:Nat} {σ:Sto}{m lw p l lo i q:Nat}{ws:List Way}{sc:List Int}{x7 x8 x9 x10:Option V}
theorem lj.fn (A:lj P T) {k N:Nat} (h:k < 28) {vs:List V}{r:RE} (e:evFn P wf N k vs σ=r):cq P T wf N k vs σ=r:=(sH (A.hT k h)).trans e
theorem w7 (A:lj P T) (Z:wi P wf m ws) (hs:aC σ sc) (W:a9 σ l m ws) {fr:Fra} (h0:fr[0]?=some (some (.ref 0))) (h1:fr[1]?=some (some (.int m))) (h4:fr[4]?=some (some (.ref l))) (h7:fr[7]?=some (some (.int i))) :
  ∃ τ,evE (cq P T wf (n + 6)) (E.call 19 [E.loc 4,E.bin .Mult (E.list [E.loc 7]) (E.loc 1),E.call 20 [E.loc 0,E.bin .Add (E.int 30) (E.loc 7)]]) fr σ=.ok (.bool true) (σ ++ τ):=by
 obtain ⟨τ,h⟩:=nK (n:=n) (cell:=sc.getD (30 + i) 0) Z.h19 (σ:=σ ++ [.lst [.int i]] ++ [.lst (intsV m fun _=>i)]) (lt:=(σ ++ [AO.lst [.int i]]).length) (x:=fun _=>i) ⟨Z.T,Z.h18,Z.H,Z.HW,Z.h14,W.app.app,Z.G,aj,Z.hw⟩
 refine ⟨[.lst [.int i]] ++ [.lst (intsV m fun _=>i)] ++ τ,?_⟩
 rw [← List.append_assoc,← List.append_assoc]
 exact aE (aa (ac h4) (aa (xX Z.G.m2 (ac h7) (ac h1)) (aa (aE (aa (ac h0) (aa (ax ak (ac h7) (rfl:_=RE.ok (.int ((30 + i:Nat):Int)) _)) ae)) (A.fn (by decide) (cY (n:=n + 5) A.HL.h20 (ap (ap hs)) (30 + i)))) ae))) (A.fn (by decide) h)
theorem wI {v:V} (h:Ans v):gP .NotEq v v σ=some false:=by
 cases h with
 | str s h hq =>
  show (eqV σ (.str s) (.str s)).map (!·)=_
  have:toD 5 σ (.str s)=some (.str s):=if_pos h
  unfold eqV; rw [this]
  exact congrArg (fun b=>some (!b)) hq
 | tup x y =>
  show (eqV σ (.tup [.int x,.int y]) (.tup [.int x,.int y])).map (!·)=_
  have:toD 5 σ (.tup [.int x,.int y])=some (.tuple ([(x:Int),(y:Int)].map PyData.int)):=rfl
  unfold eqV; rw [this]
  exact congrArg (fun b=>some (!b)) (ru (g:=PyData.int) (fun a=>beq_self_eq_true a) [(x:Int),(y:Int)])
theorem sO {a b:Nat}{L:List Int} (h:σ[a]?=some (.lst (L.map V.int))) (h':σ[b]?=some (.lst (L.map V.int))):gP .NotEq (.ref a) (.ref b) σ=some false:=by
 have hd:aP (toD 4 σ) (L.map V.int)=some (L.map PyData.int):=cu fun _ _=>rfl
 show (eqV σ _ _).map (!·)=_
 rw [sX h h' hd hd (ru (fun a=>beq_self_eq_true a) L)]; rfl
theorem wX (A:lj P T) {v:V} (h:Ans v) {fr:Fra} (h9:fr[9]?=some (some v)) (h10:fr[10]?=some (some v)) (hf:dU fr [none,none,none]=[none,none,none]) :
  ∃ τ,∀ ss R,evSs (cq P T wf (n + 1)) wf ss fr (σ ++ τ)=R→evSs (cq P T wf (n + 1)) wf (S.ifS ((E.loc 9).isi Ty.tuple) [S.ifS (((E.loc 10).isi Ty.tuple).not.or (E.blt .all [E.comp [1] true (E.loc 10) [] (E.call 21 [E.loc 1]) [none,none,none]]).not) [S.ret (E.bool false)] []] [] :: ss) fr σ=R:=by
 cases h with
 | str s h hq=>exact ⟨[],fun ss R hR=>by rw [List.append_nil] at hR; exact aM (gF (ac h9) rfl) hR⟩
 | tup x y =>
  refine ⟨[.lst ([(x:Int),(y:Int)].map fun _=>V.bool true)],fun ss R hR=>d3 (gF (ac h9) rfl) (aM (iu (fM (gF (ac h10) rfl)) (fM (aR (aa (pg (ws:=[(x:Int),(y:Int)]) (g:=V.int) (p:=fun _=>true) (f:=fun _=>V.bool true) (ac h10) rfl (fun v hv=>?_) (ai (by decide:2 ≤ 16777216))) ae) ?_))) aS) hR⟩
  ·rw [hf]
   exact ⟨_,rfl,sP,fun _=>aE (aa (ac rfl) ae) (A.fn (by decide) (sI A.h21))⟩
  ·show cx _ (((getL _ σ.length).bind u9).map V.bool)=_
   rw [af aj]; rfl
abbrev B06:=(Option V × Option V × Option V × Option V) × List V × Sto
theorem dR (A:lj P T) (Z:wi P wf m ws) (hs:aC σ sc) (hlw:σ[lw]?=some (.lst (ws.map bk))) (W:a9 σ l m ws) {L:List Int} (hL:L.length ≤ 13) {τ0:Sto} (hq:∀ h υ,(a4 σ h (τ0 ++ υ))[q]?=some (.lst (L.map V.int))) (hne:q ≠ σ.length) {z:B06} :
  fU [7,8] false (evSs (cq P T wf (n + 6)) wf ng) (.tup [.int (i:Nat),.ref q]) (i4 m lw p l lo σ.length z.1.1 z.1.2.1 z.1.2.2.1 z.1.2.2.2) (a4 σ z.2.1 (τ0 ++ z.2.2)) (fun z:B06=>i4 m lw p l lo σ.length z.1.1 z.1.2.1 z.1.2.2.1 z.1.2.2.2) (fun z=>a4 σ z.2.1 (τ0 ++ z.2.2)) (fun _=>True):=by
 obtain ⟨⟨x7,x8,x9,x10⟩,h,υ⟩:=z
 obtain ⟨v,K⟩:=A7 (P:=P) (T:=T) (wf:=wf) (n:=n) (m:=m) (ws:=ws) A.h27 A.h29 A.h28 A.h39 Z.H.toDefs1 Z.G.hz (Nat.le_trans (by decide) (Nat.le_of_lt Z.hw)) L hL
 obtain ⟨τ1,e1⟩:=w7 (n:=n) (i:=i) (sc:=sc) A Z (σ:=a4 σ h (τ0 ++ υ)) (l:=l) (fr:=i4 m lw p l lo σ.length (some (.int i)) (some (.ref q)) x9 x10) (ap hs) W.app rfl rfl rfl rfl
 rw [bX,List.append_assoc] at e1
 obtain ⟨τ2,e2⟩:=K.due (σ:=a4 σ h (τ0 ++ (υ ++ τ1))) (ap hlw) (hq h _)
 rw [bX,List.append_assoc,List.append_assoc] at e2
 generalize υ ++ (τ1 ++ τ2)=υ2 at e2
 obtain ⟨τ3,e3⟩:=K.told (σ:=a4 σ (L.map V.int) (τ0 ++ υ2)) (l:=l) (lr:=σ.length) W.app aj
 rw [bX,List.append_assoc] at e3
 obtain ⟨τ4,e4⟩:=wX (n:=n + 5) (wf:=wf) A (σ:=a4 σ (L.map V.int) (τ0 ++ (υ2 ++ τ3))) K.good (fr:=i4 m lw p l lo σ.length (some (.int i)) (some (.ref q)) (some v) (some v)) rfl rfl rfl
 rw [bX,List.append_assoc,List.append_assoc] at e4
 have hx:dA .extend σ.length [] [.ref q] (a4 σ [] (τ0 ++ υ2))=.ok .none (a4 σ (L.map V.int) (τ0 ++ υ2)):=by
  show (match getL (a4 σ [] (τ0 ++ υ2)) q with | some ys=>if ([]:List V).length + ys.length ≤ 16777216 ∧ q ≠ σ.length then RE.ok .none (dw (a4 σ [] (τ0 ++ υ2)) σ.length ([] ++ ys)) else .bad | none=>.bad)=_
  rw [af (hq [] υ2)]
  show (if _ then _ else _)=_
  rw [if_pos ⟨by rw [List.length_map]; show 0 + L.length ≤ _; lia,hne⟩,eT]; rfl
 refine ⟨_,rfl,((some (.int i),some (.ref q),some v,some v),L.map V.int,υ2 ++ (τ3 ++ τ4)),be e1 (am (aE (aa (ac rfl) (aa (ac rfl) (aa (ac rfl) ae))) (A.fn (by decide) e2)) (by decide:9 < 25) (vC (ac rfl) aj ?_)),trivial⟩
 rw [show (a4 σ h (τ0 ++ υ2)).set σ.length (.lst [])=a4 σ [] (τ0 ++ υ2) from eT]
 exact be (cm (ac rfl) (af aj) (aa (ac rfl) ae) (af aj) hx) (am (vz (aa (ac rfl) (aa (ac rfl) ae)) e3) (by decide:10 < 25) (e4 _ _ (aM (iu (aH (ac rfl) (ac rfl) (wI K.good)) (aH (ac rfl) (ac rfl) (sO aj (hq _ _)))) aS)))
theorem pK (A:lj P T) (Z:wi P wf m ws) (hs:aC σ sc) (hlw:σ[lw]?=some (.lst (ws.map bk))) (W:a9 σ l m ws) {L:List Int} (hL:L.length ≤ 13) (hp:σ[p]?=some (.lst (L.map V.int))) {c:Int} (ho:σ[lo]?=some (.lst ([c].map V.int))) :
  ∃ fr τ,evSs (cq P T wf (n + 6)) wf [S.forS [7,8] false (It.enum mu) ng,S.ret (E.bool true)] (i4 m lw p l lo σ.length none none none none) (a4 σ [] [])=.ok (.ret (.bool true)) fr (σ ++ τ):=by
 have ne:∀ {k o},σ[k]?=some o→k ≠ σ.length:=fun h=>Nat.ne_of_lt (List.getElem?_eq_some_iff.mp h).1
 have er:evE (cq P T wf (n + 6)) mu (i4 m lw p l lo σ.length none none none none) (a4 σ [] [])=.ok (.ref (σ.length + 2)) (a4 σ [] ([.lst (L.map V.int).reverse,.lst [.ref p,.ref (σ.length + 1),.ref lo,.ref p]] ++ [])):=by
  have l1:(a4 σ [] []).length=σ.length + 1:=List.length_append
  have e:=bc (call:=cq P T wf (n + 6)) (fr:=i4 m lw p l lo σ.length none none none none) (es:=[E.loc 3,E.blt .revl [E.loc 3],E.loc 5,E.loc 3]) (aa (ac rfl) (aa (aR (aa (ac rfl) ae) (yw (show (a4 σ [] [])[p]?=some (.lst (L.map V.int)) from ap hp) (by rw [List.length_map]; lia))) (aa (ac rfl) (aa (ac rfl) ae)))) (ai (by exact (by decide:4 ≤ 16777216)))
  rw [List.length_append,l1,bX,bX] at e
  exact e
 obtain ⟨z,e,_⟩:=Aa (call:=cq P T wf (n + 6)) (wf:=wf) (tg:=[7,8]) (one:=false) (it:=mu) (bs:=ng) (vs:=[.ref p,.ref (σ.length + 1),.ref lo,.ref p]) (σ:=a4 σ [] [])
  (F:=fun _ (z:B06)=>i4 m lw p l lo σ.length z.1.1 z.1.2.1 z.1.2.2.1 z.1.2.2.2) (St:=fun _ z=>a4 σ z.2.1 ([.lst (L.map V.int).reverse,.lst [.ref p,.ref (σ.length + 1),.ref lo,.ref p]] ++ z.2.2)) (J:=fun _ _=>True) ((none,none,none,none),[],[]) er
  (fun i z _=>af (by show (σ ++ _ :: _ :: _ :: _)[σ.length + 2]?=_; rw [List.getElem?_append_right (Nat.le_add_right _ _),Nat.add_sub_cancel_left]; rfl))
  (fun i z hi _=>by
   rcases i with _ | _ | _ | _ | i
   ·exact dR A Z hs hlw W hL (fun _ _=>ap hp) (ne hp)
   ·refine dR (L:=L.reverse) A Z hs hlw W (by rw [List.length_reverse]; exact hL) (fun h υ=>?_) (Nat.succ_ne_self _)
    show (σ ++ _ :: _ :: _ :: _)[σ.length + 1]?=_
    rw [List.getElem?_append_right (Nat.le_add_right _ _),Nat.add_sub_cancel_left,List.map_reverse]; rfl
   ·exact dR (L:=[c]) A Z hs hlw W (by exact (by decide:1 ≤ 13)) (fun _ _=>ap ho) (ne ho)
   ·exact dR A Z hs hlw W hL (fun _ _=>ap hp) (ne hp)
   ·exact absurd hi (by show ¬ i + 4 < 4; lia)) trivial
 exact ⟨_,_,aT e (aI fQ)⟩
theorem sg (A:lj P T) (h24:P 24=some sJ) (h25:P 25=some (lZ 1 14 13 dP)) (HT:gR P) (h18:P 18=some cw) (h19:P 19=some ge) (H2:o4 P) (HW:lT P) (h14:P 14=some fB) (hw:9999 * 27720 < wf) :
  ∃ fr σ',evSs (cq P T wf (n + 6)) wf qY.body (aW qY [.ref 0]) [.frz (sc.map V.int),.tab false]=.ok (.ret (.bool true)) fr σ' ∧ σ'[0]?=some (.frz (sc.map V.int)) ∧ ∃ b,σ'[1]?=some (.tab b):=by
 obtain ⟨m,m1,m2,e1⟩:=vQ (wf:=wf) (n:=n + 4) A.HL.h20 h24 (σ:=[.frz (sc.map V.int),.tab false]) (sc:=sc) rfl
 obtain ⟨ws,lw,σ,G,e2,hs,ht,hlw⟩:=qO (wf:=wf) (n:=n + 4) (sc:=sc) A.HL h25 m1 m2
 obtain ⟨L,p,τ1,hL,hp,e3⟩:=wl (wf:=wf) (n:=n + 4) A.HL.h20 A.HL.h22 A.h26 hs hlw G
 have hz:=G.hz
 obtain ⟨τ2,e4,hW⟩:=qo (wf:=wf) (n:=n + 3) (σ:=σ ++ τ1 ++ [AO.lst (ws.map bk)]) HW aj G (Nat.le_trans (by decide) (Nat.le_of_lt hw))
 have hW:=hW _ rfl
 obtain ⟨c,hc,ec⟩:=bV m m1 (sc.getD 18 0)
 have e5:evE (cq P T wf (n + 6)) (E.list [E.bin .Mod (E.call 20 [E.loc 0,E.int 18]) (E.loc 1)]) (i4 m lw p ((σ ++ τ1 ++ [AO.lst (ws.map bk)]).length + 1) 0 0 none none none none |>.set 5 none |>.set 6 none) (σ ++ τ1 ++ [AO.lst (ws.map bk)] ++ τ2)=.ok (.ref (σ ++ τ1 ++ [AO.lst (ws.map bk)] ++ τ2).length) (σ ++ τ1 ++ [AO.lst (ws.map bk)] ++ τ2 ++ [.lst ([(c:Int)].map V.int)]) :=
  bc (aa (ax (aE (aa (ac rfl) (aa ak ae)) (A.fn (by decide) (cY (n:=n + 5) A.HL.h20 (ap (ap (ap hs))) 18))) (ac rfl) ((cP (by lia)).trans (congrArg (fun x=>RE.ok (.int x) _) ec))) ae) (ai (by decide:1 ≤ 16777216))
 obtain ⟨fr,υ,e⟩:=pK (n:=n) (lw:=lw) (p:=p) (lo:=(σ ++ τ1 ++ [AO.lst (ws.map bk)] ++ τ2).length) (c:=c) A ⟨HT,h18,h19,H2,HW,h14,A.HL.h20,G,hw⟩ (σ:=σ ++ τ1 ++ [AO.lst (ws.map bk)] ++ τ2 ++ [.lst ([(c:Int)].map V.int)]) (ap (ap (ap (ap hs)))) (ap (ap (ap (ap hlw)))) hW.app hL (ap (ap (ap hp))) aj
 exact ⟨fr,_,am (aE (aa (ac rfl) ae) (A.fn (by decide) e1)) (by decide:1 < 25) (am (aE (aa (ac rfl) (aa (ac rfl) ae)) (A.fn (by decide) e2)) (by decide:2 < 25) (am (aE (aa (ac rfl) (aa (ac rfl) (aa (ac rfl) ae))) (A.fn (by decide) e3)) (by decide:3 < 25) (am (AF (aa (ac rfl) (aa (aR (aa (ac rfl) ae) (jc (ap hlw) (by rw [List.length_map]; lia))) ae)) (A.fn (by decide) e4)) (by decide:4 < 25) (am e5 (by decide:5 < 25) (am (bc ae (ai (by decide:0 ≤ 16777216))) (by decide:6 < 25) e))))),ap (ap (ap (ap (ap hs)))),true,ap (ap (ap (ap (ap ht))))⟩
end
end Mine
namespace Mine
open PySem PyProof.Rows PySem.W
noncomputable def cA:CE:={ names:=[],fns:=[("common",0),("lowest",1),("mean",2),("led_on",3),("ring_behind",4),("slower",5),("any_ring",6),("pace",7),("is_whole",8),("come_to",9),("is_joined",10),("settled",18),("_law_stirred",19),("_law_cell_at",20),("_law_whole",21),("_law_mixed",22),("_law_delay_by",23),("_law_many",24),("_law_ways",25),("_law_list",26),("_law_due",27),("_law_common",29)],clss:=[("Web",11)],excs:=[("BadCount",37),("NoMeeting",49),("BadDelay",61),("Apart",73),("NoRing",85),("BadPace",97)],mths:=[("need",12),("delay",13),("turned",14),("into",15),("ahead",16),("turns",17)],attrs:=[("many",0),("ways",1)],consts:=[("MOST_MEETINGS",12),("MOST_WAYS",60),("MOST_DELAY",9999)],lam:=none,hnd:=false,hfns:=[("_law_words",39)],pe:=some ("PaceError",24) }
noncomputable def cL:CE:={ cA with lam:=some 273 }
noncomputable def cH:CE:=cA.hand
noncomputable def tE:List (Str × NameKind):=match (PySem.Challenge.pw_uf060017_06.main.body[41]?:Option Stmt) with | some (.FunctionDef _ _ _ _ _ _ sc _ _ _)=>sc.names | _=>[]
noncomputable def cT:CE:={ cA with top:=some tE,tfns:=[("_law_told",28)] }
noncomputable def tOf (k:Nat):Option Fn:=if k=28 then some gG else none
noncomputable def cOf (k:Nat):CE:=if k=25 then cL else if k=39 then cH else cA
noncomputable def v3 (k:Nat):Option Addr:=([some 106,some 113,some 120,some 127,some 134,some 141,some 146,some 153,some 165,some 172,some 177,some 191,some 198,some 208,some 225,some 203,some 213,some 220,some 158,some 308,some 239,some 246,some 253,some 260,some 267,some 274,some 279,some 291,none,some 286,none,none,none,none,none,none,none,none,none,some 296]:List (Option Addr))[k]?.join
noncomputable def Aj (k:Nat):Option Addr:=if k=39 then v3 k else none
structure Af (K:Frag):Prop where
 q0:aL K cA 106=some jg
 q1:aL K cA 113=some l0
 q2:aL K cA 120=some wW
 q3:aL K cA 127=some hZ
 q4:aL K cA 134=some du
 q5:aL K cA 141=some gU
 q6:aL K cA 146=some jh
 q7:aL K cA 153=some wV
 q8:aL K cA 165=some cr
 q9:aL K cA 172=some hJ
 q10:aL K cA 177=some ia
 q11:aL K cA 191=some xI
 q12:aL K cA 198=some nU
 q13:aL K cA 208=some qy
 q14:aL K cA 225=some fB
 q15:aL K cA 203=some xM
 q16:aL K cA 213=some u5
 q17:aL K cA 220=some m8
 q18:aL K cA 158=some cw
 q19:aL K cA 308=some ge
 q20:aL K cA 239=some cW
 q21:aL K cA 246=some oE
 q22:aL K cA 253=some iW
 q23:aL K cA 260=some (gc 10000)
 q24:aL K cA 267=some sJ
 q25:aL K cL 274=some (lZ 1 14 13 dP)
 q26:aL K cA 279=some wy
 q27:aL K cA 291=some lC
 q29:aL K cA 286=some di
 q39:aL K cH 296=some j5
 qT:mj K cA 303=some gG
 qL:aL K cT 313=some qY
set_option tactic.hygienic true in
theorem joinN {prog:Program}{w:World}{K:Frag}{mg mb:Str→Option Value}{s₁:Shared}{scr:Addr}{vs:List Value}{is:List Int}
  (KX:K.In s₁.heap) (Tg:s₁.heap.Ns mainGlobals mg) (Tb:s₁.heap.Ns builtinsNs mb) (hb:∀ x:Str,x ≠ "__name__"→mb x=bootBuiltins x) (lim:s₁.heap.NoLimit)
  (hl:s₁.heap.get? scr=some { cls:=.type "list",data:=.seq vs.toArray }) (hi:IntsAre vs is) (hlen:is.length ≤ 63)
  (hT:TabsAt [(273,269)] s₁.heap) (hB:∃ bm ob,mg "__builtins__"=some (.ref bm) ∧ bm ≠ builtinsNs ∧ s₁.heap.get? bm=some ob ∧ ob.cls=.type "module" ∧ ob.dict=some builtinsNs ∧ ob.data=.plain)
  {p:Program}{loose:List Str} (TR:TopRead p loose mg mb s₁.heap)
  (hK:K.all (fun p=>!(p.2.cls == .type "list") && !(p.1 == 269))=true) (chk:pG K cA 228 [(0,"many"),(1,"ways")] v3=true) (chk':pG K cL 228 [(0,"many"),(1,"ways")] v3=true) (chkh:pG K cH 228 [(0,"many"),(1,"ways")] v3=true) (chkh':pG K cH 228 [(0,"many"),(1,"ways")] Aj=true) (chkx:wT K cA=true) (chkt:pG K cT 228 [(0,"many"),(1,"ways")] v3=true) (hn:nsIn K mainGlobals "_law_told"=some (some (.ref 303))) (hkp:keepIn K (.ref 303)=true) (Q:Af K)
  {R:Result→Shared→Prop} (hR:∀ h' tk,(∀ (b:Addr) (o:Obj),(ghostOf s₁.heap [(273,269)]).get? b=some o→h'.get? b=some o)→GrownAll [(273,269)] h'→R (.ok (.ret (.bool true))) { s₁ with heap:=h',toks:=tk }) :
  codeAny (model prog w) callerA (.call (.ref 313) ⟨[.ref scr],[]⟩) R s₁:=by
 obtain ⟨frL,σ',ev,h0,h1⟩:=sg (P:=Pof K cOf v3) (T:=tOf) (wf:=10 ^ 100) (n:=0) (sc:=is) ⟨⟨Q.q20,Q.q22,Q.q23⟩,Q.q21,Q.q26,Q.q27,Q.q29,Q.q39,fun k h=>if_neg (Nat.ne_of_lt h),rfl⟩ Q.q24 Q.q25 ⟨Q.q8,Q.q12,Q.q15,Q.q16,Q.q17⟩ Q.q18 Q.q19 ⟨⟨Q.q0,Q.q1,Q.q2,Q.q8,Q.q12,Q.q13⟩,Q.q3,Q.q4,Q.q5,Q.q6,Q.q7⟩ ⟨Q.q8,Q.q9,Q.q10,Q.q11⟩ Q.q14 (by decide)
 refine z3 (c:=cOf) (C:=228) (at':=[(0,"many"),(1,"ways")]) (fa:=v3) (n:=6) (lawI:=0) KX Tg Tb hb lim hl hi hlen hT hB hK (fun k=>?_) (by decide) (by decide) (by decide) (by decide) (fun k x h=>?_) TR (fun k=>?_) (fun k _ _=>?_) (fh:=Aj) (cB:=cA) (cT:=cT) (T:=tOf) (fun k a h=>?_) chkh' chk chkx ⟨rfl,rfl⟩ rfl chkt chkx rfl (fun f k h=>?_) (fun k a h=>?_) Q.qL rfl ev h0 h1 hR
 ·unfold cOf; split
  ·exact chk'
  ·split
   ·exact chkh
   ·exact chk
 ·unfold cOf at h
  split at h
  ·exact (Option.some.inj h).symm
  ·split at h <;> cases h
 ·unfold cOf; split
  ·exact chkx
  ·split <;> exact chkx
 ·unfold cOf; split
  ·exact ⟨rfl,rfl⟩
  ·split <;> exact ⟨rfl,rfl⟩
 ·unfold Aj at h
  split at h
  ·rename_i hk
   subst hk
   exact ⟨h,rfl⟩
  ·cases h
 ·cases List.mem_singleton.mp (ar h)
  exact ⟨303,_,hn,hkp,rfl,Q.qT⟩
 ·unfold tOf; split
  ·rename_i hk
   subst hk
   cases h
  ·rfl
end Mine
set_option tactic.hygienic true
open PySem PySem.W PyProof.Rows
set_option Elab.async false
set_option maxHeartbeats 8000000 in
theorem PySem.Challenge.cw_uf060017_06_holds : PySem.Challenge.rw_uf060017_06.Holds := by
 w_on
 refine holds_law Mine.ws06 fun said => ?_
 refine PySem.W.holds_open (q := Mine.q06) (loose := []) (Xt := Mine.xt06) (XP := XL Mine.q06 []) (Yf := Mine.hk06.obs) (Ya := Mine.hk06.val) (YP := Mine.hk06.says) (N := 5524) Mine.left06 Mine.hk06.of Mine.hk06.keeps (fun s e => xl_of s (Bool.and_eq_true_iff.mp e).1) XL.keeps (by rfl) (by rfl) (by rfl) (fun s e => recFacts_of (Bool.and_eq_true_iff.mp e).2) (by rfl) said (by decide +kernel) ⟨rfl, rfl, rfl, rfl, rfl, by decide +kernel⟩ ?hw ?hc
 case hw => w_witness2
 intro w s₀ s₁ mg mb G Y fa o pm cd doc dV kV ho hd hcd hD hmg hg args vals as hpre hlay hrd hwl hlo
 have KX : (Mine.K06 w.params).In s₁.heap := km_in_of Y
 have hT : TabsAt [(273, 269)] s₁.heap := fun q hq => by
  cases List.mem_singleton.mp hq
  exact ⟨codeHd_of_K KX (by kernel_rfl), km_tabs_of Y 269 (.head _)⟩
 refine Ground.open G ?_
 intro T B D TE TW
 clear hd hcd hD
 wrow_args hpre hlay hrd hwl hlo
 all_goals (first | refine callC_kw (enter_call ?_) | refine enter_call ?_)
 all_goals (w_top on)
 all_goals (refine kn_post hT (fun _ _ => rfl) ?_)
 rename Well _ _ _ _ => hW
 rename Heap.IsList _ _ _ => hL
 rename IntsAre _ _ => hI
 rename ¬ _ < _ => hcond
 have hfa : fa = 313 := by
  have h1 := mg_of (n := "law") (v := .ref 313) KX T.g (by kernel_rfl)
  have h2 : mg (Str.ofString "law") = some (.ref fa) := hmg
  rw [h2] at h1; cases h1; rfl
 subst hfa
 refine Mine.joinN KX T.g T.b T.builtins T.nolimit (Mine.list_obj hW hL) hI (by omega) hT T.bmain (topRead_of T) (by kernel_rfl) (by kernel_rfl) (by kernel_rfl) (by kernel_rfl) (by kernel_rfl) (by kernel_rfl) (by kernel_rfl) (by kernel_rfl) (by kernel_rfl) ⟨by kernel_rfl, by kernel_rfl, by kernel_rfl, by kernel_rfl, by kernel_rfl, by kernel_rfl, by kernel_rfl, by kernel_rfl, by kernel_rfl, by kernel_rfl, by kernel_rfl, by kernel_rfl, by kernel_rfl, by kernel_rfl, by kernel_rfl, by kernel_rfl, by kernel_rfl, by kernel_rfl, by kernel_rfl, by kernel_rfl, by kernel_rfl, by kernel_rfl, by kernel_rfl, by kernel_rfl, by kernel_rfl, by kernel_rfl, by kernel_rfl, by kernel_rfl, by kernel_rfl, by kernel_rfl, by kernel_rfl, by kernel_rfl⟩ fun h' tk hk hgr => ?_
 refine ⟨⟨.inl ⟨.bool true, .bool true, [], rfl, fun _ => rfl, .bool true, Mine.law_post _ _ _, fun _ => ⟨List.nodup_nil, fun a ha => nomatch ha⟩⟩, hk, rfl, hg⟩, hgr⟩
