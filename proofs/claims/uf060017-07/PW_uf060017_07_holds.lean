import PyProof.Rows.All
import Wide.All
import OpenK.AllK
import Wide.FinOn
import PyProof.P3Statements
import PyProof.ZipIter
import KE.KRevIter
import KE.KDictList
import OpenK.KLine
import KE.KIsAll
import PyProof.ExcAttrAll.ValueError
import KE.KLam
import KE.KSortKey
import KE.KItem
import KE.KMinKey
import OpenK.KMore
import KE.KRevSl
import PyProof.EnumMake
import PyProof.EnumStmt
import PyProof.EnumFor
import PyProof.ExcBaseAll.ValueError
import PyProof.NsDelKeeps
import PySem.Challenge.RW_uf060017_07
set_option autoImplicit false
set_option linter.unusedVariables false
set_option maxRecDepth 100000
set_option tactic.hygienic false
namespace Mine
open PySem PyProof.Rows PySem.W
noncomputable def dR (p:Program) (i:Nat):Stmt:=(p.main.body[i]?).getD (.Pass ⟨0,0,0,0⟩)
set_option backward.match.sparseCases false in
noncomputable def ly (s:Stmt) (j:Nat):Stmt:=match s with
 | .ClassDef _ _ _ b _ _ _ _ _ _ _=>(b[j]?).getD s
 | _=>s
set_option backward.match.sparseCases false in
noncomputable def fnD (s:Stmt) (name qual:Str) (gl:Addr) (cl:List (Str × Addr)) (df kd doc md:Value) (an:Option Addr) (cd ct:Value) (bl:Addr):Data:=match s with
 | .FunctionDef _ a b _ _ _ sc _ _ _=>.func ⟨name,qual,a,.stmts b,sc,gl,cl,df,kd,doc,md,an,cd,ct,bl⟩
 | _=>.plain
noncomputable def en (P:Params) (s:Str) (t:Nat) (v:Value):DictEntry:=⟨PyData.keyHash P s,.str s t,v⟩
theorem hd_nn {α : Type} {a : α} {G : Prop} (h : none = some a) : G := nomatch h
noncomputable def hdRun (so : Nat → Option Value → Thread → Bool) (sT : (Code → Sem Fin) → Program → World → SharedT → Thread → Option (SharedT × Thread)) (den : Code → Sem Fin) (p : Program) (w : World) (n₀ : Nat) (ann : Option Value) (n : Nat) : SharedT → Thread → Option SharedT :=
  Nat.rec (motive := fun _ => SharedT → Thread → Option SharedT) (fun _ _ => none) (fun _ ih s t => cond (through t) (some s) (cond (so n₀ ann t) ((sT den p w s t).bind fun r => ih r.1 r.2) none)) n
theorem hdRun_of {tb : String → Option Builtin} {p : Program} {w : World} {n₀ : Nat} {ann : Option Value} (n : Nat) : ∀ (s : SharedT) (t : Thread) {s' : SharedT}, hdRun stepOk stepT (denote tb) p w n₀ ann n s t = some s' → topRun tb p w n₀ ann n s.abs t = some s'.abs :=
  Nat.rec (motive := fun n => ∀ (s : SharedT) (t : Thread) {s' : SharedT}, hdRun stepOk stepT (denote tb) p w n₀ ann n s t = some s' → topRun tb p w n₀ ann n s.abs t = some s'.abs) (fun _ _ _ h => hd_nn h) (fun n ih s t s' => by
    show cond (through t) (some s) (cond (stepOk n₀ ann t) ((stepT (denote tb) p w s t).bind fun r => hdRun stepOk stepT (denote tb) p w n₀ ann n r.1 r.2) none) = some s' → (match through t with
      | true => some s.abs
      | false => match stepOk n₀ ann t with
        | false => none
        | true => match step (denote tb) p w s.abs t with
          | .go s' t' => topRun tb p w n₀ ann n s' t'
          | .halt _ _ => none) = some s'.abs
    cases through t with
    | true => exact fun h => congrArg (Option.map SharedT.abs) h
    | false =>
      cases stepOk n₀ ann t with
      | false => exact fun h => hd_nn h
      | true =>
        cases hs : stepT (denote tb) p w s t with
        | none => exact fun h => hd_nn h
        | some r => rw [stepT_spec hs]; exact ih r.1 r.2) n
noncomputable def hdTree (l : List Obj) : Nat → BT → BT := List.rec (motive := fun _ => Nat → BT → BT) (fun _ t => t) (fun o _ ih i t => ih (i + 1) (t.ins i o)) l
noncomputable def hdBoot (w : World) (os : OsState) : SharedT := ⟨hdTree (boot_heap w.params).objs.toList 0 .nil, 11, (boot_heap w.params).life, Array.mk [], boot_drawn, boot_toks, os⟩
theorem hdBoot_abs : ∀ w : World, (fun os => (hdBoot w os).abs) = fun os => ⟨boot_heap w.params, Array.mk [], boot_drawn, boot_toks, os⟩ := fun w => by kernel_rfl
theorem hd_some {x : Option Shared} {a : Heap} {b : Array GenState} {c : Drawn} {d : Nat} : x.map (fun s => (s.heap, s.gens, s.drawn, s.toks)) = some (a, b, c, d) → ∃ os, x = some ⟨a, b, c, d, os⟩ :=
  Option.rec (motive := fun x => x.map (fun s : Shared => (s.heap, s.gens, s.drawn, s.toks)) = some (a, b, c, d) → ∃ os, x = some ⟨a, b, c, d, os⟩) (fun e => hd_nn e) (fun s e => ⟨s.os, congrArg (fun x => some (Shared.mk x.1 x.2.1 x.2.2.1 x.2.2.2 s.os)) (Option.some.inj e)⟩) x
noncomputable def hdSee (p : Program) (im : List Stmt → List Str) (h h' : Heap) (s : Shared) : Bool := staticsOk (im p.main.body) h h' && namesBound p h' && gensDone s && laidKept h h'
theorem hd_top {tb : String → Option Builtin} {p : Program} {w : World} {N n₀ : Nat} {ann : Option Value} {h : Heap} {d : Drawn} {k : Nat} {os : OsState} {s : Shared} (a : (h.isNs mainGlobals, h.objs.size, h.nsMap mainGlobals "__annotations__") = (true, n₀, ann))
    (r : topRun tb p w n₀ ann N ⟨h, Array.mk [], d, k, os⟩ (topStub p) = some s) (v : hdSee p importedModules h s.heap s = true) : topFrom tb p w N ⟨h, Array.mk [], d, k, os⟩ = some s := by
  show (match h.isNs mainGlobals && true with
      | true => (topRun tb p w h.objs.size (h.nsMap mainGlobals "__annotations__") N ⟨h, Array.mk [], d, k, os⟩ (topStub p)).bind fun s₁ => match hdSee p importedModules h s₁.heap s₁ with
          | true => some s₁
          | false => none
      | false => none) = some s
  rw [(Prod.mk.inj a).1, (Prod.mk.inj (Prod.mk.inj a).2).1, (Prod.mk.inj (Prod.mk.inj a).2).2, r]
  show (match hdSee p importedModules h s.heap s with
          | true => some s
          | false => none) = some s
  rw [v]
theorem hd_den : hdRun stepOk stepT (denote treeTable) = hdRun Fast.tw6613529449190102663 Fast.tw10156331382660048174 (Fast.tw11892475500146522536 Fast.tw14364793385576792824) := by rw [Fast.te6613529449190102663, Fast.te10156331382660048174, Fast.te11892475500146522536, Fast.te14364793385576792824]
theorem hd_seen : (fun q loose b => openSeen q loose (importedModules b)) = fun q loose b => Fast.tw4187177175401517315 q loose (Fast.tw5923862056798008813 b) := by rw [Fast.te5923862056798008813, Fast.te4187177175401517315]
theorem kW {p q : Program} {loose : List Str} {Xt : Shared → Bool} {α : Type} {Yf : Shared → α} {Ya : World → α} {N : Nat} {g0 : Bool}
    (he : opening p = plainProg p.main.scope.names) (hN : Nat.ble 600 N = true) (hf : ∀ s, fenceModules? p s = some s)
    (h : ∀ w : World, (fun os : OsState => (hdRun Fast.tw6613529449190102663 Fast.tw10156331382660048174 (Fast.tw11892475500146522536 Fast.tw14364793385576792824) p w 11 (some (.ref 6)) N (hdBoot w os) (topStub p)).map (fun s => (hdSee p Fast.tw5923862056798008813 (boot_heap w.params) s.abs.heap s.abs, Fast.tw4187177175401517315 q loose (Fast.tw5923862056798008813 p.main.body) Xt g0 s.abs, Yf s.abs))) = fun _ => some (true, openGood q loose, Ya w)) :
    LeftO p q loose Xt Yf Ya N g0 := fun w =>
  (hd_some (boot_open he hN hf w)).elim fun os e => (Option.map_eq_some_iff.mp (congrFun (h w) os)).elim fun s r =>
    (congrArg (fun x => (Option.bind x (topFrom treeTable p w N)).map _) e).trans ((congrArg (Option.map _) (hd_top (s := s.abs) (by kernel_rfl) ((congrArg (fun x => topRun treeTable p w 11 (some (.ref 6)) N x (topStub p)) (congrFun (hdBoot_abs w) os)).symm.trans (hdRun_of _ _ _ ((congrArg (fun f => f p w 11 (some (.ref 6)) N (hdBoot w os) (topStub p)) hd_den).trans r.1))) ((congrArg (fun f => hdSee p f (boot_heap w.params) s.abs.heap s.abs) Fast.te5923862056798008813).trans (congrArg Prod.fst r.2)))).trans (congrArg some ((congrArg (fun f => (f q loose p.main.body Xt g0 s.abs, Yf s.abs)) hd_seen).trans (congrArg Prod.snd r.2))))
end Mine
namespace Mine
open PySem PyProof.Rows PySem.W
noncomputable def kOf (p:Program) (P:Params):Frag:=[
 (2,⟨.none,none,.dict ⟨[]⟩ 0,⟨[]⟩⟩),
 (3,⟨.type "dict",none,.dict ⟨[en P "__name__" 165 (.str "law_uf060017_07" 508),en P "__doc__" 166 (.none),en P "__package__" 167 (.none),en P "__loader__" 168 (.builtin "__main__.__loader__#opaque"),en P "__spec__" 169 (.none),en P "__annotations__" 170 (.ref 6),en P "__builtins__" 171 (.ref 4),en P "__file__" 173 (.str "/claim/cut.py" 172),en P "__cached__" 174 (.none),en P "PaceError" 206 (.ref 24),en P "BadCount" 222 (.ref 37),en P "NoMeeting" 238 (.ref 49),en P "BadDelay" 254 (.ref 61),en P "Apart" 270 (.ref 73),en P "NoRing" 286 (.ref 85),en P "BadPace" 302 (.ref 97),en P "common" 313 (.ref 106),en P "lowest" 322 (.ref 113),en P "mean" 334 (.ref 120),en P "led_on" 344 (.ref 127),en P "ring_behind" 355 (.ref 134),en P "slower" 372 (.ref 141),en P "any_ring" 378 (.ref 146),en P "pace" 389 (.ref 153),en P "settled" 397 (.ref 158),en P "MOST_MEETINGS" 401 (.int (12) 400),en P "MOST_WAYS" 403 (.int (60) 402),en P "MOST_DELAY" 405 (.int (9999) 404),en P "is_whole" 414 (.ref 165),en P "come_to" 426 (.ref 172),en P "is_joined" 432 (.ref 177),en P "Web" 507 (.ref 228),en P "_law_cell_at" 517 (.ref 239),en P "_law_whole" 524 (.ref 246),en P "_law_mixed" 532 (.ref 253),en P "_law_delay_by" 539 (.ref 260),en P "_law_many" 547 (.ref 267),en P "_law_ways" 561 (.ref 274),en P "_law_numbers_good" 567 (.ref 279),en P "_law_ring_slower" 573 (.ref 284),en P "_law_start_good" 587 (.ref 291),en P "_law_words" 593 (.ref 296),en P "_law_refused" 603 (.ref 303),en P "_law_slower_good" 614 (.ref 310),en P "_law_stirred" 620 (.ref 315),en P "law" 626 (.ref 320)]⟩ 46,⟨[]⟩⟩),
 (15,⟨.type "tuple",none,.seq ⟨[.type "ValueError"]⟩ 0,⟨[]⟩⟩),
 (22,⟨.type "tuple",none,.seq ⟨[]⟩ 0,⟨[]⟩⟩),
 (23,⟨.type "dict",none,.dict ⟨[en P "__module__" 196 (.str "meanpace.errors" 187),en P "__firstlineno__" 200 (.int (2) 199),en P "__static_attributes__" 201 (.ref 22),en P "__weakref__" 203 (.ref 25),en P "__doc__" 204 (.none)]⟩ 3,⟨[]⟩⟩),
 (24,⟨.type "type",none,.cls { name:="PaceError",bases:=[.type "ValueError"],mro:=[.ref 24,.type "ValueError",.type "Exception",.type "BaseException",.type "object"],ns:=23,qualname:="PaceError",hasDict:=true,slotNames:=[],subclasses:=[.ref 37,.ref 49,.ref 61,.ref 73,.ref 85,.ref 97],abstract:=false,collection:=none,hasDel:=false },⟨[(some (.ref 15)),none,(some (.str "PaceError" 189)),(some (.str "PaceError" 197)),(some (.builtin "ValueError.__new__")),(some (.bool true))]⟩⟩),
 (25,⟨.type "getset_descriptor",none,.fields ⟨[.str "__weakref__" 202,.ref 24,.builtin "ExceptionGroup.__weakref__",.none]⟩,⟨[]⟩⟩),
 (28,⟨.type "tuple",none,.seq ⟨[.ref 24]⟩ 0,⟨[]⟩⟩),
 (35,⟨.type "tuple",none,.seq ⟨[]⟩ 0,⟨[]⟩⟩),
 (36,⟨.type "dict",none,.dict ⟨[en P "__module__" 214 (.str "meanpace.errors" 187),en P "__firstlineno__" 218 (.int (4) 217),en P "__static_attributes__" 219 (.ref 35),en P "__doc__" 220 (.none)]⟩ 2,⟨[]⟩⟩),
 (37,⟨.type "type",none,.cls { name:="BadCount",bases:=[.ref 24],mro:=[.ref 37,.ref 24,.type "ValueError",.type "Exception",.type "BaseException",.type "object"],ns:=36,qualname:="BadCount",hasDict:=true,slotNames:=[],subclasses:=[],abstract:=false,collection:=none,hasDel:=false },⟨[(some (.ref 28)),none,(some (.str "BadCount" 207)),(some (.str "BadCount" 215)),(some (.builtin "ValueError.__new__")),(some (.bool true))]⟩⟩),
 (40,⟨.type "tuple",none,.seq ⟨[.ref 24]⟩ 0,⟨[]⟩⟩),
 (47,⟨.type "tuple",none,.seq ⟨[]⟩ 0,⟨[]⟩⟩),
 (48,⟨.type "dict",none,.dict ⟨[en P "__module__" 230 (.str "meanpace.errors" 187),en P "__firstlineno__" 234 (.int (6) 233),en P "__static_attributes__" 235 (.ref 47),en P "__doc__" 236 (.none)]⟩ 2,⟨[]⟩⟩),
 (49,⟨.type "type",none,.cls { name:="NoMeeting",bases:=[.ref 24],mro:=[.ref 49,.ref 24,.type "ValueError",.type "Exception",.type "BaseException",.type "object"],ns:=48,qualname:="NoMeeting",hasDict:=true,slotNames:=[],subclasses:=[],abstract:=false,collection:=none,hasDel:=false },⟨[(some (.ref 40)),none,(some (.str "NoMeeting" 223)),(some (.str "NoMeeting" 231)),(some (.builtin "ValueError.__new__")),(some (.bool true))]⟩⟩),
 (52,⟨.type "tuple",none,.seq ⟨[.ref 24]⟩ 0,⟨[]⟩⟩),
 (59,⟨.type "tuple",none,.seq ⟨[]⟩ 0,⟨[]⟩⟩),
 (60,⟨.type "dict",none,.dict ⟨[en P "__module__" 246 (.str "meanpace.errors" 187),en P "__firstlineno__" 250 (.int (8) 249),en P "__static_attributes__" 251 (.ref 59),en P "__doc__" 252 (.none)]⟩ 2,⟨[]⟩⟩),
 (61,⟨.type "type",none,.cls { name:="BadDelay",bases:=[.ref 24],mro:=[.ref 61,.ref 24,.type "ValueError",.type "Exception",.type "BaseException",.type "object"],ns:=60,qualname:="BadDelay",hasDict:=true,slotNames:=[],subclasses:=[],abstract:=false,collection:=none,hasDel:=false },⟨[(some (.ref 52)),none,(some (.str "BadDelay" 239)),(some (.str "BadDelay" 247)),(some (.builtin "ValueError.__new__")),(some (.bool true))]⟩⟩),
 (64,⟨.type "tuple",none,.seq ⟨[.ref 24]⟩ 0,⟨[]⟩⟩),
 (71,⟨.type "tuple",none,.seq ⟨[]⟩ 0,⟨[]⟩⟩),
 (72,⟨.type "dict",none,.dict ⟨[en P "__module__" 262 (.str "meanpace.errors" 187),en P "__firstlineno__" 266 (.int (10) 265),en P "__static_attributes__" 267 (.ref 71),en P "__doc__" 268 (.none)]⟩ 2,⟨[]⟩⟩),
 (73,⟨.type "type",none,.cls { name:="Apart",bases:=[.ref 24],mro:=[.ref 73,.ref 24,.type "ValueError",.type "Exception",.type "BaseException",.type "object"],ns:=72,qualname:="Apart",hasDict:=true,slotNames:=[],subclasses:=[],abstract:=false,collection:=none,hasDel:=false },⟨[(some (.ref 64)),none,(some (.str "Apart" 255)),(some (.str "Apart" 263)),(some (.builtin "ValueError.__new__")),(some (.bool true))]⟩⟩),
 (76,⟨.type "tuple",none,.seq ⟨[.ref 24]⟩ 0,⟨[]⟩⟩),
 (83,⟨.type "tuple",none,.seq ⟨[]⟩ 0,⟨[]⟩⟩),
 (84,⟨.type "dict",none,.dict ⟨[en P "__module__" 278 (.str "meanpace.errors" 187),en P "__firstlineno__" 282 (.int (12) 281),en P "__static_attributes__" 283 (.ref 83),en P "__doc__" 284 (.none)]⟩ 2,⟨[]⟩⟩),
 (85,⟨.type "type",none,.cls { name:="NoRing",bases:=[.ref 24],mro:=[.ref 85,.ref 24,.type "ValueError",.type "Exception",.type "BaseException",.type "object"],ns:=84,qualname:="NoRing",hasDict:=true,slotNames:=[],subclasses:=[],abstract:=false,collection:=none,hasDel:=false },⟨[(some (.ref 76)),none,(some (.str "NoRing" 271)),(some (.str "NoRing" 279)),(some (.builtin "ValueError.__new__")),(some (.bool true))]⟩⟩),
 (88,⟨.type "tuple",none,.seq ⟨[.ref 24]⟩ 0,⟨[]⟩⟩),
 (95,⟨.type "tuple",none,.seq ⟨[]⟩ 0,⟨[]⟩⟩),
 (96,⟨.type "dict",none,.dict ⟨[en P "__module__" 294 (.str "meanpace.errors" 187),en P "__firstlineno__" 298 (.int (14) 297),en P "__static_attributes__" 299 (.ref 95),en P "__doc__" 300 (.none)]⟩ 2,⟨[]⟩⟩),
 (97,⟨.type "type",none,.cls { name:="BadPace",bases:=[.ref 24],mro:=[.ref 97,.ref 24,.type "ValueError",.type "Exception",.type "BaseException",.type "object"],ns:=96,qualname:="BadPace",hasDict:=true,slotNames:=[],subclasses:=[],abstract:=false,collection:=none,hasDel:=false },⟨[(some (.ref 88)),none,(some (.str "BadPace" 287)),(some (.str "BadPace" 295)),(some (.builtin "ValueError.__new__")),(some (.bool true))]⟩⟩),
 (100,⟨.type "tuple",none,.seq ⟨[]⟩ 0,⟨[]⟩⟩),
 (102,⟨.type "tuple",none,.seq ⟨[.str "number" 308,.str "divisor" 309,.str "rest" 310]⟩ 0,⟨[]⟩⟩),
 (103,⟨.type "tuple",none,.seq ⟨[]⟩ 0,⟨[]⟩⟩),
 (105,⟨.type "code",none,.fields ⟨[.str "common" 305,.str "common" 306,.str "/claim/cut.py" 307,.int (17) 0,.int (2) 0,.int (0) 0,.int (0) 0,.int (3) 0,.ref 100,.bool true,.int (181) 0,.ref 101,.none,.ref 102,.ref 103,.ref 104,.int (311) 0,.int (17) 0,.str "/claim/cut.py" 312]⟩,⟨[]⟩⟩),
 (106,⟨.type "function",none,fnD (dR p 9) "common" "common" 3 [] (.none) (.none) (.none) (.str "meanpace.rings" 303) none (.ref 105) (.none) 0,⟨[]⟩⟩),
 (107,⟨.type "tuple",none,.seq ⟨[]⟩ 0,⟨[]⟩⟩),
 (109,⟨.type "tuple",none,.seq ⟨[.str "number" 317,.str "divisor" 318,.str "part" 319]⟩ 0,⟨[]⟩⟩),
 (110,⟨.type "tuple",none,.seq ⟨[]⟩ 0,⟨[]⟩⟩),
 (112,⟨.type "code",none,.fields ⟨[.str "lowest" 314,.str "lowest" 315,.str "/claim/cut.py" 316,.int (23) 0,.int (2) 0,.int (0) 0,.int (0) 0,.int (3) 0,.ref 107,.bool true,.int (181) 0,.ref 108,.none,.ref 109,.ref 110,.ref 111,.int (320) 0,.int (23) 0,.str "/claim/cut.py" 321]⟩,⟨[]⟩⟩),
 (113,⟨.type "function",none,fnD (dR p 10) "lowest" "lowest" 3 [] (.none) (.none) (.none) (.str "meanpace.rings" 303) none (.ref 112) (.none) 0,⟨[]⟩⟩),
 (114,⟨.type "tuple",none,.seq ⟨[]⟩ 0,⟨[]⟩⟩),
 (116,⟨.type "tuple",none,.seq ⟨[.str "web" 326,.str "ring" 327,.str "meeting" 328,.str "total" 329,.str "place" 330,.str "delay" 331]⟩ 0,⟨[]⟩⟩),
 (117,⟨.type "tuple",none,.seq ⟨[]⟩ 0,⟨[]⟩⟩),
 (119,⟨.type "code",none,.fields ⟨[.str "mean" 323,.str "mean" 324,.str "/claim/cut.py" 325,.int (26) 0,.int (2) 0,.int (0) 0,.int (0) 0,.int (3) 0,.ref 114,.bool true,.int (181) 0,.ref 115,.none,.ref 116,.ref 117,.ref 118,.int (332) 0,.int (26) 0,.str "/claim/cut.py" 333]⟩,⟨[]⟩⟩),
 (120,⟨.type "function",none,fnD (dR p 11) "mean" "mean" 3 [] (.none) (.none) (.none) (.str "meanpace.rings" 303) none (.ref 119) (.none) 0,⟨[]⟩⟩),
 (121,⟨.type "tuple",none,.seq ⟨[]⟩ 0,⟨[]⟩⟩),
 (123,⟨.type "tuple",none,.seq ⟨[.str "ring" 340,.str "at" 341]⟩ 0,⟨[]⟩⟩),
 (124,⟨.type "tuple",none,.seq ⟨[]⟩ 0,⟨[]⟩⟩),
 (126,⟨.type "code",none,.fields ⟨[.str "led_on" 337,.str "led_on" 338,.str "/claim/cut.py" 339,.int (39) 0,.int (1) 0,.int (0) 0,.int (0) 0,.int (3) 0,.ref 121,.bool true,.int (181) 0,.ref 122,.none,.ref 123,.ref 124,.ref 125,.int (342) 0,.int (39) 0,.str "/claim/cut.py" 343]⟩,⟨[]⟩⟩),
 (127,⟨.type "function",none,fnD (dR p 13) "led_on" "led_on" 3 [] (.none) (.none) (.none) (.str "meanpace.paces" 335) none (.ref 126) (.none) 0,⟨[]⟩⟩),
 (128,⟨.type "tuple",none,.seq ⟨[]⟩ 0,⟨[]⟩⟩),
 (130,⟨.type "tuple",none,.seq ⟨[.str "before" 348,.str "meeting" 349,.str "many" 350,.str "step" 351,.str "ring" 352]⟩ 0,⟨[]⟩⟩),
 (131,⟨.type "tuple",none,.seq ⟨[]⟩ 0,⟨[]⟩⟩),
 (133,⟨.type "code",none,.fields ⟨[.str "ring_behind" 345,.str "ring_behind" 346,.str "/claim/cut.py" 347,.int (42) 0,.int (3) 0,.int (0) 0,.int (0) 0,.int (3) 0,.ref 128,.bool true,.int (181) 0,.ref 129,.none,.ref 130,.ref 131,.ref 132,.int (353) 0,.int (42) 0,.str "/claim/cut.py" 354]⟩,⟨[]⟩⟩),
 (134,⟨.type "function",none,fnD (dR p 14) "ring_behind" "ring_behind" 3 [] (.none) (.none) (.none) (.str "meanpace.paces" 335) none (.ref 133) (.none) 0,⟨[]⟩⟩),
 (135,⟨.type "tuple",none,.seq ⟨[]⟩ 0,⟨[]⟩⟩),
 (137,⟨.type "tuple",none,.seq ⟨[.str "web" 359,.str "number" 360,.str "divisor" 361,.str "start" 362,.str "before" 363,.str "turn" 364,.str "last" 365,.str "begin" 366,.str "end" 367,.str "delay" 368,.str "wanted" 369]⟩ 0,⟨[]⟩⟩),
 (138,⟨.type "tuple",none,.seq ⟨[]⟩ 0,⟨[]⟩⟩),
 (140,⟨.type "code",none,.fields ⟨[.str "slower" 356,.str "slower" 357,.str "/claim/cut.py" 358,.int (49) 0,.int (3) 0,.int (0) 0,.int (0) 0,.int (3) 0,.ref 135,.bool true,.int (181) 0,.ref 136,.none,.ref 137,.ref 138,.ref 139,.int (370) 0,.int (49) 0,.str "/claim/cut.py" 371]⟩,⟨[]⟩⟩),
 (141,⟨.type "function",none,fnD (dR p 15) "slower" "slower" 3 [] (.none) (.none) (.none) (.str "meanpace.paces" 335) none (.ref 140) (.none) 0,⟨[]⟩⟩),
 (142,⟨.type "tuple",none,.seq ⟨[]⟩ 0,⟨[]⟩⟩),
 (145,⟨.type "code",none,.fields ⟨[.str "any_ring" 373,.str "any_ring" 374,.str "/claim/cut.py" 375,.int (65) 0,.int (1) 0,.int (0) 0,.int (0) 0,.int (3) 0,.ref 142,.bool true,.int (181) 0,.ref 143,.none,.none,.none,.ref 144,.int (376) 0,.int (65) 0,.str "/claim/cut.py" 377]⟩,⟨[]⟩⟩),
 (146,⟨.type "function",none,fnD (dR p 16) "any_ring" "any_ring" 3 [] (.none) (.none) (.none) (.str "meanpace.paces" 335) none (.ref 145) (.none) 0,⟨[]⟩⟩),
 (147,⟨.type "tuple",none,.seq ⟨[]⟩ 0,⟨[]⟩⟩),
 (149,⟨.type "tuple",none,.seq ⟨[.str "web" 382,.str "ring" 383,.str "number" 384,.str "divisor" 385,.str "found" 386]⟩ 0,⟨[]⟩⟩),
 (150,⟨.type "tuple",none,.seq ⟨[]⟩ 0,⟨[]⟩⟩),
 (152,⟨.type "code",none,.fields ⟨[.str "pace" 379,.str "pace" 380,.str "/claim/cut.py" 381,.int (72) 0,.int (1) 0,.int (0) 0,.int (0) 0,.int (3) 0,.ref 147,.bool true,.int (181) 0,.ref 148,.none,.ref 149,.ref 150,.ref 151,.int (387) 0,.int (72) 0,.str "/claim/cut.py" 388]⟩,⟨[]⟩⟩),
 (153,⟨.type "function",none,fnD (dR p 17) "pace" "pace" 3 [] (.none) (.none) (.none) (.str "meanpace.paces" 335) none (.ref 152) (.none) 0,⟨[]⟩⟩),
 (154,⟨.type "tuple",none,.seq ⟨[]⟩ 0,⟨[]⟩⟩),
 (157,⟨.type "code",none,.fields ⟨[.str "settled" 392,.str "settled" 393,.str "/claim/cut.py" 394,.int (81) 0,.int (3) 0,.int (0) 0,.int (0) 0,.int (3) 0,.ref 154,.bool true,.int (181) 0,.ref 155,.none,.none,.none,.ref 156,.int (395) 0,.int (81) 0,.str "/claim/cut.py" 396]⟩,⟨[]⟩⟩),
 (158,⟨.type "function",none,fnD (dR p 19) "settled" "settled" 3 [] (.none) (.none) (.none) (.str "meanpace.settling" 390) none (.ref 157) (.none) 0,⟨[]⟩⟩),
 (159,⟨.type "tuple",none,.seq ⟨[]⟩ 0,⟨[]⟩⟩),
 (161,⟨.type "tuple",none,.seq ⟨[.str "thing" 409,.str "low" 410,.str "high" 411]⟩ 0,⟨[]⟩⟩),
 (162,⟨.type "tuple",none,.seq ⟨[]⟩ 0,⟨[]⟩⟩),
 (164,⟨.type "code",none,.fields ⟨[.str "is_whole" 406,.str "is_whole" 407,.str "/claim/cut.py" 408,.int (97) 0,.int (3) 0,.int (0) 0,.int (0) 0,.int (3) 0,.ref 159,.bool true,.int (181) 0,.ref 160,.none,.ref 161,.ref 162,.ref 163,.int (412) 0,.int (97) 0,.str "/claim/cut.py" 413]⟩,⟨[]⟩⟩),
 (165,⟨.type "function",none,fnD (dR p 24) "is_whole" "is_whole" 3 [] (.none) (.none) (.none) (.str "meanpace.webs" 398) none (.ref 164) (.none) 0,⟨[]⟩⟩),
 (166,⟨.type "tuple",none,.seq ⟨[]⟩ 0,⟨[]⟩⟩),
 (168,⟨.type "tuple",none,.seq ⟨[.str "many" 418,.str "ways" 419,.str "found" 420,.str "waiting" 421,.str "here" 422,.str "way" 423]⟩ 0,⟨[]⟩⟩),
 (169,⟨.type "tuple",none,.seq ⟨[]⟩ 0,⟨[]⟩⟩),
 (171,⟨.type "code",none,.fields ⟨[.str "come_to" 415,.str "come_to" 416,.str "/claim/cut.py" 417,.int (99) 0,.int (2) 0,.int (0) 0,.int (0) 0,.int (3) 0,.ref 166,.bool true,.int (181) 0,.ref 167,.none,.ref 168,.ref 169,.ref 170,.int (424) 0,.int (99) 0,.str "/claim/cut.py" 425]⟩,⟨[]⟩⟩),
 (172,⟨.type "function",none,fnD (dR p 25) "come_to" "come_to" 3 [] (.none) (.none) (.none) (.str "meanpace.webs" 398) none (.ref 171) (.none) 0,⟨[]⟩⟩),
 (173,⟨.type "tuple",none,.seq ⟨[]⟩ 0,⟨[]⟩⟩),
 (176,⟨.type "code",none,.fields ⟨[.str "is_joined" 427,.str "is_joined" 428,.str "/claim/cut.py" 429,.int (109) 0,.int (2) 0,.int (0) 0,.int (0) 0,.int (3) 0,.ref 173,.bool true,.int (181) 0,.ref 174,.none,.none,.none,.ref 175,.int (430) 0,.int (109) 0,.str "/claim/cut.py" 431]⟩,⟨[]⟩⟩),
 (177,⟨.type "function",none,fnD (dR p 26) "is_joined" "is_joined" 3 [] (.none) (.none) (.none) (.str "meanpace.webs" 398) none (.ref 176) (.none) 0,⟨[]⟩⟩),
 (185,⟨.type "tuple",none,.seq ⟨[]⟩ 0,⟨[]⟩⟩),
 (187,⟨.type "tuple",none,.seq ⟨[.str "self" 448,.str "many" 449,.str "ways" 450,.str "way" 451]⟩ 0,⟨[]⟩⟩),
 (188,⟨.type "tuple",none,.seq ⟨[]⟩ 0,⟨[]⟩⟩),
 (190,⟨.type "code",none,.fields ⟨[.str "__init__" 445,.str "Web.__init__" 446,.str "/claim/cut.py" 447,.int (116) 0,.int (3) 0,.int (0) 0,.int (0) 0,.int (3) 0,.ref 185,.bool true,.int (181) 0,.ref 186,.none,.ref 187,.ref 188,.ref 189,.int (452) 0,.int (116) 0,.str "/claim/cut.py" 453]⟩,⟨[]⟩⟩),
 (191,⟨.type "function",none,fnD (ly (dR p 27) 0) "__init__" "Web.__init__" 3 [] (.none) (.none) (.none) (.str "meanpace.webs" 398) none (.ref 190) (.none) 0,⟨[]⟩⟩),
 (192,⟨.type "tuple",none,.seq ⟨[]⟩ 0,⟨[]⟩⟩),
 (194,⟨.type "tuple",none,.seq ⟨[.str "self" 458,.str "meeting" 459]⟩ 0,⟨[]⟩⟩),
 (195,⟨.type "tuple",none,.seq ⟨[]⟩ 0,⟨[]⟩⟩),
 (197,⟨.type "code",none,.fields ⟨[.str "need" 455,.str "Web.need" 456,.str "/claim/cut.py" 457,.int (132) 0,.int (2) 0,.int (0) 0,.int (0) 0,.int (3) 0,.ref 192,.bool true,.int (181) 0,.ref 193,.none,.ref 194,.ref 195,.ref 196,.int (460) 0,.int (132) 0,.str "/claim/cut.py" 461]⟩,⟨[]⟩⟩),
 (198,⟨.type "function",none,fnD (ly (dR p 27) 1) "need" "Web.need" 3 [] (.none) (.none) (.none) (.str "meanpace.webs" 398) none (.ref 197) (.none) 0,⟨[]⟩⟩),
 (199,⟨.type "tuple",none,.seq ⟨[]⟩ 0,⟨[]⟩⟩),
 (202,⟨.type "code",none,.fields ⟨[.str "into" 463,.str "Web.into" 464,.str "/claim/cut.py" 465,.int (136) 0,.int (2) 0,.int (0) 0,.int (0) 0,.int (3) 0,.ref 199,.bool true,.int (181) 0,.ref 200,.none,.none,.none,.ref 201,.int (466) 0,.int (136) 0,.str "/claim/cut.py" 467]⟩,⟨[]⟩⟩),
 (203,⟨.type "function",none,fnD (ly (dR p 27) 2) "into" "Web.into" 3 [] (.none) (.none) (.none) (.str "meanpace.webs" 398) none (.ref 202) (.none) 0,⟨[]⟩⟩),
 (204,⟨.type "tuple",none,.seq ⟨[]⟩ 0,⟨[]⟩⟩),
 (207,⟨.type "code",none,.fields ⟨[.str "delay" 469,.str "Web.delay" 470,.str "/claim/cut.py" 471,.int (140) 0,.int (3) 0,.int (0) 0,.int (0) 0,.int (3) 0,.ref 204,.bool true,.int (181) 0,.ref 205,.none,.none,.none,.ref 206,.int (472) 0,.int (140) 0,.str "/claim/cut.py" 473]⟩,⟨[]⟩⟩),
 (208,⟨.type "function",none,fnD (ly (dR p 27) 3) "delay" "Web.delay" 3 [] (.none) (.none) (.none) (.str "meanpace.webs" 398) none (.ref 207) (.none) 0,⟨[]⟩⟩),
 (209,⟨.type "tuple",none,.seq ⟨[]⟩ 0,⟨[]⟩⟩),
 (212,⟨.type "code",none,.fields ⟨[.str "ahead" 475,.str "Web.ahead" 476,.str "/claim/cut.py" 477,.int (145) 0,.int (2) 0,.int (0) 0,.int (0) 0,.int (3) 0,.ref 209,.bool true,.int (181) 0,.ref 210,.none,.none,.none,.ref 211,.int (478) 0,.int (145) 0,.str "/claim/cut.py" 479]⟩,⟨[]⟩⟩),
 (213,⟨.type "function",none,fnD (ly (dR p 27) 4) "ahead" "Web.ahead" 3 [] (.none) (.none) (.none) (.str "meanpace.webs" 398) none (.ref 212) (.none) 0,⟨[]⟩⟩),
 (214,⟨.type "tuple",none,.seq ⟨[]⟩ 0,⟨[]⟩⟩),
 (216,⟨.type "tuple",none,.seq ⟨[.str "self" 484,.str "times" 485,.str "count" 486,.str "found" 487,.str "turn" 488]⟩ 0,⟨[]⟩⟩),
 (217,⟨.type "tuple",none,.seq ⟨[]⟩ 0,⟨[]⟩⟩),
 (219,⟨.type "code",none,.fields ⟨[.str "turns" 481,.str "Web.turns" 482,.str "/claim/cut.py" 483,.int (153) 0,.int (3) 0,.int (0) 0,.int (0) 0,.int (3) 0,.ref 214,.bool true,.int (181) 0,.ref 215,.none,.ref 216,.ref 217,.ref 218,.int (489) 0,.int (153) 0,.str "/claim/cut.py" 490]⟩,⟨[]⟩⟩),
 (220,⟨.type "function",none,fnD (ly (dR p 27) 5) "turns" "Web.turns" 3 [] (.none) (.none) (.none) (.str "meanpace.webs" 398) none (.ref 219) (.none) 0,⟨[]⟩⟩),
 (221,⟨.type "tuple",none,.seq ⟨[]⟩ 0,⟨[]⟩⟩),
 (224,⟨.type "code",none,.fields ⟨[.str "turned" 492,.str "Web.turned" 493,.str "/claim/cut.py" 494,.int (161) 0,.int (1) 0,.int (0) 0,.int (0) 0,.int (3) 0,.ref 221,.bool true,.int (181) 0,.ref 222,.none,.none,.none,.ref 223,.int (495) 0,.int (161) 0,.str "/claim/cut.py" 496]⟩,⟨[]⟩⟩),
 (225,⟨.type "function",none,fnD (ly (dR p 27) 6) "turned" "Web.turned" 3 [] (.none) (.none) (.none) (.str "meanpace.webs" 398) none (.ref 224) (.none) 0,⟨[]⟩⟩),
 (226,⟨.type "tuple",none,.seq ⟨[.str "many" 498,.str "ways" 499]⟩ 0,⟨[]⟩⟩),
 (227,⟨.type "dict",none,.dict ⟨[en P "__module__" 440 (.str "meanpace.webs" 398),en P "__firstlineno__" 444 (.int (114) 443),en P "__init__" 454 (.ref 191),en P "need" 462 (.ref 198),en P "into" 468 (.ref 203),en P "delay" 474 (.ref 208),en P "ahead" 480 (.ref 213),en P "turns" 491 (.ref 220),en P "turned" 497 (.ref 225),en P "__static_attributes__" 500 (.ref 226),en P "__dict__" 502 (.ref 229),en P "__weakref__" 504 (.ref 230),en P "__doc__" 505 (.none)]⟩ 4,⟨[]⟩⟩),
 (228,⟨.type "type",none,.cls { name:="Web",bases:=[.type "object"],mro:=[.ref 228,.type "object"],ns:=227,qualname:="Web",hasDict:=true,slotNames:=[],subclasses:=[],abstract:=false,collection:=none,hasDel:=false },⟨[none,none,(some (.str "Web" 433)),(some (.str "Web" 441)),(some (.builtin "object.__new__")),(some (.bool true))]⟩⟩),
 (229,⟨.type "getset_descriptor",none,.fields ⟨[.str "__dict__" 501,.ref 228,.builtin "function.__dict__",.builtin "function.__dict__#set"]⟩,⟨[]⟩⟩),
 (230,⟨.type "getset_descriptor",none,.fields ⟨[.str "__weakref__" 503,.ref 228,.builtin "ExceptionGroup.__weakref__",.none]⟩,⟨[]⟩⟩),
 (233,⟨.type "tuple",none,.seq ⟨[]⟩ 0,⟨[]⟩⟩),
 (235,⟨.type "tuple",none,.seq ⟨[.str "_law_script" 513,.str "_law_k" 514]⟩ 0,⟨[]⟩⟩),
 (236,⟨.type "tuple",none,.seq ⟨[]⟩ 0,⟨[]⟩⟩),
 (238,⟨.type "code",none,.fields ⟨[.str "_law_cell_at" 510,.str "_law_cell_at" 511,.str "/claim/cut.py" 512,.int (164) 0,.int (2) 0,.int (0) 0,.int (0) 0,.int (3) 0,.ref 233,.bool true,.int (181) 0,.ref 234,.none,.ref 235,.ref 236,.ref 237,.int (515) 0,.int (164) 0,.str "/claim/cut.py" 516]⟩,⟨[]⟩⟩),
 (239,⟨.type "function",none,fnD (dR p 29) "_law_cell_at" "_law_cell_at" 3 [] (.none) (.none) (.none) (.str "law_uf060017_07" 508) none (.ref 238) (.none) 0,⟨[]⟩⟩),
 (240,⟨.type "tuple",none,.seq ⟨[]⟩ 0,⟨[]⟩⟩),
 (242,⟨.type "tuple",none,.seq ⟨[.str "_law_found" 521]⟩ 0,⟨[]⟩⟩),
 (243,⟨.type "tuple",none,.seq ⟨[]⟩ 0,⟨[]⟩⟩),
 (245,⟨.type "code",none,.fields ⟨[.str "_law_whole" 518,.str "_law_whole" 519,.str "/claim/cut.py" 520,.int (168) 0,.int (1) 0,.int (0) 0,.int (0) 0,.int (3) 0,.ref 240,.bool true,.int (181) 0,.ref 241,.none,.ref 242,.ref 243,.ref 244,.int (522) 0,.int (168) 0,.str "/claim/cut.py" 523]⟩,⟨[]⟩⟩),
 (246,⟨.type "function",none,fnD (dR p 30) "_law_whole" "_law_whole" 3 [] (.none) (.none) (.none) (.str "law_uf060017_07" 508) none (.ref 245) (.none) 0,⟨[]⟩⟩),
 (247,⟨.type "tuple",none,.seq ⟨[]⟩ 0,⟨[]⟩⟩),
 (249,⟨.type "tuple",none,.seq ⟨[.str "_law_cell" 528,.str "_law_k" 529]⟩ 0,⟨[]⟩⟩),
 (250,⟨.type "tuple",none,.seq ⟨[]⟩ 0,⟨[]⟩⟩),
 (252,⟨.type "code",none,.fields ⟨[.str "_law_mixed" 525,.str "_law_mixed" 526,.str "/claim/cut.py" 527,.int (170) 0,.int (2) 0,.int (0) 0,.int (0) 0,.int (3) 0,.ref 247,.bool true,.int (181) 0,.ref 248,.none,.ref 249,.ref 250,.ref 251,.int (530) 0,.int (170) 0,.str "/claim/cut.py" 531]⟩,⟨[]⟩⟩),
 (253,⟨.type "function",none,fnD (dR p 31) "_law_mixed" "_law_mixed" 3 [] (.none) (.none) (.none) (.str "law_uf060017_07" 508) none (.ref 252) (.none) 0,⟨[]⟩⟩),
 (254,⟨.type "tuple",none,.seq ⟨[]⟩ 0,⟨[]⟩⟩),
 (256,⟨.type "tuple",none,.seq ⟨[.str "_law_number" 536]⟩ 0,⟨[]⟩⟩),
 (257,⟨.type "tuple",none,.seq ⟨[]⟩ 0,⟨[]⟩⟩),
 (259,⟨.type "code",none,.fields ⟨[.str "_law_delay_by" 533,.str "_law_delay_by" 534,.str "/claim/cut.py" 535,.int (172) 0,.int (1) 0,.int (0) 0,.int (0) 0,.int (3) 0,.ref 254,.bool true,.int (181) 0,.ref 255,.none,.ref 256,.ref 257,.ref 258,.int (537) 0,.int (172) 0,.str "/claim/cut.py" 538]⟩,⟨[]⟩⟩),
 (260,⟨.type "function",none,fnD (dR p 32) "_law_delay_by" "_law_delay_by" 3 [] (.none) (.none) (.none) (.str "law_uf060017_07" 508) none (.ref 259) (.none) 0,⟨[]⟩⟩),
 (261,⟨.type "tuple",none,.seq ⟨[]⟩ 0,⟨[]⟩⟩),
 (263,⟨.type "tuple",none,.seq ⟨[.str "_law_script" 543,.str "_law_cell" 544]⟩ 0,⟨[]⟩⟩),
 (264,⟨.type "tuple",none,.seq ⟨[]⟩ 0,⟨[]⟩⟩),
 (266,⟨.type "code",none,.fields ⟨[.str "_law_many" 540,.str "_law_many" 541,.str "/claim/cut.py" 542,.int (174) 0,.int (1) 0,.int (0) 0,.int (0) 0,.int (3) 0,.ref 261,.bool true,.int (181) 0,.ref 262,.none,.ref 263,.ref 264,.ref 265,.int (545) 0,.int (174) 0,.str "/claim/cut.py" 546]⟩,⟨[]⟩⟩),
 (267,⟨.type "function",none,fnD (dR p 33) "_law_many" "_law_many" 3 [] (.none) (.none) (.none) (.str "law_uf060017_07" 508) none (.ref 266) (.none) 0,⟨[]⟩⟩),
 (268,⟨.type "tuple",none,.seq ⟨[]⟩ 0,⟨[]⟩⟩),
 (270,⟨.type "tuple",none,.seq ⟨[.str "_law_script" 551,.str "_law_many_here" 552,.str "_law_order" 553,.str "_law_ways_here" 554,.str "_law_k" 555,.str "_law_number" 556,.str "_law_turn" 557]⟩ 0,⟨[]⟩⟩),
 (271,⟨.type "tuple",none,.seq ⟨[.str "_law_cell" 558]⟩ 0,⟨[]⟩⟩),
 (273,⟨.type "code",none,.fields ⟨[.str "_law_ways" 548,.str "_law_ways" 549,.str "/claim/cut.py" 550,.int (179) 0,.int (2) 0,.int (0) 0,.int (0) 0,.int (3) 0,.ref 268,.bool true,.int (181) 0,.ref 269,.none,.ref 270,.ref 271,.ref 272,.int (559) 0,.int (179) 0,.str "/claim/cut.py" 560]⟩,⟨[]⟩⟩),
 (274,⟨.type "function",none,fnD (dR p 34) "_law_ways" "_law_ways" 3 [] (.none) (.none) (.none) (.str "law_uf060017_07" 508) none (.ref 273) (.none) 0,⟨[]⟩⟩),
 (275,⟨.type "tuple",none,.seq ⟨[]⟩ 0,⟨[]⟩⟩),
 (278,⟨.type "code",none,.fields ⟨[.str "_law_numbers_good" 562,.str "_law_numbers_good" 563,.str "/claim/cut.py" 564,.int (195) 0,.int (1) 0,.int (0) 0,.int (0) 0,.int (3) 0,.ref 275,.bool true,.int (181) 0,.ref 276,.none,.none,.none,.ref 277,.int (565) 0,.int (195) 0,.str "/claim/cut.py" 566]⟩,⟨[]⟩⟩),
 (279,⟨.type "function",none,fnD (dR p 35) "_law_numbers_good" "_law_numbers_good" 3 [] (.none) (.none) (.none) (.str "law_uf060017_07" 508) none (.ref 278) (.none) 0,⟨[]⟩⟩),
 (280,⟨.type "tuple",none,.seq ⟨[]⟩ 0,⟨[]⟩⟩),
 (283,⟨.type "code",none,.fields ⟨[.str "_law_ring_slower" 568,.str "_law_ring_slower" 569,.str "/claim/cut.py" 570,.int (197) 0,.int (5) 0,.int (0) 0,.int (0) 0,.int (3) 0,.ref 280,.bool true,.int (181) 0,.ref 281,.none,.none,.none,.ref 282,.int (571) 0,.int (197) 0,.str "/claim/cut.py" 572]⟩,⟨[]⟩⟩),
 (284,⟨.type "function",none,fnD (dR p 36) "_law_ring_slower" "_law_ring_slower" 3 [] (.none) (.none) (.none) (.str "law_uf060017_07" 508) none (.ref 283) (.none) 0,⟨[]⟩⟩),
 (285,⟨.type "tuple",none,.seq ⟨[]⟩ 0,⟨[]⟩⟩),
 (287,⟨.type "tuple",none,.seq ⟨[.str "_law_start" 577,.str "_law_ways_here" 578,.str "_law_many_here" 579,.str "_law_number" 580,.str "_law_divisor" 581,.str "_law_one" 582,.str "_law_other" 583,.str "_law_delay" 584]⟩ 0,⟨[]⟩⟩),
 (288,⟨.type "tuple",none,.seq ⟨[]⟩ 0,⟨[]⟩⟩),
 (290,⟨.type "code",none,.fields ⟨[.str "_law_start_good" 574,.str "_law_start_good" 575,.str "/claim/cut.py" 576,.int (208) 0,.int (5) 0,.int (0) 0,.int (0) 0,.int (3) 0,.ref 285,.bool true,.int (181) 0,.ref 286,.none,.ref 287,.ref 288,.ref 289,.int (585) 0,.int (208) 0,.str "/claim/cut.py" 586]⟩,⟨[]⟩⟩),
 (291,⟨.type "function",none,fnD (dR p 37) "_law_start_good" "_law_start_good" 3 [] (.none) (.none) (.none) (.str "law_uf060017_07" 508) none (.ref 290) (.none) 0,⟨[]⟩⟩),
 (292,⟨.type "tuple",none,.seq ⟨[]⟩ 0,⟨[]⟩⟩),
 (295,⟨.type "code",none,.fields ⟨[.str "_law_words" 588,.str "_law_words" 589,.str "/claim/cut.py" 590,.int (215) 0,.int (1) 0,.int (0) 0,.int (0) 0,.int (3) 0,.ref 292,.bool true,.int (181) 0,.ref 293,.none,.none,.none,.ref 294,.int (591) 0,.int (215) 0,.str "/claim/cut.py" 592]⟩,⟨[]⟩⟩),
 (296,⟨.type "function",none,fnD (dR p 38) "_law_words" "_law_words" 3 [] (.none) (.none) (.none) (.str "law_uf060017_07" 508) none (.ref 295) (.none) 0,⟨[]⟩⟩),
 (297,⟨.type "tuple",none,.seq ⟨[]⟩ 0,⟨[]⟩⟩),
 (299,⟨.type "tuple",none,.seq ⟨[.str "_law_web" 597,.str "_law_number" 598,.str "_law_divisor" 599,.str "_law_e" 600]⟩ 0,⟨[]⟩⟩),
 (300,⟨.type "tuple",none,.seq ⟨[]⟩ 0,⟨[]⟩⟩),
 (302,⟨.type "code",none,.fields ⟨[.str "_law_refused" 594,.str "_law_refused" 595,.str "/claim/cut.py" 596,.int (223) 0,.int (3) 0,.int (0) 0,.int (0) 0,.int (3) 0,.ref 297,.bool true,.int (181) 0,.ref 298,.none,.ref 299,.ref 300,.ref 301,.int (601) 0,.int (223) 0,.str "/claim/cut.py" 602]⟩,⟨[]⟩⟩),
 (303,⟨.type "function",none,fnD (dR p 39) "_law_refused" "_law_refused" 3 [] (.none) (.none) (.none) (.str "law_uf060017_07" 508) none (.ref 302) (.none) 0,⟨[]⟩⟩),
 (304,⟨.type "tuple",none,.seq ⟨[]⟩ 0,⟨[]⟩⟩),
 (306,⟨.type "tuple",none,.seq ⟨[.str "_law_found" 607,.str "_law_ways_here" 608,.str "_law_many_here" 609,.str "_law_number" 610,.str "_law_divisor" 611]⟩ 0,⟨[]⟩⟩),
 (307,⟨.type "tuple",none,.seq ⟨[]⟩ 0,⟨[]⟩⟩),
 (309,⟨.type "code",none,.fields ⟨[.str "_law_slower_good" 604,.str "_law_slower_good" 605,.str "/claim/cut.py" 606,.int (229) 0,.int (5) 0,.int (0) 0,.int (0) 0,.int (3) 0,.ref 304,.bool true,.int (181) 0,.ref 305,.none,.ref 306,.ref 307,.ref 308,.int (612) 0,.int (229) 0,.str "/claim/cut.py" 613]⟩,⟨[]⟩⟩),
 (310,⟨.type "function",none,fnD (dR p 40) "_law_slower_good" "_law_slower_good" 3 [] (.none) (.none) (.none) (.str "law_uf060017_07" 508) none (.ref 309) (.none) 0,⟨[]⟩⟩),
 (311,⟨.type "tuple",none,.seq ⟨[]⟩ 0,⟨[]⟩⟩),
 (314,⟨.type "code",none,.fields ⟨[.str "_law_stirred" 615,.str "_law_stirred" 616,.str "/claim/cut.py" 617,.int (241) 0,.int (3) 0,.int (0) 0,.int (0) 0,.int (3) 0,.ref 311,.bool true,.int (181) 0,.ref 312,.none,.none,.none,.ref 313,.int (618) 0,.int (241) 0,.str "/claim/cut.py" 619]⟩,⟨[]⟩⟩),
 (315,⟨.type "function",none,fnD (dR p 41) "_law_stirred" "_law_stirred" 3 [] (.none) (.none) (.none) (.str "law_uf060017_07" 508) none (.ref 314) (.none) 0,⟨[]⟩⟩),
 (316,⟨.type "tuple",none,.seq ⟨[]⟩ 0,⟨[]⟩⟩),
 (319,⟨.type "code",none,.fields ⟨[.str "law" 621,.str "law" 622,.str "/claim/cut.py" 623,.int (263) 0,.int (1) 0,.int (0) 0,.int (0) 0,.int (3) 0,.ref 316,.bool true,.int (181) 0,.ref 317,.none,.none,.none,.ref 318,.int (624) 0,.int (263) 0,.str "/claim/cut.py" 625]⟩,⟨[]⟩⟩),
 (320,⟨.type "function",none,fnD (dR p 42) "law" "law" 3 [] (.none) (.none) (.none) (.str "law_uf060017_07" 508) none (.ref 319) (.none) 0,⟨[]⟩⟩)]
noncomputable def K07 (P:Params):Frag:=kOf PySem.Challenge.pw_uf060017_07 P
noncomputable def q07:Program:=view PySem.Challenge.pw_uf060017_07 [1,2,3,4,5,6,7,9,10,11,13,14,15,16,17,19,21,22,23,24,25,26,27,29,30,31,32,33,34,35,36,37,38,39,40,41,42]
theorem BT:∀ P,[2,3,15,22,23,24,25,28,35,36,37,40,47,48,49,52,59,60,61,64,71,72,73,76,83,84,85,88,95,96,97,100,102,103,105,106,107,109,110,112,113,114,116,117,119,120,121,123,124,126,127,128,130,131,133,134,135,137,138,140,141,142,145,146,147,149,150,152,153,154,157,158,159,161,162,164,165,166,168,169,171,172,173,176,177,185,187,188,190,191,192,194,195,197,198,199,202,203,204,207,208,209,212,213,214,216,217,219,220,221,224,225,226,227,228,229,230,233,235,236,238,239,240,242,243,245,246,247,249,250,252,253,254,256,257,259,260,261,263,264,266,267,268,270,271,273,274,275,278,279,280,283,284,285,287,288,290,291,292,295,296,297,299,300,302,303,304,306,307,309,310,311,314,315,316,319,320]=(K07 P).map (·.1):=fun _=>by kernel_rfl
noncomputable def hk07:Hook:=kmHook K07 [2,3,15,22,23,24,25,28,35,36,37,40,47,48,49,52,59,60,61,64,71,72,73,76,83,84,85,88,95,96,97,100,102,103,105,106,107,109,110,112,113,114,116,117,119,120,121,123,124,126,127,128,130,131,133,134,135,137,138,140,141,142,145,146,147,149,150,152,153,154,157,158,159,161,162,164,165,166,168,169,171,172,173,176,177,185,187,188,190,191,192,194,195,197,198,199,202,203,204,207,208,209,212,213,214,216,217,219,220,221,224,225,226,227,228,229,230,233,235,236,238,239,240,242,243,245,246,247,249,250,252,253,254,256,257,259,260,261,263,264,266,267,268,270,271,273,274,275,278,279,280,283,284,285,287,288,290,291,292,295,296,297,299,300,302,303,304,306,307,309,310,311,314,315,316,319,320] BT [269]
noncomputable def xt07 (s:Shared):Bool:=xlAt q07 [] s && recOk (RowW.records PySem.Challenge.rw_uf060017_07.row.toRowW) s
theorem ws07:PySem.Challenge.rw_uf060017_07.wellSaid=true:=by
 rewrite [Fast.te9446332074065402090]
 kernel_rfl
theorem BQ:opening PySem.Challenge.pw_uf060017_07=plainProg PySem.Challenge.pw_uf060017_07.main.scope.names:=by kernel_rfl
theorem BV:∀ s,fenceModules? PySem.Challenge.pw_uf060017_07 s=some s:=fun _=>by kernel_rfl
theorem Ar : ∀ w : World, (fun os : OsState => (hdRun Fast.tw6613529449190102663 Fast.tw10156331382660048174 (Fast.tw11892475500146522536 Fast.tw14364793385576792824) PySem.Challenge.pw_uf060017_07 w 11 (some (.ref 6)) 5602 (hdBoot w os) (topStub PySem.Challenge.pw_uf060017_07)).map (fun s => (hdSee PySem.Challenge.pw_uf060017_07 Fast.tw5923862056798008813 (boot_heap w.params) s.abs.heap s.abs, Fast.tw4187177175401517315 q07 [] (Fast.tw5923862056798008813 PySem.Challenge.pw_uf060017_07.main.body) xt07 true s.abs, hk07.obs s.abs))) = fun _ => some (true, openGood q07 [], hk07.val w) := fun w => by kernel_rfl
theorem left07:LeftO PySem.Challenge.pw_uf060017_07 q07 [] xt07 hk07.obs hk07.val 5602:=kW BQ (by decide) BV Ar
end Mine
set_option genSizeOf false
set_option genInjectivity false
set_option bootstrap.genMatcherCode false
namespace Mine
set_option backward.match.sparseCases false
open PySem
inductive V where
 | none | bool (b:Bool) | int (i:Int) | str (s:Str) | tup (vs:List V) | ref (l:Nat) | rng (lo hi:Int) | exc (c:Nat)
inductive AO where
 | lst (vs:List V)
 | dI (es:List (Int × V))
 | dT (es:List (List Int × V))
 | inst (d:Nat)
 | att (es:List (Nat × V))
 | frz (vs:List V)
 | tab (used:Bool)
 | ztup
noncomputable abbrev Fra:=List (Option V)
noncomputable abbrev Sto:=List AO
inductive RE where
 | ok (v:V) (σ:Sto) | ex (x:Nat) (σ:Sto) | bad
inductive REs where
 | ok (vs:List V) (σ:Sto) | ex (x:Nat) (σ:Sto) | bad
inductive Fl where
 | next | brk | cont | ret (v:V)
inductive RS where
 | ok (f:Fl) (fr:Fra) (σ:Sto) | ex (x:Nat) (fr:Fra) (σ:Sto) | bad
noncomputable def RE.bind (r:RE) (k:V→Sto→RE):RE:=match r with | .ok v σ=>k v σ | _=>.bad
noncomputable def RE.binds (r:RE) (k:V→Sto→REs):REs:=match r with | .ok v σ=>k v σ | _=>.bad
noncomputable def REs.bind (r:REs) (k:List V→Sto→RE):RE:=match r with | .ok v σ=>k v σ | _=>.bad
noncomputable def REs.binds (r:REs) (k:List V→Sto→REs):REs:=match r with | .ok v σ=>k v σ | _=>.bad
noncomputable def RE.bindS (r:RE) (fr:Fra) (k:V→Sto→RS):RS:=match r with | .ok v σ=>k v σ | _=>.bad
noncomputable def RE.bindX (r:RE) (b:Bool) (fr:Fra) (k:V→Sto→RS):RS:=match r with | .ok v σ=>k v σ | .ex x σ=>(match b with | true=>.ex x fr σ | false=>.bad) | .bad=>.bad
theorem RE.binds_ok (v:V) (σ:Sto) (k):(RE.ok v σ).binds k=k v σ:=rfl
theorem REs.binds_ok (v:List V) (σ:Sto) (k):(REs.ok v σ).binds k=k v σ:=rfl
inductive BN where
 | len | max | min | list | tuple | all | int | range | setLen | revl
inductive MN where
 | append | pop | clear | extend | index
set_option genCtorIdx false in
inductive Ty where
 | int | bool | tuple | list | inst | exc (c:Nat) (ds:List Nat) | val (ds:List Nat)
set_option genCtorIdx false in
inductive KX where
 | num (i:Int) | par | var (i:Nat) | add (a b:KX) | mul (a b:KX) | mod (a b:KX)
set_option genCtorIdx false in
inductive E where
 | none | bool (b:Bool) | int (i:Int) | str (s:Str)
 | loc (i:Nat)
 | pow (a n:Nat)
 | neg (a:E) | not (a:E)
 | and (a b:E) | or (a b:E)
 | bin (op:Operator) (a b:E)
 | cmp (op:CmpOp) (a b:E)
 | cmp2 (o1 o2:CmpOp) (a b c:E)
 | sub (a i:E)
 | slo (a lo:E) | shi (a hi:E) | sst (a st:E)
 | attr (a:E) (x:Nat)
 | list (es:List E) | tup (es:List E)
 | dict0 | dict1 (k v:E)
 | call (f:Nat) (as:List E)
 | tcall (f:Nat) (as:List E)
 | mk (f:Nat) (as:List E)
 | meth (a:E) (x:MN) (as:List E)
 | umeth (a:E) (f:Nat) (as:List E)
 | blt (b:BN) (as:List E)
 | maxd (a:E)
 | isi (a:E) (t:Ty)
 | join (s:Str) (a:E)
 | srt (a:E) (key:KX)
 | comp (tg:List Nat) (one:Bool) (it:E) (conds:List E) (elt:E) (frm:List (Option Nat))
noncomputable def aO:E→Bool
 | .call _ _=>true | .mk _ _=>true | .umeth _ _ _=>true
 | _=>false
set_option genCtorIdx false in
inductive It where
 | e (a:E) | enum (a:E) | zip (a b:E)
set_option genCtorIdx false in
inductive S where
 | expr (a:E)
 | ret (a:E)
 | asg (i:Nat) (a:E)
 | asgT (is:List Nat) (a:E)
 | asgA (o:E) (x:Nat) (a:E)
 | asgI (o i a:E)
 | ifS (t:E) (b o:List S)
 | whileS (t:E) (b:List S)
 | forS (tg:List Nat) (one:Bool) (it:It) (b:List S)
 | raise (c:Nat)
 | tryS (b:List S) (ds:List Nat) (i:Nat) (h:List S)
 | pass
noncomputable def jA (s:S):Option (List S × List Nat × Nat × List S):=match s with
 | .tryS b ds i h=>some (b,ds,i,h)
 | _=>none
noncomputable def getL (σ:Sto) (l:Nat):Option (List V):=match σ[l]? with | some (.lst xs)=>some xs | _=>none
noncomputable def cN (xs:List V) (σ:Sto):RE:=if xs.length ≤ 16777216 then .ok (.ref σ.length) (σ ++ [.lst xs]) else .bad
noncomputable def bS (σ:Sto) (o:Option V):RE:=match o with | some v=>.ok v σ | none=>.bad
noncomputable def dY (σ:Sto) (o:Option Bool):RE:=match o with | some v=>.ok (.bool v) σ | none=>.bad
noncomputable abbrev fW (a b:Int):Prop:=a.natAbs < 2 ^ 64 ∨ b.natAbs < 2 ^ 64 ∨ (a.natAbs < 10 ^ 100 ∧ b.natAbs < 10 ^ 100)
noncomputable def wII (a b:V) (f:Int→Int→RE):RE:=match a with
 | .int x=>(match b with | .int y=>f x y | _=>.bad)
 | _=>.bad
noncomputable def Bq (a b:V) (σ:Sto):RE:=match a with
 | .int x=>(match b with | .int y=>.ok (.int (x + y)) σ | _=>.bad)
 | .ref l=>(match b with
  | .ref k=>(match getL σ l with
   | some xs=>(match getL σ k with | some ys=>cN (xs ++ ys) σ | none=>.bad)
   | none=>.bad)
  | _=>.bad)
 | .str x=>(match b with | .str y=>if x.length + y.length ≤ 1000 then .ok (.str (x ++ y)) σ else .bad | _=>.bad)
 | _=>.bad
noncomputable def zF (o:Option (List V)) (n:Int) (σ:Sto):RE:=match o with
 | some [x]=>if -1000000 ≤ n then cN (List.replicate n.toNat x) σ else .bad
 | _=>.bad
noncomputable def BA (a b:V) (σ:Sto):RE:=match b with
 | .int n=>(match a with
  | .int x=>if fW x n then .ok (.int (x * n)) σ else .bad
  | .ref l=>zF (getL σ l) n σ
  | _=>.bad)
 | _=>.bad
noncomputable def oi (op:Operator) (a b:V) (σ:Sto):RE:=match op with
 | .Add=>Bq a b σ
 | .Sub=>wII a b fun x y=>.ok (.int (x - y)) σ
 | .Mult=>BA a b σ
 | .FloorDiv=>wII a b fun x y=>if y ≠ 0 ∧ y.natAbs < 10 ^ 100 then .ok (.int (x.fdiv y)) σ else .bad
 | .Mod=>wII a b fun x y=>if y=0 then .bad else .ok (.int (x.fmod y)) σ
 | _=>.bad
noncomputable def aQ {α β:Type} (f:α→Option β):List α→Option (List β)
 | []=>some []
 | x :: xs=>match f x,aQ f xs with | some y,some ys=>some (y :: ys) | _,_=>none
theorem du {α β:Type}{f:α→Option β}:aQ f []=some []:=rfl
theorem gX {α β:Type}{f:α→Option β}{x:α}{xs:List α}:aQ f (x :: xs)=match f x,aQ f xs with | some y,some ys=>some (y :: ys) | _,_=>none:=rfl
noncomputable def yk:V→Option Int | .int i=>some i | _=>none
noncomputable def aA (xs:List V):Option (List Int):=aQ yk xs
noncomputable def Bz (f:V→Option PyData) (σ:Sto) (v:V):Option PyData:=match v with
 | .none=>some .none
 | .bool b=>some (.bool b)
 | .int i=>some (.int i)
 | .str s=>if PyData.strOk s then some (.str s) else none
 | .tup vs=>(aQ f vs).map .tuple
 | .ref l=>(match getL σ l with | some vs=>(aQ f vs).map .list | none=>none)
 | .rng _ _=>none
 | .exc _=>none
noncomputable def toD:Nat→Sto→V→Option PyData
 | 0=>fun _ _=>none
 | n + 1=>fun σ=>Bz (toD n σ) σ
noncomputable def eqV (σ:Sto) (a b:V):Option Bool:=match toD 5 σ a,toD 5 σ b with | some x,some y=>some (PyData.eqv x y) | _,_=>none
noncomputable def isNone:V→Bool | .none=>true | _=>false
noncomputable def inO (o:Option AO) (x:V):Option Bool:=match o with
 | some o=>(match o with
  | .lst vs=>(match x with | .int i=>(aA vs).map fun is=>decide (i ∈ is) | _=>none)
  | .dI es=>(match x with | .int i=>some (es.any fun e=>e.1 == i) | _=>none)
  | .dT es=>(match x with | .tup ks=>(aA ks).map fun k=>es.any fun e=>e.1 == k | _=>none)
  | _=>none)
 | none=>none
noncomputable def inV (σ:Sto) (x c:V):Option Bool:=match c with
 | .ref l=>inO σ[l]? x
 | _=>none
noncomputable def m9 (σ:Sto) (x c:V):Option Bool:=match x with
 | .int _=>(inV σ x c).map (!·)
 | _=>none
noncomputable def gq (op:CmpOp) (a b:V) (σ:Sto):Option Bool :=
 match op with
 | .Lt=>(match a,b with | .int x,.int y=>some (decide (x < y)) | _,_=>none)
 | .LtE=>(match a,b with | .int x,.int y=>some (decide (x ≤ y)) | _,_=>none)
 | .Gt=>(match a,b with | .int x,.int y=>some (decide (y < x)) | _,_=>none)
 | .GtE=>(match a,b with | .int x,.int y=>some (decide (y ≤ x)) | _,_=>none)
 | .Eq=>(match a,b with | .int x,.int y=>some (x == y) | _,_=>eqV σ a b)
 | .NotEq=>(match a,b with | .int x,.int y=>some (x != y) | _,_=>(eqV σ a b).map (!·))
 | .Is=>(match b with | .none=>some (isNone a) | _=>none)
 | .IsNot=>(match b with | .none=>some (!isNone a) | _=>none)
 | .In=>inV σ a b
 | .NotIn=>m9 σ a b
noncomputable def oh (xs:List V) (k:Int):Option V :=
 if 0 ≤ k then xs[k.toNat]? else if -(xs.length:Int) ≤ k then xs[(k + xs.length).toNat]? else none
noncomputable def Bs (o:Option AO) (i:V):Option V:=match o with
 | some o=>(match o with
  | .lst vs=>(match i with | .int k=>oh vs k | _=>none)
  | .frz vs=>(match i with | .int k=>oh vs k | _=>none)
  | .dI es=>(match i with | .int k=>es.lookup k | _=>none)
  | .dT es=>(match i with | .tup ks=>(aA ks).bind fun k=>es.lookup k | _=>none)
  | _=>none)
 | none=>none
noncomputable def lm (a i:V) (σ:Sto):Option V:=match a with
 | .tup vs=>(match i with | .int k=>oh vs k | _=>none)
 | .ref l=>Bs σ[l]? i
 | _=>none
noncomputable def s5 (a:V) (σ:Sto):Option Int:=match a with
 | .tup vs=>some vs.length
 | .ref l=>(match σ[l]? with | some (.lst vs)=>some vs.length | some (.frz vs)=>some vs.length | some (.dI es)=>some es.length | _=>none)
 | _=>none
noncomputable def tyK (a:V) (σ:Sto):Option Nat:=match a with
 | .int _=>some 0 | .bool _=>some 1 | .str _=>some 2 | .tup _=>some 3 | .ref l=>(getL σ l).map fun _=>4 | _=>none
noncomputable def A2 (a:V) (ds:List Nat) (f:Nat→Bool):Option Bool:=match a with
 | .exc d=>if ds.contains d then some (f d) else none
 | _=>none
noncomputable def vI (t:Ty) (a:V) (σ:Sto):Option Bool:=match t with
 | .int=>(tyK a σ).map fun k=>k == 0 || k == 1
 | .bool=>(tyK a σ).map fun k=>k == 1
 | .tuple=>(tyK a σ).map fun k=>k == 3
 | .list=>(tyK a σ).map fun k=>k == 4
 | .inst=>(match a with | .ref l=>(match σ[l]? with | some (.inst _)=>some true | _=>none) | _=>none)
 | .exc c ds=>A2 a ds fun d=>d == c
 | .val ds=>A2 a ds fun _=>true
noncomputable def gV:List Int→Option Int
 | []=>none
 | x :: xs=>some (xs.foldl (fun a b=>if a < b then b else a) x)
noncomputable def tm:List Int→Option Int
 | []=>none
 | x :: xs=>some (xs.foldl (fun a b=>if b < a then b else a) x)
noncomputable def iG (lo hi:Int):List V:=(List.range (hi - lo).toNat).map fun (k:Nat)=>V.int (lo + (k:Int))
noncomputable def su:List V→Option Bool
 | []=>some true
 | .bool b :: r=>(match su r with | some c=>some (b && c) | none=>none)
 | _=>none
noncomputable def jN (is:List Int):List Int:=is.foldl (fun acc v=>if acc.any (· == v) then acc else acc ++ [v]) []
noncomputable def Bt (as:List V) (σ:Sto):RE:=match as with
 | [a]=>bS σ ((s5 a σ).map V.int)
 | _=>.bad
noncomputable def pv (f:List Int→Option Int) (as:List V) (σ:Sto):RE:=match as with
 | [.ref l]=>bS σ ((((getL σ l).bind aA).bind f).map V.int)
 | _=>.bad
noncomputable def Bp (as:List V) (σ:Sto):RE:=match as with
 | [a,b]=>(match a with
  | .int x=>(match b with | .int y=>.ok (.int (if x < y then y else x)) σ | _=>.bad)
  | _=>.bad)
 | _=>pv gV as σ
noncomputable def zx (as:List V) (σ:Sto):RE:=match as with
 | [a]=>(match a with
  | .ref l=>(match getL σ l with | some xs=>cN xs σ | none=>.bad)
  | .rng lo hi=>cN (iG lo hi) σ
  | _=>.bad)
 | _=>.bad
noncomputable def vq (as:List V) (σ:Sto):RE:=match as with
 | [a]=>(match a with
  | .ref l=>(match getL σ l with | some xs=>.ok (.tup xs) σ | none=>.bad)
  | _=>.bad)
 | _=>.bad
noncomputable def Bo (as:List V) (σ:Sto):RE:=match as with
 | [a]=>(match a with
  | .ref l=>bS σ (((getL σ l).bind su).map V.bool)
  | _=>.bad)
 | _=>.bad
noncomputable def BJ (as:List V) (σ:Sto):RE:=match as with
 | [a]=>(match a with | .bool b=>.ok (.int (if b then 1 else 0)) σ | _=>.bad)
 | _=>.bad
noncomputable def zI (a b:Int) (σ:Sto):RE:=if -1000000 ≤ a ∧ a ≤ 1000000 ∧ -1000000 ≤ b ∧ b ≤ 1000000 then .ok (.rng a b) σ else .bad
noncomputable def vD (as:List V) (σ:Sto):RE:=match as with
 | [a]=>(match a with | .int n=>zI 0 n σ | _=>.bad)
 | [a,b]=>(match a with | .int x=>(match b with | .int y=>zI x y σ | _=>.bad) | _=>.bad)
 | _=>.bad
noncomputable def zb (as:List V) (σ:Sto):RE:=match as with
 | [a]=>(match a with
  | .ref l=>(match (getL σ l).bind aA with | some is=>if is.length ≤ 1000 then .ok (.int (jN is).length) σ else .bad | none=>.bad)
  | _=>.bad)
 | _=>.bad
noncomputable def yz (as:List V) (σ:Sto):RE:=match as with
 | [a]=>(match a with
  | .ref l=>(match getL σ l with | some xs=>cN xs.reverse σ | none=>.bad)
  | _=>.bad)
 | _=>.bad
noncomputable def gA (b:BN) (as:List V) (σ:Sto):RE:=match b with
 | .len=>Bt as σ
 | .max=>Bp as σ
 | .min=>pv tm as σ
 | .list=>zx as σ
 | .tuple=>vq as σ
 | .all=>Bo as σ
 | .int=>BJ as σ
 | .range=>vD as σ
 | .setLen=>zb as σ
 | .revl=>yz as σ
noncomputable def dq (σ:Sto) (l:Nat) (xs:List V):Sto:=σ.set l (.lst xs)
noncomputable def nC (k:Int) (v:V):List (Int × V)→List (Int × V)
 | []=>[(k,v)]
 | e :: r=>if e.1 == k then (e.1,v) :: r else e :: nC k v r
theorem putI_n {k:Int}{v:V}:nC k v []=[(k,v)]:=rfl
theorem mD {k:Int}{v:V}{e:Int × V}{r:List (Int × V)}:nC k v (e :: r)=if e.1 == k then (e.1,v) :: r else e :: nC k v r:=rfl
noncomputable def lM (k:List Int) (v:V):List (List Int × V)→List (List Int × V)
 | []=>[(k,v)]
 | e :: r=>if e.1 == k then (e.1,v) :: r else e :: lM k v r
theorem putT_n {k:List Int}{v:V}:lM k v []=[(k,v)]:=rfl
theorem mz {k:List Int}{v:V}{e:List Int × V}{r:List (List Int × V)}:lM k v (e :: r)=if e.1 == k then (e.1,v) :: r else e :: lM k v r:=rfl
abbrev tU (i:Int) (is:List Int):Prop:=i ∈ is ∧ is.length ≤ 1000 ∧ ∀ j ∈ is,j.natAbs < 1024
noncomputable def dW (x:MN) (l:Nat) (xs:List V) (as:List V) (σ:Sto):RE:=match x with
 | .append=>(match as with | [v]=>if xs.length < 16777216 then .ok .none (dq σ l (xs ++ [v])) else .bad | _=>.bad)
 | .pop=>(match as with | []=>(match xs.getLast? with | some v=>.ok v (dq σ l xs.dropLast) | none=>.bad) | _=>.bad)
 | .clear=>(match as with | []=>.ok .none (dq σ l []) | _=>.bad)
 | .extend=>(match as with
  | [v]=>(match v with
   | .ref k=>(match getL σ k with | some ys=>if xs.length + ys.length ≤ 16777216 ∧ k ≠ l then .ok .none (dq σ l (xs ++ ys)) else .bad | none=>.bad)
   | _=>.bad)
  | _=>.bad)
 | .index=>(match as with
  | [v]=>(match v with
   | .int i=>(match aA xs with | some is=>if tU i is then .ok (.int (is.idxOf i)) σ else .bad | none=>.bad)
   | _=>.bad)
  | _=>.bad)
noncomputable def zG (v:V) (σ:Sto) (f:Nat→List V→RE):RE:=match v with
 | .ref l=>(match getL σ l with | some xs=>f l xs | none=>.bad)
 | _=>.bad
noncomputable def tX (v:V) (σ:Sto) (r:RE):RE:=match v with
 | .ref l=>(match σ[l]? with
  | some o=>(match o with
   | .inst d=>(match σ[d]? with | some o=>(match o with | .att _=>r | _=>.bad) | none=>.bad)
   | _=>.bad)
  | none=>.bad)
 | _=>.bad
noncomputable def Br (o:Option AO) (l:Nat) (i v:V) (σ:Sto):Option Sto:=match o with
 | some o=>(match o with
  | .lst xs=>(match i with | .int k=>if 0 ≤ k ∧ k < xs.length then some (dq σ l (xs.set k.toNat v)) else none | _=>none)
  | .dI es=>(match i with | .int k=>if es.length < 1000000 then some (σ.set l (.dI (nC k v es))) else none | _=>none)
  | .dT es=>(match i with | .tup ks=>(aA ks).bind fun k=>if es.length < 1000000 then some (σ.set l (.dT (lM k v es))) else none | _=>none)
  | _=>none)
 | none=>none
noncomputable def dw (a i v:V) (σ:Sto):Option Sto:=match a with
 | .ref l=>Br σ[l]? l i v σ
 | _=>none
noncomputable def tx (k:Nat) (v:V):List (Nat × V)→List (Nat × V)
 | []=>[(k,v)]
 | e :: r=>if e.1 == k then (e.1,v) :: r else e :: tx k v r
theorem yC {k:Nat}{v:V}:tx k v []=[(k,v)]:=rfl
theorem u7 {k:Nat}{v:V}{e:Nat × V}{r:List (Nat × V)}:tx k v (e :: r)=if e.1 == k then (e.1,v) :: r else e :: tx k v r:=rfl
noncomputable def jr (a:V) (x:Nat) (σ:Sto):Option V:=match a with
 | .ref l=>(match σ[l]? with
  | some (.inst d)=>(match σ[d]? with | some (.att es)=>es.lookup x | _=>none)
  | _=>none)
 | _=>none
noncomputable def dk (a:V) (x:Nat) (v:V) (σ:Sto):Option Sto:=match a with
 | .ref l=>(match σ[l]? with
  | some (.inst d)=>(match σ[d]? with | some (.att es)=>if es.length < 100 then some (σ.set d (.att (tx x v es))) else none | _=>none)
  | _=>none)
 | _=>none
noncomputable def bW (tg:List Nat) (one:Bool) (v:V) (fr:Fra):Option Fra :=
 if one then (match tg with | [i]=>if i < fr.length then some (fr.set i (some v)) else none | _=>none)
 else match v with
  | .tup vs=>if vs.length=tg.length ∧ tg.all (· < fr.length) then some ((tg.zip vs).foldl (fun f p=>f.set p.1 (some p.2)) fr) else none
  | _=>none
noncomputable def ee (fr:Fra) (frm:List (Option Nat)):Fra:=frm.map fun o=>match o with | some j=>(fr[j]?).join | none=>none
noncomputable def o0 {α:Type} (p:Int × α):List (Int × α)→List (Int × α)
 | []=>[p]
 | q :: r=>if p.1 < q.1 then p :: q :: r else q :: o0 p r
theorem vc {α:Type}{p q:Int × α}{r:List (Int × α)}:o0 p (q :: r)=if p.1 < q.1 then p :: q :: r else q :: o0 p r:=rfl
noncomputable def fL {α:Type}:List (Int × α)→List (Int × α)
 | []=>[]
 | p :: r=>o0 p (fL r)
noncomputable def kxV (fr:Fra) (x:Int):KX→Option Int
 | .num i=>some i
 | .par=>some x
 | .var i=>(match fr[i]? with | some (some (.int v))=>some v | _=>none)
 | .add a b=>(kxV fr x a).bind fun p=>(kxV fr x b).map fun q=>p + q
 | .mul a b=>(kxV fr x a).bind fun p=>(kxV fr x b).bind fun q=>if fW p q then some (p * q) else none
 | .mod a b=>(kxV fr x a).bind fun p=>(kxV fr x b).bind fun q=>if q ≠ 0 then some (p.fmod q) else none
noncomputable def z6 (ks:Option (List Int)) (hi:Int) (σ:Sto):RE:=match ks with
 | some ks=>if ks.Nodup then cN ((fL (ks.zip (iG 0 hi))).map (·.2)) (σ.set 1 (.tab true)) else .bad
 | none=>.bad
noncomputable def Ak (o:Option AO) (r:RE):RE:=match o with
 | some (.tab false)=>r
 | _=>.bad
noncomputable def zC (key:KX) (fr:Fra) (v:V) (σ:Sto):RE:=match v with
 | .rng lo hi=>if lo=0 ∧ hi < 60 then Ak σ[1]? (z6 (aQ (fun (j:Nat)=>kxV fr (j:Int) key) (List.range hi.toNat)) hi σ) else .bad
 | _=>.bad
inductive Src where
 | live (l:Nat) | tup (vs:List V) | rng (lo hi:Int)
 | enum (l:Nat)
 | zip (l k p:Nat)
noncomputable def xj (σ:Sto) (p:Nat):Option Unit:=match σ[p]? with | some .ztup=>some () | _=>none
noncomputable def mq (v w:Option V):Option (Option V):=match v with
 | some v=>(match w with | some w=>some (some (V.tup [v,w])) | none=>none)
 | none=>some none
noncomputable def bc (σ:Sto) (i:Nat) (src:Src):Option (Option V):=match src with
 | .live l=>(getL σ l).map fun xs=>xs[i]?
 | .tup vs=>some vs[i]?
 | .rng lo hi=>some (iG lo hi)[i]?
 | .enum l=>(getL σ l).map fun xs=>xs[i]?.map fun v=>V.tup [.int (i:Nat),v]
 | .zip l k p=>(xj σ p).bind fun _=>(getL σ l).bind fun xs=>(getL σ k).bind fun ys=>mq xs[i]? ys[i]?
noncomputable def iI (v:V):Option Src:=match v with
 | .ref l=>some (.live l) | .tup vs=>some (.tup vs) | .rng lo hi=>some (.rng lo hi) | _=>none
noncomputable def my (σ:Sto) (src:Src):Option Nat:=match src with
 | .live l=>(getL σ l).map List.length
 | .tup vs=>some vs.length
 | .rng lo hi=>some (hi - lo).toNat
 | .enum l=>(getL σ l).map List.length
 | .zip l k _=>(getL σ l).bind fun xs=>(getL σ k).map fun _=>xs.length
noncomputable def zr (v:V):Option Src:=match v with | .ref l=>some (.enum l) | _=>none
noncomputable def zu (v w:V) (p:Nat):Option Src:=match v with | .ref l=>(match w with | .ref k=>some (.zip l k p) | _=>none) | _=>none
noncomputable def lq {α β:Type} (o:Option α) (bad:β) (k:α→β):β:=match o with | none=>bad | some x=>k x
noncomputable def oP {α:Type} (o:Option (Option V)) (bad fin:α) (k:V→α):α:=lq o bad fun o=>lq o fin k
noncomputable def tW {α:Type} (o:Option Src) (σ:Sto) (bad:α) (f:Src→Nat→α):α:=lq o bad fun src=>lq (my σ src) bad fun n=>f src (n + 1)
noncomputable def zL {α:Type} (v:V) (σ:Sto) (bad:α) (f:Src→Nat→α):α:=tW (iI v) σ bad f
noncomputable def RE.opt {α:Type} (r:RE) (k:V→Sto→Option α):Option α:=match r with | .ok v σ=>k v σ | _=>none
noncomputable def yl {α:Type} (c:V) (a b:Option α):Option α:=match c with | .bool p=>(match p with | true=>a | false=>b) | _=>none
theorem fO {α β:Type}{o:Option α}{bad z:β}{k:α→β}{G:Prop} (e:lq o bad k=z) (hb:o=none→bad=z→G) (h:∀ x,o=some x→k x=z→G):G :=
 Option.casesOn (motive:=fun t=>o=t→lq t bad k=z→G) o hb h rfl e
noncomputable def jB (r:RS):RS:=match r with | .ok f fr σ=>.ok f fr σ | _=>.bad
theorem dP {r:RS}{f:Fl}{fr:Fra} {σ:Sto} (e:jB r=.ok f fr σ):r=.ok f fr σ:=RS.casesOn (motive:=fun r=>jB r=.ok f fr σ→r=.ok f fr σ) r (fun _ _ _ h=>h) (fun _ _ _ h=>nomatch h) (fun h=>nomatch h) e
theorem fg {r:RS}{x:Nat}{fr:Fra} {σ:Sto}{P:Prop} (e:jB r=.ex x fr σ):P:=RS.casesOn (motive:=fun r=>jB r=.ex x fr σ→P) r (fun _ _ _ h=>nomatch h) (fun _ _ _ h=>nomatch h) (fun h=>nomatch h) e
theorem di {r:RS}{f:Fl}{fr:Fra} {σ:Sto} (e:r=.ok f fr σ):jB r=.ok f fr σ:=by rw [e]; rfl
noncomputable def noX (r:RE):RE:=match r with | .ok v σ=>.ok v σ | _=>.bad
noncomputable def yS (xs:List V) (σ:Sto):RE:=match xs with
 | [.str x]=>.ok (.str x) σ
 | _=>.bad
section
variable (call:Nat→List V→Sto→RE)
noncomputable def dU (ts:List (Fra→Sto→RE)) (fr:Fra) (σ:Sto):RE:=match ts with
 | []=>.ok (.bool true) σ
 | t :: r=>(t fr σ).bind fun v σ=>match v with | .bool true=>dU r fr σ | .bool false=>.ok (.bool false) σ | _=>.bad
theorem v3 {t:Fra→Sto→RE}{r:List (Fra→Sto→RE)}{fr:Fra} {σ:Sto}:dU (t :: r) fr σ=(t fr σ).bind fun v σ=>match v with | .bool true=>dU r fr σ | .bool false=>.ok (.bool false) σ | _=>.bad:=rfl
noncomputable def lX (tg:List Nat) (one:Bool) (cond elt:Fra→Sto→RE) (v:V) (fr:Fra) (σ:Sto) (acc:List V):Option (Fra × List V × Sto) :=
 (bW tg one v fr).bind fun fr=>(cond fr σ).opt fun c τ=>yl c ((elt fr τ).opt fun y υ=>some (fr,acc ++ [y],υ)) (some (fr,acc,τ))
noncomputable def eh (tg:List Nat) (one:Bool) (cond elt:Fra→Sto→RE) (src:Src):Nat→Nat→Fra→Sto→List V→REs
 | 0,_,_,_,_=>.bad
 | n + 1,i,fr,σ,acc=>oP (bc σ i src) .bad (.ok acc σ) fun v=>lq (lX tg one cond elt v fr σ acc) .bad fun t=>eh tg one cond elt src n (i + 1) t.1 t.2.2 t.2.1
mutual
noncomputable def evE:E→Fra→Sto→RE
 | .none=>fun _ σ=>.ok .none σ
 | .bool b=>fun _ σ=>.ok (.bool b) σ
 | .int i=>fun _ σ=>.ok (.int i) σ
 | .str s=>fun _ σ=>.ok (.str s) σ
 | .loc i=>fun fr σ=>match fr[i]? with | some (some v)=>.ok v σ | _=>.bad
 | .pow a n=>fun _ σ=>.ok (.int ((a:Int) ^ n)) σ
 | .neg a=>fun fr σ=>(evE a fr σ).bind fun v σ=>match v with | .int i=>.ok (.int (-i)) σ | _=>.bad
 | .not a=>fun fr σ=>(evE a fr σ).bind fun v σ=>match v with | .bool b=>.ok (.bool (!b)) σ | _=>.bad
 | .and a b=>fun fr σ=>(evE a fr σ).bind fun v σ=>match v with | .bool true=>evE b fr σ | .bool false=>.ok (.bool false) σ | _=>.bad
 | .or a b=>fun fr σ=>(evE a fr σ).bind fun v σ=>match v with | .bool false=>evE b fr σ | .bool true=>.ok (.bool true) σ | _=>.bad
 | .bin op a b=>fun fr σ=>(evE a fr σ).bind fun x σ=>(evE b fr σ).bind fun y σ=>oi op x y σ
 | .cmp op a b=>fun fr σ=>(evE a fr σ).bind fun x σ=>(evE b fr σ).bind fun y σ=>dY σ (gq op x y σ)
 | .cmp2 o1 o2 a b c=>fun fr σ=>(evE a fr σ).bind fun x σ=>(evE b fr σ).bind fun y σ=>match gq o1 x y σ with
   | some true=>(evE c fr σ).bind fun z σ=>dY σ (gq o2 y z σ)
   | some false=>.ok (.bool false) σ
   | none=>.bad
 | .sub a i=>fun fr σ=>(evE a fr σ).bind fun x σ=>(evE i fr σ).bind fun y σ=>bS σ (lm x y σ)
 | .slo a lo=>fun fr σ=>(evE a fr σ).bind fun x σ=>(evE lo fr σ).bind fun y σ=>match x,y with
   | .ref l,.int k=>(match getL σ l with | some xs=>if 0 ≤ k then cN (xs.drop k.toNat) σ else .bad | none=>.bad)
   | _,_=>.bad
 | .shi a hi=>fun fr σ=>(evE a fr σ).bind fun x σ=>(evE hi fr σ).bind fun y σ=>match x,y with
   | .ref l,.int k=>(match getL σ l with | some xs=>if 0 ≤ k then cN (xs.take k.toNat) σ else .bad | none=>.bad)
   | _,_=>.bad
 | .sst a st=>fun fr σ=>(evE a fr σ).bind fun x σ=>(evE st fr σ).bind fun y σ=>match x,y with
   | .ref l,.int k=>(match getL σ l with | some xs=>if k=1 then cN xs σ else if k=-1 then cN xs.reverse σ else .bad | none=>.bad)
   | _,_=>.bad
 | .attr a x=>fun fr σ=>(evE a fr σ).bind fun v σ=>bS σ (jr v x σ)
 | .list es=>fun fr σ=>(b6 es fr σ).bind fun vs σ=>cN vs σ
 | .tup es=>fun fr σ=>(b6 es fr σ).bind fun vs σ=>if vs.length ≤ 1000 then .ok (.tup vs) σ else .bad
 | .dict0=>fun _ σ=>.ok (.ref σ.length) (σ ++ [.dT []])
 | .dict1 k v=>fun fr σ=>(evE k fr σ).bind fun x σ=>(evE v fr σ).bind fun y σ=>match x with
   | .int i=>.ok (.ref σ.length) (σ ++ [.dI [(i,y)]])
   | _=>.bad
 | .call f as=>fun fr σ=>(b6 as fr σ).bind fun vs σ=>call f vs σ
 | .tcall f as=>fun fr σ=>(b6 as fr σ).bind fun vs σ=>noX (call f vs σ)
 | .mk f as=>fun fr σ=>(b6 as fr σ).bind fun vs σ =>
   match call f (.ref (σ.length + 1) :: vs) (σ ++ [.att [],.inst σ.length]) with
   | .ok .none σ'=>.ok (.ref (σ.length + 1)) σ'
   | .ok _ _=>.bad
   | .ex x σ'=>.ex x σ'
   | .bad=>.bad
 | .meth a x as=>fun fr σ=>(evE a fr σ).bind fun v σ=>zG v σ fun _ _=>(b6 as fr σ).bind fun vs σ=>zG v σ fun l xs=>dW x l xs vs σ
 | .umeth a f as=>fun fr σ=>(evE a fr σ).bind fun v σ=>tX v σ ((b6 as fr σ).bind fun vs σ=>call f (v :: vs) σ)
 | .blt b as=>fun fr σ=>(b6 as fr σ).bind fun vs σ=>gA b vs σ
 | .maxd a=>fun fr σ=>(evE a fr σ).bind fun v σ=>match v with
   | .ref l=>(match (getL σ l).bind aA with | some []=>.ok .none σ | some is=>bS σ ((gV is).map V.int) | none=>.bad)
   | _=>.bad
 | .isi a t=>fun fr σ=>(evE a fr σ).bind fun v σ=>dY σ (vI t v σ)
 | .join _ a=>fun fr σ=>(evE a fr σ).bind fun v σ=>zG v σ fun _ xs=>yS xs σ
 | .srt a key=>fun fr σ=>(evE a fr σ).bind fun v σ=>zC key fr v σ
 | .comp tg one it conds elt frm=>fun fr σ=>(evE it fr σ).bind fun v σ=>(zL v σ REs.bad fun src n=>eh tg one (dU (ln conds)) (evE elt) src n 0 (ee fr frm) σ []).bind fun ys σ=>cN ys σ
noncomputable def b6:List E→Fra→Sto→REs
 | []=>fun _ σ=>.ok [] σ
 | e :: es=>fun fr σ=>(evE e fr σ).binds fun v σ=>(b6 es fr σ).binds fun vs σ=>.ok (v :: vs) σ
noncomputable def ln:List E→List (Fra→Sto→RE)
 | []=>[]
 | e :: es=>evE e :: ln es
end
theorem yc {e:E}{es:List E}:ln call (e :: es)=evE call e :: ln call es:=rfl
noncomputable def wC (r:RS) (k:Fra→Sto→RS):RS:=match r with
 | .ok f fr σ=>(match f with | .next=>k fr σ | .cont=>k fr σ | .brk=>.ok .next fr σ | .ret v=>.ok (.ret v) fr σ)
 | .ex x fr σ=>.ex x fr σ
 | .bad=>.bad
noncomputable def cm (test:Fra→Sto→RE) (body:Fra→Sto→RS):Nat→Fra→Sto→RS
 | 0,_,_=>.bad
 | n + 1,fr,σ=>(test fr σ).bindS fr fun v σ=>match v with
  | .bool b=>(match b with | false=>.ok .next fr σ | true=>wC (body fr σ) (cm test body n))
  | _=>.bad
noncomputable def lu (tg:List Nat) (one:Bool) (body:Fra→Sto→RS) (src:Src):Nat→Nat→Fra→Sto→RS
 | 0,_,_,_=>.bad
 | n + 1,i,fr,σ=>oP (bc σ i src) .bad (.ok .next fr σ) fun v=>lq (bW tg one v fr) .bad fun fr=>wC (body fr σ) (lu tg one body src n (i + 1))
variable (wf:Nat)
mutual
noncomputable def evS:S→Fra→Sto→RS
 | .expr a=>fun fr σ=>(evE call a fr σ).bindX (aO a) fr fun _ σ=>.ok .next fr σ
 | .ret a=>fun fr σ=>(evE call a fr σ).bindX (aO a) fr fun v σ=>.ok (.ret v) fr σ
 | .asg i a=>fun fr σ=>(evE call a fr σ).bindX (aO a) fr fun v σ=>if i < fr.length then .ok .next (fr.set i (some v)) σ else .bad
 | .asgT is a=>fun fr σ=>jB ((evE call a fr σ).bindS fr fun v σ=>match bW is false v fr with | some fr=>.ok .next fr σ | none=>.bad)
 | .asgA o x a=>fun fr σ=>jB ((evE call a fr σ).bindS fr fun v σ=>(evE call o fr σ).bindS fr fun w σ=>match dk w x v σ with
   | some σ=>.ok .next fr σ | none=>.bad)
 | .asgI o i a=>fun fr σ=>jB ((evE call a fr σ).bindS fr fun v σ=>(evE call o fr σ).bindS fr fun w σ=>(evE call i fr σ).bindS fr fun k σ=>match dw w k v σ with
   | some σ=>.ok .next fr σ | none=>.bad)
 | .ifS t b o=>fun fr σ=>(evE call t fr σ).bindS fr fun v σ=>match v with
   | .bool true=>evSs b fr σ | .bool false=>evSs o fr σ | _=>.bad
 | .whileS t b=>fun fr σ=>jB (cm (evE call t) (evSs b) wf fr σ)
 | .forS tg one it b=>fun fr σ=>match it with
   | .e a=>(evE call a fr σ).bindS fr fun v σ=>zL v σ RS.bad fun src n=>lu tg one (evSs b) src n 0 fr σ
   | .enum a=>jB ((evE call a fr σ).bindS fr fun v σ=>tW (zr v) σ RS.bad fun src n=>lu tg one (evSs b) src n 0 fr σ)
   | .zip a c=>jB ((evE call a fr σ).bindS fr fun v σ=>(evE call c fr σ).bindS fr fun w σ=>tW (zu v w σ.length) σ RS.bad fun src n=>lu tg one (evSs b) src n 0 fr (σ ++ [.ztup]))
 | .raise c=>fun fr σ=>.ex c fr σ
 | .tryS _ _ _ _=>fun _ _=>.bad
 | .pass=>fun fr σ=>.ok .next fr σ
noncomputable def evSs:List S→Fra→Sto→RS
 | []=>fun fr σ=>.ok .next fr σ
 | s :: ss=>fun fr σ=>match evS s fr σ with
  | .ok .next fr σ=>evSs ss fr σ
  | r=>r
end
end
section
variable (call callH:Nat→List V→Sto→RE) (wf:Nat)
noncomputable def evT:List S→Fra→Sto→RS
 | [],fr,σ=>.ok .next fr σ
 | s :: ss,fr,σ=>match jA s with
  | some t=>(match evSs call wf t.1 fr σ with
   | .ok f fr σ=>(match f with | .next=>evT ss fr σ | f=>.ok f fr σ)
   | .ex x fr σ=>if t.2.1.contains x ∧ t.2.2.1 < fr.length then (match evSs callH wf t.2.2.2 (fr.set t.2.2.1 (some (.exc x))) σ with
    | .ok f fr σ=>(match f with | .next=>evT ss (fr.set t.2.2.1 none) σ | f=>.ok f (fr.set t.2.2.1 none) σ)
    | _=>.bad) else .bad
   | .bad=>.bad)
  | none=>(match evS call wf s fr σ with
   | .ok f fr σ=>(match f with | .next=>evT ss fr σ | f=>.ok f fr σ)
   | _=>.bad)
end
structure Fn where
 ps:List Nat
 size:Nat
 body:List S
noncomputable def n0:List Nat→List V→Fra→Fra
 | p :: ps,v :: vs,fr=>n0 ps vs (fr.set p (some v))
 | _,_,fr=>fr
theorem qv {p:Nat}{ps:List Nat}{v:V}{vs:List V}{fr:Fra}:n0 (p :: ps) (v :: vs) fr=n0 ps vs (fr.set p (some v)):=rfl
noncomputable def aS (f:Fn) (vs:List V):Fra:=n0 f.ps vs (List.replicate f.size none)
noncomputable def tt (r:RS):RE:=match r with
 | .ok f _ σ=>(match f with | .ret v=>.ok v σ | .next=>.ok .none σ | _=>.bad)
 | .ex x _ σ=>.ex x σ
 | .bad=>.bad
noncomputable def evFn (P:Nat→Option Fn) (wf:Nat):Nat→Nat→List V→Sto→RE
 | 0,_,_,_=>.bad
 | n + 1,f,vs,σ=>match P f with
  | none=>.bad
  | some fn=>if vs.length=fn.ps.length then tt (evSs (evFn P wf n) wf fn.body (aS fn vs) σ) else .bad
theorem uO {P:Nat→Option Fn}{wf n k:Nat}{vs:List V} {σ:Sto}:evFn P wf (n + 1) k vs σ=(match P k with | none=>RE.bad | some fn=>if vs.length=fn.ps.length then tt (evSs (evFn P wf n) wf fn.body (aS fn vs) σ) else .bad):=rfl
theorem iD {P:Nat→Option Fn}{wf n k:Nat}{fn:Fn}{vs:List V} {σ:Sto} (hP:P k=some fn) (hl:vs.length=fn.ps.length):evFn P wf (n + 1) k vs σ=tt (evSs (evFn P wf n) wf fn.body (aS fn vs) σ):=by
 rw [uO,hP]; exact if_pos hl
theorem p9 {P:Nat→Option Fn}{wf n k:Nat}{vs:List V} {σ:Sto}{r:RE} (ev:evFn P wf (n + 1) k vs σ=r) (hr:RE.bad ≠ r):∃ fn,P k=some fn ∧ vs.length=fn.ps.length ∧ tt (evSs (evFn P wf n) wf fn.body (aS fn vs) σ)=r:=by
 rw [uO] at ev
 cases q:P k with
 | none=>rw [q] at ev; exact absurd ev hr
 | some fn =>
  rw [q] at ev
  by_cases hl:vs.length=fn.ps.length
  ·exact ⟨fn,rfl,hl,(if_pos hl).symm.trans ev⟩
  ·exact absurd ((if_neg hl).symm.trans ev) hr
noncomputable def ba (P T:Nat→Option Fn) (wf n:Nat) (k:Nat) (vs:List V) (σ:Sto):RE:=match T k with
 | some fn=>if vs.length=fn.ps.length then noX (tt (evT (evFn P wf n) (evFn P wf n) wf fn.body (aS fn vs) σ)) else .bad
 | none=>evFn P wf n k vs σ
end Mine
set_option genSizeOf false
set_option genInjectivity false
set_option bootstrap.genMatcherCode false
namespace Mine
set_option backward.match.sparseCases false
open PySem
structure CE where
 names:List (Str × NameKind)
 fns:List (Str × Nat)
 clss:List (Str × Nat)
 excs:List (Str × Nat)
 mths:List (Str × Nat)
 attrs:List (Str × Nat)
 consts:List (Str × Int)
 lam:Option Nat
 hnd:Bool:=false
 hfns:List (Str × Nat):=[]
 pe:Option (Str × Nat):=none
 top:Option (List (Str × NameKind)):=none
 tfns:List (Str × Nat):=[]
noncomputable def CE.loc? (c:CE) (x:Str):Option Nat:=match c.names.lookup x with
 | some .local | some .cell | some .free=>c.names.findIdx? (·.1 == x)
 | _=>none
noncomputable def CE.locW? (c:CE) (x:Str):Option Nat:=match c.names.lookup x with
 | some .local | some .cell=>c.names.findIdx? (·.1 == x)
 | _=>none
noncomputable def CE.glob (c:CE) (x:Str):Bool:=c.names.lookup x == some .globalImplicit
noncomputable def CE.sub (c:CE) (names:List (Str × NameKind)):CE:={ c with names:=names }
noncomputable def fT {α β γ:Type} (f:α→β→γ) (a:Option α) (b:Option β):Option γ:=a.bind fun x=>b.map fun y=>f x y
noncomputable def vB {α β γ δ:Type} (f:α→β→γ→δ) (a:Option α) (b:Option β) (c:Option γ):Option δ:=a.bind fun x=>fT (f x) b c
noncomputable def gd {α:Type} (b:Bool) (x:Option α):Option α:=match b with | true=>x | false=>none
theorem nn {α:Type}{z:α}{P:Prop} (h:(none:Option α)=some z):P:=nomatch h
theorem ft {P:Prop} (h:false=true):P:=nomatch h
theorem tf {P:Prop} (h:true=false):P:=nomatch h
theorem si {α:Type}{a b:α}{P:α→Prop} (h:some a=some b) (H:P a):P b:=Option.some.inj h ▸ H
theorem dD {α β γ:Type}{f:α→β→γ}{a:Option α}{b:Option β}{z:γ}:fT f a b=some z→∃ x y,a=some x ∧ b=some y ∧ f x y=z :=
 Option.casesOn a nn fun x=>Option.casesOn b nn fun y h=>⟨x,y,rfl,rfl,Option.some.inj h⟩
theorem sz {α β γ δ:Type}{f:α→β→γ→δ}{a:Option α}{b:Option β}{c:Option γ}{w:δ}:vB f a b c=some w→∃ x y z,a=some x ∧ b=some y ∧ c=some z ∧ f x y z=w :=
 Option.casesOn a nn fun x=>Option.casesOn b nn fun y=>Option.casesOn c nn fun z h=>⟨x,y,z,rfl,rfl,rfl,Option.some.inj h⟩
theorem bX {α β γ:Type}{f:α→β→γ}{a:Option α}{b:Option β}{z:γ}{G:Prop} (h:fT f a b=some z) (k:∀ x y,a=some x→b=some y→f x y=z→G):G:=let ⟨x,y,h1,h2,h3⟩:=dD h; k x y h1 h2 h3
theorem d5 {α β γ δ:Type}{f:α→β→γ→δ}{a:Option α}{b:Option β}{c:Option γ}{w:δ}{G:Prop} (h:vB f a b c=some w) (k:∀ x y z,a=some x→b=some y→c=some z→f x y z=w→G):G:=let ⟨x,y,z,h1,h2,h3,h4⟩:=sz h; k x y z h1 h2 h3 h4
theorem au {α:Type}{b:Bool}{x:Option α}{z:α}:gd b x=some z→b=true ∧ x=some z:=Bool.casesOn b nn fun h=>⟨rfl,h⟩
theorem bD {α β:Type}{f:α→β}{a:Option α}{z:β}:a.map f=some z→∃ x,a=some x ∧ f x=z:=Option.casesOn a nn fun x h=>⟨x,rfl,Option.some.inj h⟩
theorem aU {α β:Type}{f:α→Option β}{a:Option α}{z:β}:a.bind f=some z→∃ x,a=some x ∧ f x=some z:=Option.casesOn a nn fun x h=>⟨x,rfl,h⟩
theorem bT {α β:Type}{f:α→β}{a:Option α}{z:β}{G:Prop} (h:a.map f=some z) (k:∀ x,a=some x→f x=z→G):G:=let ⟨x,h1,h2⟩:=bD h; k x h1 h2
theorem bq {α β:Type}{f:α→Option β}{a:Option α}{z:β}{G:Prop} (h:a.bind f=some z) (k:∀ x,a=some x→f x=some z→G):G:=let ⟨x,h1,h2⟩:=aU h; k x h1 h2
theorem af {a b:Bool}:(a && b)=true→a=true ∧ b=true:=Bool.casesOn a ft fun h=>⟨rfl,h⟩
theorem aP {a:Bool}:(!a)=true→a=false:=Bool.casesOn a (fun _=>rfl) ft
inductive EV where
 | name (x:Str) | const (k:Const) | slice (t:Option Expr × Option Expr × Option Expr) | lc | tup (ts:List Expr) | attr (t:Expr × Str × Pos) | sub (t:Expr × Expr) | call (t:Expr × List Expr × List Keyword) | bin (t:Expr × Operator × Expr) | lam (t:Arguments × Expr × Scope × Pos) | other
noncomputable def vw:Expr→EV
 | .Name x _=>.name x
 | .Constant k _ _=>.const k
 | .Slice a b c _=>.slice (a,b,c)
 | .ListComp ..=>.lc
 | .Tuple ts _ _=>.tup ts
 | .Attribute o x p=>.attr (o,x,p)
 | .Subscript o i _=>.sub (o,i)
 | .Call f as ks _=>.call (f,as,ks)
 | .BinOp l op r _=>.bin (l,op,r)
 | .Lambda ps e sc p=>.lam (ps,e,sc,p)
 | _=>.other
def BH (e:Expr):EV→Prop
 | .name x=>∃ p,e=.Name x p
 | .const k=>∃ a p,e=.Constant k a p
 | .slice t=>∃ p,e=.Slice t.1 t.2.1 t.2.2 p
 | .tup ts=>∃ k p,e=.Tuple ts k p
 | .attr t=>e=.Attribute t.1 t.2.1 t.2.2
 | .sub t=>∃ p,e=.Subscript t.1 t.2 p
 | .call t=>∃ p,e=.Call t.1 t.2.1 t.2.2 p
 | .bin t=>∃ p,e=.BinOp t.1 t.2.1 t.2.2 p
 | .lam t=>e=.Lambda t.1 t.2.1 t.2.2.1 t.2.2.2
 | _=>True
theorem Be (e:Expr):BH e (vw e):=by
 cases e <;> first | exact True.intro | exact ⟨_,rfl⟩ | exact ⟨_,_,rfl⟩ | rfl
theorem bE {e:Expr}{v:EV} (h:vw e=v):BH e v:=h ▸ Be e
noncomputable def dS (e:Expr):Option Str:=match vw e with | .name x=>some x | _=>none
noncomputable def jD (e:Expr):Option Int:=match vw e with | .const (.int i)=>some i | _=>none
noncomputable def vf (e:Expr):Bool:=match vw e with | .const (.str _)=>true | _=>false
noncomputable def BB (e:Expr):Bool:=match vw e with | .lc=>true | _=>false
noncomputable def wi (e:Expr):Bool:=match vw e with | .name _=>false | .call _=>false | .sub _=>false | _=>true
theorem bK {e:Expr}{x:Str} (h:dS e=some x):∃ p,e=.Name x p:=by
 unfold dS at h
 cases q:vw e <;> rw [q] at h <;> first | exact nn h | skip
 exact Option.some.inj h ▸ bE q
set_option tactic.hygienic true in
theorem gM {e:Expr}{x:Int} (h:jD e=some x):∃ k p,e=.Constant (.int x) k p:=by
 unfold jD at h
 cases q:vw e <;> rw [q] at h <;> first | exact nn h | skip
 rename_i k; cases k <;> first | exact nn h | skip
 exact Option.some.inj h ▸ bE q
theorem mK {e:Expr} (h:BB e=false):∀ a b c d,e ≠ .ListComp a b c d:=by
 intro a b c d q; subst q; exact tf h
theorem pJ {e:Expr} (h:wi e=false):(∃ x p,e=.Name x p) ∨ (∃ f as ks p,e=.Call f as ks p) ∨ ∃ o i p,e=.Subscript o i p:=by
 unfold wi at h
 cases q:vw e <;> rw [q] at h <;> first | exact tf h | skip
 ·exact .inl ⟨_,bE q⟩
 ·exact .inr (.inr ⟨_,_,bE q⟩)
 ·exact .inr (.inl ⟨_,_,_,bE q⟩)
noncomputable def bM (c:CE):List Expr→Option (List Nat)
 | []=>some []
 | e :: r=>fT List.cons ((dS e).bind c.locW?) (bM c r)
noncomputable def tgt (c:CE) (e:Expr):Option (List Nat × Bool):=match dS e with
 | some x=>(c.locW? x).map fun i=>([i],true)
 | none=>(match vw e with | .tup es=>(bM c es).map fun is=>(is,false) | _=>none)
noncomputable def CE.locC? (c:CE) (x:Str):Option Nat:=match c.names.lookup x with
 | some .cell | some .free=>c.names.findIdx? (·.1 == x)
 | _=>none
noncomputable def yt (c:CE) (p:Str × NameKind):Option (Option Nat):=match p.2 with
 | .free=>(c.locC? p.1).map some
 | .cell=>none
 | _=>some none
noncomputable def fj (c:CE) (sc:Scope):Option (List (Option Nat)):=gd (!(c.top == some sc.names)) (aQ (yt c) sc.names)
noncomputable def oU (sc:Scope):Bool:=(match sc.kind with | .function=>true | _=>false) && decide ((sc.names.map (·.1)).Nodup)
noncomputable def Bv:Operator→Bool
 | .Add | .Sub | .Mult | .FloorDiv | .Mod=>true
 | _=>false
noncomputable def bltName:List (Str × BN):=[("len",.len),("max",.max),("min",.min),("list",.list),("tuple",.tuple),("all",.all),("int",.int),("range",.range)]
noncomputable def bOk:BN→Bool
 | .len=>true
 | .min | .list | .range=>true
 | .max=>true
 | .tuple=>true
 | .all=>true
 | _=>false
noncomputable def tyName:List (Str × Ty):=[("int",.int),("bool",.bool),("tuple",.tuple),("list",.list)]
noncomputable def dO:List (Str × MN):=[("append",.append),("pop",.pop),("index",.index)
 ,("clear",.clear),("extend",.extend)
 ]
noncomputable def mOk:MN→Bool
 | _=>true
noncomputable def mkB (op:BoolOp) (x y:E):E:=match op with | .And=>.and x y | .Or=>.or x y
noncomputable def gf (op:BoolOp):List E→Option E
 | []=>none
 | [x]=>some x
 | x :: r=>(gf op r).map fun y=>mkB op x y
noncomputable def dB (op:CmpOp) (r:Expr):Bool:=!behindInMarks op r
noncomputable def d0 (e:Expr):Bool:=match vw e with
 | .name _=>true
 | .attr _=>true
 | .sub _=>true
 | .call t=>(match vw t.1 with | .attr _=>true | _=>false)
 | _=>false
set_option tactic.hygienic true in
theorem jw {o:Expr}{x:Str}{env:Env}{act:Sem Value} (h:d0 o=true):attributeBase o x env act=act:=by
 unfold d0 at h
 cases q:vw o <;> rw [q] at h <;> first | exact ft h | skip
 ·obtain ⟨p,rfl⟩:=bE q; rfl
 ·have e:o=_:=bE q
  subst e; rfl
 ·obtain ⟨p,rfl⟩:=bE q; rfl
 ·obtain ⟨p,rfl⟩:=bE q
  rename_i t
  have h:(match vw t.1 with | .attr _=>true | _=>false)=true:=h
  cases q2:vw t.1 <;> rw [q2] at h <;> first | exact ft h | skip
  have e:t.1=_:=bE q2
  rw [e]; rfl
inductive CK where
 | setLen (a:Expr) | revl (a:Expr) | isi (a:Expr) (t:Str) | plain
noncomputable def Ax {α:Type} (f:Expr→Expr→Option α) (t:Expr × List Expr × List Keyword):Option α:=match t.2.1 with
 | [a]=>(match t.2.2 with | []=>f t.1 a | _=>none)
 | _=>none
theorem nW {α:Type}{f:Expr→Expr→Option α}{t:Expr × List Expr × List Keyword}{z:α} (h:Ax f t=some z):∃ a,t.2=([a],[]) ∧ f t.1 a=some z:=by
 obtain ⟨fn,as,ks⟩:=t
 rcases as with _ | ⟨a,_ | ⟨b,as⟩⟩
 ·exact nn h
 ·cases ks with
  | nil=>exact ⟨a,rfl,h⟩
  | cons=>exact nn h
 ·exact nn h
noncomputable def iy (e:Expr):Option (Str × Expr):=match vw e with
 | .call t=>Ax (fun f a=>(dS f).map fun x=>(x,a)) t
 | _=>none
set_option tactic.hygienic true in
theorem iU {e:Expr}{t:Str × Expr} (h:iy e=some t):∃ fp p,e=.Call (.Name t.1 fp) [t.2] [] p:=by
 unfold iy at h
 cases q:vw e <;> rw [q] at h <;> first | exact nn h | skip
 rename_i u
 obtain ⟨a,h1,h2⟩:=nW h
 refine bT h2 fun x h3 qx2=>?_; subst qx2
 obtain ⟨p,hp⟩:=bE q
 obtain ⟨fp,h4⟩:=bK h3
 rw [h1,h4] at hp
 exact ⟨fp,p,hp⟩
noncomputable def ck1 (c:CE) (f:Str) (t:Str × Expr):CK:=match (f == ("len":Str) && (t.1 == ("set":Str) && (c.glob f && c.glob t.1))) with
 | true=>.setLen t.2
 | false=>(match (f == ("list":Str) && (t.1 == ("reversed":Str) && (c.glob f && c.glob t.1))) with | true=>.revl t.2 | false=>.plain)
noncomputable def ck2 (c:CE) (f:Str) (a:Expr) (t:Str):CK:=match (f == ("isinstance":Str) && (c.glob f && (c.glob t && !(t == ("__debug__":Str))))) with
 | true=>.isi a t
 | false=>.plain
noncomputable def jO (c:CE) (f:Str) (args:List Expr):CK:=match args with
 | [a]=>(match iy a with | some t=>ck1 c f t | none=>.plain)
 | [a,t]=>(match dS t with | some x=>ck2 c f a x | none=>.plain)
 | _=>.plain
noncomputable def pU (c:CE) (t:Str):Option Ty:=match tyName.lookup t with
 | some ty=>some ty
 | none=>(match c.clss.lookup t with
  | some _=>some .inst
  | none=>(match c.excs.lookup t with
   | some C=>some (.exc C (c.excs.map (·.2)))
   | none=>gd (t == ("ValueError":Str)) (some (.val (c.excs.map (·.2))))))
noncomputable def i0 (c:CE) (f:Str) (as:List E):Option E:=match bltName.lookup f with
 | some b=>gd (bOk b && !c.hnd) (some (.blt b as))
 | none=>(match c.fns.lookup f with
  | some k=>some (.call k as)
  | none =>
   (match c.tfns.lookup f with
   | some k=>gd (c.top == some c.names) (some (.tcall k as))
   | none =>
   (c.clss.lookup f).map fun k=>.mk k as)
   )
noncomputable def nt (c:CE) (x:Str) (a:E) (as:List E):Option E:=match dO.lookup x with
 | some m=>some (.meth a m as)
 | none=>(c.mths.lookup x).map fun f=>.umeth a f as
noncomputable def vk:Const→Option E
 | .none=>some .none
 | .bool b=>some (.bool b)
 | .int i=>some (.int i)
 | .str s=>some (.str s)
 | _=>none
noncomputable def yj (c:CE) (x:Str):Option E:=gd (!(x == ("__debug__":Str)) && !(x == ("__classdict__":Str))) (match c.loc? x with
 | some i=>some (.loc i)
 | none=>gd (c.glob x) ((c.consts.lookup x).map .int))
noncomputable def AF:Operator→Bool | .Pow=>true | _=>false
noncomputable def AK (f:Expr→Option E) (l:Expr) (op:Operator) (r:Expr):Option E:=match Bv op with
 | true=>fT (.bin op) (f l) (f r)
 | false=>gd (AF op) ((jD l).bind fun a=>(jD r).bind fun b=>gd (decide (0 ≤ a ∧ a ≤ 10 ∧ 0 ≤ b ∧ b ≤ 100)) (some (.pow a.toNat b.toNat)))
noncomputable def cUn (f:Expr→Option E) (op:UnaryOp) (x:Expr):Option E:=match op with
 | .Not=>(f x).map .not
 | .USub=>(f x).map .neg
 | _=>none
noncomputable def zH (f:Expr→Option E) (l:Expr) (ops:List CmpOp) (rs:List Expr):Option E:=match ops with
 | [op]=>(match rs with | [r]=>gd (dB op r) (fT (.cmp op) (f l) (f r)) | _=>none)
 | [o1,o2]=>(match rs with | [m,r]=>gd (dB o2 r) (vB (.cmp2 o1 o2) (f l) (f m) (f r)) | _=>none)
 | _=>none
noncomputable def vt (f:Expr→Option E) (v:Expr):Option Expr→Option Expr→Option Expr→Option E
 | some lo,none,none=>fT .slo (f v) (f lo)
 | none,some hi,none=>fT .shi (f v) (f hi)
 | _,_,_=>none
noncomputable def zW (f:Expr→Option E) (v i:Expr):Option E:=match vw i with
 | .slice t=>vt f v t.1 t.2.1 t.2.2
 | _=>fT .sub (f v) (f i)
noncomputable def yh (f:Expr→Option E) (ks:List (Option Expr)) (vs:List Expr):Option E:=match ks with
 | []=>(match vs with | []=>some .dict0 | _=>none)
 | [some k]=>(match vs with | [v]=>fT .dict1 (f k) (f v) | _=>none)
 | _=>none
noncomputable def nH (c:CE) (f:Expr→Option E) (x:Str) (args:List Expr):Option E:=match jO c x args with
 | .setLen a=>gd (!c.hnd) ((f a).map fun x=>.blt .setLen [x])
 | .revl a=>gd (!c.hnd) ((f a).map fun x=>.blt .revl [x])
 | .isi a t=>fT .isi (f a) (pU c t)
 | .plain=>gd (decide (args.length ≤ 8) && (c.glob x && !(x == ("__debug__":Str)))) ((aQ f args).bind fun as=>i0 c x as)
noncomputable def Ap (op:Operator) (a b:Option KX):Option KX:=match op with
 | .Add=>fT .add a b
 | .Mult=>fT .mul a b
 | .Mod=>fT .mod a b
 | _=>none
noncomputable def rT (c:CE) (p:Str) (sc:Scope) (x:Str):Option KX:=match (x == p) with
 | true=>some .par
 | false=>gd (sc.names.lookup x == some .free && !(x == ("__classdict__":Str))) ((c.locC? x).map .var)
noncomputable def oZ:Nat→CE→Str→Scope→Expr→Option KX
 | 0,_,_,_,_=>none
 | n + 1,c,p,sc,e=>match vw e with
  | .const k=>(match k with | .int i=>some (.num i) | _=>none)
  | .name x=>gd (!(x == ("__debug__":Str))) (rT c p sc x)
  | .bin t=>Ap t.2.1 (oZ n c p sc t.1) (oZ n c p sc t.2.2)
  | _=>none
noncomputable def BF (ps:Arguments):Option Str:=match ps.args with
 | [a]=>gd (ps.posonlyargs.isEmpty && (ps.vararg.isNone && (ps.kwonlyargs.isEmpty && (ps.kw_defaults.isEmpty && (ps.kwarg.isNone && ps.defaults.isEmpty))))) (some a.arg)
 | _=>none
noncomputable def pH (c:CE) (f:Expr→Option E) (x:Str) (a:Expr) (kw:Option Str) (t:Arguments × Expr × Scope × Pos):Option E :=
 gd (kw == some ("key":Str) && (x == ("sorted":Str) && (c.glob x && (c.lam.isSome && (oU t.2.2.1 && (!t.2.2.1.isGenerator && (!t.2.2.1.isCoroutine && (fj c t.2.2.1).isSome)))))))
  ((BF t.1).bind fun p=>gd (t.2.2.1.names.lookup p == some .local) (fT .srt (f a) (oZ 10 c p t.2.2.1 t.2.1)))
noncomputable def o7 (c:CE) (f:Expr→Option E) (x:Str) (args:List Expr) (k:Keyword):Option E:=match args with
 | [a]=>(match vw k.value with
  | .const v=>(match v with | .none=>gd (k.arg == some ("default":Str) && (x == ("max":Str) && (c.glob x && !c.hnd))) ((f a).map .maxd) | _=>none)
  | .lam t=>pH c f x a k.arg t
  | _=>none)
 | _=>none
noncomputable def nS (c:CE) (f:Expr→Option E) (t:Expr × Str × Pos) (args:List Expr) (pos:Pos):Option E :=
 gd (decide (args.length ≤ 8) && (d0 t.1 && (t.2.2.endLine == pos.line))) ((f t.1).bind fun a=>(aQ f args).bind fun as=>nt c t.2.1 a as)
noncomputable def sG (f:Expr→Option E) (s:Str) (t:Expr × Str × Pos) (args:List Expr) (pos:Pos):Option E:=match args with
 | [a]=>gd (t.2.1 == ("join":Str) && (t.2.2.endLine == pos.line)) ((f a).map (.join s))
 | _=>none
noncomputable def sL (c:CE) (f:Expr→Option E) (fn:Expr) (args:List Expr) (ks:List Keyword) (pos:Pos):Option E:=match dS fn with
 | some x=>(match ks with
  | []=>nH c f x args
  | [k]=>o7 c f x args k
  | _=>none)
 | none=>(match ks with
  | []=>(match vw fn with
   | .attr t =>
    (match vw t.1 with
    | .const k=>(match k with | .str s=>sG f s t args pos | _=>none)
    | _=>nS c f t args pos)
   | _=>none)
  | _=>none)
noncomputable def uW:List Comprehension→Option (Expr × Expr × List Expr)
 | [g]=>gd (g.is_async == 0) (some (g.target,g.iter,g.ifs))
 | _=>none
noncomputable def v6 (c:CE) (rec:CE→Expr→Option E) (elt:Expr) (gens:List Comprehension) (sc:Scope):Option E:=gd (oU sc) ((uW gens).bind fun t =>
 (rec c t.2.1).bind fun it=>(tgt (c.sub sc.names) t.1).bind fun tg=>(aQ (rec (c.sub sc.names)) t.2.2).bind fun cs=>(rec (c.sub sc.names) elt).bind fun x=>(fj c sc).map fun fr=>.comp tg.1 tg.2 it cs x fr)
noncomputable def Bj (rec:CE→Expr→Option E) (c:CE) (e:Expr):Option E:=match e with
 | .Constant k _ _=>vk k
 | .Name x _=>yj c x
 | .BoolOp op vs _=>(aQ (rec c) vs).bind (gf op)
 | .BinOp l op r _=>AK (rec c) l op r
 | .UnaryOp op x _=>cUn (rec c) op x
 | .Compare l ops rs _=>zH (rec c) l ops rs
 | .Subscript v i _=>zW (rec c) v i
 | .Attribute v x _=>gd (d0 v) (fT .attr (rec c v) (c.attrs.lookup x))
 | .List es _=>gd (decide (es.length ≤ 60)) ((aQ (rec c) es).map .list)
 | .Tuple es _ _=>gd (decide (es.length ≤ 60)) ((aQ (rec c) es).map .tup)
 | .Dict ks vs _=>yh (rec c) ks vs
 | .Call f args ks p=>sL c (rec c) f args ks p
 | .ListComp elt gens sc _=>v6 c rec elt gens sc
 | _=>none
noncomputable def aj:Nat→CE→Expr→Option E
 | 0=>fun _ _=>none
 | n + 1=>Bj (aj n)
noncomputable def xq:Expr→Bool
 | .Constant .. | .Name .. | .BoolOp .. | .BinOp .. | .UnaryOp .. | .Compare .. | .Subscript .. | .Attribute .. | .List .. | .Tuple .. | .Dict .. | .Call .. | .ListComp ..=>true
 | _=>false
theorem cZ {n:Nat}{c:CE}{e:Expr}{a:E} (h:aj n c e=some a):xq e=true:=by
 cases n with
 | zero=>exact nn h
 | succ n=>cases e <;> first | rfl | exact nn h
noncomputable def ey (e:Expr):Bool:=match vw e with | .call _=>true | _=>false
noncomputable def cX (c:CE) (e:Expr):Option E:=(aj 30 c e).bind fun a=>gd (!aO a || ey e) (some a)
theorem eX {c:CE}{e:Expr}{a:E} (h:cX c e=some a):aj 30 c e=some a ∧ (aO a=true→ey e=true):=by
 refine bq h fun b h1 h2=>?_
 obtain ⟨h2,h3⟩:=au h2
 cases Option.some.inj h3
 exact ⟨h1,fun q=>by rw [q] at h2; exact h2⟩
noncomputable def yP (c:CE) (t e:Expr):Option S:=match vw t with
 | .name x=>fT .asg (c.locW? x) (cX c e)
 | .tup ts=>gd (!wi e) (fT .asgT (bM c ts) (aj 30 c e))
 | .attr t=>vB .asgA (aj 30 c t.1) (c.attrs.lookup t.2.1) (aj 30 c e)
 | .sub t=>vB .asgI (aj 30 c t.1) (aj 30 c t.2) (aj 30 c e)
 | _=>none
noncomputable def qg (e:Expr):Option Str:=match vw e with
 | .call t=>Ax (fun f a=>gd (vf a) (dS f)) t
 | _=>none
noncomputable def i8 (e:Expr):Bool:=match vw e with | .tup _=>true | _=>false
noncomputable def mC (e:Expr):Option (Str × Expr × Expr):=match vw e with
 | .call t=>(match t.2.1 with
  | [a,b]=>(match t.2.2 with | []=>(dS t.1).map fun x=>(x,a,b) | _=>none)
  | _=>none)
 | _=>none
noncomputable def Bf (c:CE) (t e:Expr):Option It :=
 match (iy e).bind fun p=>gd (p.1 == ("enumerate":Str) && (c.glob p.1 && (!c.hnd && i8 t))) (some p.2) with
 | some a=>(aj 30 c a).map .enum
 | none =>
 (aj 30 c e).map .e
noncomputable def cIt (c:CE) (t e:Expr):Option It :=
 match (mC e).bind fun p=>gd (p.1 == ("zip":Str) && (c.glob p.1 && (!c.hnd && i8 t))) (some p.2) with
 | some p=>fT .zip (aj 30 c p.1) (aj 30 c p.2)
 | none =>
 Bf c t e
noncomputable def yW (rec:CE→Stmt→Option S) (c:CE) (s:Stmt):Option S:=match s with
 | .Expr e _=>gd (!BB e) ((cX c e).map .expr)
 | .Return v _=>v.bind fun e=>(cX c e).map .ret
 | .Assign ts e _=>(match ts with | [t]=>yP c t e | _=>none)
 | .If t b o _=>vB .ifS (aj 30 c t) (aQ (rec c) b) (aQ (rec c) o)
 | .While t b o _=>gd o.isEmpty (fT .whileS (aj 30 c t) (aQ (rec c) b))
 | .For t it b o _=>gd o.isEmpty (vB (fun tg x y=>.forS tg.1 tg.2 x y) (tgt c t) (cIt c t it) (aQ (rec c) b))
 | .Raise (some e) none _=>(qg e).bind fun x=>gd (c.glob x && (!(x == ("__debug__":Str)) && !c.hnd)) ((c.excs.lookup x).map .raise)
 | .Pass _=>some .pass
 | _=>none
noncomputable def bV:Nat→CE→Stmt→Option S
 | 0=>fun _ _=>none
 | n + 1=>yW (bV n)
noncomputable def CE.hand (c:CE):CE:={ c with fns:=c.hfns,clss:=[],mths:=[],attrs:=[],lam:=none,hnd:=true,top:=none,tfns:=[] }
noncomputable def A7 (c:CE) (b:List Stmt) (hs:List ExceptHandler):Option S:=match hs with
 | [.ExceptHandler (some t) (some n) (h0 :: h) _]=>(dS t).bind fun x=>c.pe.bind fun p=>gd (x == p.1 && (c.glob x && (!(x == ("__debug__":Str)) && c.names.lookup n == some .local))) (vB (fun b i h=>S.tryS b (c.excs.map (·.2)) i h) (aQ (bV 20 c) b) (c.locW? n) (aQ (bV 20 c.hand) (h0 :: h)))
 | _=>none
noncomputable def mH (c:CE) (s:Stmt):Option S:=match s with
 | .Try b hs o fin _=>gd (o.isEmpty && fin.isEmpty) (A7 c b hs)
 | s=>(bV 20 c s).bind fun a=>gd (jA a).isNone (some a)
end Mine
namespace Mine
open PySem PyProof.Rows
inductive F2 {α β:Type} (R:α→β→Prop):List α→List β→Prop
 | nil:F2 R [] []
 | cons {a b as bs}:R a b→F2 R as bs→F2 R (a :: as) (b :: bs)
section
variable {α β:Type}{R R':α→β→Prop}{as as':List α}{bs bs':List β}
theorem F2.mono (h:∀ a b,R a b→R' a b) (f:F2 R as bs):F2 R' as bs:=by
 induction f with
 | nil=>exact .nil
 | cons x _ ih=>exact .cons (h _ _ x) ih
theorem F2.length (f:F2 R as bs):as.length=bs.length:=by
 induction f with
 | nil=>rfl
 | cons _ _ ih=>exact congrArg (· + 1) ih
theorem F2.append (f:F2 R as bs) (r:F2 R as' bs'):F2 R (as ++ as') (bs ++ bs'):=by
 induction f with
 | nil=>exact r
 | cons x _ ih=>exact .cons x ih
theorem F2.get (f:F2 R as bs):∀ {i:Nat}{a:α},as[i]?=some a→∃ b,bs[i]?=some b ∧ R a b:=by
 induction f with
 | nil=>exact fun h=>nn h
 | cons x _ ih =>
  intro i a h
  cases i with
  | zero=>exact ⟨_,rfl,Option.some.inj h ▸ x⟩
  | succ i=>exact ih h
theorem F2.drop (f:F2 R as bs):∀ n,F2 R (as.drop n) (bs.drop n):=by
 induction f with
 | nil=>intro n; rw [List.drop_nil,List.drop_nil]; exact .nil
 | cons x r ih =>
  intro n
  cases n with
  | zero=>exact .cons x r
  | succ n=>exact ih n
theorem F2.take (f:F2 R as bs):∀ n,F2 R (as.take n) (bs.take n):=by
 induction f with
 | nil=>intro n; rw [List.take_nil,List.take_nil]; exact .nil
 | cons x r ih =>
  intro n
  cases n with
  | zero=>exact .nil
  | succ n=>exact .cons x (ih n)
theorem F2.reverse (f:F2 R as bs):F2 R as.reverse bs.reverse:=by
 induction f with
 | nil=>exact .nil
 | cons x _ ih=>rw [List.reverse_cons,List.reverse_cons]; exact ih.append (.cons x .nil)
theorem F2.set (f:F2 R as bs):∀ {n:Nat}{a:α}{b:β},R a b→F2 R (as.set n a) (bs.set n b):=by
 induction f with
 | nil=>exact fun _=>.nil
 | cons x r ih =>
  intro n a b h
  cases n with
  | zero=>exact .cons h r
  | succ n=>exact .cons x (ih h)
theorem F2.replicate {a:α}{b:β} (h:R a b) (n:Nat):F2 R (List.replicate n a) (List.replicate n b):=by
 induction n with
 | zero=>exact .nil
 | succ n ih=>exact .cons h ih
end
noncomputable def Imm (o:Obj):Prop:=(o.cls=.type "tuple" ∨ o.cls=.type "range" ∨ ∃ (C:Addr) (vs:Array Value),o.cls=.ref C ∧ o.data=.fields vs) ∧ (∀ (es:Array DictEntry) (n:Nat),o.data ≠ .dict es n) ∧ ∀ v:Option Value,o.data ≠ .cell v
mutual
noncomputable def RepV (as:List Addr) (h:Heap):V→Value→Prop
 | .none,x=>x=.none
 | .bool b,x=>x=.bool b
 | .int i,x=>∃ t,x=.int i t
 | .str s,x=>∃ t,x=.str s t
 | .tup vs,x=>∃ a items n,x=.ref a ∧ h.get? a=some { cls:=.type "tuple",data:=.seq items n } ∧ (items.size ≤ 16777216 ∧ a ∉ as) ∧ ah as h vs items.toList
 | .ref l,x=>∃ a,x=.ref a ∧ as[l]?=some a
 | .rng lo hi,x=>∃ a t u v,x=.ref a ∧ IsRange h a lo hi 1 t u v ∧ (-1000000 ≤ lo ∧ lo ≤ 1000000 ∧ -1000000 ≤ hi ∧ hi ≤ 1000000)
 | .exc c,x=>∃ a o vs,x=.ref a ∧ h.get? a=some o ∧ o.dict=none ∧ o.cls=.ref c ∧ o.data=.fields vs
noncomputable def ah (as:List Addr) (h:Heap):List V→List Value→Prop
 | [],xs=>xs=[]
 | v :: vs,xs=>∃ y ys,xs=y :: ys ∧ RepV as h v y ∧ ah as h vs ys
end
theorem ah.f2 {as:List Addr}{h:Heap}:∀ {vs:List V}{xs:List Value},ah as h vs xs ↔ F2 (RepV as h) vs xs
 | [],xs=>⟨fun e=>by rw [ah] at e; subst e; exact .nil,fun e=>by cases e; rw [ah]⟩
 | v :: vs,xs=>⟨fun e=>by
   rw [ah] at e
   obtain ⟨y,ys,rfl,h1,h2⟩:=e
   exact .cons h1 (ah.f2.mp h2),fun e=>by
   cases e with
   | cons h1 h2=>rw [ah]; exact ⟨_,_,rfl,h1,ah.f2.mpr h2⟩⟩
structure bR (as:List Addr) (h:Heap) (as':List Addr) (h':Heap):Prop where
 pre:∀ (i:Nat) (a:Addr),as[i]?=some a→as'[i]?=some a
 imm:∀ (a:Addr) (o:Obj),h.get? a=some o→Imm o→(a ∈ as→o.cls ≠ .type "tuple")→h'.get? a=some o
 fresh:∀ a ∈ as',a ∈ as ∨ ∀ o,h.get? a=some o→¬ Imm o
theorem bR.same {as:List Addr}{h h':Heap} (k:∀ (a:Addr) (o:Obj),h.get? a=some o→Imm o→(a ∈ as→o.cls ≠ .type "tuple")→h'.get? a=some o):bR as h as h':=⟨fun _ _ e=>e,k,fun _ q=>.inl q⟩
theorem bR.push {as:List Addr}{h h':Heap}{a:Addr} (k:∀ (a:Addr) (o:Obj),h.get? a=some o→h'.get? a=some o) (hn:h.get? a=none):bR as h (as ++ [a]) h' :=
 ⟨fun j c e=>by rw [List.getElem?_append_left (List.getElem?_eq_some_iff.mp e).1]; exact e,fun a o e _ _=>k a o e,fun b q=>(List.mem_append.mp q).imp id fun q o e=>nn (hn.symm.trans (List.mem_singleton.mp q ▸ e))⟩
theorem bR.off {as as':List Addr}{h h':Heap} (k:bR as h as' h') {a:Addr}{o:Obj} (e:h.get? a=some o) (im:Imm o) (q:a ∉ as):a ∉ as':=fun z=>(k.fresh a z).elim q fun z=>z o e im
theorem bR.trans {as as1 as2:List Addr}{h h1 h2:Heap} (K:bR as h as1 h1) (L:bR as1 h1 as2 h2):bR as h as2 h2 :=
 ⟨fun _ _ e=>L.pre _ _ (K.pre _ _ e),fun a o e im ht=>L.imm _ _ (K.imm _ _ e im ht) im fun q=>(K.fresh a q).elim ht fun z=>absurd im (z o e),fun a q=>(L.fresh a q).elim (K.fresh a) fun z=>(Classical.em (a ∈ as)).imp id fun n o e im=>z o (K.imm a o e im fun q=>absurd q n) im⟩
theorem bR.ref {as as':List Addr}{h h':Heap} (k:bR as h as' h') {a:Addr}{o:Obj} (e:h.get? a=some o) (im:Imm o) (q:o.cls ≠ .type "tuple"):h'.get? a=some o:=k.imm a o e im fun _=>q
theorem dy {items:Array Value}{n:Nat}:Imm { cls:=.type "tuple",data:=.seq items n }:=⟨.inl rfl,fun _ _ e=>(nomatch e),fun _ e=>(nomatch e)⟩
theorem rF {o:Obj}{xs:Array Value}{n:Nat} (hc:o.cls=.type "tuple") (hd:o.data=.seq xs n):Imm o:=⟨.inl hc,fun _ _ e=>(by rw [hd] at e; cases e),fun _ e=>(by rw [hd] at e; cases e)⟩
theorem l8 {o:Obj}{C:Addr}{vs:Array Value} (hc:o.cls=.ref C) (hd:o.data=.fields vs):Imm o:=⟨.inr (.inr ⟨C,vs,hc,hd⟩),fun _ _ e=>(by rw [hd] at e; cases e),fun _ e=>(by rw [hd] at e; cases e)⟩
theorem rj {vs:Array Value}:Imm { cls:=.type "range",data:=.fields vs }:=⟨.inr (.inl rfl),fun _ _ e=>(nomatch e),fun _ e=>(nomatch e)⟩
mutual
theorem RepV.keep {as as':List Addr}{h h':Heap} (k:bR as h as' h'):∀ (v:V) (x:Value),RepV as h v x→RepV as' h' v x
 | .none,x,e=>by rw [RepV] at e ⊢; exact e
 | .bool b,x,e=>by rw [RepV] at e ⊢; exact e
 | .int i,x,e=>by rw [RepV] at e ⊢; exact e
 | .str s,x,e=>by rw [RepV] at e ⊢; exact e
 | .tup vs,x,e=>by
  rw [RepV] at e ⊢
  obtain ⟨a,items,n,rfl,ho,hz,hr⟩:=e
  exact ⟨a,items,n,rfl,k.imm _ _ ho dy (fun q=>absurd q hz.2),⟨hz.1,k.off ho dy hz.2⟩,ah.keep k _ _ hr⟩
 | .ref l,x,e=>by
  rw [RepV] at e ⊢
  obtain ⟨a,rfl,ha⟩:=e
  exact ⟨a,rfl,k.pre _ _ ha⟩
 | .rng lo hi,x,e=>by
  rw [RepV] at e ⊢
  obtain ⟨a,t,u,v,rfl,ho,hb⟩:=e
  exact ⟨a,t,u,v,rfl,k.ref ho rj (show Value.type "range" ≠ .type "tuple" by decide),hb⟩
 | .exc c,x,e=>by
  rw [RepV] at e ⊢
  obtain ⟨a,o,vs,rfl,ho,hn,hc,hd⟩:=e
  exact ⟨a,o,vs,rfl,k.ref ho (l8 hc hd) (fun q=>nomatch hc.symm.trans q),hn,hc,hd⟩
theorem ah.keep {as as':List Addr}{h h':Heap} (k:bR as h as' h'):∀ (vs:List V) (xs:List Value),ah as h vs xs→ah as' h' vs xs
 | [],xs,e=>by rw [ah] at e ⊢; exact e
 | v :: vs,xs,e=>by
  rw [ah] at e ⊢
  obtain ⟨y,ys,rfl,h1,h2⟩:=e
  exact ⟨y,ys,rfl,RepV.keep k _ _ h1,ah.keep k _ _ h2⟩
end
structure Cfg where
 prog:Program
 w:World
 b:Heap
 C:Addr
 at':List (Nat × Str)
 scr:Obj
 tab:Addr
 hd:Option Addr:=none
noncomputable def lv (g:Cfg) (as:List Addr) (h:Heap) (e:Nat × V) (d:DictEntry):Prop :=
 ∃ x t,g.at'.lookup e.1=some x ∧ d.key=.str x t ∧ RepV as h e.2 d.val
noncomputable def o4 (g:Cfg) (as:List Addr) (h:Heap) (o:AO) (a:Addr):Prop:=match o with
 | .lst vs=>∃ items,h.PlainList a items ∧ ah as h vs items.toList ∧ vs.length ≤ 16777216
 | .dI es=>∃ kvs,h.DictOf (intKind g.prog g.w) a kvs ∧ F2 (fun (e:Int × V) (x:Int × Value)=>e.1=x.1 ∧ RepV as h e.2 x.2) es kvs ∧ es.length ≤ 1000000 ∧ (a == sysModules)=false
 | .dT es=>∃ xs,h.DictOfH (tupleKind (intKind g.prog g.w)) a xs ∧ F2 (fun (e:List Int × V) (x:List Int × Addr × Value)=>e.1=x.1 ∧ RepV as h e.2 x.2.2) es xs ∧ (es.length ≤ 1000000 ∧ ∀ x ∈ xs,x.2.1 ∉ as) ∧ (a == sysModules)=false
 | .inst d=>∃ dx,as[d]?=some dx ∧ h.get? a=some { cls:=.ref g.C,dict:=some dx,data:=.plain }
 | .att es=>∃ ents n,h.get? a=some { cls:=.type "dict",data:=.dict (List.toArray ents) n } ∧ F2 (lv g as h) es ents ∧ es.length ≤ 100
 | .frz vs=>∃ items n,h.get? a=some g.scr ∧ g.scr={ cls:=.type "list",data:=.seq items n } ∧ ah as h vs items.toList ∧ vs.length ≤ 16777216
 | .tab b=>a=g.tab ∧ ∃ ps:Array Value,h.get? a=some { cls:=.none,data:=.fields ps } ∧ (b=false→ps=#[])
 | .ztup=>∃ x y,IsPair h a x y
noncomputable def Hnd (hd:Option Addr) (h:Heap):Prop:=∀ a,hd=some a→∃ o C vs,h.get? a=some o ∧ o.cls=.ref C ∧ o.data=.fields vs ∧ vs[2]?=some .none
theorem Hnd.keep {hd:Option Addr}{as as':List Addr}{h h':Heap} (x:Hnd hd h) (k:bR as h as' h'):Hnd hd h':=fun a e =>
 let ⟨o,C,vs,e1,e2,e3,e4⟩:=x a e; ⟨o,C,vs,k.ref e1 (l8 e2 e3) (fun q=>nomatch e2.symm.trans q),e2,e3,e4⟩
structure Rel (g:Cfg) (as:List Addr) (σ:Sto) (h:Heap):Prop where
 base:∀ (a:Addr) (o:Obj),g.b.get? a=some o→h.get? a=some o
 len:as.length=σ.length
 nd:as.Nodup
 new:∀ a ∈ as,g.b.get? a=none
 obj:∀ (i:Nat) (a:Addr) (o:AO),as[i]?=some a→σ[i]?=some o→o4 g as h o a
 hnd:Hnd g.hd h
structure aC (own as:List Addr) (h:Heap) (as':List Addr) (h':Heap):Prop where
 pre:∃ t,as'=as ++ t ∧ ∀ a ∈ t,h.get? a=none
 ext:∀ (a:Addr) (o:Obj),h.get? a=some o→a ∉ own→a ∉ as→h'.get? a=some o
theorem aC.refl (own as:List Addr) (h:Heap):aC own as h as h:=⟨⟨[],by simp,by simp⟩,fun _ _ e _ _=>e⟩
theorem aC.mem {own as as':List Addr}{h h':Heap} (x:aC own as h as' h') {a:Addr} (ha:a ∈ as):a ∈ as':=by
 obtain ⟨⟨t,rfl,_⟩,_⟩:=x
 exact List.mem_append_left _ ha
theorem aC.get {own as as':List Addr}{h h':Heap} (x:aC own as h as' h') {i:Nat}{a:Addr} (ha:as[i]?=some a):as'[i]?=some a:=by
 obtain ⟨⟨t,rfl,_⟩,_⟩:=x
 rw [List.getElem?_append_left (by exact (List.getElem?_eq_some_iff.mp ha).1)]; exact ha
theorem aC.fresh {own as as':List Addr}{h h':Heap} (x:aC own as h as' h') {a:Addr} (ha:a ∈ as'):a ∈ as ∨ ∀ o,h.get? a=some o→¬ Imm o:=by
 obtain ⟨⟨t,rfl,ht⟩,_⟩:=x
 exact (List.mem_append.mp ha).imp id fun q o e=>nn ((ht a q).symm.trans e)
theorem aC.trans {own as as1 as2:List Addr}{h h1 h2:Heap} (x:aC own as h as1 h1) (y:aC own as1 h1 as2 h2) (nd:as2.Nodup) (off:∀ a ∈ own,a ∉ as2):aC own as h as2 h2:=by
 obtain ⟨⟨t,rfl,ht⟩,x2⟩:=x
 obtain ⟨⟨u,rfl,hu⟩,y2⟩:=y
 refine ⟨⟨t ++ u,by simp,fun a ha=>?_⟩,fun a o e h1 h3=>?_⟩
 ·rcases List.mem_append.mp ha with q | q
  ·exact ht a q
  ·cases e:h.get? a with
   | none=>rfl
   | some o =>
    have h1':a ∉ own:=fun z=>off a z (List.mem_append_right _ q)
    have h2':a ∉ as:=fun z=>(List.nodup_append.mp nd).2.2 a (List.mem_append_left _ z) a q rfl
    have:=x2 a o e h1' h2'
    rw [hu a q] at this; cases this
 ·refine y2 a o (x2 a o e h1 h3) h1 fun q=>?_
  rcases List.mem_append.mp q with q | q
  ·exact h3 q
  ·rw [ht a q] at e; cases e
theorem aC.shrink {own own' as as':List Addr}{h h':Heap} (x:aC own' as h as' h') (hs:∀ a ∈ own',a ∈ own ∨ h.get? a=none):aC own as h as' h' :=
 ⟨x.pre,fun a o e h1 h2=>x.ext a o e (fun q=>(hs a q).elim h1 fun z=>by rw [z] at e; cases e) h2⟩
theorem aC.grow {own own' as as':List Addr}{h h':Heap} (x:aC own as h as' h') (hs:∀ a ∈ own,a ∈ own'):aC own' as h as' h' :=
 ⟨x.pre,fun a o e h1 h2=>x.ext a o e (fun q=>h1 (hs a q)) h2⟩
theorem aC.of_ext {own as:List Addr}{h h':Heap} (k:∀ (a:Addr) (o:Obj),h.get? a=some o→h'.get? a=some o):aC own as h as h' :=
 ⟨⟨[],by simp,by simp⟩,fun a o e _ _=>k a o e⟩
theorem o4.there {g:Cfg}{as:List Addr}{h:Heap}{o:AO}{a:Addr} (r:o4 g as h o a):∃ ob,h.get? a=some ob ∧ (Imm ob→ob.cls=.type "tuple"):=by
 cases o with
 | lst vs =>
  obtain ⟨items,⟨n,e⟩,_⟩:=r
  exact ⟨_,e,fun q=>by rcases q.1 with q | q <;> simp at q⟩
 | dI es =>
  obtain ⟨kvs,⟨ob,es',ep,e,_,hd,_⟩,_⟩:=r
  exact ⟨_,e,fun q=>absurd hd (q.2.1 _ _)⟩
 | dT es =>
  obtain ⟨kvs,⟨ob,es',ep,e,_,hd,_⟩,_⟩:=r
  exact ⟨_,e,fun q=>absurd hd (q.2.1 _ _)⟩
 | inst d =>
  obtain ⟨dx,_,e⟩:=r
  exact ⟨_,e,fun q=>by rcases q.1 with q | q <;> simp at q⟩
 | att es =>
  obtain ⟨ents,n,e,_⟩:=r
  exact ⟨_,e,fun q=>absurd rfl (q.2.1 _ _)⟩
 | frz vs =>
  obtain ⟨items,n,e,q,_⟩:=r
  exact ⟨_,e,fun z=>by rw [q] at z; rcases z.1 with z | z <;> simp at z⟩
 | tab b =>
  obtain ⟨_,ps,e,_⟩:=r
  exact ⟨_,e,fun z=>by rcases z.1 with z | z <;> simp at z⟩
 | ztup =>
  obtain ⟨x,y,e⟩:=r
  exact ⟨_,e,fun _=>rfl⟩
theorem Rel.there {g:Cfg}{as:List Addr} {σ:Sto}{h:Heap} (R:Rel g as σ h) {a:Addr} (ha:a ∈ as):∃ ob,h.get? a=some ob ∧ (Imm ob→ob.cls=.type "tuple"):=by
 obtain ⟨i,hi,rfl⟩:=List.getElem_of_mem ha
 have hi':i < σ.length:=R.len ▸ hi
 exact (R.obj i as[i] σ[i] (by simp [hi]) (by simp [hi'])).there
theorem Rel.keep {g:Cfg}{own as as':List Addr} {σ:Sto}{h h':Heap} (R:Rel g as σ h) (x:aC own as h as' h') (ho:∀ a ∈ own,∀ o,h.get? a=some o→¬ Imm o):bR as h as' h' :=
 ⟨fun _ _=>x.get,fun a o e hi ht=>x.ext a o e (fun q=>ho a q o e hi) fun q=>by
  obtain ⟨ob,e',hn⟩:=R.there q
  rw [e] at e'; cases e'; exact ht q (hn hi),fun a q=>x.fresh q⟩
theorem Rel.keep0 {g:Cfg}{as as':List Addr} {σ:Sto}{h h':Heap} (R:Rel g as σ h) (x:aC [] as h as' h'):bR as h as' h':=R.keep x (by simp)
theorem o4.keep {g:Cfg}{as as':List Addr}{h h':Heap}{o:AO}{a:Addr} (r:o4 g as h o a) (k:bR as h as' h') (hk:∀ ob,h.get? a=some ob→h'.get? a=some ob):o4 g as' h' o a:=by
 cases o with
 | lst vs =>
  obtain ⟨items,p,q,z⟩:=r
  exact ⟨items,p.at hk,ah.keep k _ _ q,z⟩
 | dI es =>
  obtain ⟨kvs,p,q,z⟩:=r
  exact ⟨kvs,p.at hk,q.mono fun _ _ y=>⟨y.1,RepV.keep k _ _ y.2⟩,z⟩
 | dT es =>
  obtain ⟨xs,⟨ob,es',ep,e,p1,p2,p3,p4,p5⟩,q,z⟩:=r
  refine ⟨xs,⟨ob,es',ep,hk _ e,p1,p2,p3,fun x hx=>?_,p5⟩,q.mono fun _ _ y=>⟨y.1,RepV.keep k _ _ y.2⟩,⟨z.1.1,fun x hx=>let ⟨o1,its,n1,e1,c1,d1,r1⟩:=p4 x hx; k.off e1 (rF c1 d1) (z.1.2 x hx)⟩,z.2⟩
  obtain ⟨o1,its,n1,e1,c1,d1,r1⟩:=p4 x hx
  exact ⟨o1,its,n1,k.imm _ _ e1 (rF c1 d1) (fun w=>absurd w (z.1.2 x hx)),c1,d1,r1⟩
 | inst d =>
  obtain ⟨dx,p,q⟩:=r
  exact ⟨dx,k.pre _ _ p,hk _ q⟩
 | att es =>
  obtain ⟨ents,n,p,q,z⟩:=r
  exact ⟨ents,n,hk _ p,q.mono fun _ _ ⟨x,t,y1,y2,y3⟩=>⟨x,t,y1,y2,RepV.keep k _ _ y3⟩,z⟩
 | frz vs =>
  obtain ⟨items,n,e,q,w,z⟩:=r
  exact ⟨items,n,hk _ e,q,ah.keep k _ _ w,z⟩
 | tab b =>
  obtain ⟨e0,ps,e,q⟩:=r
  exact ⟨e0,ps,hk _ e,q⟩
 | ztup =>
  obtain ⟨x,y,e⟩:=r
  exact ⟨x,y,hk _ e⟩
theorem Rel.ext {g:Cfg}{as:List Addr} {σ:Sto}{h h':Heap} (R:Rel g as σ h) (k:∀ (a:Addr) (o:Obj),h.get? a=some o→h'.get? a=some o):Rel g as σ h' :=
 have K:bR as h as h':=.same fun a o e _ _=>k a o e
 ⟨fun a o e=>k a o (R.base a o e),R.len,R.nd,R.new,fun i a o h1 h2=>(R.obj i a o h1 h2).keep K fun ob e=>k a ob e,R.hnd.keep K⟩
theorem Rel.push {g:Cfg}{as:List Addr} {σ:Sto}{h h':Heap}{o:AO}{a:Addr} (R:Rel g as σ h) (k:∀ (a:Addr) (o:Obj),h.get? a=some o→h'.get? a=some o) (hn:h.get? a=none) (ho:o4 g (as ++ [a]) h' o a):Rel g (as ++ [a]) (σ ++ [o]) h':=by
 have R':=R.ext k
 have hna:a ∉ as:=fun q=>by obtain ⟨ob,e,_⟩:=R.there q; rw [hn] at e; cases e
 refine ⟨R'.base,by simp [R.len],?_,fun b hb=>?_,fun i b ob h1 h2=>?_,R'.hnd⟩
 ·exact List.nodup_append.mpr ⟨R.nd,by simp,fun x hx y hy e=>by simp at hy; subst hy; subst e; exact hna hx⟩
 ·rcases List.mem_append.mp hb with q | q
  ·exact R.new b q
  ·simp at q; subst q
   cases e:g.b.get? b with
   | none=>rfl
   | some o=>have:=R.base b o e; rw [hn] at this; cases this
 ·rcases Nat.lt_trichotomy i as.length with hi | hi | hi
  ·rw [List.getElem?_append_left hi] at h1
   rw [List.getElem?_append_left (R.len ▸ hi)] at h2
   exact (R.obj i b ob h1 h2).keep (.push k hn) (k b)
  ·subst hi
   rw [R.len] at h2
   simp at h1 h2; subst h1; subst h2; exact ho
  ·rw [List.getElem?_eq_none (by simp; lia)] at h1; cases h1
theorem gN {as:List Addr}{h h':Heap}{a:Addr} (k:∀ (a:Addr) (o:Obj),h.get? a=some o→h'.get? a=some o) (hn:h.get? a=none):aC [] as h (as ++ [a]) h' :=
 ⟨⟨[a],rfl,fun b hb=>by simp at hb; subst hb; exact hn⟩,fun b o e _ _=>k b o e⟩
theorem Rel.upd {g:Cfg}{as:List Addr} {σ:Sto}{h h':Heap}{o:AO}{a:Addr}{l:Nat} (R:Rel g as σ h) (hl:as[l]?=some a) (k:∀ (b:Addr) (o:Obj),b ≠ a→h.get? b=some o→h'.get? b=some o)
  (ho:bR as h as h'→o4 g as h' o a):bR as h as h' ∧ Rel g as (σ.set l o) h' ∧ aC [] as h as h':=by
 have ha:a ∈ as:=List.mem_of_getElem? hl
 obtain ⟨oa,ea,na⟩:=R.there ha
 have K:bR as h as h':=.same fun b ob e hi ht=>k b ob (fun q=>by subst q; rw [ea] at e; cases e; exact ht ha (na hi)) e
 refine ⟨K,⟨fun b ob e=>k b ob (fun q=>?_) (R.base b ob e),by simp [R.len],R.nd,R.new,fun i b ob h1 h2=>?_,R.hnd.keep K⟩,⟨⟨[],by simp,by simp⟩,fun b ob e _ q=>k b ob (fun z=>q (z ▸ ha)) e⟩⟩
 ·subst q; rw [R.new _ ha] at e; cases e
 ·by_cases hi:i=l
  ·subst hi
   rw [hl] at h1; cases h1
   have hlt:i < σ.length:=by
    have:=(List.getElem?_eq_some_iff.mp hl).1; rw [R.len] at this; exact this
   rw [List.getElem?_set_self hlt] at h2; cases h2
   exact ho K
  ·rw [List.getElem?_set_ne (Ne.symm hi)] at h2
   refine (R.obj i b ob h1 h2).keep K fun oc e=>k b oc (fun q=>hi ?_) e
   subst q
   obtain ⟨j1,j2⟩:=List.getElem?_eq_some_iff.mp h1
   obtain ⟨j3,j4⟩:=List.getElem?_eq_some_iff.mp hl
   exact (List.getElem_inj R.nd).mp (j2.trans j4.symm)
structure ay (g:Cfg) (env:Env) (as:List Addr) (fr:Fra) (h:Heap):Prop where
 kind:env.scope.kind=.function
 above:g.b.objs.size ≤ env.locals
 glob:env.globals=mainGlobals
 blt:env.builtins=builtinsNs
 len:fr.length=env.scope.names.length
 nd:(env.scope.names.map (·.1)).Nodup
 ns:∃ m,h.Ns env.locals m ∧ ∀ (i:Nat) (x:Str) (v:V),env.scope.names[i]?=some (x,.local)→fr[i]?=some (some v)→∃ val,m x=some val ∧ RepV as h v val
 cells:∀ (i:Nat) (x:Str) (k:NameKind),env.scope.names[i]?=some (x,k)→(k=.cell ∨ k=.free) →
  ∃ c cv,env.cells.lookup x=some c ∧ h.IsCell c cv ∧ (∀ v,fr[i]?=some (some v)→∃ val,cv=some val ∧ RepV as h v val)
 off:env.locals ∉ as
 offc:∀ x c,env.cells.lookup x=some c→c ∉ as ∧ c ≠ env.locals ∧ ∃ cv,h.IsCell c cv
 apart:∀ x y c,env.cells.lookup x=some c→env.cells.lookup y=some c→x=y
 newc:∀ x c,env.cells.lookup x=some c→g.b.get? c=none
noncomputable def ownOf (env:Env):List Addr:=env.locals :: env.cells.filterMap (fun p=>env.cells.lookup p.1)
set_option tactic.hygienic true in
theorem av {α β:Type} [BEq α] [LawfulBEq α] {l:List (α × β)}{x:α}{y:β} (e:l.lookup x=some y):(x,y) ∈ l:=by
 induction l with
 | nil=>cases e
 | cons p r ih =>
  obtain ⟨a,b⟩:=p
  rw [List.lookup_cons] at e
  split at e
  ·rename_i q; cases e; rw [eq_of_beq q]; exact .head _
  ·exact .tail _ (ih e)
theorem gH {env:Env}{x:Str}{c:Addr} (e:env.cells.lookup x=some c):c ∈ ownOf env:=.tail _ (List.mem_filterMap.mpr ⟨(x,c),av e,e⟩)
theorem bQ {env:Env}{a:Addr} (h:a ∈ ownOf env):a=env.locals ∨ ∃ x,env.cells.lookup x=some a:=by
 rcases List.mem_cons.mp h with q | q
 ·exact .inl q
 ·obtain ⟨p,_,e⟩:=List.mem_filterMap.mp q
  exact .inr ⟨_,e⟩
theorem ay.offs {g:Cfg}{env:Env}{as:List Addr}{fr:Fra}{h:Heap} (F:ay g env as fr h):∀ a ∈ ownOf env,a ∉ as:=fun a ha=>by
 rcases bQ ha with rfl | ⟨x,e⟩
 ·exact F.off
 ·exact (F.offc _ _ e).1
set_option tactic.hygienic true in
theorem ay.keep {g:Cfg}{own:List Addr}{env:Env}{as as':List Addr}{fr:Fra}{h h':Heap} (F:ay g env as fr h) (K:bR as h as' h') (x:aC own as h as' h') (ho:∀ a ∈ ownOf env,a ∉ own):ay g env as' fr h':=by
 obtain ⟨⟨t,ht,hf⟩,hx⟩:=x
 obtain ⟨m,hm,hv⟩:=F.ns
 refine ⟨F.kind,F.above,F.glob,F.blt,F.len,F.nd,⟨m,hm.at' fun o e=>hx _ o e (ho _ (.head _)) F.off,fun i x v h1 h2=>?_⟩,fun i x k h1 h2=>?_,fun q=>?_,fun x c hc=>⟨fun q=>?_,(F.offc _ _ hc).2.1,?_⟩,F.apart,F.newc⟩
 ·obtain ⟨val,e1,e2⟩:=hv i x v h1 h2
  exact ⟨val,e1,RepV.keep K _ _ e2⟩
 ·obtain ⟨c,cv,e1,⟨o,e2,e2'⟩,e3⟩:=F.cells i x k h1 h2
  have hc:c ∈ ownOf env:=gH e1
  refine ⟨c,cv,e1,⟨o,hx _ _ e2 (ho _ hc) (F.offc _ _ e1).1,e2'⟩,fun v e=>?_⟩
  obtain ⟨val,e4,e5⟩:=e3 v e
  exact ⟨val,e4,RepV.keep K _ _ e5⟩
 ·rw [ht] at q
  rcases List.mem_append.mp q with q | q
  ·exact F.off q
  ·obtain ⟨o,es,ep,e,_⟩:=hm; rw [hf _ q] at e; cases e
 ·rw [ht] at q
  rcases List.mem_append.mp q with q | q
  ·exact (F.offc _ _ hc).1 q
  ·obtain ⟨cv,o,e,_⟩:=(F.offc _ _ hc).2.2; rw [hf _ q] at e; cases e
 ·obtain ⟨cv,o,e,e'⟩:=(F.offc _ _ hc).2.2
  exact ⟨cv,o,hx _ _ e (ho _ (gH hc)) (F.offc _ _ hc).1,e'⟩
where
 lookup_mem {α β:Type} [BEq α] [LawfulBEq α] {l:List (α × β)}{x:α}{y:β} (e:l.lookup x=some y):(x,y) ∈ l:=by
  induction l with
  | nil=>cases e
  | cons p r ih =>
   obtain ⟨a,b⟩:=p
   rw [List.lookup_cons] at e
   split at e
   ·rename_i q; cases e; rw [eq_of_beq q]; exact .head _
   ·exact .tail _ (ih e)
noncomputable def newsOf (b:Heap) (L:Addr) (h:Heap):List (Addr × Obj) :=
 (List.range h.objs.size).filterMap fun a=>if a ≠ L ∧ b.get? a=none then (h.get? a).map fun o=>(a,o) else none
set_option tactic.hygienic true in
theorem cx {b:Heap}{L:Addr}{h:Heap}{p:Addr × Obj}:p ∈ newsOf b L h ↔ h.get? p.1=some p.2 ∧ p.1 ≠ L ∧ b.get? p.1=none:=by
 unfold newsOf
 rw [List.mem_filterMap]
 constructor
 ·rintro ⟨a,_,e⟩
  split at e
  ·rename_i hc
   obtain ⟨o,e1,e2⟩:=Option.map_eq_some_iff.mp e
   subst e2
   exact ⟨e1,hc⟩
  ·cases e
 ·rintro ⟨e1,e2⟩
  refine ⟨p.1,List.mem_range.mpr (Heap.lt_size e1),?_⟩
  rw [if_pos e2,e1]; rfl
theorem eQ (b:Heap) (L:Addr) (h:Heap):News b L h (newsOf b L h):=fun _ hp=>cx.mp hp
theorem ay.fr {g:Cfg}{env:Env}{as:List Addr}{fr:Fra} {σ:Sto}{h:Heap} (F:ay g env as fr h) (R:Rel g as σ h):∃ m,Fr g.b env.locals h m ∧ ∀ (i:Nat) (x:Str) (v:V),env.scope.names[i]?=some (x,.local)→fr[i]?=some (some v)→∃ val,m x=some val ∧ RepV as h v val :=
 let ⟨m,hm,hv⟩:=F.ns; ⟨m,⟨hm,R.base,F.above⟩,hv⟩
theorem d9 {b h h':Heap}{L:Addr}{m:Str→Option Value}{news:List (Addr × Obj)} (Fr':Fr b L h' m) (N:News b L h' news) (hs:∀ p ∈ newsOf b L h,p ∈ news) (hb:∀ (a:Addr) (o:Obj),b.get? a=some o→h.get? a=some o) :
  ∀ (a:Addr) (o:Obj),a ≠ L→h.get? a=some o→h'.get? a=some o:=fun a o hL e=>by
 cases q:b.get? a with
 | none=>exact (N (a,o) (hs _ (cx.mpr ⟨e,hL,q⟩))).1
 | some o' =>
  have:=hb a o' q
  rw [e] at this; cases this
  exact Fr'.keep _ _ q
theorem ay.notImm {g:Cfg}{env:Env}{as:List Addr}{fr:Fra}{h:Heap} (F:ay g env as fr h):∀ a ∈ [env.locals],∀ o,h.get? a=some o→¬ Imm o:=fun a ha o e hi=>by
 simp at ha; subst ha
 obtain ⟨m,⟨o',es,ep,e',d,_⟩,_⟩:=F.ns
 rw [e] at e'; cases e'
 exact hi.2.1 _ _ d
end Mine
namespace Mine
open PySem PyProof.Rows
theorem jI:entryFor table "proto.unchain"=some Builtin.«proto.unchain»:=entryFor_of_fast (by kernel_rfl)
inductive b7 (A:Around) (h:Heap):Prop
 | no (e:A.handled=none):b7 A h
 | is {a C:Addr}{o:Obj}{vs:Array Value} (e:A.handled=some (.ref a)) (ho:h.get? a=some o) (hc:o.cls=.ref C) (hd:o.data=.fields vs) (h2:vs[2]?=some .none):b7 A h
section
variable {prog:Program}{w:World}{A:Around}{E:Value→Shared→Prop}{s:Shared}
set_option tactic.hygienic true in
theorem fB {α:Type}{Q:α→Shared→Prop} (hh:b7 A s.heap)
  (h:∀ e h',(∀ (b:Addr) (o:Obj),s.heap.get? b=some o→h'.get? b=some o)→(∃ o,h'.get? e=some o ∧ o.cls=.type "StopIteration")→E (.ref e) { s with heap:=h' }):wpAny (model prog w) A (newExc (.type "StopIteration") [] >>= fun e=>(raiseNew e:Sem α)) Q E s:=by
 refine wpAny_bind ?_
 simp only [newExc,newTuple]
 refine wpAny_bind (wpAny_newObj_type ?_ (by size_fits))
 refine wpAny_bind (m:=firstArgMember _ _) (wpAny_of_eq (a:=Value.none) (by first | rfl | (simp only [firstArgMember]; rfl)) ?_)
 refine wpAny_newObj_type ?_ (by size_fits)
 have k2:∀ (o1 o2:Obj) (b:Addr) (o:Obj),s.heap.get? b=some o→((s.heap.push o1).push o2).get? b=some o:=fun o1 o2 b o e=>Heap.get?_push_of_some _ (Heap.get?_push_of_some _ e)
 unfold raiseNew
 refine wpAny_bind (wpAny_handled ?_)
 cases hh with
 | no hh =>
  rw [hh]
  exact wpAny_bind (wpAny_pure (wpAny_throw (h _ _ (k2 _ _) ⟨_,Heap.get?_push_size _ rfl,rfl⟩)))
 | is hh ho hc hd h2 =>
  rename_i a C o vs
  rw [hh]
  have hlt:=Heap.lt_size (Heap.get?_push_of_some { cls:=.type "tuple",data:=.seq ([]:List Value).toArray } ho)
  have hne:=Nat.ne_of_lt hlt
  dsimp only
  rw [if_pos (show (Value.ref a != Value.ref (s.heap.push { cls:=.type "tuple",data:=.seq ([]:List Value).toArray }).objs.size)=true from by
   show (!(Value.ref a == Value.ref _))=true
   rw [beq_eq_false_iff_ne.mpr (fun q=>hne (Value.ref.inj q))]; rfl)]
  refine wpAny_bind (wpAny_holding (wpAny_runValue (codeAny_builtin jI ?_)))
  show wpAny _ _ (field (.ref a) 2 >>= _) _ _ _
  refine wpAny_bind (wpAny_field (k2 _ _ _ _ ho) hd (x:=.none) h2 ?_)
  show wpAny _ _ (ret .none) _ _ _
  refine wpAny_pure ?_
  refine wpAny_bind (m:=setField (.ref _) 2 (.ref a)) (wpAny_setField (Heap.get?_push_size _ rfl) rfl (by simp; decide) (wpAny_throw ?_))
  refine h _ _ (fun b ob e=>?_) ⟨_,Heap.get?_update_self _ (Heap.get?_push_size _ rfl) rfl,rfl⟩
  rw [Heap.get?_update_other _ _ (fun q=>?_)]
  ·exact k2 _ _ _ _ e
  ·have h1:=Heap.lt_size (Heap.get?_push_of_some { cls:=.type "tuple",data:=.seq ([]:List Value).toArray } e)
   rw [← q] at h1
   exact Nat.lt_irrefl _ h1
theorem ic {Q:Option Value→Shared→Prop}{X:Value→Shared→Prop}{e:Addr} (h1:∃ o,s.heap.get? e=some o ∧ o.cls=.type "StopIteration") (hQ:Q none s) :
  wpAny (model prog w) A (do if (← isInstance (.ref e) (.type "StopIteration"))=true then pure none else throw (.ref e)) Q X s :=
 wpAny_bind (wpAny_isInstance (T:="StopIteration") (b:=true) h1 isSubtype_stop (wpAny_pure hQ))
theorem b7.upd {h:Heap}{it:Addr}{o:Obj}{t:String}{f:Obj→Obj} (hh:b7 A h) (ho:h.get? it=some o) (hc:o.cls=.type t):b7 A.in1 (h.update it f):=by
 cases hh with
 | no e=>exact .no e
 | is e ho' hc' hd' h2=>exact .is e ((Heap.get?_update_other _ _ (fun q=>by subst q; rw [ho] at ho'; cases ho'; rw [hc] at hc'; cases hc')).trans ho') hc' hd' h2
theorem b7.in1 {h:Heap} (hh:b7 A h):b7 A.in1 h:=by
 cases hh with
 | no e=>exact .no e
 | is e ho' hc' hd' h2=>exact .is e ho' hc' hd' h2
theorem b7.ext {h h':Heap} (hh:b7 A h) (k:∀ (b:Addr) (o:Obj),h.get? b=some o→(∀ t,o.cls ≠ .type t)→h'.get? b=some o):b7 A h':=by
 cases hh with
 | no e=>exact .no e
 | is e ho' hc' hd' h2=>exact .is e (k _ _ ho' fun t q=>by rw [hc'] at q; cases q) hc' hd' h2
theorem uA {it l:Addr}{i:Nat}{items:Array Value}{Q:Option Value→Shared→Prop} (hh:b7 A s.heap) (hit:s.heap.IsListIter it l i) (hl:s.heap.IsList l items) (hx:items[i]?=none)
  (hQ:∀ h',(∀ (b:Addr) (o:Obj),b ≠ it→s.heap.get? b=some o→h'.get? b=some o)→Q none { s with heap:=h' }):wpAny (model prog w) A (pyNext (.ref it)) Q E s:=by
 obtain ⟨o,ho,hc,hd⟩:=id hit
 obtain ⟨ol,hol,_,nl,hdl⟩:=hl
 unfold pyNext
 refine wpAny_bind (wpAny_attempt (wpAny_callSpecial?_slot (name:=Str.ofString "__next__") hit.typeIs slot_listiter_next (wpAny_call_entry slot_listiter_next hit.typeIs entry_listiter_next ?_ (args_listiter_next _))))
 show wpAny _ _ (field (.ref it) 0 >>= _) _ _ s
 refine wpAny_bind (wpAny_field ho hd (x:=.ref l) rfl ?_)
 show wpAny _ _ (if (Value.ref l == Value.none)=true then _ else _) _ _ s
 rw [if_neg (show ¬ ((Value.ref l == Value.none)=true) from Bool.false_ne_true)]
 show wpAny _ _ (field (.ref it) 1 >>= _) _ _ s
 refine wpAny_bind (wpAny_field ho hd (x:=.int i 0) rfl ?_)
 show wpAny _ _ (seqItems? (.ref l) >>= _) _ _ s
 refine wpAny_bind (wpAny_seqItems hol hdl ?_)
 simp only [Int.toNat_natCast,hx]
 refine wpAny_bind (wpAny_rule (wpAny_bind (wpAny_setField ho hd (by simp) ?_)))
 refine fB (hh.upd ho hc) fun e h' k ht=>ic ht (hQ h' fun b ob hb eb=>k b ob ?_)
 rw [Heap.get?_update_other _ _ (Ne.symm hb)]; exact eb
theorem kR {it l:Addr}{i:Nat}{items:Array Value}{Q:Option Value→Shared→Prop} (hh:b7 A s.heap) (hit:s.heap.IsTupleIter it l i) (hl:s.heap.IsTuple l items) (hx:items[i]?=none)
  (hQ:∀ h',(∀ (b:Addr) (o:Obj),b ≠ it→s.heap.get? b=some o→h'.get? b=some o)→Q none { s with heap:=h' }):wpAny (model prog w) A (pyNext (.ref it)) Q E s:=by
 obtain ⟨o,ho,hc,hd⟩:=id hit
 obtain ⟨ol,hol,_,nl,hdl⟩:=hl
 unfold pyNext
 refine wpAny_bind (wpAny_attempt (wpAny_callSpecial?_slot (name:=Str.ofString "__next__") hit.typeIs F.slot_tuple_iterator_next (wpAny_call_entry F.slot_tuple_iterator_next hit.typeIs F.entry_tuple_iterator_next ?_ (F.args_tuple_iterator_next_1 _))))
 show wpAny _ _ (field (.ref it) 0 >>= _) _ _ s
 refine wpAny_bind (wpAny_field ho hd (x:=.ref l) rfl ?_)
 show wpAny _ _ (if (Value.ref l == Value.none)=true then _ else _) _ _ s
 rw [if_neg (show ¬ ((Value.ref l == Value.none)=true) from Bool.false_ne_true)]
 show wpAny _ _ (field (.ref it) 1 >>= _) _ _ s
 refine wpAny_bind (wpAny_field ho hd (x:=.int i 0) rfl ?_)
 show wpAny _ _ (seqItems? (.ref l) >>= _) _ _ s
 refine wpAny_bind (wpAny_seqItems hol hdl ?_)
 simp only [Int.toNat_natCast,hx]
 refine wpAny_bind (wpAny_rule (wpAny_bind (wpAny_setField ho hd (by simp) ?_)))
 refine fB (hh.upd ho hc) fun e h' k ht=>ic ht (hQ h' fun b ob hb eb=>k b ob ?_)
 rw [Heap.get?_update_other _ _ (Ne.symm hb)]; exact eb
theorem qA {it:Addr}{x left step:Int}{Q:Option Value→Shared→Prop} (hh:b7 A s.heap) (hit:IsRangeIter s.heap it x left step) (hleft:left ≤ 0)
  (hQ:∀ h',(∀ (b:Addr) (o:Obj),b ≠ it→s.heap.get? b=some o→h'.get? b=some o)→Q none { s with heap:=h' }):wpAny (model prog w) A (pyNext (.ref it)) Q E s:=by
 have hT:s.TypeIs (.ref it) "range_iterator":=⟨_,hit,rfl⟩
 unfold pyNext
 refine wpAny_bind (wpAny_attempt (wpAny_callSpecial?_slot (name:=Str.ofString "__next__") hT F.slot_range_iterator_next (wpAny_call_entry F.slot_range_iterator_next hT F.entry_range_iterator_next ?_ (F.args_range_iterator_next_1 _))))
 show wpAny _ _ (field (.ref it) 0 >>= _) _ _ s
 refine wpAny_bind (wpAny_field hit rfl (x:=rawInt x) rfl ?_)
 show wpAny _ _ (field (.ref it) 1 >>= _) _ _ s
 refine wpAny_bind (wpAny_field hit rfl (x:=rawInt left) rfl ?_)
 show wpAny _ _ (field (.ref it) 2 >>= _) _ _ s
 refine wpAny_bind (wpAny_field hit rfl (x:=rawInt step) rfl ?_)
 show wpAny _ _ (if left ≤ 0 then _ else _) _ _ s
 rw [if_pos hleft]
 refine wpAny_bind (wpAny_rule (wpAny_bind ?_))
 exact fB hh.in1 fun e h' k ht=>ic ht (hQ h' fun b ob _ eb=>k b ob eb)
theorem kQ {env:Env}{elts:List Expr}{x1:Nat}{pos:Pos}{t:Addr}{items:Array Value}{Q:Unit→Shared→Prop} (hh:b7 A s.heap) (ht:s.heap.IsTuple t items)
  (hn:(assignEach elts env).length=items.size) (hstar:(assignEach elts env).findIdx? (·.1)=none)
  (h:∀ h',(∀ (b:Addr) (o:Obj),s.heap.get? b=some o→h'.get? b=some o)→wpAny (model prog w) A (assignInOrder ((assignEach elts env).map (·.2)) items.toList) Q E { s with heap:=h' }) :
  wpAny (model prog w) A (assign (.Tuple elts x1 pos) env (.ref t)) Q E s:=by
 have hlt:t ≠ s.heap.objs.size:=by obtain ⟨o,ho,_⟩:=ht; exact Nat.ne_of_lt (Heap.lt_size ho)
 rw [arm_assign_Tuple]
 refine wpAny_bind (wpAny_standAt ?_)
 unfold unpack
 rw [hn,hstar]
 refine wpAny_bind (wpAny_holding ?_)
 unfold unpackItems
 refine wpAny_bind ?_
 unfold notIterableAtAll
 refine wpAny_bind (wpAny_specialOf ht.typeIs F.slot_tuple_iter.lookup (wpAny_pure ?_))
 simp only [Bool.false_eq_true,if_false]
 refine wpAny_bind (wpAny_holding (wpAny_pyIter_tuple ht ?_))
 refine wpAny_bind (wpAny_holding (wpAny_draw_tuple hlt items.size 0 _ _ ⟨_,Heap.get?_push_size _ rfl,rfl,rfl⟩ (ht.push _) (Nat.le_of_eq (Nat.zero_add _)) fun h₁ hit₁ hs₁=>?_))
 rw [show List.take items.size (List.drop 0 items.toList)=items.toList from by rw [List.drop_zero]; exact List.take_of_length_le (Nat.le_of_eq Array.length_toList)]
 rw [if_neg (by simp)]
 have k1:∀ (b:Addr) (o:Obj),s.heap.get? b=some o→h₁.get? b=some o:=fun b o e=>hs₁.extBut b o (Nat.ne_of_lt (Heap.lt_size e)) (Heap.get?_push_of_some _ e)
 refine wpAny_bind (wpAny_holding (kR (hh.ext fun b o e _=>k1 b o e) hit₁ ((ht.push _).extBut hs₁.extBut hlt) (by simp) fun h₂ he₂=>?_))
 simp only [Option.isSome_none,Bool.false_eq_true,if_false]
 exact wpAny_pure (h h₂ fun b o e=>he₂ b o (Nat.ne_of_lt (Heap.lt_size e)) (k1 b o e))
end
end Mine
namespace Mine
open PySem PyProof.Rows
noncomputable def aK (g:Cfg) (env:Env) (as:List Addr) (fr:Fra) (s:Shared) (v:V) (σ':Sto) (Q:Value→Shared→Prop):Prop :=
 ∀ (val:Value) (as':List Addr) (h':Heap) (tk:Nat),aC [env.locals] as s.heap as' h'→Rel g as' σ' h'→ay g env as' fr h'→RepV as' h' v val→Q val { s with heap:=h',toks:=tk }
structure At (g:Cfg) (env:Env) (as:List Addr) (fr:Fra) (σ:Sto) (s:Shared):Prop where
 F:ay g env as fr s.heap
 R:Rel g as σ s.heap
set_option tactic.hygienic true in
theorem u6 {a b:Int} (h:fW a b):IntMulOk a b:=by
 have key:∀ (x:Int) (k:Nat),x.natAbs < 2 ^ k→Builtin.Int.intBits x ≤ k:=fun x k hx=>by
  unfold Builtin.Int.intBits
  split
  ·exact Nat.zero_le _
  ·rename_i h0
   have h0':x.natAbs ≠ 0:=by intro q; apply h0; simp; lia
   exact (Nat.log2_lt h0').mpr hx
 unfold IntMulOk
 rcases h with h | h | ⟨h,h'⟩
 ·have:=key a 64 h
  have e:decide (Builtin.Int.intBits a > shortFactorBits)=false:=decide_eq_false (Nat.not_lt.mpr this)
  rw [e]; simp
 ·have:=key b 64 h
  have e:decide (Builtin.Int.intBits b > shortFactorBits)=false:=decide_eq_false (Nat.not_lt.mpr this)
  rw [e]; simp
 ·have h1:=key a 333 (Nat.lt_of_lt_of_le h (by decide +kernel))
  have h2:=key b 333 (Nat.lt_of_lt_of_le h' (by decide +kernel))
  have e:Builtin.Int.intTooBig (Builtin.Int.intBits a + Builtin.Int.intBits b)=false:=by
   unfold Builtin.Int.intTooBig bitsLine
   have:(2:Nat) ^ 27=134217728:=by decide +kernel
   exact decide_eq_false (by lia)
  rw [e]; simp
set_option tactic.hygienic true in
theorem yF {x y:Int} (h:y.natAbs < 10 ^ 100):Builtin.divisionGoesByPylong x y=false:=by
 unfold Builtin.divisionGoesByPylong
 have h1:(if (y == 0)=true then 0 else y.natAbs.log2 / 30 + 1) ≤ 300:=by
  split
  ·exact Nat.zero_le _
  ·rename_i h0
   have h0':y.natAbs ≠ 0:=by intro q; apply h0; simp; lia
   have:y.natAbs.log2 < 333:=(Nat.log2_lt h0').mpr (Nat.lt_of_lt_of_le h (by decide +kernel))
   lia
 simp only [gt_iff_lt,decide_eq_false (Nat.not_lt.mpr h1),Bool.false_and]
theorem az (h:Heap) (o:Obj):∀ (a:Addr) (o':Obj),h.get? a=some o'→(h.push o).get? a=some o':=fun _ _ e=>Heap.get?_push_of_some _ e
theorem new_none (h:Heap):h.get? h.objs.size=none:=by
 cases e:h.get? h.objs.size with
 | none=>rfl
 | some o=>exact absurd (Heap.lt_size e) (Nat.lt_irrefl _)
section
variable {g:Cfg}{env:Env}{A:Around}{X:Value→Shared→Prop}{s:Shared}{as:List Addr}{fr:Fra} {σ σ':Sto}{Q:Value→Shared→Prop}
theorem At.frame (T:At g env as fr σ s) {as':List Addr}{h':Heap} (x:aC [] as s.heap as' h'):ay g env as' fr h' :=
 T.F.keep (T.R.keep0 x) x (by simp)
theorem aK.use {v:V} (hQ:aK g env as fr s v σ' Q) (T:At g env as fr σ s) {val:Value}{as':List Addr}{h':Heap}{tk:Nat} (x:aC [] as s.heap as' h') (R':Rel g as' σ' h') (r:RepV as' h' v val) :
  Q val { s with heap:=h',toks:=tk }:=hQ val as' h' tk (x.grow (by simp)) R' (T.frame x) r
theorem aK.same {v:V} (hQ:aK g env as fr s v σ Q) (T:At g env as fr σ s) {val:Value}{tk:Nat} (r:RepV as s.heap v val):Q val { s with toks:=tk }:=hQ.use T (aC.refl _ _ _) T.R r
theorem aK.same' {v:V} (hQ:aK g env as fr s v σ Q) (T:At g env as fr σ s) {val:Value} (r:RepV as s.heap v val):Q val s:=hQ.same (tk:=s.toks) T r
theorem aK.int {i:Int} (hQ:aK g env as fr s (.int i) σ Q) (T:At g env as fr σ s) {t:Tok}{tk:Nat}:Q (.int i t) { s with toks:=tk }:=hQ.same T (by rw [RepV]; exact ⟨_,rfl⟩)
theorem aK.bool {b:Bool} (hQ:aK g env as fr s (.bool b) σ Q) (T:At g env as fr σ s) {tk:Nat}:Q (.bool b) { s with toks:=tk }:=hQ.same T (by rw [RepV])
theorem aK.bool' {b:Bool} (hQ:aK g env as fr s (.bool b) σ Q) (T:At g env as fr σ s):Q (.bool b) s:=hQ.bool (tk:=s.toks) T
set_option tactic.hygienic true in
theorem aK.new {xs:List V}{items:Array Value}{v:V}{tk:Nat}{h':Heap}{a:Addr} (hQ:aK g env as fr s v σ' Q) (T:At g env as fr σ s) (k:∀ (a:Addr) (o':Obj),s.heap.get? a=some o'→h'.get? a=some o') (hn:s.heap.get? a=none)
  (hp:h'.PlainList a items) (r:ah as s.heap xs items.toList) (e:cN xs σ=.ok v σ'):Q (.ref a) { s with heap:=h',toks:=tk }:=by
 unfold cN at e
 split at e
 ·rename_i hz
  cases e
  have K:bR as s.heap (as ++ [a]) h':=.push k hn
  refine hQ.use T (gN k hn) (T.R.push k hn ⟨items,hp,ah.keep K _ _ r,hz⟩) ?_
  rw [RepV]
  exact ⟨_,rfl,by rw [← T.R.len]; simp⟩
 ·cases e
theorem eM {xs:List V}{v:V} (e:cN xs σ=.ok v σ'):xs.length ≤ 16777216:=by
 unfold cN at e; split at e
 ·assumption
 ·cases e
theorem aK.newH {xs:List V}{items:Array Value}{v:V}{tk:Nat} (hQ:aK g env as fr s v σ' Q) (T:At g env as fr σ s)
  (r:ah as s.heap xs items.toList) (e:cN xs σ=.ok v σ'):Q (.ref s.heap.objs.size) { s with heap:=s.heap.push { cls:=.type "list",data:=.seq items },toks:=tk } :=
 hQ.new T (az _ _) (new_none _) ⟨0,Heap.get?_push_size _ rfl⟩ r e
set_option tactic.hygienic true in
theorem aK.newN {xs:List V}{items:Array Value}{v:V}{tk n:Nat}{h':Heap}{a:Addr}{m m':Str→Option Value}{news:List (Addr × Obj)} (hQ:aK g env as fr s v σ' Q) (T:At g env as fr σ s) (hm:s.heap.Ns env.locals m)
  (F':Fr g.b env.locals h' m') (hm':m'=m) (N':News g.b env.locals h' news) (hs:∀ p ∈ newsOf g.b env.locals s.heap,p ∈ news) (hin:(a,({ cls:=.type "list",data:=.seq items n }:Obj)) ∈ news) (hn:s.heap.get? a=none)
  (r:ah as s.heap xs items.toList) (e:cN xs σ=.ok v σ'):Q (.ref a) { s with heap:=h',toks:=tk }:=by
 subst hm'
 have ext:=d9 F' N' hs T.R.base
 unfold cN at e
 split at e
 ·rename_i hz
  cases e
  have x:aC [env.locals] as s.heap (as ++ [a]) h':=⟨⟨[a],rfl,fun b hb=>by simp at hb; subst hb; exact hn⟩,fun b o e h1 _=>ext b o (by simpa using h1) e⟩
  have K:=T.R.keep x T.F.notImm
  have hpl:h'.PlainList a items:=⟨n,(N' _ hin).1⟩
  have hL:env.locals ≠ a:=fun q=>(N' _ hin).2.1 q.symm
  have obj':∀ (i:Nat) (b:Addr) (o:AO),as[i]?=some b→σ[i]?=some o→o4 g (as ++ [a]) h' o b:=fun i b o h1 h2 =>
   (T.R.obj i b o h1 h2).keep K fun ob e=>ext b ob (fun q=>T.F.off (q ▸ List.mem_of_getElem? h1)) e
  have hna:a ∉ as:=fun q=>by obtain ⟨ob,e,_⟩:=T.R.there q; rw [hn] at e; cases e
  have R':Rel g (as ++ [a]) (σ ++ [.lst xs]) h':=by
   refine ⟨F'.keep,by simp [T.R.len],?_,fun b hb=>?_,fun i b ob h1 h2=>?_,T.R.hnd.keep K⟩
   ·exact List.nodup_append.mpr ⟨T.R.nd,by simp,fun x hx y hy e=>by simp at hy; subst hy; subst e; exact hna hx⟩
   ·rcases List.mem_append.mp hb with q | q
    ·exact T.R.new b q
    ·simp at q; subst q; exact (N' _ hin).2.2
   ·rcases Nat.lt_trichotomy i as.length with hi | hi | hi
    ·rw [List.getElem?_append_left hi] at h1
     rw [List.getElem?_append_left (T.R.len ▸ hi)] at h2
     exact obj' i b ob h1 h2
    ·subst hi
     rw [T.R.len] at h2
     simp at h1 h2; subst h1; subst h2
     exact ⟨items,hpl,ah.keep K _ _ r,hz⟩
    ·rw [List.getElem?_eq_none (by simp; lia)] at h1; cases h1
  refine hQ (.ref a) (as ++ [a]) h' tk x R' ?_ ?_
  ·obtain ⟨m0,hm0,hv⟩:=T.F.ns
   have hmm:∀ x,m0 x=m' x:=fun x=>hm0.agree hm x
   refine ⟨T.F.kind,T.F.above,T.F.glob,T.F.blt,T.F.len,T.F.nd,⟨m',F'.ns,fun i x v h1 h2=>?_⟩,fun i x k h1 h2=>?_,fun q=>?_,fun x c hc=>⟨fun q=>?_,(T.F.offc _ _ hc).2.1,?_⟩,T.F.apart,T.F.newc⟩
   ·obtain ⟨val,e1,e2⟩:=hv i x v h1 h2
    exact ⟨val,by rw [← hmm]; exact e1,RepV.keep K _ _ e2⟩
   ·obtain ⟨c,cv,e1,⟨o,e2,e2'⟩,e3⟩:=T.F.cells i x k h1 h2
    refine ⟨c,cv,e1,⟨o,ext _ _ (T.F.offc _ _ e1).2.1 e2,e2'⟩,fun v e=>?_⟩
    obtain ⟨val,e4,e5⟩:=e3 v e
    exact ⟨val,e4,RepV.keep K _ _ e5⟩
   ·rcases List.mem_append.mp q with q | q
    ·exact T.F.off q
    ·simp at q; exact hL q
   ·rcases List.mem_append.mp q with q | q
    ·exact (T.F.offc _ _ hc).1 q
    ·simp at q; subst q
     obtain ⟨cv,o,e,_⟩:=(T.F.offc _ _ hc).2.2; rw [hn] at e; cases e
   ·obtain ⟨cv,o,e,e'⟩:=(T.F.offc _ _ hc).2.2
    exact ⟨cv,o,ext _ _ (T.F.offc _ _ hc).2.1 e,e'⟩
  ·rw [RepV]; exact ⟨_,rfl,by rw [← T.R.len]; simp⟩
 ·cases e
theorem At.byNews {h':Heap}{m:Str→Option Value}{news:List (Addr × Obj)} (T:At g env as fr σ s) (hm:s.heap.Ns env.locals m) (F':Fr g.b env.locals h' m) (N':News g.b env.locals h' news)
  (hs:∀ p ∈ newsOf g.b env.locals s.heap,p ∈ news):bR as s.heap as h' ∧ aC [env.locals] as s.heap as h' ∧ Rel g as σ h' ∧ ay g env as fr h':=by
 have ext:=d9 F' N' hs T.R.base
 have x:aC [env.locals] as s.heap as h':=⟨⟨[],by simp,by simp⟩,fun b o e h1 _=>ext b o (by simpa using h1) e⟩
 have K:=T.R.keep x T.F.notImm
 refine ⟨K,x,⟨F'.keep,T.R.len,T.R.nd,T.R.new,fun i b o h1 h2=>(T.R.obj i b o h1 h2).keep K fun ob e=>ext b ob (fun q=>T.F.off (q ▸ List.mem_of_getElem? h1)) e,T.R.hnd.keep K⟩,?_⟩
 obtain ⟨m0,hm0,hv⟩:=T.F.ns
 have hmm:∀ x,m0 x=m x:=fun x=>hm0.agree hm x
 refine ⟨T.F.kind,T.F.above,T.F.glob,T.F.blt,T.F.len,T.F.nd,⟨m,F'.ns,fun i x v h1 h2=>?_⟩,fun i x k h1 h2=>?_,T.F.off,fun x c hc=>⟨(T.F.offc _ _ hc).1,(T.F.offc _ _ hc).2.1,?_⟩,T.F.apart,T.F.newc⟩
 ·obtain ⟨val,e1,e2⟩:=hv i x v h1 h2
  exact ⟨val,by rw [← hmm]; exact e1,RepV.keep K _ _ e2⟩
 ·obtain ⟨c,cv,e1,⟨o,e2,e2'⟩,e3⟩:=T.F.cells i x k h1 h2
  refine ⟨c,cv,e1,⟨o,ext _ _ (T.F.offc _ _ e1).2.1 e2,e2'⟩,fun v e=>?_⟩
  obtain ⟨val,e4,e5⟩:=e3 v e
  exact ⟨val,e4,RepV.keep K _ _ e5⟩
 ·obtain ⟨cv,o,e,e'⟩:=(T.F.offc _ _ hc).2.2
  exact ⟨cv,o,ext _ _ (T.F.offc _ _ hc).2.1 e,e'⟩
inductive vy (as:List Addr) (h:Heap) (l:Nat) (vs:List V):Value→Prop
 | mk (a:Addr) (items:Array Value) (n:Nat) (hl:as[l]?=some a) (ho:IsL h a items n) (hr:ah as h vs items.toList) (hz:vs.length ≤ 16777216) (hs:items.size=vs.length):vy as h l vs (.ref a)
theorem hG {l:Nat}{x:Value}{vs:List V}{h:Heap} (R:Rel g as σ h) (r:RepV as h (.ref l) x) (e:getL σ l=some vs):vy as h l vs x:=by
 rw [RepV] at r
 obtain ⟨a,rfl,ha⟩:=r
 unfold getL at e
 cases q:σ[l]? with
 | none=>rw [q] at e; exact nn e
 | some o =>
  rw [q] at e
  cases o <;> first | exact nn e | skip
  cases Option.some.inj e
  obtain ⟨items,⟨n,p⟩,hr,z⟩:=R.obj l a _ ha q
  exact ⟨a,items,n,ha,p,hr,z,by have:=(ah.f2.mp hr).length; rw [this,Array.length_toList]⟩
theorem mM {l:Nat}{x:Value}{vs:List V} (R:Rel g as σ s.heap) (r:RepV as s.heap (.ref l) x) (e:getL σ l=some vs) :
  ∃ a items n,x=.ref a ∧ as[l]?=some a ∧ IsL s.heap a items n ∧ ah as s.heap vs items.toList ∧ vs.length ≤ 16777216 ∧ items.size=vs.length:=by
 cases hG R r e with
 | mk a items n hl ho hr hz hs=>exact ⟨a,items,n,rfl,hl,ho,hr,hz,hs⟩
theorem aw {l:Nat}{x:Value}{vs:List V}{G:Prop} (R:Rel g as σ s.heap) (r:RepV as s.heap (.ref l) x) (e:getL σ l=some vs)
  (k:∀ a items n,x=.ref a→as[l]?=some a→IsL s.heap a items n→ah as s.heap vs items.toList→vs.length ≤ 16777216→items.size=vs.length→G):G :=
 let ⟨a,items,n,h1,h2,h3,h4,h5,h6⟩:=mM R r e; k a items n h1 h2 h3 h4 h5 h6
theorem ij {l:Nat}{vs:List V} (e:σ[l]?=some (.lst vs)):getL σ l=some vs:=by unfold getL; rw [e]
theorem kM (x:Value):∀ (n:Nat) (acc:Array Value),(List.foldl (fun x1 x2=>x1 ++ x2) acc (List.replicate n #[x])).toList=acc.toList ++ List.replicate n x
 | 0,acc=>by simp
 | n + 1,acc=>by rw [List.replicate_succ,List.foldl_cons,kM x n]; simp [List.replicate_succ]
theorem ax {v:V} {σ':Sto}{P:Prop} (h:RE.bad=.ok v σ'):P:=nomatch h
theorem cg {h:Heap}{i:Int}{x:Value} (r:RepV as h (.int i) x):∃ t,x=.int i t:=by rw [RepV] at r; exact r
theorem mo {a b v:V}{f:Int→Int→RE} (e:wII a b f=.ok v σ'):∃ x y,a=.int x ∧ b=.int y ∧ f x y=.ok v σ':=by
 cases a <;> first | exact ax e | skip
 cases b <;> first | exact ax e | exact ⟨_,_,rfl,rfl,e⟩
theorem ja {o:Option (List V)}{f:List V→RE}{v:V} (e:(match o with | some xs=>f xs | none=>.bad)=.ok v σ'):∃ xs,o=some xs ∧ f xs=.ok v σ':=by
 cases o with
 | none=>exact ax e
 | some xs=>exact ⟨xs,rfl,e⟩
theorem eE {c:Prop} [Decidable c] {v:V}{r:RE} (e:(if c then r else .bad)=.ok v σ'):c ∧ r=.ok v σ':=by
 by_cases h:c
 ·rw [if_pos h] at e; exact ⟨h,e⟩
 ·rw [if_neg h] at e; exact ax e
theorem bw {v w:V} {τ:Sto} (e:RE.ok v τ=.ok w σ'):w=v ∧ σ'=τ:=by cases e; exact ⟨rfl,rfl⟩
theorem AH {a b v:V}{x y:Value} (T:At g env as fr σ s) (ha:RepV as s.heap a x) (hb:RepV as s.heap b y)
  (e:Bq a b σ=.ok v σ') (hQ:aK g env as fr s v σ' Q):wpAny (model g.prog g.w) A (binaryOp .Add x y) Q X s:=by
 cases a <;> first | exact ax e | skip
 ·cases b <;> first | exact ax e | skip
  obtain ⟨rfl,rfl⟩:=bw e
  obtain ⟨t,rfl⟩:=cg ha; obtain ⟨u,rfl⟩:=cg hb
  exact PyProof.Rows.add_int (hQ.int T)
 ·cases b <;> first | exact ax e | skip
  obtain ⟨hz,e⟩:=eE e
  obtain ⟨rfl,rfl⟩:=bw e
  rw [RepV] at ha hb; obtain ⟨t,rfl⟩:=ha; obtain ⟨u,rfl⟩:=hb
  refine PyProof.Rows.add_str (fun t' tk=>hQ.same T (by rw [RepV]; exact ⟨_,rfl⟩)) (Nat.le_trans hz (by decide))
 ·cases b <;> first | exact ax e | skip
  obtain ⟨xs,e1,e⟩:=ja e
  obtain ⟨ys,e2,e⟩:=ja e
  refine aw T.R ha e1 fun a1 i1 n1 qx _ p1 q1 _ z1=>?_; subst qx
  refine aw T.R hb e2 fun a2 i2 n2 qx _ p2 q2 _ z2=>?_; subst qx
  have hz:=eM e
  refine P.add_list p1 p2 (hQ.newH (tk:=s.toks) (xs:=xs ++ ys) T ?_ e) ?_
  ·rw [Array.toList_append]; exact ah.f2.mpr ((ah.f2.mp q1).append (ah.f2.mp q2))
  ·rw [z1,z2]; show _ ≤ 2 ^ 24; simpa using hz
set_option tactic.hygienic true in
theorem Bk {a b v:V}{x y:Value} (T:At g env as fr σ s) (ha:RepV as s.heap a x) (hb:RepV as s.heap b y)
  (e:BA a b σ=.ok v σ') (hQ:aK g env as fr s v σ' Q):wpAny (model g.prog g.w) A (binaryOp .Mult x y) Q X s:=by
 cases b <;> first | exact ax e | skip
 rename_i n
 obtain ⟨u,rfl⟩:=cg hb
 cases a <;> first | exact ax e | skip
 ·obtain ⟨hm,e⟩:=eE e
  obtain ⟨rfl,rfl⟩:=bw e
  obtain ⟨t,rfl⟩:=cg ha
  exact PyProof.Rows.mul_int (hQ.int T) (u6 hm)
 ·rename_i l
  have e:zF (getL σ l) n σ=.ok v σ':=e
  rcases e1:getL σ l with _ | ⟨_ | ⟨x1,_ | ⟨x2,xs⟩⟩⟩ <;> rw [e1] at e
  ·exact ax e
  ·exact ax e
  ·obtain ⟨hlo,e⟩:=eE e
   refine aw T.R ha e1 fun a1 i1 n1 qx _ p1 q1 _ z1=>?_; subst qx
   have hz:=eM e
   rw [List.length_replicate] at hz
   obtain ⟨m,hF,_⟩:=T.F.fr T.R
   have hz1:i1.size=1:=by simpa using z1
   refine mul_list hF (eQ _ _ _) p1 (by lia) (by lia) (by rw [hz1]; lia) fun h' F' N'=>?_
   rw [ah] at q1
   obtain ⟨y,ys,q2,q3,q4⟩:=q1
   rw [ah] at q4; subst q4
   have hi:i1=#[y]:=by apply Array.ext'; simpa using q2
   subst hi
   refine hQ.newN (tk:=s.toks) (xs:=List.replicate n.toNat x1) T hF.ns F' rfl N' (fun p hp=>.tail _ hp) (.head _) (new_none _) ?_ e
   have:(if (#[y]:Array Value).isEmpty=true then 0 else n.toNat)=n.toNat:=by simp
   rw [this,kM]
   simpa using ah.f2.mpr (F2.replicate q3 n.toNat)
  ·exact ax e
theorem zM {op:Operator}{a b v:V}{x y:Value} (T:At g env as fr σ s) (ha:RepV as s.heap a x) (hb:RepV as s.heap b y)
  (e:oi op a b σ=.ok v σ') (hQ:aK g env as fr s v σ' Q):wpAny (model g.prog g.w) A (binaryOp op x y) Q X s:=by
 cases op <;> first | exact ax e | exact AH T ha hb e hQ | exact Bk T ha hb e hQ | skip
 ·obtain ⟨i,j,rfl,rfl,e'⟩:=mo e
  obtain ⟨rfl,rfl⟩:=bw e'
  obtain ⟨t,rfl⟩:=cg ha; obtain ⟨u,rfl⟩:=cg hb
  exact PyProof.Rows.sub_int (hQ.int T)
 ·obtain ⟨i,j,rfl,rfl,e'⟩:=mo e
  by_cases hm:j=0
  ·rw [if_pos hm] at e'; exact ax e'
  ·rw [if_neg hm] at e'
   obtain ⟨rfl,rfl⟩:=bw e'
   obtain ⟨t,rfl⟩:=cg ha; obtain ⟨u,rfl⟩:=cg hb
   exact PyProof.Rows.mod_int hm (hQ.int T)
 ·obtain ⟨i,j,rfl,rfl,e'⟩:=mo e
  obtain ⟨hm,e'⟩:=eE e'
  obtain ⟨rfl,rfl⟩:=bw e'
  obtain ⟨t,rfl⟩:=cg ha; obtain ⟨u,rfl⟩:=cg hb
  exact PyProof.Rows.floordiv_int hm.1 (hQ.int T) (.inl (yF hm.2))
end
end Mine
namespace Mine
open PySem PyProof.Rows
structure cb (g:Cfg) (A:Around) (n:Nat):Prop where
 units:A.units + 20 * n + 60 ≤ 9900
 depth:A.depth + 4 * n + 20 ≤ 1000
 handled:A.handled=g.hd.map .ref
theorem cb.none {g:Cfg}{A:Around}{n:Nat} (h:cb g A n) (q:g.hd=.none):A.handled=.none:=by rw [h.handled,q]; rfl
theorem jJ {g:Cfg}{A:Around}{as:List Addr} {σ:Sto}{h:Heap} (e:A.handled=g.hd.map .ref) (R:Rel g as σ h):b7 A h:=by
 cases q:g.hd with
 | none=>rw [q] at e; exact .no e
 | some a =>
  rw [q] at e
  obtain ⟨o,C,vs,e1,e2,e3,e4⟩:=R.hnd a q
  exact .is e e1 e2 e3 e4
set_option tactic.hygienic true in
theorem qm {α β:Type}{f:α→Option β}{x:α}{xs:List α}{ys:List β} (e:aQ f (x :: xs)=some ys):∃ y r,f x=some y ∧ aQ f xs=some r ∧ ys=y :: r:=by
 rw [gX] at e
 split at e
 ·rename_i y r h1 h2; cases e; exact ⟨y,r,h1,h2,rfl⟩
 ·cases e
section
variable {g:Cfg}{as:List Addr} {σ:Sto}{h:Heap}
theorem cn {α β:Type}{f:α→Option β}{x:α}{xs:List α}{ys:List β}{G:Prop} (e:aQ f (x :: xs)=some ys) (k:∀ y r,f x=some y→aQ f xs=some r→ys=y :: r→G):G:=let ⟨y,r,h1,h2,h3⟩:=qm e; k y r h1 h2 h3
theorem er {f:V→Option PyData}{n:Nat} (hf:∀ v d x,f v=some d→RepV as h v x→∃ bs,Reads h x d bs ∧ d.canLay0=true ∧ d.depth ≤ n) :
  ∀ (vs:List V) (ds:List PyData) (xs:List Value),aQ f vs=some ds→ah as h vs xs→∃ bs,ReadsAll h xs ds bs ∧ PyData.canLayAll0 ds=true ∧ PyData.depthAll ds ≤ n
 | [],ds,xs,e,r=>by
  rw [du] at e; cases e; rw [ah] at r; subst r
  exact ⟨_,.nil,rfl,by simp [PyData.depthAll]⟩
 | v :: vs,ds,xs,e,r=>by
  refine cn e fun d r' e1 e2 qx4=>?_; subst qx4
  rw [ah] at r
  obtain ⟨y,ys,rfl,r1,r2⟩:=r
  obtain ⟨b1,h1,h2,h3⟩:=hf v d y e1 r1
  obtain ⟨b2,h4,h5,h6⟩:=er hf vs r' ys e2 r2
  exact ⟨_,.cons h1 h4,by simp [PyData.canLayAll0,h2,h5],by simp [PyData.depthAll]; lia⟩
set_option tactic.hygienic true in
theorem eZ (R:Rel g as σ h):∀ (n:Nat) (v:V) (d:PyData) (x:Value),toD n σ v=some d→RepV as h v x→∃ bs,Reads h x d bs ∧ d.canLay0=true ∧ d.depth ≤ n
 | 0,_,_,_,e,_=>nn e
 | n + 1,v,d,x,e,r=>by
  have ih:=eZ R n
  have e:Bz (toD n σ) σ v=some d:=e
  cases v with
  | none=>cases e; rw [RepV] at r; subst r; exact ⟨_,.none,rfl,Nat.zero_le _⟩
  | bool b=>cases e; rw [RepV] at r; subst r; exact ⟨_,.bool b,rfl,Nat.zero_le _⟩
  | int i=>cases e; rw [RepV] at r; obtain ⟨t,rfl⟩:=r; exact ⟨_,.int i t,rfl,Nat.zero_le _⟩
  | str s =>
   have e:(if PyData.strOk s then some (PyData.str s) else none)=some d:=e
   split at e
   ·rename_i ho; cases e; rw [RepV] at r; obtain ⟨t,rfl⟩:=r; exact ⟨_,.str s t,by simpa [PyData.canLay0] using ho,Nat.zero_le _⟩
   ·cases e
  | tup vs =>
   refine bT e fun ds e1 qx2=>?_; subst qx2
   rw [RepV] at r
   obtain ⟨a,items,k,rfl,ho,_,hr⟩:=r
   obtain ⟨bs,h1,h2,h3⟩:=er ih vs ds _ e1 hr
   exact ⟨_,.tuple ho rfl rfl h1,h2,Nat.succ_le_succ h3⟩
  | ref l =>
   have e:(match getL σ l with | some vs=>(aQ (toD n σ) vs).map PyData.list | none=>none)=some d:=e
   cases hl:getL σ l with
   | none=>rw [hl] at e; exact nn e
   | some vs =>
    rw [hl] at e
    refine bT e fun ds e1 qx2=>?_; subst qx2
    refine aw (s:={ heap:=h }) R r hl fun a items k qx _ ho hr _ _=>?_; subst qx
    obtain ⟨bs,h1,h2,h3⟩:=er ih vs ds _ e1 hr
    exact ⟨_,.list ho rfl rfl h1,h2,Nat.succ_le_succ h3⟩
  | rng lo hi=>exact nn e
  | exc c=>exact nn e
end
theorem bo {as:List Addr}{h:Heap}:∀ {vs:List V}{is:List Int}{xs:List Value},aA vs=some is→ah as h vs xs→IntsAre xs is
 | [],is,xs,e,r=>by
  unfold aA at e; rw [du] at e; cases e; rw [ah] at r; subst r; exact .nil
 | v :: vs,is,xs,e,r=>by
  unfold aA at e
  refine cn e fun i r' e1 e2 qx4=>?_; subst qx4
  rw [ah] at r
  obtain ⟨y,ys,rfl,r1,r2⟩:=r
  cases v with
  | int j=>cases e1; rw [RepV] at r1; obtain ⟨t,rfl⟩:=r1; exact .cons _ _ (bo (vs:=vs) e2 r2)
  | _=>cases e1
section
variable {g:Cfg}{env:Env}{A:Around}{X:Value→Shared→Prop}{s:Shared}{as:List Addr}{fr:Fra} {σ σ':Sto}{Q:Value→Shared→Prop}
set_option tactic.hygienic true in
theorem BL {a b:V}{x y:Value}{r:Bool}{n:Nat} (T:At g env as fr σ s) (hA:cb g A n) (ha:RepV as s.heap a x) (hb:RepV as s.heap b y)
  (e:eqV σ a b=some r) (hQ:Q (.bool r) s):wpAny (model g.prog g.w) A (compareOp .Eq x y) Q X s:=by
 unfold eqV at e
 split at e
 ·rename_i da db e1 e2
  cases e
  obtain ⟨_,r1,c1,d1⟩:=eZ T.R 5 a da x e1 ha
  obtain ⟨_,r2,c2,d2⟩:=eZ T.R 5 b db y e2 hb
  exact SeqAt.compareEq_reads r1 r2 c1 c2 (by have:=hA.units; show _ < 9900; lia) hQ
 ·cases e
set_option tactic.hygienic true in
theorem BM {a b:V}{x y:Value}{r:Bool}{n:Nat} (T:At g env as fr σ s) (hA:cb g A n) (ha:RepV as s.heap a x) (hb:RepV as s.heap b y)
  (e:eqV σ a b=some r) (hQ:Q (.bool (!r)) s):wpAny (model g.prog g.w) A (compareOp .NotEq x y) Q X s:=by
 unfold eqV at e
 split at e
 ·rename_i da db e1 e2
  cases e
  obtain ⟨_,r1,c1,d1⟩:=eZ T.R 5 a da x e1 ha
  obtain ⟨_,r2,c2,d2⟩:=eZ T.R 5 b db y e2 hb
  exact SeqAt.compareNe_reads r1 r2 c1 c2 (by have:=hA.units; show _ < 9900; lia) hQ
 ·cases e
theorem uP {is:List Int}{i:Int}:is.any (· == i)=decide (i ∈ is):=by
 induction is with
 | nil=>rfl
 | cons j r ih =>
  rw [List.any_cons,ih]
  by_cases h:j=i
  ·subst h; simp
  ·have h':¬ i=j:=fun q=>h q.symm
   simp [h,h']
structure Sys (g:Cfg):Prop where
 sys:sysModules < g.b.objs.size
theorem wx {h:Heap}{i:Int}:∀ {es:List (Int × V)}{kvs:List (Int × Value)},F2 (fun (e:Int × V) (x:Int × Value)=>e.1=x.1 ∧ RepV as h e.2 x.2) es kvs →
  (valueAt kvs i).isSome=es.any (fun e=>e.1 == i) ∧ ∀ v,es.lookup i=some v→∃ y,valueAt kvs i=some y ∧ RepV as h v y:=by
 intro es kvs f
 induction f with
 | nil=>exact ⟨rfl,fun v e=>by cases e⟩
 | @cons a b as' bs x r ih =>
  obtain ⟨h1,h2⟩:=x
  obtain ⟨k,v0⟩:=a
  obtain ⟨k',y0⟩:=b
  have h1':k=k':=h1
  subst h1'
  have e0:valueAt ((k,y0) :: bs) i=if k=i then some y0 else valueAt bs i:=by
   unfold valueAt
   rw [List.find?_cons]
   by_cases hk:k=i <;> simp [hk]
  rw [e0,List.lookup_cons,List.any_cons]
  by_cases hk:k=i
  ·subst hk; simpa using h2
  ·simp only [hk,if_false,Bool.false_or,beq_eq_false_iff_ne.mpr hk,show (i == k)=false from beq_eq_false_iff_ne.mpr (Ne.symm hk)]
   exact ih
theorem zh {h:Heap}{i:List Int}:∀ {es:List (List Int × V)}{xs:List (List Int × Addr × Value)},F2 (fun (e:List Int × V) (x:List Int × Addr × Value)=>e.1=x.1 ∧ RepV as h e.2 x.2.2) es xs →
  (atKey xs i).isSome=es.any (fun e=>e.1 == i) ∧ ∀ v,es.lookup i=some v→∃ p,atKey xs i=some p ∧ RepV as h v p.2:=by
 intro es xs f
 induction f with
 | nil=>exact ⟨rfl,fun v e=>by cases e⟩
 | @cons a b as' bs x r ih =>
  obtain ⟨h1,h2⟩:=x
  obtain ⟨k,v0⟩:=a
  obtain ⟨k',y0⟩:=b
  have h1':k=k':=h1
  subst h1'
  have e0:atKey ((k,y0) :: bs) i=if k=i then some y0 else atKey bs i:=by
   unfold atKey
   rw [List.find?_cons]
   by_cases hk:k=i <;> simp [hk]
  rw [e0,List.lookup_cons,List.any_cons]
  by_cases hk:k=i
  ·subst hk; simpa using h2
  ·simp only [hk,if_false,Bool.false_or,beq_eq_false_iff_ne.mpr hk,show (i == k)=false from beq_eq_false_iff_ne.mpr (Ne.symm hk)]
   exact ih
theorem gW {ks:List V}{k:List Int}{x:Value}{h:Heap} (r:RepV as h (.tup ks) x) (e:aA ks=some k):∃ a,x=.ref a ∧ IsTupleKey (intKind g.prog g.w) h k a ∧ a ∉ as:=by
 rw [RepV] at r
 obtain ⟨a,items,n,rfl,ho,hz,hr⟩:=r
 refine ⟨a,rfl,⟨_,items,n,ho,rfl,rfl,?_⟩,hz.2⟩
 have:=bo e hr
 clear ho hr e hz
 generalize items.toList=xs at this
 induction this with
 | nil=>exact .nil
 | cons n t _ ih=>exact .cons (intKind_is _ _ _ _) ih
inductive InC (σ:Sto) (r:Bool):V→V→Prop
 | lst {l:Nat}{i:Int}{vs:List V}{is:List Int} (hl:σ[l]?=some (.lst vs)) (e1:aA vs=some is) (e2:decide (i ∈ is)=r):InC σ r (.int i) (.ref l)
 | dI {l:Nat}{i:Int}{es:List (Int × V)} (hl:σ[l]?=some (.dI es)) (e2:(es.any fun e=>e.1 == i)=r):InC σ r (.int i) (.ref l)
 | dT {l:Nat}{ks:List V}{k:List Int}{es:List (List Int × V)} (hl:σ[l]?=some (.dT es)) (e1:aA ks=some k) (e2:(es.any fun e=>e.1 == k)=r):InC σ r (.tup ks) (.ref l)
set_option tactic.hygienic true in
theorem r7 {a c:V}{r:Bool} (e:inV σ a c=some r):InC σ r a c:=by
 cases c <;> first | exact nn e | skip
 rename_i l
 have e:inO σ[l]? a=some r:=e
 cases hl:σ[l]? with
 | none=>rw [hl] at e; exact nn e
 | some o =>
  rw [hl] at e
  cases o <;> first | exact nn e | skip
  ·cases a <;> first | exact nn e | skip
   refine bT e fun is e1 e2=>?_
   exact .lst hl e1 e2
  ·cases a <;> first | exact nn e | skip
   exact .dI hl (Option.some.inj e)
  ·cases a <;> first | exact nn e | skip
   refine bT e fun k e1 e2=>?_
   exact .dT hl e1 e2
theorem BX {a c:V}{x y:Value}{r:Bool}{n:Nat} (G:Sys g) (T:At g env as fr σ s) (hA:cb g A n) (ha:RepV as s.heap a x) (hc:RepV as s.heap c y)
  (e:inV σ a c=some r) (hQ:aK g env as fr s (.bool r) σ Q):wpAny (model g.prog g.w) A (compareOp .In x y) Q X s:=by
 cases r7 e with
 | lst hl e1 e2 =>
  refine aw T.R hc (ij hl) fun a1 items k qx _ ho hr _ _=>?_; subst qx
  rw [RepV] at ha; obtain ⟨t,rfl⟩:=ha
  have hi:=bo e1 hr
  refine in_list_ints (vs:=items.toList) (by simpa using ho.isList) hi ?_
  rw [uP,e2]; exact hQ.bool' T
 | dI hl e2 =>
  subst e2
  rw [RepV] at ha; rw [RepV] at hc; obtain ⟨t,rfl⟩:=ha; obtain ⟨d,rfl,hd⟩:=hc
  obtain ⟨kvs,hk,hf,_,hns⟩:=T.R.obj _ _ _ hd hl
  refine wpAny_in_of (intKind_is _ _ _ t) hns hk.mapOf ?_
  rw [(wx hf).1]; exact hQ.bool T
 | dT hl e1 e2 =>
  obtain ⟨ta,rfl,hk,_⟩:=gW (g:=g) ha e1
  rw [RepV] at hc; obtain ⟨d,rfl,hd⟩:=hc
  obtain ⟨xs,hx,hf,_,hns⟩:=T.R.obj _ _ _ hd hl
  refine wpAny_in_heap (knd:=tupleKind (intKind g.prog g.w)) (tupleKind_room_in1 (by have:=hA.units; show _ < 9900; lia)) hk hns hx ?_
  rw [(zh hf).1,e2]; exact hQ.bool T
theorem wT {a c:V}{x y:Value}{r:Bool} (G:Sys g) (T:At g env as fr σ s) (ha:RepV as s.heap a x) (hc:RepV as s.heap c y)
  (e:m9 σ a c=some r) (hQ:aK g env as fr s (.bool r) σ Q):wpAny (model g.prog g.w) A (compareOp .NotIn x y) Q X s:=by
 cases a <;> first | exact nn e | skip
 refine bT e fun r0 e' qx2=>?_; subst qx2
 cases r7 e' with
 | lst hl e1 e2 =>
  refine aw T.R hc (ij hl) fun a1 items k qx _ ho hr _ _=>?_; subst qx
  rw [RepV] at ha; obtain ⟨t,rfl⟩:=ha
  have hi:=bo e1 hr
  refine notin_list_ints (vs:=items.toList) (by simpa using ho.isList) hi ?_
  rw [uP,e2]; exact hQ.bool' T
 | dI hl e2 =>
  subst e2
  rw [RepV] at ha; rw [RepV] at hc; obtain ⟨t,rfl⟩:=ha; obtain ⟨d,rfl,hd⟩:=hc
  obtain ⟨kvs,hk,hf,_,hns⟩:=T.R.obj _ _ _ hd hl
  refine wpAny_notIn_of (intKind_is _ _ _ t) hns hk.mapOf ?_
  rw [(wx hf).1]; exact hQ.bool T
theorem iX {h:Heap}{v:V}{x:Value} (r:RepV as h v x):(x == Value.none)=isNone v:=by
 cases v with
 | none=>rw [RepV] at r; subst r; rfl
 | bool b=>rw [RepV] at r; subst r; rfl
 | int i=>rw [RepV] at r; obtain ⟨t,rfl⟩:=r; rfl
 | str i=>rw [RepV] at r; obtain ⟨t,rfl⟩:=r; rfl
 | tup i=>rw [RepV] at r; obtain ⟨t,_,_,rfl,_⟩:=r; rfl
 | ref i=>rw [RepV] at r; obtain ⟨t,rfl,_⟩:=r; rfl
 | rng i j=>rw [RepV] at r; obtain ⟨t,_,_,_,rfl,_⟩:=r; rfl
 | exc c=>rw [RepV] at r; obtain ⟨t,_,_,rfl,_⟩:=r; rfl
theorem kU {op:CmpOp}{a b:V}{x y:Value}{r:Bool}{n:Nat} (G:Sys g) (T:At g env as fr σ s) (hA:cb g A n) (ha:RepV as s.heap a x) (hb:RepV as s.heap b y)
  (e:gq op a b σ=some r) (hQ:aK g env as fr s (.bool r) σ Q):wpAny (model g.prog g.w) A (compareOp op x y) Q X s:=by
 unfold gq at e
 cases op with
 | Lt =>
  dsimp only at e; split at e
  ·cases e; rw [RepV] at ha hb; obtain ⟨t,rfl⟩:=ha; obtain ⟨u,rfl⟩:=hb; exact PyProof.Rows.lt_int (hQ.bool' T)
  ·cases e
 | LtE =>
  dsimp only at e; split at e
  ·cases e; rw [RepV] at ha hb; obtain ⟨t,rfl⟩:=ha; obtain ⟨u,rfl⟩:=hb; exact PyProof.Rows.le_int (hQ.bool' T)
  ·cases e
 | Gt =>
  dsimp only at e; split at e
  ·cases e; rw [RepV] at ha hb; obtain ⟨t,rfl⟩:=ha; obtain ⟨u,rfl⟩:=hb; exact PyProof.Rows.gt_int (hQ.bool' T)
  ·cases e
 | GtE =>
  dsimp only at e; split at e
  ·cases e; rw [RepV] at ha hb; obtain ⟨t,rfl⟩:=ha; obtain ⟨u,rfl⟩:=hb; exact PyProof.Rows.ge_int (hQ.bool' T)
  ·cases e
 | Eq =>
  dsimp only at e; split at e
  ·cases e; rw [RepV] at ha hb; obtain ⟨t,rfl⟩:=ha; obtain ⟨u,rfl⟩:=hb; exact PyProof.Rows.eq_int (hQ.bool' T)
  ·exact BL T hA ha hb e (hQ.bool' T)
 | NotEq =>
  dsimp only at e; split at e
  ·cases e; rw [RepV] at ha hb; obtain ⟨t,rfl⟩:=ha; obtain ⟨u,rfl⟩:=hb; exact PyProof.Rows.ne_int (hQ.bool' T)
  ·obtain ⟨r',e1,rfl⟩:=Option.map_eq_some_iff.mp e
   exact BM T hA ha hb e1 (hQ.bool' T)
 | Is =>
  dsimp only at e; split at e
  ·cases e; rw [RepV] at hb; subst hb
   exact is_none_gen (by rw [iX ha]; exact hQ.bool' T)
  ·cases e
 | IsNot =>
  dsimp only at e; split at e
  ·cases e; rw [RepV] at hb; subst hb
   exact isnot_none_gen (by rw [iX ha]; exact hQ.bool' T)
  ·cases e
 | In=>exact BX G T hA ha hb e hQ
 | NotIn=>exact wT G T ha hb e hQ
end
end Mine
namespace Mine
open PySem PyProof.Rows
section
variable {g:Cfg}{env:Env}{A:Around}{X:Value→Shared→Prop}{s:Shared}{as:List Addr}{fr:Fra} {σ σ':Sto}{Q:Value→Shared→Prop}
theorem po {h:Heap}{vs:List V}{xs:List Value}{k:Int}{v:V} (r:ah as h vs xs) (e:oh vs k=some v) :
  ∃ y,RepV as h v y ∧ ((0 ≤ k ∧ k < vs.length ∧ xs[k.toNat]?=some y) ∨ (k < 0 ∧ -(vs.length:Int) ≤ k ∧ xs[(k + vs.length).toNat]?=some y)):=by
 unfold oh at e
 split at e
 ·obtain ⟨y,h1,h2⟩:=(ah.f2.mp r).get e
  have:=(List.getElem?_eq_some_iff.mp e).1
  exact ⟨y,h2,.inl ⟨by assumption,by lia,h1⟩⟩
 ·split at e
  ·obtain ⟨y,h1,h2⟩:=(ah.f2.mp r).get e
   exact ⟨y,h2,.inr ⟨by lia,by assumption,h1⟩⟩
  ·cases e
theorem rW {l:Nat}{x:Value}{vs:List V} (R:Rel g as σ s.heap) (r:RepV as s.heap (.ref l) x) (e:σ[l]?=some (.frz vs)) :
  ∃ a items n,x=.ref a ∧ as[l]?=some a ∧ IsL s.heap a items n ∧ ah as s.heap vs items.toList ∧ vs.length ≤ 16777216 ∧ items.size=vs.length:=by
 rw [RepV] at r
 obtain ⟨a,rfl,ha⟩:=r
 obtain ⟨items,n,e1,e2,q,z⟩:=R.obj l a _ ha e
 rw [e2] at e1
 exact ⟨a,items,n,rfl,ha,e1,q,z,by have:=(ah.f2.mp q).length; simpa using this.symm⟩
inductive yT (σ:Sto) (v:V):V→V→Prop
 | tup {vs:List V}{k:Int} (e:oh vs k=some v):yT σ v (.tup vs) (.int k)
 | lst {l:Nat}{vs:List V}{k:Int} (hl:σ[l]?=some (.lst vs) ∨ σ[l]?=some (.frz vs)) (e:oh vs k=some v):yT σ v (.ref l) (.int k)
 | dI {l:Nat}{es:List (Int × V)}{k:Int} (hl:σ[l]?=some (.dI es)) (e:es.lookup k=some v):yT σ v (.ref l) (.int k)
 | dT {l:Nat}{ks:List V}{k:List Int}{es:List (List Int × V)} (hl:σ[l]?=some (.dT es)) (he:aA ks=some k) (e:es.lookup k=some v):yT σ v (.ref l) (.tup ks)
set_option tactic.hygienic true in
theorem mP {a i v:V} (e:lm a i σ=some v):yT σ v a i:=by
 cases a <;> first | exact nn e | skip
 ·cases i <;> first | exact nn e | exact .tup e
 rename_i l
 have e:Bs σ[l]? i=some v:=e
 cases hl:σ[l]? with
 | none=>rw [hl] at e; exact nn e
 | some o =>
  rw [hl] at e
  cases o <;> first | exact nn e | skip
  ·cases i <;> first | exact nn e | exact .lst (.inl hl) e
  ·cases i <;> first | exact nn e | exact .dI hl e
  ·cases i <;> first | exact nn e | skip
   refine bq e fun k e1 e2=>?_
   exact .dT hl e1 e2
  ·cases i <;> first | exact nn e | exact .lst (.inr hl) e
theorem vH {l:Nat}{x:Value}{vs:List V} (R:Rel g as σ s.heap) (r:RepV as s.heap (.ref l) x) (e:σ[l]?=some (.lst vs) ∨ σ[l]?=some (.frz vs)) :
  ∃ a items n,x=.ref a ∧ as[l]?=some a ∧ IsL s.heap a items n ∧ ah as s.heap vs items.toList ∧ vs.length ≤ 16777216 ∧ items.size=vs.length :=
 e.elim (fun e=>mM R r (ij e)) fun e=>rW R r e
theorem rq {a i v:V}{x y:Value}{n:Nat} (T:At g env as fr σ s) (hA:cb g A n) (ha:RepV as s.heap a x) (hi:RepV as s.heap i y)
  (e:lm a i σ=some v) (hQ:aK g env as fr s v σ Q):wpAny (model g.prog g.w) A (getItem x y) Q X s:=by
 cases mP e with
 | @tup vs k e1 =>
  rw [RepV] at ha; rw [RepV] at hi
  obtain ⟨t,rfl⟩:=hi
  obtain ⟨ad,items,m,rfl,ho,hz,hr⟩:=ha
  obtain ⟨y,r,hh⟩:=po hr e1
  have hl:vs.length=items.size:=by have:=(ah.f2.mp hr).length; simpa using this
  refine PyProof.Rows.getItem_tuple (j:=if 0 ≤ k then k.toNat else (k + vs.length).toNat) (x:=y) ⟨_,ho,rfl,m,rfl⟩ ?_ ?_ ?_ ?_ (hQ.same' T r)
  ·rcases hh with hh | hh <;> lia
  ·rcases hh with hh | hh <;> lia
  ·unfold seqIndex?
   rcases hh with ⟨h1,h2,h3⟩ | ⟨h1,h2,h3⟩
   ·simp only [show ¬ k < 0 by lia,if_false,h1,if_true]
    rw [if_pos (by simp; lia)]
   ·simp only [h1,if_true,show ¬ 0 ≤ k by lia,if_false,← hl]
    rw [if_pos (by simp; lia)]
  ·rcases hh with ⟨h1,h2,h3⟩ | ⟨h1,h2,h3⟩
   ·rw [if_pos h1]; simpa using h3
   ·rw [if_neg (by lia)]; simpa using h3
 | lst hl e1 =>
  obtain ⟨ad,items,m,rfl,_,ho,hr,hz,hsz⟩:=vH T.R ha hl
  rw [RepV] at hi; obtain ⟨t,rfl⟩:=hi
  obtain ⟨y,r,hh⟩:=po hr e1
  rcases hh with ⟨h1,h2,h3⟩ | ⟨h1,h2,h3⟩
  ·exact wpAny_getItem_list ho.isList h1 (by lia) (by simpa using h3) (hQ.same' T r)
  ·exact wpAny_getItem_list_neg ho.isList h1 (by lia) (by lia) (by rw [hsz]; simpa using h3) (hQ.same' T r)
 | dI hl e1 =>
  rw [RepV] at ha; rw [RepV] at hi
  obtain ⟨t,rfl⟩:=hi
  obtain ⟨d,rfl,hd⟩:=ha
  obtain ⟨kvs,hk,hf,_⟩:=T.R.obj _ _ _ hd hl
  obtain ⟨y,h1,h2⟩:=(wx hf).2 v e1
  exact wpAny_getItem_of (intKind_is _ _ _ t) hk.mapOf h1 (hQ.same T h2)
 | dT hl he e1 =>
  obtain ⟨ta,rfl,hk,_⟩:=gW (g:=g) hi he
  rw [RepV] at ha; obtain ⟨d,rfl,hd⟩:=ha
  obtain ⟨xs,hx,hf,_⟩:=T.R.obj _ _ _ hd hl
  obtain ⟨p,h1,h2⟩:=(zh hf).2 v e1
  exact wpAny_getItem_heap (knd:=tupleKind (intKind g.prog g.w)) (tupleKind_room_in1 (by have:=hA.units; show _ < 9900; lia)) hk hx h1 (hQ.same T h2)
theorem AI {a i v:V}{x y:Value}{n:Nat}{ve ie:Expr} (T:At g env as fr σ s) (hA:cb g A n) (ha:RepV as s.heap a x) (hi:RepV as s.heap i y)
  (hs:∀ o i,subscripted ie false o i=operate [o,i] (getItem o i))
  (e:lm a i σ=some v) (hQ:aK g env as fr s v σ Q):wpAny (model g.prog g.w) A (subscriptTail ve ie x y) Q X s:=by
 have hg:=rq (X:=X) T hA ha hi e hQ
 cases mP e with
 | tup e =>
  rw [RepV] at ha
  obtain ⟨ad,items,m,rfl,ho,hz,hr⟩:=ha
  exact tail_any (T:="tuple") ⟨_,ho,rfl⟩ F.slot_tuple_getitem.lookup hg (hs _ _)
 | lst hl e =>
  obtain ⟨ad,items,m,rfl,_,ho,_⟩:=vH T.R ha hl
  exact tail_any (T:="list") ⟨_,ho,rfl⟩ slot_list_getitem.lookup hg (hs _ _)
 | dI hl e =>
  rw [RepV] at ha; obtain ⟨d,rfl,hd⟩:=ha
  obtain ⟨kvs,hk,hf,_⟩:=T.R.obj _ _ _ hd hl
  exact tail_any (T:="dict") hk.typeIs slot_dict_getitem.lookup hg (hs _ _)
 | dT hl he e =>
  rw [RepV] at ha; obtain ⟨d,rfl,hd⟩:=ha
  obtain ⟨xs,hx,hf,_⟩:=T.R.obj _ _ _ hd hl
  exact tail_any (T:="dict") hx.typeIs slot_dict_getitem.lookup hg (hs _ _)
set_option tactic.hygienic true in
theorem AU {a:V}{x:Value}{i:Int} (G:Sys g) (T:At g env as fr σ s) (ha:RepV as s.heap a x) (e:s5 a σ=some i) (hQ:aK g env as fr s (.int i) σ Q) :
  wpAny (model g.prog g.w) A (call (.builtin "len") [x]) Q X s:=by
 unfold s5 at e
 split at e
 ·rename_i vs
  cases e
  rw [RepV] at ha
  obtain ⟨ad,items,m,rfl,ho,hz,hr⟩:=ha
  have hl:vs.length=items.size:=by have:=(ah.f2.mp hr).length; simpa using this
  refine P.len_tuple ho (by lia) ?_
  rw [← hl]; exact hQ.int T
 ·split at e
  ·rename_i vs hl
   cases e
   refine aw T.R ha (ij hl) fun ad items m qx _ ho hr hz hsz=>?_; subst qx
   refine Calls.call_len_list ho.isList (by lia) ?_
   rw [hsz]; exact hQ.int T
  ·rename_i vs hl
   cases e
   obtain ⟨ad,items,m,rfl,_,ho,hr,hz,hsz⟩:=rW T.R ha hl
   refine Calls.call_len_list ho.isList (by lia) ?_
   rw [hsz]; exact hQ.int T
  ·rename_i es hl
   cases e
   rw [RepV] at ha; obtain ⟨d,rfl,hd⟩:=ha
   obtain ⟨kvs,hk,hf,hz⟩:=T.R.obj _ _ _ hd hl
   have:=hf.length
   refine call_len_dict hz.2 hk (by have:=hz.1; lia) ?_
   rw [← this]; exact hQ.int T
  ·cases e
 ·cases e
end
end Mine
namespace Mine
set_option backward.match.sparseCases false
open PySem PyProof.Rows
noncomputable def s8:Ty→Option Value
 | .int=>some (.type "int") | .bool=>some (.type "bool") | .tuple=>some (.type "tuple") | .list=>some (.type "list")
 | _=>none
section
variable {g:Cfg}{env:Env}{A:Around}{X:Value→Shared→Prop}{s:Shared}{as:List Addr}{fr:Fra} {σ σ':Sto}{Q:Value→Shared→Prop}
inductive KdX (h:Heap):Nat→Value→Prop
 | int (i:Int) (t:Tok):KdX h 0 (.int i t)
 | bool (b:Bool):KdX h 1 (.bool b)
 | str (x:Str) (t:Tok):KdX h 2 (.str x t)
 | tup (a:Addr) (o:Obj) (ho:h.get? a=some o) (hc:o.cls=.type "tuple"):KdX h 3 (.ref a)
 | lst (a:Addr) (o:Obj) (ho:h.get? a=some o) (hc:o.cls=.type "list"):KdX h 4 (.ref a)
theorem sE {a:V}{x:Value}{k:Nat} (R:Rel g as σ s.heap) (ha:RepV as s.heap a x) (e:tyK a σ=some k):KdX s.heap k x:=by
 cases a with
 | int i=>rw [RepV] at ha; rw [← Option.some.inj e]; exact ha.elim fun t q=>q ▸ .int _ _
 | bool b=>rw [RepV] at ha; rw [← Option.some.inj e,ha]; exact .bool _
 | str x=>rw [RepV] at ha; rw [← Option.some.inj e]; exact ha.elim fun t q=>q ▸ .str _ _
 | tup vs=>rw [RepV] at ha; rw [← Option.some.inj e]; exact ha.elim fun ad q=>q.elim fun items q=>q.elim fun n q=>q.1 ▸ .tup _ _ q.2.1 rfl
 | ref l =>
  refine (bD (show ((getL σ l).map fun _=>4)=some k from e)).elim fun vs q=>?_
  rw [← q.2]
  refine aw R ha q.1 fun ad items n q1 _ ho _ _ _=>?_
  exact q1 ▸ .lst _ _ ho rfl
 | _=>exact nn e
section
variable {k:Nat}{x:Value}{f:Nat→Bool}
theorem v9 (kd:KdX s.heap k x) (h:∀ tk,Q (.bool (k == 0 || k == 1)) { s with toks:=tk }):wpAny (model g.prog g.w) A (call (.builtin "isinstance") [x,.type "int"]) Q X s:=by
 cases kd with
 | int i t=>exact IsiPair.int_int (h s.toks)
 | bool b=>exact IsiPair.bool_int (h s.toks)
 | str x t=>exact IsiPair.str_int (h _)
 | tup a o ho hc=>exact IsiPair.tuple_int ho hc (h _)
 | lst a o ho hc=>exact IsiPair.list_int ho hc (h _)
theorem uq (kd:KdX s.heap k x) (h:∀ tk,Q (.bool (k == 1)) { s with toks:=tk }):wpAny (model g.prog g.w) A (call (.builtin "isinstance") [x,.type "bool"]) Q X s:=by
 cases kd with
 | int i t=>exact IsiPair.int_bool (h _)
 | bool b=>exact IsiPair.bool_bool (h s.toks)
 | str x t=>exact IsiPair.str_bool (h _)
 | tup a o ho hc=>exact IsiPair.tuple_bool ho hc (h _)
 | lst a o ho hc=>exact IsiPair.list_bool ho hc (h _)
theorem ql (kd:KdX s.heap k x) (h:∀ tk,Q (.bool (k == 3)) { s with toks:=tk }):wpAny (model g.prog g.w) A (call (.builtin "isinstance") [x,.type "tuple"]) Q X s:=by
 cases kd with
 | int i t=>exact IsiPair.int_tuple (h _)
 | bool b=>exact IsiPair.bool_tuple (h _)
 | str x t=>exact IsiPair.str_tuple (h _)
 | tup a o ho hc=>exact IsiPair.tuple_tuple ho hc (h s.toks)
 | lst a o ho hc=>exact IsiPair.list_tuple ho hc (h _)
theorem xd (kd:KdX s.heap k x) (h:∀ tk,Q (.bool (k == 4)) { s with toks:=tk }):wpAny (model g.prog g.w) A (call (.builtin "isinstance") [x,.type "list"]) Q X s:=by
 cases kd with
 | int i t=>exact IsiPair.int_list (h _)
 | bool b=>exact IsiPair.bool_list (h _)
 | str x t=>exact IsiPair.str_list (h _)
 | tup a o ho hc=>exact IsiPair.tuple_list ho hc (h _)
 | lst a o ho hc=>exact IsiPair.list_list ho hc (h s.toks)
end
theorem zS {t:Ty}{a:V}{x y:Value}{r:Bool} (T:At g env as fr σ s) (ha:RepV as s.heap a x) (e:vI t a σ=some r) (ht:s8 t=some y) (hQ:aK g env as fr s (.bool r) σ Q) :
  wpAny (model g.prog g.w) A (call (.builtin "isinstance") [x,y]) Q X s:=by
 have hq:∀ tk,Q (.bool r) { s with toks:=tk }:=fun tk=>hQ.bool (tk:=tk) T
 cases t with
 | int=>exact si (P:=fun y=>wpAny (model g.prog g.w) A (call (.builtin "isinstance") [x,y]) Q X s) ht ((bD e).elim fun k q=>v9 (sE T.R ha q.1) (q.2 ▸ hq))
 | bool=>exact si (P:=fun y=>wpAny (model g.prog g.w) A (call (.builtin "isinstance") [x,y]) Q X s) ht ((bD e).elim fun k q=>uq (sE T.R ha q.1) (q.2 ▸ hq))
 | tuple=>exact si (P:=fun y=>wpAny (model g.prog g.w) A (call (.builtin "isinstance") [x,y]) Q X s) ht ((bD e).elim fun k q=>ql (sE T.R ha q.1) (q.2 ▸ hq))
 | list=>exact si (P:=fun y=>wpAny (model g.prog g.w) A (call (.builtin "isinstance") [x,y]) Q X s) ht ((bD e).elim fun k q=>xd (sE T.R ha q.1) (q.2 ▸ hq))
 | _=>exact nn ht
noncomputable def at0 (l:List Int) (i:Nat):Int:=l.getD i 0
theorem co {xs:List Value}{is:List Int} (h:IntsAre xs is) (i:Nat) {v:Value} (e:xs[i]?=some v):∃ t,v=.int (at0 is i) t:=by
 induction h generalizing i with
 | nil=>simp at e
 | cons n t _ ih =>
  cases i with
  | zero=>simp at e; subst e; exact ⟨t,rfl⟩
  | succ i=>simpa [at0] using ih i (by simpa using e)
set_option tactic.hygienic true in
theorem d8 (is:List Int) (x:Int):∀ k,k ≤ is.length →
  at0 (x :: is) (argBest (fun i j=>decide (at0 (x :: is) j < at0 (x :: is) i)) k)=(is.take k).foldl (fun a b=>if a < b then b else a) x
 | 0,_=>by simp [argBest,at0]
 | k + 1,hk=>by
  have ih:=d8 is x k (by lia)
  have hlt:k < is.length:=by lia
  rw [List.take_succ_eq_append_getElem hlt,List.foldl_append,← ih]
  simp only [argBest,List.foldl_cons,List.foldl_nil]
  have e0:at0 (x :: is) (k + 1)=is[k]:=by simp [at0,hlt]
  split
  ·rename_i h
   have h':=of_decide_eq_true h
   rw [e0] at h'
   rw [if_pos h']; exact e0
  ·rename_i h
   have h':=of_decide_eq_false (Bool.eq_false_iff.mpr h)
   rw [e0] at h'
   rw [if_neg h']
set_option tactic.hygienic true in
theorem gD (is:List Int) (x:Int):∀ k,k ≤ is.length →
  at0 (x :: is) (argBest (fun i j=>decide (at0 (x :: is) i < at0 (x :: is) j)) k)=(is.take k).foldl (fun a b=>if b < a then b else a) x
 | 0,_=>by simp [argBest,at0]
 | k + 1,hk=>by
  have ih:=gD is x k (by lia)
  have hlt:k < is.length:=by lia
  rw [List.take_succ_eq_append_getElem hlt,List.foldl_append,← ih]
  simp only [argBest,List.foldl_cons,List.foldl_nil]
  have e0:at0 (x :: is) (k + 1)=is[k]:=by simp [at0,hlt]
  split
  ·rename_i h
   have h':=of_decide_eq_true h
   rw [e0] at h'
   rw [if_pos h']; exact e0
  ·rename_i h
   have h':=of_decide_eq_false (Bool.eq_false_iff.mpr h)
   rw [e0] at h'
   rw [if_neg h']
theorem ir {h h' h2:Heap}{wr:List Addr} (k1:∀ (a:Addr) (o:Obj),h.get? a=some o→h2.get? a=some o) (k:∀ (b:Addr) (o:Obj),b ∉ wr→h2.get? b=some o→h'.get? b=some o) (hw:∀ b ∈ wr,h.get? b=none) :
  ∀ (a:Addr) (o:Obj),h.get? a=some o→h'.get? a=some o:=fun a o e=>k a o (fun q=>by rw [hw a q] at e; cases e) (k1 a o e)
theorem AB {l:Nat}{x:Value}{is:List Int}{v:Int} (T:At g env as fr σ s) (hA:A.handled=none) (ha:RepV as s.heap (.ref l) x) (e1:(getL σ l).bind aA=some is) (e2:gV is=some v)
  (hQ:aK g env as fr s (.int v) σ Q):wpAny (model g.prog g.w) A (call (.builtin "max") [x]) Q X s:=by
 obtain ⟨vs,e3,e4⟩:=Option.bind_eq_some_iff.mp e1
 refine aw T.R ha e3 fun ad items m qx hd ho hr hz hsz=>?_; subst qx
 have hi:=bo e4 hr
 cases is with
 | nil=>cases e2
 | cons y ys =>
  cases e2
  have hlen:=hi.length
  simp at hlen
  have hne:ad ≠ s.heap.objs.size:=Nat.ne_of_lt (Heap.lt_size ho)
  refine call_max_walk (wpAny_pyIter_list ho.isList ?_)
  refine ⟨s.heap.objs.size,_,_,items.size,_,_,fun i j=>decide (at0 (y :: ys) j < at0 (y :: ys) i),rfl,Walks.list (A:=A.in1) hA s.heap.objs.size ad hne items,⟨⟨_,Heap.get?_push_size _ rfl,rfl,rfl⟩,ho.isList.push _⟩,?_,by lia,?_,?_⟩
  ·intro b hb
   rcases List.mem_cons.mp hb with rfl | hb
   ·rw [Heap.size_push]; exact Nat.lt_succ_self _
   ·rw [List.mem_singleton.mp hb,Heap.size_push]; exact Nat.lt_succ_of_lt (Heap.lt_size ho)
  ·intro i j vi vj s' Q' E' hvi hvj hq
   obtain ⟨t,rfl⟩:=co hi i (by simpa using hvi)
   obtain ⟨u,rfl⟩:=co hi j (by simpa using hvj)
   exact PyProof.Rows.gt_int hq
  ·intro v h' tk hv hk
   obtain ⟨t,rfl⟩:=co hi _ (by simpa using hv)
   have e5:=d8 ys y (items.size - 1) (by lia)
   rw [List.take_of_length_le (by lia)] at e5
   rw [e5]
   have kk:=ir (h:=s.heap) (az _ _) hk (by intro b hb; rw [List.mem_singleton.mp hb]; exact new_none _)
   exact hQ.use T (aC.of_ext kk) (T.R.ext kk) (by rw [RepV]; exact ⟨_,rfl⟩)
theorem zP {l:Nat}{x:Value}{is:List Int}{v:Int} (T:At g env as fr σ s) (hA:A.handled=none) (ha:RepV as s.heap (.ref l) x) (e1:(getL σ l).bind aA=some is) (e2:tm is=some v)
  (hQ:aK g env as fr s (.int v) σ Q):wpAny (model g.prog g.w) A (call (.builtin "min") [x]) Q X s:=by
 obtain ⟨vs,e3,e4⟩:=Option.bind_eq_some_iff.mp e1
 refine aw T.R ha e3 fun ad items m qx hd ho hr hz hsz=>?_; subst qx
 have hi:=bo e4 hr
 cases is with
 | nil=>cases e2
 | cons y ys =>
  cases e2
  have hlen:=hi.length
  simp at hlen
  have hne:ad ≠ s.heap.objs.size:=Nat.ne_of_lt (Heap.lt_size ho)
  refine call_min_walk (wpAny_pyIter_list ho.isList ?_)
  refine ⟨s.heap.objs.size,_,_,items.size,_,_,fun i j=>decide (at0 (y :: ys) i < at0 (y :: ys) j),rfl,Walks.list (A:=A.in1) hA s.heap.objs.size ad hne items,⟨⟨_,Heap.get?_push_size _ rfl,rfl,rfl⟩,ho.isList.push _⟩,?_,by lia,?_,?_⟩
  ·intro b hb
   rcases List.mem_cons.mp hb with rfl | hb
   ·rw [Heap.size_push]; exact Nat.lt_succ_self _
   ·rw [List.mem_singleton.mp hb,Heap.size_push]; exact Nat.lt_succ_of_lt (Heap.lt_size ho)
  ·intro i j vi vj s' Q' E' hvi hvj hq
   obtain ⟨t,rfl⟩:=co hi i (by simpa using hvi)
   obtain ⟨u,rfl⟩:=co hi j (by simpa using hvj)
   exact PyProof.Rows.lt_int hq
  ·intro v h' tk hv hk
   obtain ⟨t,rfl⟩:=co hi _ (by simpa using hv)
   have e5:=gD ys y (items.size - 1) (by lia)
   rw [List.take_of_length_le (by lia)] at e5
   rw [e5]
   have kk:=ir (h:=s.heap) (az _ _) hk (by intro b hb; rw [List.mem_singleton.mp hb]; exact new_none _)
   exact hQ.use T (aC.of_ext kk) (T.R.ext kk) (by rw [RepV]; exact ⟨_,rfl⟩)
end
end Mine
namespace Mine
open PySem PyProof.Rows PySem.W
theorem sU:typeLookup (.type "list_reverseiterator") "__len__"=pure none:=by rw [typeLookup_type,builtinLookup_eq_fast]; kernel_rfl
theorem wu:typeLookup (.type "list_reverseiterator") "__length_hint__"=pure (some (.builtin "list_reverseiterator.__length_hint__")):=by rw [typeLookup_type,builtinLookup_eq_fast]; kernel_rfl
section
variable {prog:Program}{w:World}{A:Around}{E:Value→Shared→Prop}{s:Shared}{r:Addr}
theorem sw {Q:Bool→Shared→Prop} (hT:s.TypeIs (.ref r) "list_reverseiterator") (h:Q false s):wpAny (model prog w) A (Builtin.List.listLengthHint (.ref r)) Q E s:=by
 unfold Builtin.List.listLengthHint
 refine wpAny_bind (wpAny_specialOf hT sU ?_)
 refine wpAny_ite_split (fun hab=>absurd hab (by decide +kernel)) (fun _=>?_)
 refine wpAny_ite_split (fun hab=>absurd hab (by decide +kernel)) (fun _=>?_)
 refine wpAny_bind (wpAny_specialOf hT wu ?_)
 generalize hid:("list_reverseiterator.__length_hint__":String)=id0
 wp_delta
 rw [show splitId id0=some ("list_reverseiterator","__length_hint__") from by subst hid; decide +kernel]
 subst hid
 refine wpAny_bind (wpAny_isInstance (T:="list_reverseiterator") (b:=true) hT (by rw [isSubtype_type]; kernel_rfl) ?_)
 refine wpAny_ite_split (fun hab=>absurd hab (by decide)) (fun _=>?_)
 refine wpAny_ite_split (fun _=>?_) (fun hab=>absurd (by decide +kernel) hab)
 refine wpAny_ite_split (fun hab=>absurd hab (by decide +kernel)) (fun _=>?_)
 exact wpAny_pure h
theorem rh {items acc:Array Value} (h:ItemsOf (fun i v=>items[items.size - 1 - i]?=some v) acc items.size):acc.toList=items.toList.reverse:=by
 apply List.ext_getElem?
 intro i
 by_cases hi:i < items.size
 ·have h1:i < acc.size:=by rw [h.1]; exact hi
  have h2:=h.2 i acc[i] (by simp [h1])
  rw [List.getElem?_reverse (by simpa using hi)]
  simp only [Array.getElem?_toList,Array.length_toList]
  rw [h2]; simp [h1]
 ·rw [List.getElem?_eq_none (by simp; have:=h.1; lia),List.getElem?_eq_none (by simp; lia)]
theorem jF {l:Addr}{items:Array Value}{Q:Value→Shared→Prop} (hh:A.handled=none) (hr:s.heap.IsRevIter r l ((items.size:Int) - 1)) (hl:s.heap.IsList l items) (hz:items.size ≤ sizeLine)
  (hQ:∀ h' tk acc c',(∀ (b:Addr) (o:Obj),b ≠ r→s.heap.get? b=some o→h'.get? b=some o)→h'.get? s.heap.objs.size=some { cls:=.type "list",dict:=none,data:=.seq acc c',slots:=#[] }→acc.toList=items.toList.reverse →
   Q (.ref s.heap.objs.size) { s with heap:=h',toks:=tk }):wpAny (model prog w) A (call (.type "list") [.ref r]) Q E s:=by
 have hrl:r < s.heap.objs.size:=by obtain ⟨o,e,_⟩:=hr; exact Heap.lt_size e
 have hll:l < s.heap.objs.size:=by obtain ⟨o,e,_⟩:=hl; exact Heap.lt_size e
 have hne:l ≠ r:=fun q=>by
  obtain ⟨o,e,c,_⟩:=hr; obtain ⟨o',e',c',_⟩:=hl
  subst q; rw [e] at e'; cases e'; rw [c] at c'; simp at c'
 refine callType_codes (Q₁:=fun obj s₁=>obj=.ref s.heap.objs.size ∧ s₁={ s with heap:=s.heap.push { cls:=.type "list",data:=.seq #[] } }) PySem.F.called_list (PySem.F.typeCall_list_1 _) PySem.F.entry_list_init
  (code_list_new _ ⟨rfl,rfl⟩) fun obj s₁ h₁=>?_
 obtain ⟨rfl,rfl⟩:=h₁
 generalize hS0:s.heap.objs.size=S at *
 have hS:(s.heap.push { cls:=.type "list",data:=.seq #[] }).get? S=some { cls:=.type "list",data:=.seq #[] }:=by rw [← hS0]; exact Heap.get?_push_size _ rfl
 refine ⟨⟨_,hS,rfl⟩,PySem.F.args_list_init_2 _ _,?_⟩
 show wpAny _ _ (do let old ← Builtin.List.listItems (.ref S); Builtin.List.listUpdate (.ref S) (fun _=>#[]); letGo old.toList.reverse; Builtin.List.listExtendWith (.ref S) (.ref r) .none) _ _ _
 refine wpAny_bind ?_
 unfold Builtin.List.listItems
 refine wpAny_bind (wpAny_seqItems hS rfl (wpAny_pure ?_))
 show wpAny _ _ (updateSeq S (fun _=>#[]) >>= fun _=>letGo (#[]:Array Value).toList.reverse >>= fun _=>Builtin.List.listExtendWith (.ref S) (.ref r) .none) _ _ _
 refine wpAny_bind (wpAny_updateSeq hS rfl ?_)
 have hS₂:=Heap.get?_update_self (Obj.mapSeq (fun _=>(#[]:Array Value))) hS rfl
 refine wpAny_bind (wpAny_letGo ?_)
 generalize hH:((s.heap.push { cls:=.type "list",data:=.seq #[] }).update S (Obj.mapSeq (fun _=>(#[]:Array Value))))=H at *
 have k0:∀ (b:Addr) (o:Obj),s.heap.get? b=some o→H.get? b=some o:=fun b o e=>by
  rw [← hH,Heap.get?_update_other _ _ (by rw [← hS0]; exact Nat.ne_of_gt (Heap.lt_size e))]
  exact Heap.get?_push_of_some _ e
 have hrH:H.IsRevIter r l ((items.size:Int) - 1):=hr.at fun o e=>k0 _ o e
 have hlH:H.IsList l items:=hl.at fun o e=>k0 _ o e
 unfold Builtin.List.listExtendWith
 refine wpAny_bind (wpAny_typeOf (T:="list_reverseiterator") hrH.typeIs ?_)
 have h1:Builtin.List.listSameRef (.ref S) (.ref r)=false:=by simp [Builtin.List.listSameRef]; exact Nat.ne_of_gt hrl
 have h2:(Value.type "list_reverseiterator" == Value.type "list")=false:=by decide
 have h3:(Value.type "list_reverseiterator" == Value.type "tuple")=false:=by decide
 simp only [h1,h2,h3,Bool.or_false,Bool.false_eq_true,if_false]
 refine wpAny_bind (wpAny_pyIter_revIter hrH ?_)
 refine wpAny_bind (wpAny_holding (sw hrH.typeIs ?_))
 have W:=(Walks.listRev (prog:=prog) (w:=w) (A:=A.in1.in1) hh r l hne items).toS
 have hSf:S ∉ [r,l]:=by
  intro hm
  rcases List.mem_cons.mp hm with e | hm
  ·exact absurd hrl (by rw [e]; exact Nat.lt_irrefl _)
  ·exact absurd hll (by rw [List.mem_singleton.mp hm]; exact Nat.lt_irrefl _)
 have key:∀ (R:Result→Shared→Prop) (h:Heap) (c₁ tk:Nat),(∀ h' tk acc c',(∀ (b:Addr) (o:Obj),b ≠ r→s.heap.get? b=some o→h'.get? b=some o)→h'.get? S=some { cls:=.type "list",dict:=none,data:=.seq acc c',slots:=#[] }→acc.toList=items.toList.reverse →
   R (.ok (.ret .none)) { s with heap:=h',toks:=tk })→(0 ≤ items.size ∧ h.IsRevIter r l ((items.size:Int) - 1 - ((0:Nat):Int)) ∧ h.IsList l items)→(∀ (b:Addr) (o:Obj),b ≠ S→H.get? b=some o→h.get? b=some o) →
   h.get? S=some { cls:=.type "list",data:=.seq #[] c₁ }→codeAny (model prog w) A.in1 (.builtin "list.extend.loop" ⟨[.ref S,.ref r,.none],[]⟩) R { s with heap:=h,toks:=tk }:=by
  intro R h c₁ tk hR hst hk hS₁
  refine codeAny_extend_loopS W hz S hSf .none items.size 0 _ #[] c₁ rfl (Nat.zero_le _) hst hS₁ (ItemsOf.nil _) fun s' acc' c' hm hS' hacc=>?_
  rw [Moved.eq_with hm]
  refine hR s'.heap s'.toks acc' c' (fun b o hb e=>hm.heap b o (fun hmem=>?_) (hk b o ?_ (k0 b o e))) hS' (rh hacc)
  ·rcases List.mem_cons.mp hmem with e' | hmem
   ·rw [e'] at e; exact absurd (Heap.lt_size e) (by rw [← hS0]; exact Nat.lt_irrefl _)
   ·exact hb (List.mem_singleton.mp hmem)
  ·rw [← hS0]; exact Nat.ne_of_lt (Heap.lt_size e)
 have st0:0 ≤ items.size ∧ H.IsRevIter r l ((items.size:Int) - 1 - ((0:Nat):Int)) ∧ H.IsList l items:=⟨Nat.zero_le _,by simpa using hrH,hlH⟩
 refine wpAny_ite_split (fun _=>?_) (fun _=>wpAny_pure ⟨plainId_quiet PySem.F.plain_extend_loop _,key _ _ _ _ (fun h' tk acc c' k e q=>⟨rfl,hQ h' tk acc c' k e q⟩) st0 (fun b o _ e=>e) hS₂⟩)
 refine wpAny_bind (wpAny_rule (wpAny_bind ?_))
 show wpAny _ _ (updateSeq S (·.push .none) >>= fun _=>updateSeq S (·.pop)) _ _ _
 refine wpAny_bind (wpAny_updateSeq hS₂ rfl ?_)
 have hS₃:=Heap.get?_update_self (Obj.mapSeq (·.push Value.none)) hS₂ rfl
 refine wpAny_updateSeq (hz:=by seq_fits) hS₃ rfl ?_
 have hS₄:=Heap.get?_update_self (Obj.mapSeq (·.pop)) hS₃ rfl
 have oth:∀ (b:Addr) (o:Obj),b ≠ S→H.get? b=some o→((H.update S (Obj.mapSeq (·.push Value.none))).update S (Obj.mapSeq (·.pop))).get? b=some o:=fun b o hb e=>by
  rw [Heap.get?_update_other _ _ (Ne.symm hb),Heap.get?_update_other _ _ (Ne.symm hb)]; exact e
 refine wpAny_pure ⟨plainId_quiet PySem.F.plain_extend_loop _,key _ _ _ _ (fun h' tk acc c' k e q=>⟨rfl,hQ h' tk acc c' k e q⟩) ⟨st0.1,st0.2.1.at fun o e=>oth _ o (Nat.ne_of_lt hrl) e,st0.2.2.at fun o e=>oth _ o (Nat.ne_of_lt hll) e⟩ oth hS₄⟩
end
end Mine
namespace Mine
set_option backward.match.sparseCases false
open PySem PyProof.Rows
noncomputable def mA:BN→Value
 | .len=>.builtin "len" | .max=>.builtin "max" | .min=>.builtin "min" | .all=>.builtin "all"
 | .list=>.type "list" | .tuple=>.type "tuple" | .int=>.type "int" | .range=>.type "range"
 | _=>.none
section
variable {g:Cfg}{env:Env}{A:Around}{X:Value→Shared→Prop}{s:Shared}{as:List Addr}{fr:Fra} {σ σ':Sto}{Q:Value→Shared→Prop}
theorem jH {lo hi:Int} (h:-1000000 ≤ lo ∧ lo ≤ 1000000 ∧ -1000000 ≤ hi ∧ hi ≤ 1000000):Builtin.Range.rangeSize lo hi 1=(((hi - lo).toNat:Nat):Int) ∧ Builtin.Range.small lo hi 1=true:=by
 constructor
 ·unfold Builtin.Range.rangeSize
  simp only [show (1:Int) > 0 from by lia,if_true]
  split
  ·rw [Int.toNat_of_nonneg (by lia)]; lia
  ·rw [Int.toNat_of_nonpos (by lia)]; rfl
 ·exact small_one (by lia) (by lia) (by lia) (by lia)
theorem rB {h:Heap}{lo hi:Int}{acc:Array Value} (hacc:ItemsOf (fun i v=>∃ t,v=Value.int (lo + (i:Int) * 1) t) acc (hi - lo).toNat):ah as h (iG lo hi) acc.toList:=by
 rw [ah.f2]
 have key:∀ (n k:Nat) (xs:List Value),xs.length=n→(∀ j v,xs[j]?=some v→∃ t,v=Value.int (lo + ((k + j:Nat):Int)) t)→F2 (RepV as h) ((List.range' k n).map fun (k:Nat)=>V.int (lo + (k:Int))) xs:=by
  intro n
  induction n with
  | zero=>intro k xs h1 _; simp at h1; subst h1; exact .nil
  | succ n ih =>
   intro k xs h1 h2
   cases xs with
   | nil=>simp at h1
   | cons x xs =>
    rw [List.range'_succ,List.map_cons]
    refine .cons ?_ (ih (k + 1) xs (by simpa using h1) fun j v e=>?_)
    ·obtain ⟨t,rfl⟩:=h2 0 x rfl
     rw [RepV]; exact ⟨t,by simp⟩
    ·obtain ⟨t,rfl⟩:=h2 (j + 1) v (by simpa using e)
     exact ⟨t,by congr 2; lia⟩
 unfold iG
 rw [List.range_eq_range']
 refine key _ 0 _ (by simpa using hacc.1) fun j v e=>?_
 obtain ⟨t,rfl⟩:=hacc.2 j v (by simpa using e)
 exact ⟨t,by simp⟩
set_option tactic.hygienic true in
theorem pf:∀ {vs:List V}{xs:List Value}{h:Heap}{b:Bool},su vs=some b→ah as h vs xs →
  ∃ bs:List Bool,xs=bs.map Value.bool ∧ b=bs.all id
 | [],xs,h,b,e,r=>by rw [su] at e; cases e; rw [ah] at r; subst r; exact ⟨[],rfl,rfl⟩
 | v :: vs,xs,h,b,e,r=>by
  rw [ah] at r
  obtain ⟨y,ys,rfl,r1,r2⟩:=r
  cases v with
  | bool c =>
   rw [su] at e
   split at e
   ·rename_i d hd
    cases e
    obtain ⟨bs,rfl,rfl⟩:=pf hd r2
    rw [RepV] at r1; subst r1
    exact ⟨c :: bs,rfl,by simp⟩
   ·cases e
  | _=>simp [su] at e
theorem pj (bs:List Bool):(List.range bs.length).all (fun i=>bs.getD i true)=bs.all id:=by
 rw [Bool.eq_iff_iff,List.all_eq_true,List.all_eq_true]
 constructor
 ·intro h b hb
  obtain ⟨i,hi,rfl⟩:=List.getElem_of_mem hb
  have:=h i (List.mem_range.mpr hi)
  simpa [hi] using this
 ·intro h i hi
  have hi':=List.mem_range.mp hi
  have:=h bs[i] (List.getElem_mem hi')
  simpa [hi'] using this
theorem cG {h:Heap}{a:V}{xs:List Value} (r:ah as h [a] xs):∃ x,xs=[x] ∧ RepV as h a x:=by
 rw [ah] at r; obtain ⟨y,ys,rfl,r1,r2⟩:=r; rw [ah] at r2; subst r2; exact ⟨y,rfl,r1⟩
theorem ma {h:Heap}{a c:V}{xs:List Value} (r:ah as h [a,c] xs):∃ x y,xs=[x,y] ∧ RepV as h a x ∧ RepV as h c y:=by
 rw [ah] at r; obtain ⟨y,ys,rfl,r1,r2⟩:=r; obtain ⟨z,rfl,r3⟩:=cG r2; exact ⟨y,z,rfl,r1,r3⟩
theorem ik {o:Option V}{v:V} (e:bS σ o=.ok v σ'):o=some v ∧ σ'=σ:=by
 cases o with
 | none=>exact ax e
 | some w=>cases e; exact ⟨rfl,rfl⟩
section
variable {vs:List V}{xs:List Value}{v:V}{n:Nat}
theorem Av (G:Sys g) (T:At g env as fr σ s) (ha:ah as s.heap vs xs) (e:Bt vs σ=.ok v σ') (hQ:aK g env as fr s v σ' Q):wpAny (model g.prog g.w) A (call (.builtin "len") xs) Q X s:=by
 rcases vs with _ | ⟨a,_ | ⟨b,vs⟩⟩ <;> first | exact ax e | skip
 obtain ⟨h,rfl⟩:=ik e
 obtain ⟨x,rfl,r⟩:=cG ha
 refine bT h fun i h1 qx2=>?_; subst qx2
 exact AU G T r h1 hQ
theorem m8 {f:List Int→Option Int} (e:pv f vs σ=.ok v σ'):∃ l is i,vs=[.ref l] ∧ (getL σ l).bind aA=some is ∧ f is=some i ∧ v=.int i ∧ σ'=σ:=by
 rcases vs with _ | ⟨a,_ | ⟨b,vs⟩⟩
 ·exact ax e
 ·cases a <;> first | exact ax e | skip
  obtain ⟨h,rfl⟩:=ik e
  refine bT h fun i h1 qx2=>?_; subst qx2
  refine bq h1 fun is h2 h3=>?_
  exact ⟨_,is,i,rfl,h2,h3,rfl,rfl⟩
 ·cases a <;> exact ax e
theorem Al (T:At g env as fr σ s) (hA:A.handled=none) (ha:ah as s.heap vs xs) (e:Bp vs σ=.ok v σ') (hQ:aK g env as fr s v σ' Q):wpAny (model g.prog g.w) A (call (.builtin "max") xs) Q X s:=by
 have one:pv gV vs σ=.ok v σ'→wpAny (model g.prog g.w) A (call (.builtin "max") xs) Q X s:=fun e=>by
  obtain ⟨l,is,i,rfl,h1,h2,rfl,rfl⟩:=m8 e
  obtain ⟨x,rfl,r⟩:=cG ha
  exact AB T hA r h1 h2 hQ
 rcases vs with _ | ⟨a,_ | ⟨b,_ | ⟨c,vs⟩⟩⟩
 ·exact one e
 ·exact one e
 ·cases a <;> first | exact ax e | skip
  cases b <;> first | exact ax e | skip
  obtain ⟨x,y,rfl,r1,r2⟩:=ma ha
  cases e
  rw [RepV] at r1 r2; obtain ⟨t,rfl⟩:=r1; obtain ⟨u,rfl⟩:=r2
  obtain ⟨m,hF,_⟩:=T.F.fr T.R
  refine max_two_N hA hF (eQ _ _ _) fun h' tk F' N'=>?_
  obtain ⟨K,x,R',FF⟩:=T.byNews hF.ns F' N' fun _ hp=>hp
  exact hQ _ _ _ tk x R' FF (by rw [RepV]; exact ⟨_,rfl⟩)
 ·exact one e
theorem Bh (T:At g env as fr σ s) (hA:A.handled=none) (ha:ah as s.heap vs xs) (e:pv tm vs σ=.ok v σ') (hQ:aK g env as fr s v σ' Q):wpAny (model g.prog g.w) A (call (.builtin "min") xs) Q X s:=by
 obtain ⟨l,is,i,rfl,h1,h2,rfl,rfl⟩:=m8 e
 obtain ⟨x,rfl,r⟩:=cG ha
 exact zP T hA r h1 h2 hQ
set_option tactic.hygienic true in
theorem yM (T:At g env as fr σ s) (hA:A.handled=none) (ha:ah as s.heap vs xs) (e:zx vs σ=.ok v σ') (hQ:aK g env as fr s v σ' Q):wpAny (model g.prog g.w) A (call (.type "list") xs) Q X s:=by
 rcases vs with _ | ⟨a,_ | ⟨b,vs⟩⟩ <;> first | exact ax e | skip
 obtain ⟨x,rfl,r⟩:=cG ha
 cases a <;> first | exact ax e | skip
 ·rename_i l
  obtain ⟨ys,h,e⟩:=ja (o:=getL σ l) (f:=fun xs=>cN xs σ) e
  refine aw T.R r h fun ad items m qx hd ho hr hz hsz=>?_; subst qx
  refine call_list_seq ad (T:="list") (.inl rfl) ho rfl rfl (fun h' c' k hn=>?_) (by show _ ≤ 2 ^ 24; lia)
  exact hQ.new (tk:=s.toks) T k (new_none _) ⟨c',hn⟩ hr e
 ·rw [RepV] at r
  obtain ⟨ad,t,u,v',rfl,ho,hb⟩:=r
  obtain ⟨h1,h2⟩:=jH hb
  refine call_list_range hA ho h2 h1 (by lia) fun h' tk acc c' k hn hacc=>?_
  exact hQ.new T k (new_none _) ⟨c',hn⟩ (rB hacc) e
set_option tactic.hygienic true in
theorem wo (T:At g env as fr σ s) (ha:ah as s.heap vs xs) (e:vq vs σ=.ok v σ') (hQ:aK g env as fr s v σ' Q):wpAny (model g.prog g.w) A (call (.type "tuple") xs) Q X s:=by
 rcases vs with _ | ⟨a,_ | ⟨b,vs⟩⟩ <;> first | exact ax e | skip
 obtain ⟨x,rfl,r⟩:=cG ha
 cases a <;> first | exact ax e | skip
 rename_i l
 obtain ⟨ys,h,e⟩:=ja (o:=getL σ l) (f:=fun xs=>.ok (.tup xs) σ) e
 obtain ⟨rfl,rfl⟩:=bw e
 refine aw T.R r h fun ad items m qx hd ho hr hz hsz=>?_; subst qx
 refine call_tuple_list ho.isList (fun h' k=>?_) (by show _ ≤ 2 ^ 24; lia)
 have kk:∀ (a:Addr) (o:Obj),s.heap.get? a=some o→(h'.push { cls:=.type "tuple",data:=.seq items }).get? a=some o:=fun a o e=>Heap.get?_push_of_some _ (k a o e)
 refine hQ.use (tk:=s.toks) T (aC.of_ext kk) (T.R.ext kk) ?_
 rw [RepV]
 exact ⟨_,items,0,rfl,Heap.get?_push_size _ rfl,⟨by lia,fun q=>(T.R.there q).elim fun _ q=>absurd (Heap.lt_size (k _ _ q.1)) (Nat.lt_irrefl _)⟩,ah.keep (.same fun a o e _ _=>kk a o e) _ _ hr⟩
theorem Ab (T:At g env as fr σ s) (hA:A.handled=none) (ha:ah as s.heap vs xs) (e:Bo vs σ=.ok v σ') (hQ:aK g env as fr s v σ' Q):wpAny (model g.prog g.w) A (call (.builtin "all") xs) Q X s:=by
 rcases vs with _ | ⟨a,_ | ⟨b,vs⟩⟩ <;> first | exact ax e | skip
 obtain ⟨x,rfl,r⟩:=cG ha
 cases a <;> first | exact ax e | skip
 obtain ⟨h,rfl⟩:=ik e
 refine bT h fun bb h1 qx2=>?_; subst qx2
 refine bq h1 fun ys h2 h3=>?_
 refine aw T.R r h2 fun ad items m qx hd ho hr hz hsz=>?_; subst qx
 obtain ⟨bs,hbs,rfl⟩:=pf h3 hr
 have hne:ad ≠ s.heap.objs.size:=Nat.ne_of_lt (Heap.lt_size ho)
 have hlen:items.size=bs.length:=by have:=congrArg List.length hbs; simpa using this
 refine call_all_walk (wpAny_pyIter_list ho.isList ?_)
 refine ⟨s.heap.objs.size,_,_,items.size,_,_,fun i=>bs.getD i true,rfl,Walks.list (A:=A.in1) hA s.heap.objs.size ad hne items,⟨⟨_,Heap.get?_push_size _ rfl,rfl,rfl⟩,ho.isList.push _⟩,?_,?_⟩
 ·intro i v s' Q' E' hv hq
  have:(bs.map Value.bool)[i]?=some v:=by rw [← hbs]; simpa using hv
  rw [List.getElem?_map] at this
  refine bT this fun b hb qx2=>?_; subst qx2
  have e6:bs.getD i true=b:=by simp [hb]
  exact wpAny_truthy_bool (by rw [← e6]; exact hq)
 ·intro h' tk hk
  rw [hlen,pj]
  have kk:=ir (h:=s.heap) (az _ _) hk (by intro b hb; rw [List.mem_singleton.mp hb]; exact new_none _)
  exact hQ.use T (aC.of_ext kk) (T.R.ext kk) (by rw [RepV])
set_option tactic.hygienic true in
theorem mZ {lo hi:Int} (e:zI lo hi σ=.ok v σ'):(-1000000 ≤ lo ∧ lo ≤ 1000000 ∧ -1000000 ≤ hi ∧ hi ≤ 1000000) ∧ v=.rng lo hi ∧ σ'=σ:=by
 unfold zI at e
 split at e
 ·rename_i h; cases e; exact ⟨h,rfl,rfl⟩
 ·exact ax e
theorem w9 (T:At g env as fr σ s) (ha:ah as s.heap vs xs) (e:vD vs σ=.ok v σ') (hQ:aK g env as fr s v σ' Q):wpAny (model g.prog g.w) A (call (.type "range") xs) Q X s:=by
 rcases vs with _ | ⟨a,_ | ⟨b,_ | ⟨c,vs⟩⟩⟩
 ·exact ax e
 ·cases a <;> first | exact ax e | skip
  obtain ⟨x,rfl,r⟩:=cG ha
  obtain ⟨hz,rfl,rfl⟩:=mZ e
  rw [RepV] at r; obtain ⟨t,rfl⟩:=r
  refine call_range_1 ?_
  refine hQ.use T (aC.of_ext (az _ _)) (T.R.ext (az _ _)) ?_
  rw [RepV]; exact ⟨_,_,_,_,rfl,Heap.get?_push_size _ rfl,hz⟩
 ·cases a <;> first | exact ax e | skip
  cases b <;> first | exact ax e | skip
  obtain ⟨x,y,rfl,r1,r2⟩:=ma ha
  obtain ⟨hz,rfl,rfl⟩:=mZ e
  rw [RepV] at r1 r2; obtain ⟨t,rfl⟩:=r1; obtain ⟨u,rfl⟩:=r2
  refine call_range_2 ?_
  refine hQ.use T (aC.of_ext (az _ _)) (T.R.ext (az _ _)) ?_
  rw [RepV]; exact ⟨_,_,_,_,rfl,Heap.get?_push_size _ rfl,hz⟩
 ·exact ax e
end
theorem zO {b:BN}{vs:List V}{xs:List Value}{v:V} (G:Sys g) (T:At g env as fr σ s) (hA:A.handled=none) (ha:ah as s.heap vs xs) (hb:bOk b=true)
  (e:gA b vs σ=.ok v σ') (hQ:aK g env as fr s v σ' Q):wpAny (model g.prog g.w) A (call (mA b) xs) Q X s:=by
 cases b with
 | len=>exact Av G T ha e hQ
 | max=>exact Al T hA ha e hQ
 | min=>exact Bh T hA ha e hQ
 | list=>exact yM T hA ha e hQ
 | tuple=>exact wo T ha e hQ
 | all=>exact Ab T hA ha e hQ
 | range=>exact w9 T ha e hQ
 | _=>exact ft hb
end
end Mine
namespace Mine
open PySem PyProof.Rows PySem.W
noncomputable def yL (K:Frag) (D:Addr):Bool:=(clsIn K D).isSome && (findIn K (.ref D) "__getattribute__" == some (some (.builtin "BaseException.__getattribute__")) && (findIn K (.ref D) "__getattr__" == some none && (subIn K (.ref D) (.type "BaseException") == some true &&
 (findIn K (.ref D) "__class__" == some (some (.builtin "object.__class__")) && (specialIn K (.builtin "object.__class__") "__get__" == some (some (.builtin "getset_descriptor.__get__")) && (takesIn K (.builtin "object.__class__") == some true && mroIn K D (.type "object") == some true))))))
section
variable {prog:Program}{w:World}{A:Around}{E:Value→Shared→Prop}{s:Shared}{K:Frag}{x D:Addr}{ox:Obj}
theorem sb {Q:Option Value→Shared→Prop} (X:K.In s.heap) (I:InstAt s.heap x ox D none) (e:yL K D=true) (h:Q (some (.ref D)) { s with toks:=s.toks + 1 }):wpAny (model prog w) A (getAttr? (.ref x) "__class__") Q E s:=by
 obtain ⟨e0,e⟩:=af e
 obtain ⟨e1,e⟩:=af e
 obtain ⟨e2,e⟩:=af e
 obtain ⟨e3,e⟩:=af e
 obtain ⟨e4,e⟩:=af e
 obtain ⟨e5,e⟩:=af e
 obtain ⟨e6,e7⟩:=af e
 have L0:=I.type (M:=model prog w)
 have L1:=looks_findIn (M:=model prog w) X (eq_of_beq e1)
 have L2:=looks_findIn (M:=model prog w) X (eq_of_beq e2)
 have L3:Looks (model prog w) s.heap (isInstance (.ref x) (.type "BaseException")) true:=L0.andThen (looks_subIn X (eq_of_beq e3))
 have hf:findObj K D none "__class__"=some (.bind (.builtin "getset_descriptor.__get__") (.builtin "object.__class__")):=by
  obtain ⟨cd,hc⟩:=Option.isSome_iff_exists.mp e0
  unfold findObj
  rw [hc,Option.bind_some,eq_of_beq e4,Option.bind_some]
  dsimp only
  rw [eq_of_beq e5,Option.bind_some]
  dsimp only
  rw [eq_of_beq e6]
  rfl
 have L4:=looks_find (M:=model prog w) X I hf
 obtain ⟨hh,g,d,t,os⟩:=s
 unfold getAttr? getAttrBy? getAttrBy
 refine wpAny_bind (wpAny_mkText (wpAny_bind (wpAny_attempt (wpAny_holding (wpAny_bind (L0.at (wpAny_bind (L1.at ?_))))))))
 show wpAny _ _ (getAttrByItsOwn _ _ _ _ _ _) _ _ _
 unfold getAttrByItsOwn hookBefore
 refine wpAny_bind (L2.at (wpAny_bind (wpAny_attempt (wpAny_holding ?_))))
 show wpAny _ _ (boundAndCalled _ _ _) _ _ _
 unfold boundAndCalled
 refine wpAny_bind (wpAny_of_eq (a:=(Value.builtin "BaseException.__getattribute__",[Value.ref x])) (F.attr_ValueError.ga.bind (.ref x)) ?_)
 refine wpAny_call (codeAny_call_builtin F.attr_ValueError.ga.plain F.entry_bexc_ga ?_)
 have hk:builtinKind "BaseException.__getattribute__"=some .slot:=by decide +kernel
 have hsplit:splitId "BaseException.__getattribute__"=some ("BaseException","__getattribute__"):=by decide +kernel
 have ha:=F.args_bexc_ga (.ref x) (.str "__class__" t)
 simp only [checkBuiltinCall,hk,hsplit]
 refine wpAny_bind (L3.at ?_)
 simp only [Bool.not_true,Bool.false_eq_true,if_false]
 refine wpAny_of_eq (a:=()) ha ?_
 unfold Builtin.«object.__getattribute__»
 refine wpAny_bind (wpAny_pure ?_)
 refine wpAny_bind (wpAny_pure ?_)
 refine wpAny_bind (L0.at (wpAny_bind (L4.at ?_)))
 show wpAny _ _ (holding [.builtin "object.__class__"] (PySem.call (.builtin "getset_descriptor.__get__") [.builtin "object.__class__",.ref x,.ref D]) >>= ret) _ _ _
 refine wpAny_bind (wpAny_holding (wpAny_call (class_get (s:=⟨hh,g,d,t + 1,os⟩) (ox:=ox) (od:=none) X I (eq_of_beq e7) ?_)))
 exact wpAny_pure (handed_on rfl (wpAny_pure h))
theorem nO {cd:ClassData} (h:clsIn K D=some cd):∃ o,K.lookup D=some o ∧ o.data=.cls cd:=by
 unfold clsIn at h
 cases q:K.lookup D with
 | none=>rw [q] at h; exact nn h
 | some o =>
  obtain ⟨a,b,c,d⟩:=o
  rw [q] at h
  cases c <;> first | exact nn h | exact ⟨_,rfl,congrArg Data.cls (Option.some.inj h)⟩
theorem fR {M:Model}{h:Heap} (X:K.In h) (e:(clsIn K D).isSome=true):Looks M h (isType (.ref D)) true:=by
 obtain ⟨cd,hc⟩:=Option.isSome_iff_exists.mp e
 obtain ⟨⟨a,b,c,d⟩,ho,rfl⟩:=nO hc
 intro A' Q' E' s' k q
 unfold isType loadHead
 exact wpAny_bind (wpAny_loadPart (k _ _ (X _ _ ho)) (wpAny_pure q))
theorem t8 (e:yL K D=true):KitX K (.ref x) (.ref D) (fun h=>W.InstAt h x ox D none) where
 ty:=fun _ _ _ I=>I.type
 it:=fun M h X I=>fR X (af e).1
 ne:=fun h tp dd its n sl X htp=>by
  obtain ⟨cd,hc⟩:=Option.isSome_iff_exists.mp (af e).1
  refine Bool.eq_false_iff.mpr fun q=>?_
  cases beq_iff_eq.mp q
  obtain ⟨⟨a,b,c,d⟩,ho,rfl⟩:=nO hc
  rw [X _ _ ho] at htp; cases htp
 ca:=fun X I h=>sb X I e h
end
end Mine
namespace Mine
open PySem PyProof.Rows PySem.W
noncomputable def GV (g:Cfg) (x:Str) (v:Value):Prop :=
 ∃ mg mb,g.b.Ns mainGlobals mg ∧ g.b.Ns builtinsNs mb ∧ (mg x=some v ∨ (mg x=none ∧ mb x=some v))
noncomputable def dX (g:Cfg) (fa:Nat→Option Addr) (call:Nat→List V→Sto→RE) (n:Nat):Prop :=
 ∀ (k:Nat) (a:Addr) (vs:List V) (σ σ':Sto) (v:V),fa k=some a→call k vs σ=.ok v σ' →
 ∀ (A:Around) (s:Shared) (as:List Addr) (xs:List Value) (R:Result→Shared→Prop),cb g A n→Rel g as σ s.heap→g.b.objs.size ≤ s.heap.objs.size→ah as s.heap vs xs →
  (∀ (val:Value) (as':List Addr) (h':Heap) (tk:Nat),aC [] as s.heap as' h'→Rel g as' σ' h'→RepV as' h' v val→R (.ok (.ret val)) { s with heap:=h',toks:=tk }) →
  codeAny (model g.prog g.w) A (.call (.ref a) ⟨xs,[]⟩) R s
noncomputable def gP (g:Cfg) (K:Frag) (c:CE) (call:Nat→List V→Sto→RE) (n:Nat):Prop :=
 ∀ (f:Str) (k:Nat),c.tfns.lookup f=some k→∃ a,GV g f (.ref a) ∧ keepIn K (.ref a)=true ∧ ∀ (us:List V) (σ σ':Sto) (v:V),call k us σ=.ok v σ' →
 ∀ (A:Around) (s:Shared) (as:List Addr) (xs:List Value) (env:Env) (fr:Fra) (R:Result→Shared→Prop),cb g A n→A.frames=some [env]→env.frame=some env.locals→At g env as fr σ s→ah as s.heap us xs →
  (∀ (val:Value) (as':List Addr) (h':Heap) (tk:Nat),aC [env.locals] as s.heap as' h'→Rel g as' σ' h'→ay g env as' fr h'→RepV as' h' v val→R (.ok (.ret val)) { s with heap:=h',toks:=tk }) →
  codeAny (model g.prog g.w) A (.call (.ref a) ⟨xs,[]⟩) R s
structure ci (g:Cfg) (K:Frag) (c:CE) (fa:Nat→Option Addr) (call:Nat→List V→Sto→RE) (n:Nat):Prop where
 ok:dX g fa call n
 t:gP g K c call n
noncomputable def AS:List Value:=[.type "ValueError",.type "Exception",.type "BaseException",.type "object"]
noncomputable def lH (K:Frag) (P:Addr) (ds:List Nat):Bool:=(clsIn K P).isSome && (typeIn K (.ref P) == some (.type "type") && (subIn K (.type "type") (.type "tuple") == some false && (subIn K (.ref P) (.type "BaseException") == some true && ds.all (fun D=>subIn K (.ref D) (.ref P) == some true))))
structure wW (g:Cfg) (K:Frag) (c:CE):Prop where
 k:∀ D ∈ c.excs.map (·.2),yL K D=true
 i:∀ x C,c.excs.lookup x=some C→GV g x (.ref C)
 r:∀ x C,c.excs.lookup x=some C→∃ mg,OwnCls x C AS "ValueError.__new__" mg g.b
 o:∀ C ∈ c.excs.map (·.2),∀ D ∈ c.excs.map (·.2),kitOne K (.ref D) (.ref C)=some (D == C)
 v:GV g "ValueError" (.type "ValueError")
 w:∀ D ∈ c.excs.map (·.2),kitOne K (.ref D) (.type "ValueError")=some true
 p:∀ x P,c.pe=some (x,P)→GV g x (.ref P) ∧ lH K P (c.excs.map (·.2))=true
structure bC (g:Cfg) (K:Frag) (c:CE) (fa:Nat→Option Addr):Prop where
 sys:Sys g
 kin:K.In g.b
 const:∀ x i,c.consts.lookup x=some i→∃ t,GV g x (.int i t)
 fn:∀ x k,c.fns.lookup x=some k→∃ a,GV g x (.ref a) ∧ fa k=some a ∧ keepIn K (.ref a)=true
 cls:∀ x k,c.clss.lookup x=some k→∃ fI,GV g x (.ref g.C) ∧ fa k=some fI ∧ keepIn K (.ref g.C)=true ∧ makesIn K g.C=true ∧ findIn K (.ref g.C) "__init__"=some (some (.ref fI)) ∧ isFn K (.ref fI)=true
 clsO:∀ x k,c.clss.lookup x=some k→isIn K (.ref g.C) g.C=true
 blt:∀ x b,bltName.lookup x=some b→GV g x (mA b)
 typ:∀ x t y,tyName.lookup x=some t→s8 t=some y→GV g x y
 set:GV g "set" (.type "set")
 rev:GV g "reversed" (.type "reversed")
 en:GV g "enumerate" (.type "enumerate")
 zp:GV g "zip" (.type "zip")
 sorted:GV g "sorted" (.builtin "sorted")
 hd:c.hnd=false→g.hd=none
 exc:wW g K c
 isi:GV g "isinstance" (.builtin "isinstance")
 att:∀ x k,c.attrs.lookup x=some k→g.at'.lookup k=some x ∧ plainGet K g.C x=true ∧ ∃ at',findIn K (.ref g.C) x=some at' ∧ noGet K at'=true ∧ takerIn K g.C x=some none
 hasD:∀ x k,c.attrs.lookup x=some k→hasDictIn K g.C=true
 setA:∀ x k,c.attrs.lookup x=some k→findIn K (.ref g.C) "__setattr__"=some (some (.builtin "object.__setattr__")) ∧ plainOver K g.C=true
 lam:∀ a,c.lam=some a→∃ mg,g.b.Ns mainGlobals mg ∧ CodeHd g.b a g.tab ∧ g.b.NoLimit ∧ g.b.BuiltinsAt mg g.tab ∧ mainGlobals ≠ g.tab ∧ g.hd=none
 mth:∀ x f,c.mths.lookup x=some f→∃ a,fa f=some a ∧ plainGet K g.C x=true ∧ findIn K (.ref g.C) x=some (some (.ref a)) ∧ isFn K (.ref a)=true ∧ keepIn K (.ref a)=true ∧ ∀ k,g.at'.lookup k ≠ some x
structure aq (c:CE) (env:Env) (A:Around):Prop where
 f2:F2 (fun (p q:Str × NameKind)=>p.1=q.1 ∧ (p.2=q.2 ∨ (p.2=.free ∧ q.2=.cell))) c.names env.scope.names
 code:∀ a,c.lam=some a→env.code=.ref a
 top:c.top=some c.names→A.frames=some [env] ∧ env.frame=some env.locals
theorem bp {l:List (Str × NameKind)}{x:Str}{k:NameKind} (e:l.lookup x=some k):∃ i,l.findIdx? (fun p=>p.1 == x)=some i ∧ l[i]?=some (x,k):=by
 induction l with
 | nil=>cases e
 | cons p r ih =>
  obtain ⟨y,kk⟩:=p
  rw [List.lookup_cons] at e
  rw [List.findIdx?_cons]
  by_cases h:(x == y)=true
  ·rw [h] at e; simp only [Option.some.injEq] at e; subst e
   have h':=eq_of_beq h; subst h'
   exact ⟨0,by simp,rfl⟩
  ·simp only [h] at e
   obtain ⟨i,h1,h2⟩:=ih e
   have hb:(y == x)=false:=by
    cases q:y == x with
    | false=>rfl
    | true=>exact absurd (by rw [eq_of_beq q]; simp) h
   exact ⟨i + 1,by simp only [hb]; simp [h1],by simpa using h2⟩
theorem be {l:List (Str × NameKind)} (nd:(l.map (·.1)).Nodup) {i:Nat}{x:Str}{k:NameKind} (e:l[i]?=some (x,k)):l.lookup x=some k:=by
 induction l generalizing i with
 | nil=>simp at e
 | cons p r ih =>
  obtain ⟨y,kk⟩:=p
  rw [List.lookup_cons]
  cases i with
  | zero=>simp at e; obtain ⟨rfl,rfl⟩:=e; simp
  | succ i =>
   simp at e nd
   have:(x == y)=false:=by
    cases q:x == y with
    | false=>rfl
    | true=>have q':=eq_of_beq q; subst q'; exact absurd (List.mem_of_getElem? e) (nd.1 k)
   rw [this]
   exact ih nd.2 e
theorem aq.get {c:CE}{env:Env}{A:Around} (N:aq c env A) {i:Nat}{x:Str}{k:NameKind} (e:c.names[i]?=some (x,k)):∃ k',env.scope.names[i]?=some (x,k') ∧ (k=k' ∨ (k=.free ∧ k'=.cell)):=by
 obtain ⟨⟨y,k'⟩,h1,h2,h3⟩:=F2.get N.f2 e
 have:x=y:=h2
 subst this
 exact ⟨k',h1,h3⟩
theorem aq.map {c:CE}{env:Env}{A:Around} (N:aq c env A):c.names.map (·.1)=env.scope.names.map (·.1):=by
 have:∀ {a b:List (Str × NameKind)},F2 (fun (p q:Str × NameKind)=>p.1=q.1 ∧ (p.2=q.2 ∨ (p.2=.free ∧ q.2=.cell))) a b→a.map (·.1)=b.map (·.1):=by
  intro a b h
  induction h with
  | nil=>rfl
  | cons x _ ih=>simp only [List.map_cons,ih]; rw [x.1]
 exact this N.f2
set_option tactic.hygienic true in
theorem wM {c:CE}{x:Str}{i:Nat} (e:c.loc? x=some i):∃ k,c.names[i]?=some (x,k) ∧ (k=.local ∨ k=.cell ∨ k=.free):=by
 unfold CE.loc? at e
 split at e
 ·rename_i h; obtain ⟨j,h1,h2⟩:=bp h; rw [h1] at e; cases e; exact ⟨_,h2,.inl rfl⟩
 ·rename_i h; obtain ⟨j,h1,h2⟩:=bp h; rw [h1] at e; cases e; exact ⟨_,h2,.inr (.inl rfl)⟩
 ·rename_i h; obtain ⟨j,h1,h2⟩:=bp h; rw [h1] at e; cases e; exact ⟨_,h2,.inr (.inr rfl)⟩
 ·cases e
section
variable {g:Cfg}{K:Frag}{c:CE}{fa:Nat→Option Addr}{env:Env}{A:Around}{X:Value→Shared→Prop}{s:Shared}{as:List Addr}{fr:Fra} {σ σ':Sto}{Q:Value→Shared→Prop}
theorem cy {x:Str}{v:Value} (T:At g env as fr σ s) (N:aq c env A) (hg:c.glob x=true) (hd:(x == ("__debug__":Str))=false) (G:GV g x v) (h:Q v s) {pos:Pos}:wpAny (model g.prog g.w) A (eval (.Name x pos) env) Q X s:=by
 unfold CE.glob at hg
 have hl:c.names.lookup x=some .globalImplicit:=eq_of_beq hg
 obtain ⟨i,_,h2⟩:=bp hl
 obtain ⟨k',h3,h4⟩:=N.get h2
 have hk:k'=.globalImplicit:=by
  rcases h4 with h4 | h4
  ·exact h4.symm
  ·cases h4.1
 subst hk
 have hx:env.kindOf x=some .globalImplicit:=be T.F.nd h3
 obtain ⟨mg,mb,g1,g2,g3⟩:=G
 refine Calls.Name_function_global T.F.kind hx ?_ hd
 rcases g3 with g3 | ⟨g3,g4⟩
 ·exact Calls.loadGlobal_global (by rw [T.F.glob]; exact g1.keeps T.R.base) g3 h
 ·exact Calls.loadGlobal_builtin (by rw [T.F.glob]; exact g1.keeps T.R.base) g3 (by rw [T.F.blt]; exact g2.keeps T.R.base) g4 h
theorem Bd {x:Str}{i:Nat}{v:V} (T:At g env as fr σ s) (N:aq c env A) (hl:c.loc? x=some i) (hd:(x == ("__debug__":Str))=false) (hc:(x == ("__classdict__":Str))=false) (e:fr[i]?=some (some v))
  (hQ:aK g env as fr s v σ Q) {pos:Pos}:wpAny (model g.prog g.w) A (eval (.Name x pos) env) Q X s:=by
 obtain ⟨k,h1,h2⟩:=wM hl
 obtain ⟨k',h3,h4⟩:=N.get h1
 have hx:env.kindOf x=some k':=be T.F.nd h3
 refine wpAny_Name ?_ hd
 have hk:k'=.local ∨ k'=.cell ∨ k'=.free:=by
  rcases h4 with h4 | h4
  ·subst h4; exact h2
  ·exact .inr (.inl h4.2)
 rcases hk with rfl | rfl | rfl
 ·obtain ⟨m,hm,hv⟩:=T.F.ns
  obtain ⟨val,e1,e2⟩:=hv i x v h3 e
  exact wpAny_loadName_local T.F.kind hx hm e1 (hQ.same' T e2)
 ·obtain ⟨cc,cv,e1,e2,e3⟩:=T.F.cells i x _ h3 (.inl rfl)
  obtain ⟨val,rfl,e5⟩:=e3 v e
  exact wpAny_loadName_cell T.F.kind hx e1 e2 (hQ.same' T e5)
 ·obtain ⟨cc,cv,e1,e2,e3⟩:=T.F.cells i x _ h3 (.inr rfl)
  obtain ⟨val,rfl,e5⟩:=e3 v e
  exact wpAny_loadName_free T.F.kind hx e1 e2 (hQ.same' T e5) hc
end
end Mine
namespace Mine
open PySem PyProof.Rows PySem.W
noncomputable def bv (g:Cfg) (c0:CE) (call:Nat→List V→Sto→RE) (r n:Nat):Prop :=
 ∀ (names:List (Str × NameKind)) (e:Expr) (e':E),aj n (c0.sub names) e=some e' →
 ∀ (env:Env) (A:Around) (X:Value→Shared→Prop) (s:Shared) (as:List Addr) (fr:Fra) (σ σ':Sto) (v:V) (Q:Value→Shared→Prop),
  aq (c0.sub names) env A→cb g A (r + 1)→At g env as fr σ s→evE call e' fr σ=.ok v σ'→aK g env as fr s v σ' Q→wpAny (model g.prog g.w) A (eval e env) Q X s
noncomputable def n5 (g:Cfg) (env:Env) (as:List Addr) (fr:Fra) (s:Shared) (b:Bool) (σ':Sto) (Q:Bool→Shared→Prop):Prop :=
 ∀ (as':List Addr) (h':Heap) (tk:Nat),aC [env.locals] as s.heap as' h'→Rel g as' σ' h'→ay g env as' fr h'→Q b { s with heap:=h',toks:=tk }
noncomputable def lj (g:Cfg) (c0:CE) (call:Nat→List V→Sto→RE) (r n:Nat):Prop :=
 ∀ (names:List (Str × NameKind)) (e:Expr) (e':E),aj n (c0.sub names) e=some e' →
 ∀ (env:Env) (A:Around) (X:Value→Shared→Prop) (s:Shared) (as:List Addr) (fr:Fra) (σ σ':Sto) (b:Bool) (Q:Bool→Shared→Prop),
  aq (c0.sub names) env A→cb g A (r + 1)→At g env as fr σ s→evE call e' fr σ=.ok (.bool b) σ'→n5 g env as fr s b σ' Q→wpAny (model g.prog g.w) A (isTrue e env (eval e env)) Q X s
theorem w0 {r:RE}{k:V→Sto→RE}{v:V} {σ':Sto} (e:r.bind k=.ok v σ'):∃ u τ,r=.ok u τ ∧ k u τ=.ok v σ':=by
 cases r with
 | ok u τ=>exact ⟨u,τ,rfl,e⟩
 | ex x τ=>cases e
 | bad=>cases e
theorem binds_ok {r:RE}{k:V→Sto→REs}{v:List V} {σ':Sto} (e:r.binds k=.ok v σ'):∃ u τ,r=.ok u τ ∧ k u τ=.ok v σ':=by
 cases r with
 | ok u τ=>exact ⟨u,τ,rfl,e⟩
 | ex x τ=>cases e
 | bad=>cases e
theorem uD {r:REs}{k:List V→Sto→RE}{v:V} {σ':Sto} (e:r.bind k=.ok v σ'):∃ u τ,r=.ok u τ ∧ k u τ=.ok v σ':=by
 cases r with
 | ok u τ=>exact ⟨u,τ,rfl,e⟩
 | ex x τ=>cases e
 | bad=>cases e
theorem qP {r:REs}{k:List V→Sto→REs}{v:List V} {σ':Sto} (e:r.binds k=.ok v σ'):∃ u τ,r=.ok u τ ∧ k u τ=.ok v σ':=by
 cases r with
 | ok u τ=>exact ⟨u,τ,rfl,e⟩
 | ex x τ=>cases e
 | bad=>cases e
theorem aB {r:RE}{k:V→Sto→RE}{v:V} {σ':Sto}{P:Prop} (e:r.bind k=.ok v σ') (h:∀ u τ,r=.ok u τ→k u τ=.ok v σ'→P):P:=let ⟨u,τ,h1,h2⟩:=w0 e; h u τ h1 h2
theorem jp {r:RE}{k:V→Sto→REs}{v:List V} {σ':Sto}{P:Prop} (e:r.binds k=.ok v σ') (h:∀ u τ,r=.ok u τ→k u τ=.ok v σ'→P):P:=let ⟨u,τ,h1,h2⟩:=binds_ok e; h u τ h1 h2
theorem bJ {r:REs}{k:List V→Sto→RE}{v:V} {σ':Sto}{P:Prop} (e:r.bind k=.ok v σ') (h:∀ u τ,r=.ok u τ→k u τ=.ok v σ'→P):P:=let ⟨u,τ,h1,h2⟩:=uD e; h u τ h1 h2
theorem pG {r:REs}{k:List V→Sto→REs}{v:List V} {σ':Sto}{P:Prop} (e:r.binds k=.ok v σ') (h:∀ u τ,r=.ok u τ→k u τ=.ok v σ'→P):P:=let ⟨u,τ,h1,h2⟩:=qP e; h u τ h1 h2
section
variable {g:Cfg}{K:Frag}{c0:CE}{fa:Nat→Option Addr}{call:Nat→List V→Sto→RE}{env:Env}{A:Around}{X:Value→Shared→Prop}{s:Shared}{as:List Addr}{fr:Fra} {σ σ':Sto}{r n:Nat}
 {names:List (Str × NameKind)}
theorem At.step (T:At g env as fr σ s) {as':List Addr}{h':Heap}{tk:Nat} {σ':Sto} (R':Rel g as' σ' h') (F':ay g env as' fr h'):At g env as' fr σ' { s with heap:=h',toks:=tk }:=⟨F',R'⟩
theorem At.keep (T:At g env as fr σ s) {as':List Addr}{h':Heap} (x:aC [env.locals] as s.heap as' h'):bR as s.heap as' h':=T.R.keep x T.F.notImm
theorem ao {as as1 as2:List Addr}{h h1 h2:Heap} {σ2:Sto} (x:aC [env.locals] as h as1 h1) (y:aC [env.locals] as1 h1 as2 h2) (R2:Rel g as2 σ2 h2) (F2':ay g env as2 fr h2):aC [env.locals] as h as2 h2 :=
 x.trans y R2.nd (by intro a ha; simp at ha; subst ha; exact F2'.off)
theorem two {e1 e2:Expr}{a b:E}{u v:V} {τ:Sto}{Q:Value→Value→Shared→Prop} (IH:bv g c0 call r n) (h1:aj n (c0.sub names) e1=some a) (h2:aj n (c0.sub names) e2=some b)
  (N:aq (c0.sub names) env A) (hA:cb g A (r + 1)) (T:At g env as fr σ s) (ev1:evE call a fr σ=.ok u τ) (ev2:evE call b fr τ=.ok v σ')
  (hQ:∀ (x y:Value) (as':List Addr) (h':Heap) (tk:Nat),aC [env.locals] as s.heap as' h'→Rel g as' σ' h'→ay g env as' fr h'→RepV as' h' u x→RepV as' h' v y→Q x y { s with heap:=h',toks:=tk }) :
  wpAny (model g.prog g.w) A (eval e1 env) (fun x s1=>wpAny (model g.prog g.w) A (eval e2 env) (fun y s2=>Q x y s2) X s1) X s:=by
 refine IH names e1 a h1 env A X s as fr σ τ u _ N hA T ev1 fun x as1 k1 tk1 st1 R1 F1 r1=>?_
 refine IH names e2 b h2 env A X _ as1 fr τ σ' v _ N hA ⟨F1,R1⟩ ev2 fun y as2 k2 tk2 st2 R2 F2' r2=>?_
 exact hQ x y as2 k2 tk2 (ao st1 st2 R2 F2') R2 F2' (RepV.keep (At.keep (s:={ s with heap:=k1,toks:=tk1 }) ⟨F1,R1⟩ st2) _ _ r1) r2
theorem aR {v:V}{Q:Value→Shared→Prop}{as':List Addr}{h':Heap}{tk:Nat} {τ:Sto} (hQ:aK g env as fr s v σ' Q) (x:aC [env.locals] as s.heap as' h') (R':Rel g as' τ h') (F':ay g env as' fr h') :
  aK g env as' fr { s with heap:=h',toks:=tk } v σ' Q:=fun val as2 h2 tk2 st2 R2 F2' r2=>hQ val as2 h2 tk2 (ao x st2 R2 F2') R2 F2' r2
theorem ji {b:Bool}{Q:Bool→Shared→Prop}{as':List Addr}{h':Heap}{tk:Nat} {τ:Sto} (hQ:n5 g env as fr s b σ' Q) (x:aC [env.locals] as s.heap as' h') (R':Rel g as' τ h') (F':ay g env as' fr h') :
  n5 g env as' fr { s with heap:=h',toks:=tk } b σ' Q:=fun as2 h2 tk2 st2 R2 F2'=>hQ as2 h2 tk2 (ao x st2 R2 F2') R2 F2'
theorem aW {e:Expr}{e':E}{c:CE} (h:aj n c e=some e'):∀ rest env,starEach (e :: rest) env=(false,eval e env) :: starEach rest env:=by
 intro rest env
 have hk:=cZ h
 cases e <;> first | rfl | exact ft hk
theorem gm (IH:bv g c0 call r n) {pos:Pos}:∀ (es:List Expr) (es':List E) (s:Shared) (as:List Addr) (σ σ':Sto) (vs:List V) (Q:List Value→Shared→Prop),
  aQ (aj n (c0.sub names)) es=some es'→aq (c0.sub names) env A→cb g A (r + 1)→At g env as fr σ s→b6 call es' fr σ=.ok vs σ' →
  (∀ (xs:List Value) (as':List Addr) (h':Heap) (tk:Nat),aC [env.locals] as s.heap as' h'→Rel g as' σ' h'→ay g env as' fr h'→ah as' h' vs xs→Q xs { s with heap:=h',toks:=tk }) →
  wpAny (model g.prog g.w) A (spliced (backTo pos (starEach es env))) Q X s
 | [],es',s,as,σ,σ',vs,Q,h,N,hA,T,ev,hQ=>by
  rw [du] at h; cases h; rw [b6] at ev; cases ev
  exact wpAny_items_nil (hQ [] as s.heap s.toks (aC.refl _ _ _) T.R T.F (by rw [ah]))
 | e :: es,es',s,as,σ,σ',vs,Q,h,N,hA,T,ev,hQ=>by
  refine cn h fun a as' h1 h2 qx4=>?_; subst qx4
  rw [b6] at ev
  refine jp ev fun u τ e1 e2=>?_
  refine pG e2 fun us τ' e3 e4=>?_
  cases e4
  refine wpAny_items_cons ?_ (aW h1 _ _)
  refine IH names e a h1 env A X s as fr σ τ u _ N hA T e1 fun x as1 k1 tk1 st1 R1 F1 r1=>?_
  refine gm IH es as' _ as1 τ σ' us _ h2 N hA ⟨F1,R1⟩ e3 fun xs as2 k2 tk2 st2 R2 F2' r2=>?_
  refine hQ (x :: xs) as2 k2 tk2 (ao st1 st2 R2 F2') R2 F2' ?_
  rw [ah]
  exact ⟨x,xs,rfl,RepV.keep (At.keep (s:={ s with heap:=k1,toks:=tk1 }) ⟨F1,R1⟩ st2) _ _ r1,r2⟩
theorem fq (IH:bv g c0 call r n) {pos:Pos}{op:BoolOp}:∀ (es:List Expr) (es':List E) (b':E) (s:Shared) (as:List Addr) (σ σ':Sto) (v:V) (Q:Value→Shared→Prop),
  aQ (aj n (c0.sub names)) es=some es'→gf op es'=some b'→aq (c0.sub names) env A→cb g A (r + 1)→At g env as fr σ s→evE call b' fr σ=.ok v σ'→aK g env as fr s v σ' Q →
  wpAny (model g.prog g.w) A (boolOp pos op (evalEach es env)) Q X s
 | [],es',b',s,as,σ,σ',v,Q,h,hf,N,hA,T,ev,hQ=>by rw [du] at h; cases h; cases hf
 | [e],es',b',s,as,σ,σ',v,Q,h,hf,N,hA,T,ev,hQ=>by
  refine cn h fun a as' h1 h2 qx4=>?_; subst qx4
  rw [du] at h2; cases h2
  have hf:a=b':=Option.some.inj hf
  subst hf
  show wpAny _ A (eval e env) Q X s
  exact IH names e a h1 env A X s as fr σ σ' v _ N hA T ev hQ
 | e :: e2 :: es,es',b',s,as,σ,σ',v,Q,h,hf,N,hA,T,ev,hQ=>by
  refine cn h fun a as' h1 h2 qx4=>?_; subst qx4
  refine cn h2 fun a2 as2' h3 h4 qx4=>?_; subst qx4
  have hf':∃ y,gf op (a2 :: as2')=some y ∧ b'=mkB op a y:=by
   have:gf op (a :: a2 :: as2')=(gf op (a2 :: as2')).map fun y=>mkB op a y:=rfl
   rw [this] at hf
   obtain ⟨y,q1,q2⟩:=Option.map_eq_some_iff.mp hf
   exact ⟨y,q1,q2.symm⟩
  obtain ⟨y,hy,rfl⟩:=hf'
  show wpAny _ A (do
   let v ← eval e env
   standAt pos
   let t ← holding [v] (truthy v)
   match op,t with
   | .And,false | .Or,true=>pure v
   | _,_=>boolOp pos op (evalEach (e2 :: es) env)) Q X s
  cases op with
  | And =>
   dsimp only [mkB] at ev
   refine aB ev fun u τ e5 e6=>?_
   refine wpAny_bind (IH names e a h1 env A X s as fr σ τ u _ N hA T e5 fun x as1 k1 tk1 st1 R1 F1 r1=>wpAny_bind (wpAny_standAt (wpAny_bind (wpAny_holding ?_))))
   split at e6
   ·rw [RepV] at r1; subst r1
    refine wpAny_truthy_bool ?_
    exact fq IH (e2 :: es) (a2 :: as2') y _ as1 τ σ' v Q h2 hy N hA ⟨F1,R1⟩ e6 (aR hQ st1 R1 F1)
   ·cases e6
    rw [RepV] at r1; subst r1
    refine wpAny_truthy_bool (wpAny_pure ?_)
    exact hQ _ as1 k1 tk1 st1 R1 F1 (by rw [RepV])
   ·cases e6
  | Or =>
   dsimp only [mkB] at ev
   refine aB ev fun u τ e5 e6=>?_
   refine wpAny_bind (IH names e a h1 env A X s as fr σ τ u _ N hA T e5 fun x as1 k1 tk1 st1 R1 F1 r1=>wpAny_bind (wpAny_standAt (wpAny_bind (wpAny_holding ?_))))
   split at e6
   ·rw [RepV] at r1; subst r1
    refine wpAny_truthy_bool ?_
    exact fq IH (e2 :: es) (a2 :: as2') y _ as1 τ σ' v Q h2 hy N hA ⟨F1,R1⟩ e6 (aR hQ st1 R1 F1)
   ·cases e6
    rw [RepV] at r1; subst r1
    refine wpAny_truthy_bool (wpAny_pure ?_)
    exact hQ _ as1 k1 tk1 st1 R1 F1 (by rw [RepV])
   ·cases e6
theorem ez (IH:lj g c0 call r n) {op:BoolOp}:∀ (es:List Expr) (es':List E) (b':E) (s:Shared) (as:List Addr) (σ σ':Sto) (v:Bool) (Q:Bool→Shared→Prop),
  aQ (aj n (c0.sub names)) es=some es'→gf op es'=some b'→aq (c0.sub names) env A→cb g A (r + 1)→At g env as fr σ s→evE call b' fr σ=.ok (.bool v) σ'→n5 g env as fr s v σ' Q →
  wpAny (model g.prog g.w) A (allTrue op es env) Q X s
 | [],es',b',s,as,σ,σ',v,Q,h,hf,N,hA,T,ev,hQ=>by rw [du] at h; cases h; cases hf
 | [e],es',b',s,as,σ,σ',v,Q,h,hf,N,hA,T,ev,hQ=>by
  refine cn h fun a as' h1 h2 qx4=>?_; subst qx4
  rw [du] at h2; cases h2
  have hf:a=b':=Option.some.inj hf
  subst hf
  show wpAny _ A (do
   match op,← isTrue e env (eval e env) with
   | .And,false=>pure false
   | .Or,true=>pure true
   | _,_=>allTrue op [] env) Q X s
  refine wpAny_bind (IH names e a h1 env A X s as fr σ σ' v _ N hA T ev fun as1 k1 tk1 st1 R1 F1=>?_)
  have hq:=hQ as1 k1 tk1 st1 R1 F1
  cases op <;> cases v <;> exact wpAny_pure hq
 | e :: e2 :: es,es',b',s,as,σ,σ',v,Q,h,hf,N,hA,T,ev,hQ=>by
  refine cn h fun a as' h1 h2 qx4=>?_; subst qx4
  refine cn h2 fun a2 as2' h3 h4 qx4=>?_; subst qx4
  have hf':∃ y,gf op (a2 :: as2')=some y ∧ b'=mkB op a y:=by
   have:gf op (a :: a2 :: as2')=(gf op (a2 :: as2')).map fun y=>mkB op a y:=rfl
   rw [this] at hf
   obtain ⟨y,q1,q2⟩:=Option.map_eq_some_iff.mp hf
   exact ⟨y,q1,q2.symm⟩
  obtain ⟨y,hy,rfl⟩:=hf'
  show wpAny _ A (do
   match op,← isTrue e env (eval e env) with
   | .And,false=>pure false
   | .Or,true=>pure true
   | _,_=>allTrue op (e2 :: es) env) Q X s
  cases op with
  | And =>
   dsimp only [mkB] at ev
   refine aB ev fun u τ e5 e6=>?_
   split at e6
   ·refine wpAny_bind (IH names e a h1 env A X s as fr σ τ true _ N hA T e5 fun as1 k1 tk1 st1 R1 F1=>?_)
    exact ez IH (e2 :: es) (a2 :: as2') y _ as1 τ σ' v Q h2 hy N hA ⟨F1,R1⟩ e6 (ji hQ st1 R1 F1)
   ·cases e6
    refine wpAny_bind (IH names e a h1 env A X s as fr σ _ false _ N hA T e5 fun as1 k1 tk1 st1 R1 F1=>wpAny_pure ?_)
    exact hQ as1 k1 tk1 st1 R1 F1
   ·cases e6
  | Or =>
   dsimp only [mkB] at ev
   refine aB ev fun u τ e5 e6=>?_
   split at e6
   ·refine wpAny_bind (IH names e a h1 env A X s as fr σ τ false _ N hA T e5 fun as1 k1 tk1 st1 R1 F1=>?_)
    exact ez IH (e2 :: es) (a2 :: as2') y _ as1 τ σ' v Q h2 hy N hA ⟨F1,R1⟩ e6 (ji hQ st1 R1 F1)
   ·cases e6
    refine wpAny_bind (IH names e a h1 env A X s as fr σ _ true _ N hA T e5 fun as1 k1 tk1 st1 R1 F1=>wpAny_pure ?_)
    exact hQ as1 k1 tk1 st1 R1 F1
   ·cases e6
end
end Mine
namespace Mine
set_option backward.match.sparseCases false
open PySem PyProof.Rows PySem.W
noncomputable def qz:MN→String
 | .append=>"list.append" | .pop=>"list.pop" | .clear=>"list.clear" | .extend=>"list.extend" | .index=>"list.index"
section
variable {g:Cfg}{K:Frag}{env:Env}{A:Around}{X:Value→Shared→Prop}{s:Shared}{as:List Addr}{fr:Fra} {σ σ':Sto}{Q:Value→Shared→Prop}
theorem aK.upd {v:V}{val:Value}{l:Nat}{a:Addr}{h':Heap}{tk:Nat}{ys:List V}{items:Array Value} (hQ:aK g env as fr s v (dq σ l ys) Q) (T:At g env as fr σ s) (hl:as[l]?=some a)
  (k:∀ (b:Addr) (o:Obj),b ≠ a→s.heap.get? b=some o→h'.get? b=some o) (hp:h'.PlainList a items) (r:bR as s.heap as h'→ah as h' ys items.toList) (hz:ys.length ≤ 16777216) (rv:bR as s.heap as h'→RepV as h' v val) :
  Q val { s with heap:=h',toks:=tk }:=by
 obtain ⟨K,R',x⟩:=T.R.upd (o:=.lst ys) hl k fun K=>⟨items,hp,r K,hz⟩
 exact hQ.use T x R' (rv K)
theorem eO (h:Heap) (a:Addr) (f:Obj→Obj):∀ (b:Addr) (o:Obj),b ≠ a→h.get? b=some o→(h.update a f).get? b=some o:=fun b o hb e=>by rw [Heap.get?_update_other _ _ (Ne.symm hb)]; exact e
theorem eH {h:Heap}{a:Addr}{items:Array Value}{n:Nat} (ho:IsL h a items n) (f:Array Value→Array Value):(h.update a (Obj.mapSeq f)).PlainList a (f items):=⟨_,ho.update f⟩
set_option tactic.hygienic true in
theorem tr {is:List Int} (h1:is.length ≤ 1000) (h2:∀ j ∈ is,j.natAbs < 1024):PyData.layable0 (.list (is.map .int))=true:=by
 have key:∀ is:List Int,(∀ j ∈ is,j.natAbs < 1024)→PyData.canLayAll0 (is.map .int)=true ∧ PyData.depthAll (is.map .int)=0 ∧ PyData.weightAll (is.map .int) ≤ 11 * is.length:=by
  intro is
  induction is with
  | nil=>intro _; exact ⟨rfl,rfl,Nat.le_refl _⟩
  | cons j r ih =>
   intro h
   obtain ⟨a,b,c⟩:=ih fun k hk=>h k (.tail _ hk)
   have hj:=h j (.head _)
   refine ⟨by simp [PyData.canLayAll0,PyData.canLay0,a],by simp [PyData.depthAll,PyData.depth,b],?_⟩
   simp only [List.map_cons,PyData.weightAll,PyData.weight,List.length_cons]
   have:(if (j == 0)=true then 0 else j.natAbs.log2 + 1) ≤ 10:=by
    split
    ·lia
    ·rename_i h0
     have h0':j.natAbs ≠ 0:=by intro q; apply h0; simp; lia
     exact (Nat.log2_lt h0').mpr hj
   lia
 obtain ⟨a,b,c⟩:=key is h2
 unfold PyData.layable0
 simp only [PyData.canLay0,a,PyData.depth,b,PyData.weight,Bool.true_and,Bool.and_eq_true,decide_eq_true_eq]
 have h20:(2:Nat) ^ 20=1048576:=by decide +kernel
 refine ⟨by lia,decide_eq_true ?_⟩
 rw [h20]; lia
section
variable {l:Nat}{ys vs:List V}{x:Value}{xs:List Value}{v:V}{n:Nat}
theorem tN (T:At g env as fr σ s) (L:vy as s.heap l ys x) (hs:ah as s.heap vs xs) (e:dW .append l ys vs σ=.ok v σ') (hQ:aK g env as fr s v σ' Q):wpAny (model g.prog g.w) A (call (.builtin "list.append") (x :: xs)) Q X s:=by
 rcases vs with _ | ⟨v0,_ | ⟨v1,vs⟩⟩ <;> first | exact ax e | skip
 obtain ⟨hz,e⟩:=eE e
 obtain ⟨rfl,rfl⟩:=bw e
 obtain ⟨y,rfl,r1⟩:=cG hs
 cases L with
 | mk ad items k hd ho hr hz' hsz =>
  refine wpAny_list_append_plain ⟨k,ho⟩ (fun h' hp hsb=>?_) (by show _ ≤ 2 ^ 24; lia)
  refine hQ.upd (tk:=s.toks) T hd (fun b o hb e=>hsb.extBut b o hb e) hp (fun K=>?_) (by rw [List.length_append]; exact hz) (fun K=>by rw [RepV])
  rw [Array.toList_push]
  exact ah.f2.mpr ((ah.f2.mp (ah.keep K _ _ hr)).append (.cons (RepV.keep K _ _ r1) .nil))
theorem A6 (T:At g env as fr σ s) (L:vy as s.heap l ys x) (hs:ah as s.heap vs xs) (e:dW .pop l ys vs σ=.ok v σ') (hQ:aK g env as fr s v σ' Q):wpAny (model g.prog g.w) A (call (.builtin "list.pop") (x :: xs)) Q X s:=by
 rcases vs with _ | ⟨v0,vs⟩ <;> first | exact ax e | skip
 rw [ah] at hs; subst hs
 have e:(match ys.getLast? with | some v=>RE.ok v (dq σ l ys.dropLast) | none=>.bad)=.ok v σ':=e
 cases hv:ys.getLast? with
 | none=>rw [hv] at e; exact ax e
 | some v0 =>
  rw [hv] at e
  obtain ⟨rfl,rfl⟩:=bw e
  cases L with
  | mk ad items k hd ho hr hz' hsz =>
   rw [List.getLast?_eq_getElem?] at hv
   obtain ⟨y,hy,ry⟩:=(ah.f2.mp hr).get hv
   have hy':items[items.size - 1]?=some y:=by rw [hsz,← Array.getElem?_toList]; exact hy
   refine call_meets F.slot_list_pop ⟨_,ho,rfl⟩ F.entry_list_pop (F.args_list_pop_1 _) (MeetsSeq.list_pop_last ad items k y hy' (by show _ ≤ 2 ^ 24; lia)) ⟨ho,?_⟩
   refine hQ.upd (tk:=s.toks) T hd (eO _ _ _) (eH ho _) (fun K=>?_) (by rw [List.length_dropLast]; lia) (fun K=>RepV.keep K _ _ ry)
   have hlt:items.size - 1 < items.size:=(Array.getElem?_eq_some_iff.mp hy').1
   have e1:(items.eraseIdxIfInBounds (items.size - 1)).toList=items.toList.take (items.size - 1):=by
    rw [Array.eraseIdxIfInBounds,dif_pos hlt,Array.toList_eraseIdx,show items.size - 1=items.toList.length - 1 from by rw [Array.length_toList],List.eraseIdx_length_sub_one,List.dropLast_eq_take]
   rw [e1,List.dropLast_eq_take,← hsz]
   exact ah.f2.mpr ((ah.f2.mp (ah.keep K _ _ hr)).take _)
theorem wz (T:At g env as fr σ s) (L:vy as s.heap l ys x) (hs:ah as s.heap vs xs) (e:dW .clear l ys vs σ=.ok v σ') (hQ:aK g env as fr s v σ' Q):wpAny (model g.prog g.w) A (call (.builtin "list.clear") (x :: xs)) Q X s:=by
 rcases vs with _ | ⟨v0,vs⟩ <;> first | exact ax e | skip
 rw [ah] at hs; subst hs
 obtain ⟨rfl,rfl⟩:=bw e
 cases L with
 | mk ad items k hd ho hr hz' hsz =>
  refine call_meets F.slot_list_clear ⟨_,ho,rfl⟩ F.entry_list_clear (F.args_list_clear_1 _) (AutoSeq1.list_clear_list_0 ad items k (by show _ ≤ 2 ^ 24; lia)) ⟨ho,?_⟩
  exact hQ.upd (tk:=s.toks) T hd (eO _ _ _) (eH ho _) (fun K=>by rw [ah]) (Nat.zero_le _) (fun K=>by rw [RepV])
set_option tactic.hygienic true in
theorem tP (T:At g env as fr σ s) (L:vy as s.heap l ys x) (hs:ah as s.heap vs xs) (e:dW .extend l ys vs σ=.ok v σ') (hQ:aK g env as fr s v σ' Q):wpAny (model g.prog g.w) A (call (.builtin "list.extend") (x :: xs)) Q X s:=by
 rcases vs with _ | ⟨v0,_ | ⟨v1,vs⟩⟩ <;> first | exact ax e | skip
 obtain ⟨y,rfl,r1⟩:=cG hs
 cases v0 <;> first | exact ax e | skip
 rename_i k2
 obtain ⟨zs,hk,e⟩:=ja (o:=getL σ k2) (f:=fun zs=>if ys.length + zs.length ≤ 16777216 ∧ k2 ≠ l then RE.ok .none (dq σ l (ys ++ zs)) else .bad) e
 obtain ⟨hz,e⟩:=eE e
 obtain ⟨rfl,rfl⟩:=bw e
 cases L with
 | mk ad items k hd ho hr hz' hsz =>
  cases hG T.R r1 hk with
  | mk ad2 items2 k2' hd2 ho2 hr2 hz2 hsz2 =>
   refine call_meets F.slot_list_extend ⟨_,ho,rfl⟩ F.entry_list_extend (F.args_list_extend_2 _ _) (AutoSeq1.list_extend_list_list_0 ad items k ad2 items2 k2' ?_ (by show _ ≤ 2 ^ 24; lia) (by show _ ≤ 2 ^ 24 + 1; lia)) ⟨ho,ho2,?_⟩
   ·simp [Builtin.List.listTooLong,sizeLine]; lia
   ·refine hQ.upd (tk:=s.toks) T hd (eO _ _ _) (eH ho _) (fun K=>?_) (by rw [List.length_append]; exact hz.1) (fun K=>by rw [RepV])
    rw [Array.toList_append]
    exact ah.f2.mpr ((ah.f2.mp (ah.keep K _ _ hr)).append (ah.f2.mp (ah.keep K _ _ hr2)))
set_option tactic.hygienic true in
theorem xi (T:At g env as fr σ s) (L:vy as s.heap l ys x) (hs:ah as s.heap vs xs) (e:dW .index l ys vs σ=.ok v σ') (hQ:aK g env as fr s v σ' Q):wpAny (model g.prog g.w) A (call (.builtin "list.index") (x :: xs)) Q X s:=by
 rcases vs with _ | ⟨v0,_ | ⟨v1,vs⟩⟩ <;> first | exact ax e | skip
 obtain ⟨y,rfl,r1⟩:=cG hs
 cases v0 <;> first | exact ax e | skip
 rename_i i
 have e:(match aA ys with | some is=>if tU i is then RE.ok (.int (is.idxOf i)) σ else .bad | none=>.bad)=.ok v σ':=e
 cases hi:aA ys with
 | none=>rw [hi] at e; exact ax e
 | some is =>
  rw [hi] at e
  obtain ⟨hz,e⟩:=eE e
  obtain ⟨rfl,rfl⟩:=bw e
  obtain ⟨t,rfl⟩:=cg r1
  cases L with
  | mk ad items k hd ho hr hz' hsz=>exact index_list_ints (vs:=items.toList) (by simpa using ho.isList) (bo hi hr) (tr hz.2.1 hz.2.2) hz.1 (hQ.int T)
theorem xY {m:MN} (hm:mOk m=true) (T:At g env as fr σ s) (L:vy as s.heap l ys x) (hs:ah as s.heap vs xs) (e:dW m l ys vs σ=.ok v σ') (hQ:aK g env as fr s v σ' Q):wpAny (model g.prog g.w) A (call (.builtin (qz m)) (x :: xs)) Q X s:=by
 cases m with
 | append=>exact tN T L hs e hQ
 | pop=>exact A6 T L hs e hQ
 | clear=>exact wz T L hs e hQ
 | extend=>exact tP T L hs e hQ
 | index=>exact xi T L hs e hQ
theorem rd {x:Str}{m:MN} (h:dO.lookup x=some m):Slot "list" x (qz m) ∧ typeOf (.builtin (qz m))=pure (.type "method_descriptor"):=by
 have:=ay.keep.lookup_mem h
 rcases List.mem_cons.mp this with q | q
 ·cases q; exact ⟨slot_list_append,rfl⟩
 rcases List.mem_cons.mp q with q | q
 ·cases q; exact ⟨F.slot_list_pop,rfl⟩
 rcases List.mem_cons.mp q with q | q
 ·cases q; exact ⟨F.slot_list_index,rfl⟩
 rcases List.mem_cons.mp q with q | q
 ·cases q; exact ⟨F.slot_list_clear,rfl⟩
 ·cases List.mem_singleton.mp q; exact ⟨F.slot_list_extend,rfl⟩
end
set_option tactic.hygienic true in
theorem jq {u v:V}{f:Nat→List V→RE} (e:zG u σ f=.ok v σ'):∃ l xs,u=.ref l ∧ getL σ l=some xs ∧ f l xs=.ok v σ':=by
 cases u <;> first | exact ax e | skip
 rename_i l
 obtain ⟨xs,h1,h2⟩:=ja (o:=getL σ l) (f:=f l) e
 exact ⟨l,xs,rfl,h1,h2⟩
set_option tactic.hygienic true in
theorem qJ {u v:V}{r:RE} (e:tX u σ r=.ok v σ'):∃ l d ents,u=.ref l ∧ σ[l]?=some (.inst d) ∧ σ[d]?=some (.att ents) ∧ r=.ok v σ':=by
 cases u <;> first | exact ax e | skip
 rename_i l
 have e:(match σ[l]? with | some o=>(match o with | .inst d=>(match σ[d]? with | some o=>(match o with | .att _=>r | _=>.bad) | none=>.bad) | _=>.bad) | none=>.bad)=.ok v σ':=e
 cases h1:σ[l]? with
 | none=>rw [h1] at e; exact ax e
 | some o =>
  rw [h1] at e
  cases o <;> first | exact ax e | skip
  rename_i d
  have e:(match σ[d]? with | some o=>(match o with | .att _=>r | _=>.bad) | none=>.bad)=.ok v σ':=e
  cases h2:σ[d]? with
  | none=>rw [h2] at e; exact ax e
  | some o =>
   rw [h2] at e
   cases o <;> first | exact ax e | skip
   exact ⟨l,d,_,rfl,h1,h2,e⟩
end
end Mine
namespace Mine
open PySem PyProof.Rows PySem.W
noncomputable def sQ (g:Cfg) (env:Env) (as:List Addr) (fr:Fra) (s:Shared) (σ':Sto) (Q:Unit→Shared→Prop):Prop :=
 ∀ (as':List Addr) (h':Heap) (tk:Nat),aC [env.locals] as s.heap as' h'→Rel g as' σ' h'→ay g env as' fr h'→Q () { s with heap:=h',toks:=tk }
section
variable {g:Cfg}{as:List Addr}{h h':Heap}
theorem uB {k:Int}{v:V}{y:Value}:∀ {es:List (Int × V)}{kvs:List (Int × Value)},F2 (fun (e:Int × V) (x:Int × Value)=>e.1=x.1 ∧ RepV as h e.2 x.2) es kvs→(kvs.map (·.1)).Nodup→RepV as h v y →
  F2 (fun (e:Int × V) (x:Int × Value)=>e.1=x.1 ∧ RepV as h e.2 x.2) (nC k v es) (stored kvs k y):=by
 intro es kvs f
 induction f with
 | nil=>intro _ r; simp only [putI_n,stored,List.any_nil,Bool.false_eq_true,if_false,List.nil_append]; exact .cons ⟨rfl,r⟩ .nil
 | @cons a b as' bs x f' ih =>
  intro nd r
  obtain ⟨k1,v1⟩:=a
  obtain ⟨k2,y1⟩:=b
  have h1:k1=k2:=x.1
  subst h1
  simp only [List.map_cons,List.nodup_cons] at nd
  by_cases hk:k1=k
  ·subst hk
   have e1:nC k1 v ((k1,v1) :: as')=(k1,v) :: as':=by simp [putI_n,mD]
   have e2:stored ((k1,y1) :: bs) k1 y=(k1,y) :: bs:=by
    unfold stored
    rw [if_pos (by simp)]
    rw [List.map_cons,if_pos rfl]
    congr 1
    refine (List.map_congr_left fun p hp=>?_).trans (List.map_id _)
    rw [if_neg (fun (q:p.1=k1)=>nd.1 (q ▸ List.mem_map.mpr ⟨p,hp,rfl⟩))]; rfl
   rw [e1,e2]
   exact .cons ⟨rfl,r⟩ f'
  ·have e1:nC k v ((k1,v1) :: as')=(k1,v1) :: nC k v as':=by simp [mD,hk]
   have e2:stored ((k1,y1) :: bs) k y=(k1,y1) :: stored bs k y:=by
    unfold stored
    by_cases ha:bs.any (fun kv=>decide (kv.1=k))=true
    ·rw [if_pos (by rw [List.any_cons,ha]; simp),if_pos ha,List.map_cons,if_neg hk]
    ·rw [if_neg (by rw [List.any_cons]; simp only [hk,decide_false,Bool.false_or]; exact ha),if_neg ha]; rfl
   rw [e1,e2]
   exact .cons x (ih nd.2 r)
theorem me {k:List Int}{y:Value}{ka:Addr}{xs:List (List Int × Addr × Value)} (h:∀ x ∈ xs,x.2.1 ∉ as) (hk:ka ∉ as):∀ x ∈ storedH xs k ka y,x.2.1 ∉ as:=fun x hx=>by
 unfold storedH at hx
 split at hx
 ·obtain ⟨z,hz,rfl⟩:=List.mem_map.mp hx
  unfold putAt; split <;> exact h z hz
 ·exact (List.mem_append.mp hx).elim (h x) fun q=>List.mem_singleton.mp q ▸ hk
theorem tY {k:List Int}{v:V}{y:Value}{ka:Addr}:∀ {es:List (List Int × V)}{xs:List (List Int × Addr × Value)},F2 (fun (e:List Int × V) (x:List Int × Addr × Value)=>e.1=x.1 ∧ RepV as h e.2 x.2.2) es xs→(xs.map (·.1)).Nodup→RepV as h v y →
  F2 (fun (e:List Int × V) (x:List Int × Addr × Value)=>e.1=x.1 ∧ RepV as h e.2 x.2.2) (lM k v es) (storedH xs k ka y):=by
 intro es xs f
 induction f with
 | nil=>intro _ r; simp only [putT_n,storedH,atKey,List.find?_nil,Option.map_none,Option.isSome_none,Bool.false_eq_true,if_false,List.nil_append]; exact .cons ⟨rfl,r⟩ .nil
 | @cons a b as' bs x f' ih =>
  intro nd r
  obtain ⟨k1,v1⟩:=a
  obtain ⟨k2,y1⟩:=b
  have h1:k1=k2:=x.1
  subst h1
  simp only [List.map_cons,List.nodup_cons] at nd
  by_cases hk:k1=k
  ·subst hk
   have e1:lM k1 v ((k1,v1) :: as')=(k1,v) :: as':=by simp [putT_n,mz]
   have e2:storedH ((k1,y1) :: bs) k1 ka y=(k1,y1.1,y) :: bs:=by
    unfold storedH
    rw [if_pos (by simp [atKey])]
    rw [List.map_cons]
    have e3:putAt k1 y (k1,y1)=(k1,y1.1,y):=by simp [putAt]
    rw [e3]
    congr 1
    exact map_putAt_of_not_mem bs k1 y nd.1
   rw [e1,e2]
   exact .cons ⟨rfl,r⟩ f'
  ·have e1:lM k v ((k1,v1) :: as')=(k1,v1) :: lM k v as':=by
    have:(k1 == k)=false:=beq_eq_false_iff_ne.mpr hk
    simp [mz,this]
   have e0:atKey ((k1,y1) :: bs) k=atKey bs k:=by
    unfold atKey
    rw [List.find?_cons]
    simp [hk]
   have e2:storedH ((k1,y1) :: bs) k ka y=(k1,y1) :: storedH bs k ka y:=by
    unfold storedH
    rw [e0]
    by_cases ha:(atKey bs k).isSome=true
    ·rw [if_pos ha,if_pos ha,List.map_cons]
     have:putAt k y (k1,y1)=(k1,y1):=by simp [putAt,hk]
     rw [this]
    ·rw [if_neg ha,if_neg ha]; rfl
   rw [e1,e2]
   exact .cons x (ih nd.2 r)
end
theorem mS {k:Int}{v:V}:∀ {es:List (Int × V)},(nC k v es).length ≤ es.length + 1
 | []=>by simp [putI_n,mD]
 | e :: r=>by
  rw [mD]; split
  ·simp
  ·have:=mS (k:=k) (v:=v) (es:=r); simp; lia
theorem nz {k:List Int}{v:V}:∀ {es:List (List Int × V)},(lM k v es).length ≤ es.length + 1
 | []=>by simp [putT_n,mz]
 | e :: r=>by
  rw [mz]; split
  ·simp
  ·have:=nz (k:=k) (v:=v) (es:=r); simp; lia
section
variable {g:Cfg}{K:Frag}{env:Env}{A:Around}{X:Value→Shared→Prop}{s:Shared}{as:List Addr}{fr:Fra} {σ σ':Sto}
theorem sQ.use {Q:Unit→Shared→Prop} (hQ:sQ g env as fr s σ' Q) (T:At g env as fr σ s) {as':List Addr}{h':Heap}{tk:Nat} (x:aC [] as s.heap as' h') (R':Rel g as' σ' h'):Q () { s with heap:=h',toks:=tk } :=
 hQ as' h' tk (x.grow (by simp)) R' (T.frame x)
inductive zB (σ:Sto) (v:V):V→V→Sto→Prop
 | lst {l:Nat}{ys:List V}{k:Int} (hl:σ[l]?=some (.lst ys)) (hz:0 ≤ k ∧ k < ys.length):zB σ v (.ref l) (.int k) (dq σ l (ys.set k.toNat v))
 | dI {l:Nat}{es:List (Int × V)}{k:Int} (hl:σ[l]?=some (.dI es)) (hz:es.length < 1000000):zB σ v (.ref l) (.int k) (σ.set l (.dI (nC k v es)))
 | dT {l:Nat}{ks:List V}{k:List Int}{es:List (List Int × V)} (hl:σ[l]?=some (.dT es)) (he:aA ks=some k) (hz:es.length < 1000000):zB σ v (.ref l) (.tup ks) (σ.set l (.dT (lM k v es)))
theorem lB {α:Type}{p:Prop} [Decidable p] {a b:α} (e:(if p then some a else none)=some b):p ∧ a=b:=by
 by_cases h:p
 ·rw [if_pos h] at e; exact ⟨h,Option.some.inj e⟩
 ·rw [if_neg h] at e; exact nn e
set_option tactic.hygienic true in
theorem ot {a i v:V} (e:dw a i v σ=some σ'):zB σ v a i σ':=by
 cases a <;> first | exact nn e | skip
 rename_i l
 have e:Br σ[l]? l i v σ=some σ':=e
 cases hl:σ[l]? with
 | none=>rw [hl] at e; exact nn e
 | some o =>
  rw [hl] at e
  cases o <;> first | exact nn e | skip
  ·cases i <;> first | exact nn e | skip
   obtain ⟨hz,rfl⟩:=lB e
   exact .lst hl hz
  ·cases i <;> first | exact nn e | skip
   obtain ⟨hz,rfl⟩:=lB e
   exact .dI hl hz
  ·cases i <;> first | exact nn e | skip
   refine bq e fun k e1 e2=>?_
   obtain ⟨hz,rfl⟩:=lB e2
   exact .dT hl e1 hz
theorem qc {a i v:V}{x y z:Value}{n:Nat}{Q:Unit→Shared→Prop} (T:At g env as fr σ s) (hA:cb g A n) (ha:RepV as s.heap a x) (hi:RepV as s.heap i y) (hv:RepV as s.heap v z)
  (e:dw a i v σ=some σ') (hQ:sQ g env as fr s σ' Q):wpAny (model g.prog g.w) A (setItem x y z) Q X s:=by
 cases ot e with
 | @lst l ys k hl hz =>
  refine aw T.R ha (ij hl) fun ad items m qx hd ho hr hz' hsz=>?_; subst qx
  rw [RepV] at hi; obtain ⟨t,rfl⟩:=hi
  refine ki_setAt ho hz.1 (by lia) (by lia) ?_
  obtain ⟨K,R',xx⟩:=T.R.upd (o:=.lst (ys.set k.toNat v)) (h':=s.heap.update ad (Obj.mapSeq (·.setIfInBounds k.toNat z))) hd (eO _ _ _) fun K=>⟨_,eH ho _,by
   rw [Array.toList_setIfInBounds]
   exact ah.f2.mpr ((ah.f2.mp (ah.keep K _ _ hr)).set (RepV.keep K _ _ hv)),by simpa using hz'⟩
  exact hQ.use (tk:=s.toks) T xx R'
 | @dI l es k hl hz =>
  rw [RepV] at ha; rw [RepV] at hi
  obtain ⟨t,rfl⟩:=hi
  obtain ⟨d,rfl,hd⟩:=ha
  obtain ⟨kvs,hk,hf,hle⟩:=T.R.obj _ _ _ hd hl
  have hnd:(kvs.map (·.1)).Nodup:=by obtain ⟨_,_,_,_,_,_,_,_,q⟩:=hk; exact q
  refine wpAny_setItem_pairs (intKind_is _ _ k t) hk (fun h' hd' hsb=>?_) ?_
  ·obtain ⟨K,R',xx⟩:=T.R.upd (o:=.dI (nC k v es)) (h':=h') hd (fun b o hb e=>hsb.extBut b o hb e) fun K=>⟨_,hd',uB (hf.mono fun _ _ q=>⟨q.1,RepV.keep K _ _ q.2⟩) hnd (RepV.keep K _ _ hv),Nat.le_trans mS (by lia),hle.2⟩
   exact hQ.use T xx R'
  ·have:=hf.length; show _ ≤ 2 ^ 24; lia
 | @dT l ks k es hl he hz =>
  obtain ⟨ta,rfl,hk,hta⟩:=gW (g:=g) hi he
  rw [RepV] at ha; obtain ⟨d,rfl,hd⟩:=ha
  obtain ⟨xs,hx,hf,hle⟩:=T.R.obj _ _ _ hd hl
  have hnd:(xs.map (·.1)).Nodup:=by obtain ⟨_,_,_,_,_,_,_,_,q⟩:=hx; exact q
  refine wpAny_setItem_heap (knd:=tupleKind (intKind g.prog g.w)) (tupleKind_room_in1 (by have:=hA.units; show _ < 9900; lia)) hk hx (fun h' hd' hsb=>?_) ?_
  ·obtain ⟨K,R',xx⟩:=T.R.upd (o:=.dT (lM k v es)) (h':=h') hd (fun b o hb e=>hsb.extBut b o hb e) fun K=>⟨_,hd',tY (hf.mono fun _ _ q=>⟨q.1,RepV.keep K _ _ q.2⟩) hnd (RepV.keep K _ _ hv),⟨Nat.le_trans nz (by lia),me hle.1.2 hta⟩,hle.2⟩
   exact hQ.use T xx R'
  ·have:=hf.length; show _ ≤ 2 ^ 24; lia
end
end Mine
namespace Mine
open PySem PyProof.Rows PySem.W
section
variable {g:Cfg}{K:Frag}{c0:CE}{fa:Nat→Option Addr}{call:Nat→List V→Sto→RE}{env:Env}{A:Around}{X:Value→Shared→Prop}{s:Shared}{as:List Addr}{fr:Fra} {σ σ':Sto}{Q:Value→Shared→Prop}
theorem xG {h:Heap}{v:V}{x:Value} (r:RepV as h v x):handedIn x=true:=by
 cases v with
 | none=>rw [RepV] at r; subst r; rfl
 | bool b=>rw [RepV] at r; subst r; rfl
 | int i=>rw [RepV] at r; obtain ⟨t,rfl⟩:=r; rfl
 | str i=>rw [RepV] at r; obtain ⟨t,rfl⟩:=r; rfl
 | tup i=>rw [RepV] at r; obtain ⟨t,_,_,rfl,_⟩:=r; rfl
 | ref i=>rw [RepV] at r; obtain ⟨t,rfl,_⟩:=r; rfl
 | rng i j=>rw [RepV] at r; obtain ⟨t,_,_,_,rfl,_⟩:=r; rfl
 | exc c=>rw [RepV] at r; obtain ⟨t,_,_,rfl,_⟩:=r; rfl
noncomputable def bu (g:Cfg):Prop:=∀ k k' x,g.at'.lookup k=some x→g.at'.lookup k'=some x→k=k'
theorem nI {h:Heap}{es:List (Nat × V)}{ents:List DictEntry} (f:F2 (lv g as h) es ents):ents.any (·.refKey)=false:=by
 induction f with
 | nil=>rfl
 | cons x _ ih =>
  obtain ⟨nm,t,_,e,_⟩:=x
  rw [List.any_cons,ih,Bool.or_false]
  unfold DictEntry.refKey
  rw [e]
theorem nh {h:Heap}{k:Nat}{x:Str} (I:bu g) (hx:g.at'.lookup k=some x):∀ {es:List (Nat × V)}{ents:List DictEntry},F2 (lv g as h) es ents →
  (∀ v,es.lookup k=some v→∃ y,W.getL x ents=some (some y) ∧ RepV as h v y) ∧ (W.getL x ents).isSome=true:=by
 intro es ents f
 have hs:=nI f
 refine ⟨?_,?_⟩
 ·intro v hv
  have key:∃ d,ents.find? (·.key.isStr x)=some d ∧ RepV as h v d.val:=by
   clear hs
   induction f with
   | nil=>cases hv
   | @cons a b as' bs r f' ih =>
    obtain ⟨k1,v1⟩:=a
    obtain ⟨nm,t,e1,e2,e3⟩:=r
    rw [List.lookup_cons] at hv
    rw [List.find?_cons]
    by_cases hk:k=k1
    ·subst hk
     simp at hv; subst hv
     have:nm=x:=by rw [hx] at e1; exact (Option.some.inj e1).symm
     subst this
     have:b.key.isStr nm=true:=by rw [e2]; simp [Value.isStr]
     rw [this]; exact ⟨b,rfl,e3⟩
    ·have hb:(k == k1)=false:=beq_eq_false_iff_ne.mpr hk
     rw [hb] at hv
     have:b.key.isStr x=false:=by
      rw [e2]
      simp only [Value.isStr,beq_eq_false_iff_ne]
      intro q; subst q; exact hk (I k k1 nm hx e1)
     rw [this]; exact ih hv
  obtain ⟨d,h1,h2⟩:=key
  exact ⟨d.val,by unfold W.getL; rw [h1],h2⟩
 ·unfold W.getL
  split
  ·rfl
  ·rw [hs]; rfl
theorem kq {h:Heap}{x:Str} (hx:∀ k,g.at'.lookup k ≠ some x):∀ {es:List (Nat × V)}{ents:List DictEntry},F2 (lv g as h) es ents→W.getL x ents=some none:=by
 intro es ents f
 have hs:=nI f
 have key:ents.find? (·.key.isStr x)=none:=by
  clear hs
  induction f with
  | nil=>rfl
  | @cons a b as' bs r f' ih =>
   obtain ⟨nm,t,e1,e2,e3⟩:=r
   rw [List.find?_cons]
   have:b.key.isStr x=false:=by
    rw [e2]
    simp only [Value.isStr,beq_eq_false_iff_ne]
    intro q; subst q; exact hx _ e1
   rw [this]; exact ih
 unfold W.getL
 rw [key]
 simp only [hs]; rfl
theorem sA {l d:Nat}{x:Value} (R:Rel g as σ s.heap) (r:RepV as s.heap (.ref l) x) (e:σ[l]?=some (.inst d)) :
  ∃ a dx,x=.ref a ∧ as[l]?=some a ∧ as[d]?=some dx ∧ s.heap.get? a=some (instObj g.C dx):=by
 rw [RepV] at r
 obtain ⟨a,rfl,ha⟩:=r
 obtain ⟨dx,h1,h2⟩:=R.obj l a _ ha e
 exact ⟨a,dx,rfl,ha,h1,h2⟩
theorem cV {l d:Nat}{x:Value}{G:Prop} (R:Rel g as σ s.heap) (r:RepV as s.heap (.ref l) x) (e:σ[l]?=some (.inst d)) (k:∀ a dx,x=.ref a→as[l]?=some a→as[d]?=some dx→s.heap.get? a=some (instObj g.C dx)→G):G:=let ⟨a,dx,h1,h2,h3,h4⟩:=sA R r e; k a dx h1 h2 h3 h4
theorem jC {d:Nat}{dx:Addr}{es:List (Nat × V)} (R:Rel g as σ s.heap) (hd:as[d]?=some dx) (e:σ[d]?=some (.att es)) :
  ∃ ents n,s.heap.get? dx=some (W.dictOf ents n) ∧ F2 (lv g as s.heap) es ents ∧ es.length ≤ 100:=R.obj d dx _ hd e
set_option tactic.hygienic true in
theorem yG {a v:V}{k:Nat}{x:Value}{nm:Str}{ex:Bool} (G:bC g K c0 fa) (I:bu g) (T:At g env as fr σ s) (ha:RepV as s.heap a x) (hk:c0.attrs.lookup nm=some k) (e:jr a k σ=some v) (hQ:aK g env as fr s v σ Q) :
  wpAny (model g.prog g.w) A (getAttr x nm ex) Q X s:=by
 unfold jr at e
 split at e
 case h_2=>cases e
 rename_i l
 split at e
 case h_2=>cases e
 rename_i d hl
 split at e
 case h_2=>cases e
 rename_i es hd
 refine cV T.R ha hl fun ad dx qx2 h1 h2 h3=>?_; subst qx2
 obtain ⟨ents,n,h4,h5,_⟩:=jC T.R h2 hd
 obtain ⟨q1,q2,at',q3,q4,_⟩:=G.att nm k hk
 obtain ⟨y,h6,h7⟩:=(nh I q1 h5).1 v e
 obtain ⟨m,hF,_⟩:=T.F.fr T.R
 exact get_own (X₀:=G.kin) hF (K:=K) (C:=g.C) (ox:=instObj g.C dx) ⟨h3,rfl,rfl,h4⟩ q2 (G.hasD nm k hk) q3 q4 h6 (xG h7) (hQ.same T h7)
theorem vK {d:Addr}{o o':Obj}:∀ {l:List (Addr × Obj)},(d,o) ∈ l→(l.map (·.1)).Nodup→Upd d o o' l (l.map fun p=>if p.1=d then (d,o') else p):=by
 intro l
 induction l with
 | nil=>intro h _; cases h
 | cons p r ih =>
  intro hm nd
  simp only [List.map_cons,List.nodup_cons] at nd
  by_cases hp:p.1=d
  ·have hpo:p=(d,o):=by
    rcases List.mem_cons.mp hm with q | q
    ·exact q.symm
    ·exact absurd (List.mem_map.mpr ⟨_,q,rfl⟩) (by have:=nd.1; rw [hp] at this; exact this)
   subst hpo
   have hr:∀ q ∈ r,q.1 ≠ d:=fun q hq e=>nd.1 (List.mem_map.mpr ⟨q,hq,e⟩)
   have:r.map (fun p=>if p.1=d then (d,o') else p)=r:=by
    refine (List.map_congr_left fun q hq=>?_).trans (List.map_id _)
    rw [if_neg (hr q hq)]; rfl
   rw [List.map_cons,this,if_pos rfl]
   exact .head hr
  ·rw [List.map_cons,if_neg hp]
   refine .tail hp (ih ?_ nd.2)
   rcases List.mem_cons.mp hm with q | q
   ·exact absurd (by rw [← q]) hp
   ·exact q
set_option tactic.hygienic true in
theorem kT (b:Heap) (L:Addr) (h:Heap):((newsOf b L h).map (·.1)).Nodup:=by
 unfold newsOf
 generalize hl:List.range h.objs.size=l
 have nd:l.Nodup:=by rw [← hl]; exact List.nodup_range
 clear hl
 induction l with
 | nil=>simp
 | cons a r ih =>
  rw [List.nodup_cons] at nd
  rw [List.filterMap_cons]
  split
  ·exact ih nd.2
  ·rename_i p hp
   rw [List.map_cons,List.nodup_cons]
   refine ⟨fun q=>?_,ih nd.2⟩
   obtain ⟨p',hp',e⟩:=List.mem_map.mp q
   obtain ⟨a',ha',e'⟩:=List.mem_filterMap.mp hp'
   have k1:p.1=a:=by
    split at hp
    ·obtain ⟨o,_,e2⟩:=Option.map_eq_some_iff.mp hp; rw [← e2]
    ·cases hp
   have k2:p'.1=a':=by
    split at e'
    ·obtain ⟨o,_,e2⟩:=Option.map_eq_some_iff.mp e'; rw [← e2]
    ·cases e'
   exact nd.1 (by rw [← k1,← e,k2]; exact ha')
theorem wU {h:Heap}{k:Nat}{x:Str}{v:V}{y:Value}{hs:Int}{t:Tok} (I:bu g) (hx:g.at'.lookup k=some x) (r:RepV as h v y):∀ {es:List (Nat × V)}{ents:List DictEntry},F2 (lv g as h) es ents →
  F2 (lv g as h) (tx k v es) (W.putL x hs (.str x t) y ents):=by
 intro es ents f
 induction f with
 | nil=>exact .cons ⟨x,t,hx,rfl,r⟩ .nil
 | @cons a b as' bs q f' ih =>
  obtain ⟨k1,v1⟩:=a
  obtain ⟨nm,u,e1,e2,e3⟩:=q
  rw [W.putL,u7]
  by_cases hk:k1=k
  ·subst hk
   have:nm=x:=by rw [hx] at e1; exact (Option.some.inj e1).symm
   subst this
   have h1:b.key.isStr nm=true:=by rw [e2]; simp [Value.isStr]
   rw [if_pos h1,if_pos (by simp)]
   exact .cons ⟨nm,u,hx,e2,r⟩ f'
  ·have h1:¬ b.key.isStr x=true:=by
    rw [e2]
    simp only [Value.isStr,beq_iff_eq]
    intro q; subst q; exact hk (I k1 k nm e1 hx)
   rw [if_neg h1,if_neg (by simpa using hk)]
   exact .cons ⟨nm,u,e1,e2,e3⟩ ih
theorem jQ {k:Nat}{v:V}:∀ {es:List (Nat × V)},(tx k v es).length ≤ es.length + 1
 | []=>by simp [yC]
 | e :: r=>by
  rw [u7]; split
  ·simp
  ·have:=jQ (k:=k) (v:=v) (es:=r); simp; lia
theorem At.updN {h':Heap}{m:Str→Option Value}{l:Nat}{a:Addr}{o:AO}{ob ob':Obj} (T:At g env as fr σ s) (hm:s.heap.Ns env.locals m) (hl:as[l]?=some a) (ho:s.heap.get? a=some ob)
  (F':Fr g.b env.locals h' m) (N':News g.b env.locals h' ((newsOf g.b env.locals s.heap).map fun p=>if p.1=a then (a,ob') else p))
  (hr:bR as s.heap as h'→h'.get? a=some ob'→o4 g as h' o a):bR as s.heap as h' ∧ aC [env.locals] as s.heap as h' ∧ Rel g as (σ.set l o) h' ∧ ay g env as fr h':=by
 have haL:a ≠ env.locals:=fun q=>T.F.off (q ▸ List.mem_of_getElem? hl)
 have hab:g.b.get? a=none:=T.R.new a (List.mem_of_getElem? hl)
 have hin:(a,ob) ∈ newsOf g.b env.locals s.heap:=cx.mpr ⟨ho,haL,hab⟩
 have ha':h'.get? a=some ob':=(N' (a,ob') (List.mem_map.mpr ⟨(a,ob),hin,by simp⟩)).1
 have ext:∀ (b:Addr) (o:Obj),b ≠ env.locals→b ≠ a→s.heap.get? b=some o→h'.get? b=some o:=fun b o hb hba e=>by
  cases q:g.b.get? b with
  | none=>exact (N' (b,o) (List.mem_map.mpr ⟨(b,o),cx.mpr ⟨e,hb,q⟩,by rw [if_neg hba]⟩)).1
  | some o' =>
   have:=T.R.base b o' q
   rw [e] at this; cases this
   exact F'.keep _ _ q
 have x:aC [env.locals] as s.heap as h':=⟨⟨[],by simp,by simp⟩,fun b o e h1 h2=>ext b o (by simpa using h1) (fun q=>h2 (q ▸ List.mem_of_getElem? hl)) e⟩
 have K:=T.R.keep x T.F.notImm
 refine ⟨K,x,⟨F'.keep,by simp [T.R.len],T.R.nd,T.R.new,fun i b oo h1 h2=>?_,T.R.hnd.keep K⟩,?_⟩
 ·by_cases hi:i=l
  ·subst hi
   rw [hl] at h1; cases h1
   have hlt:i < σ.length:=by have:=(List.getElem?_eq_some_iff.mp hl).1; rw [T.R.len] at this; exact this
   rw [List.getElem?_set_self hlt] at h2; cases h2
   exact hr K ha'
  ·rw [List.getElem?_set_ne (Ne.symm hi)] at h2
   refine (T.R.obj i b oo h1 h2).keep K fun oc e=>ext b oc (fun q=>T.F.off (q ▸ List.mem_of_getElem? h1)) (fun q=>hi ?_) e
   subst q
   obtain ⟨j1,j2⟩:=List.getElem?_eq_some_iff.mp h1
   obtain ⟨j3,j4⟩:=List.getElem?_eq_some_iff.mp hl
   exact (List.getElem_inj T.R.nd).mp (j2.trans j4.symm)
 ·obtain ⟨m0,hm0,hv⟩:=T.F.ns
  have hmm:∀ x,m0 x=m x:=fun x=>hm0.agree hm x
  have hca:∀ x c,env.cells.lookup x=some c→c ≠ a:=fun x c hc q=>(T.F.offc x c hc).1 (q ▸ List.mem_of_getElem? hl)
  refine ⟨T.F.kind,T.F.above,T.F.glob,T.F.blt,T.F.len,T.F.nd,⟨m,F'.ns,fun i x v h1 h2=>?_⟩,fun i x k h1 h2=>?_,T.F.off,fun x c hc=>⟨(T.F.offc _ _ hc).1,(T.F.offc _ _ hc).2.1,?_⟩,T.F.apart,T.F.newc⟩
  ·obtain ⟨val,e1,e2⟩:=hv i x v h1 h2
   exact ⟨val,by rw [← hmm]; exact e1,RepV.keep K _ _ e2⟩
  ·obtain ⟨c,cv,e1,⟨o,e2,e2'⟩,e3⟩:=T.F.cells i x k h1 h2
   refine ⟨c,cv,e1,⟨o,ext _ _ (T.F.offc _ _ e1).2.1 (hca _ _ e1) e2,e2'⟩,fun v e=>?_⟩
   obtain ⟨val,e4,e5⟩:=e3 v e
   exact ⟨val,e4,RepV.keep K _ _ e5⟩
  ·obtain ⟨cv,o,e,e'⟩:=(T.F.offc _ _ hc).2.2
   exact ⟨cv,o,ext _ _ (T.F.offc _ _ hc).2.1 (hca _ _ hc) e,e'⟩
set_option tactic.hygienic true in
theorem rf {a v:V}{k:Nat}{x z:Value}{nm:Str}{Q:Unit→Shared→Prop} (G:bC g K c0 fa) (I:bu g) (T:At g env as fr σ s) (ha:RepV as s.heap a x) (hv:RepV as s.heap v z) (hk:c0.attrs.lookup nm=some k) (e:dk a k v σ=some σ') (hQ:sQ g env as fr s σ' Q) :
  wpAny (model g.prog g.w) A (setAttr x nm z) Q X s:=by
 unfold dk at e
 split at e
 case h_2=>cases e
 rename_i l
 split at e
 case h_2=>cases e
 rename_i d hl
 split at e
 case h_2=>cases e
 rename_i es hd
 split at e
 case isFalse=>cases e
 rename_i hz
 cases e
 refine cV T.R ha hl fun ad dx qx2 h1 h2 h3=>?_; subst qx2
 obtain ⟨ents,n,h4,h5,_⟩:=jC T.R h2 hd
 obtain ⟨q1,q2,at',q3,q4,q5⟩:=G.att nm k hk
 obtain ⟨m,hF,_⟩:=T.F.fr T.R
 have haL:dx ≠ env.locals:=fun q=>T.F.off (q ▸ List.mem_of_getElem? h2)
 have hin:(dx,W.dictOf ents n) ∈ newsOf g.b env.locals s.heap:=cx.mpr ⟨h4,haL,T.R.new dx (List.mem_of_getElem? h2)⟩
 have f':=fun (h:Heap) (K:bR as s.heap as h)=>wU (hs:=PyData.keyHash g.w.params nm) (t:=s.toks + 1) I q1 (RepV.keep K _ _ hv) (h5.mono fun _ _ ⟨x,t,y1,y2,y3⟩=>⟨x,t,y1,y2,RepV.keep K _ _ y3⟩)
 have hlen:(W.putL nm (PyData.keyHash g.w.params nm) (.str nm (s.toks + 1)) z ents).length ≤ 1000:=by
  have:=(f' s.heap (.same fun _ _ e _ _=>e)).length
  have:=jQ (k:=k) (v:=v) (es:=es)
  lia
 refine set_dict (X₀:=G.kin) hF (eQ _ _ _) (K:=K) (C:=g.C) (ox:=instObj g.C dx) ⟨h3,rfl,rfl,h4⟩ rfl (G.setA nm k hk).1 (G.setA nm k hk).2 q5 (G.hasD nm k hk) (nh I q1 h5).2 rfl (vK hin (kT _ _ _)) hlen fun h' F' N'=>?_
 obtain ⟨K',x',R',FF⟩:=T.updN (o:=.att (tx k v es)) hF.ns h2 h4 F' N' fun K' hob=>⟨_,_,hob,f' h' K',Nat.le_trans jQ (by lia)⟩
 exact hQ as h' _ x' R' FF
end
end Mine
namespace Mine
open PySem PyProof.Rows PySem.W
theorem rm (a:Value):argsOk "max" ⟨[a],[(Str.ofString "default",.none)]⟩:=by unfold argsOk; kernel_rfl
section
variable {prog:Program}{w:World}{A:Around}{R:Result→Shared→Prop}{I:Addr}{fp wr:List Addr}{n:Nat}{P:Nat→Value→Prop}{St:Nat→Heap→Prop}{kw:List (Str × Value)}
theorem rM (W:Walks prog w A.in1 I fp wr n P St) (bt:Nat→Nat→Bool) (hcmp:CmpOf prog w A.in1 .Gt P bt) (S:Addr) (hSf:S ∉ fp) :
  ∀ (k j:Nat) (s:Shared) (vb:Value) (c:Nat),n - (j + 1)=k→j + 1 ≤ n→St (j + 1) s.heap→P (argBest bt j) vb →
  s.heap.get? S=some { cls:=.type "list",dict:=none,data:=.seq #[vb,vb] c,slots:=#[] } →
  (∀ v h' tk,P (argBest bt (n - 1)) v→(∀ b o,b ∉ wr→b ≠ S→s.heap.get? b=some o→h'.get? b=some o)→R (.ok (.ret v)) { s with heap:=h',toks:=tk }) →
  codeAny (model prog w) A (.builtin "max.loop" ⟨[.ref I,.none,.ref S],kw⟩) R s:=by
 have hSw:S ∉ wr:=fun h=>hSf (W.sub _ h)
 have hname:(toString "max" ++ toString ".loop":String)="max.loop":=by decide
 intro k
 induction k with
 | zero =>
  intro j s vb c hk hj hst hPb hS hR
  have hin:j + 1=n:=by lia
  refine codeAny_builtin F.entry_max_loop ?_
  rw [Around.under_plainId F.plain_max_loop _]
  show wpAny _ A.in1 (seqItems? (.ref S) >>= _) _ _ s
  refine wpAny_bind (wpAny_seqItems hS rfl ?_)
  show wpAny _ A.in1 (tryCatch (pyNext (.ref I)) _ >>= _) _ _ s
  refine wpAny_bind (wpAny_tryCatch (W.done s _ _ (hin ▸ hst) fun h' tk hk'=>?_))
  have hS':=hk' S _ hSw hS
  show wpAny _ A.in1 (updateSeq S (fun _=>#[]) >>= _) _ _ _
  refine wpAny_bind ?_
  refine wpAny_updateSeq hS' rfl (wpAny_bind (wpAny_letGo (wpAny_pure ?_)))
  refine hR vb _ tk (by rw [← hin]; exact hPb) fun b o hbw hbS e=>(Heap.get?_update_other _ _ (Ne.symm hbS)).trans (hk' b o hbw e)
 | succ k ih =>
  intro j s vb c hk hj hst hPb hS hR
  have hlt:j + 1 < n:=by lia
  refine codeAny_builtin F.entry_max_loop ?_
  rw [Around.under_plainId F.plain_max_loop _]
  show wpAny _ A.in1 (seqItems? (.ref S) >>= _) _ _ s
  refine wpAny_bind (wpAny_seqItems hS rfl ?_)
  show wpAny _ A.in1 (tryCatch (pyNext (.ref I)) _ >>= _) _ _ s
  refine wpAny_bind (wpAny_tryCatch (W.item (j + 1) s _ _ hlt hst fun v h' tk hP hst' hk'=>?_))
  have hS':=hk' S _ hSw hS
  show wpAny _ A.in1 (tryCatch (holding [v,v] (richCompare .Gt v vb >>= _)) _ >>= _) _ _ _
  refine wpAny_bind (wpAny_tryCatch (wpAny_holding (wpAny_bind (hcmp (j + 1) (argBest bt j) v vb _ _ _ hP hPb ?_))))
  refine wpAny_bind (wpAny_holding (wpAny_truthy_bool ?_))
  refine wpAny_bind (wpAny_letGo (wpAny_pure ?_))
  cases hb:bt (j + 1) (argBest bt j) with
  | true =>
   simp only [if_true]
   refine wpAny_bind ?_
   refine wpAny_updateSeq hS' rfl (wpAny_bind (wpAny_letGo ?_))
   rw [hname]
   refine wpAny_pure ⟨plainId_quiet F.plain_max_loop _,ih (j + 1) _ v _ (by lia) hlt (W.frame _ _ _ hst' fun b hbf o e=>?_) (by simp only [argBest,hb,if_true]; exact hP) (Heap.get?_update_self _ hS' rfl)
    fun v' h'' tk'' hP' hk''=>?_⟩
   ·exact (Heap.get?_update_other _ _ (fun h:S=b=>hSf (by rw [h]; exact hbf))).trans e
   ·exact hR v' h'' tk'' hP' fun b o hbw hbS e=>hk'' b o hbw hbS ((Heap.get?_update_other _ _ (Ne.symm hbS)).trans (hk' b o hbw e))
  | false =>
   simp only [Bool.false_eq_true,if_false]
   refine wpAny_bind (wpAny_letGo ?_)
   rw [hname]
   refine wpAny_pure ⟨plainId_quiet F.plain_max_loop _,ih (j + 1) _ vb c (by lia) hlt hst' (by simp only [argBest,hb,Bool.false_eq_true,if_false]; exact hPb) hS' fun v' h'' tk'' hP' hk''=>?_⟩
   exact hR v' h'' tk'' hP' fun b o hbw hbS e=>hk'' b o hbw hbS (hk' b o hbw e)
theorem ix (W:Walks prog w A.in1 I fp wr n P St) (bt:Nat→Nat→Bool) (hcmp:CmpOf prog w A.in1 .Gt P bt) (S:Addr) (hSf:S ∉ fp) (hn:0 < n) {s:Shared}{c:Nat} (hst:St 0 s.heap)
  (hS:s.heap.get? S=some { cls:=.type "list",dict:=none,data:=.seq #[] c,slots:=#[] })
  (hR:∀ v h' tk,P (argBest bt (n - 1)) v→(∀ b o,b ∉ wr→b ≠ S→s.heap.get? b=some o→h'.get? b=some o)→R (.ok (.ret v)) { s with heap:=h',toks:=tk }) :
  codeAny (model prog w) A (.builtin "max.loop" ⟨[.ref I,.none,.ref S],kw⟩) R s:=by
 have hSw:S ∉ wr:=fun h=>hSf (W.sub _ h)
 have hname:(toString "max" ++ toString ".loop":String)="max.loop":=by decide
 refine codeAny_builtin F.entry_max_loop ?_
 rw [Around.under_plainId F.plain_max_loop _]
 show wpAny _ A.in1 (seqItems? (.ref S) >>= _) _ _ s
 refine wpAny_bind (wpAny_seqItems hS rfl ?_)
 show wpAny _ A.in1 (tryCatch (pyNext (.ref I)) _ >>= _) _ _ s
 refine wpAny_bind (wpAny_tryCatch (W.item 0 s _ _ hn hst fun v h' tk hP hst' hk'=>?_))
 have hS':=hk' S _ hSw hS
 show wpAny _ A.in1 (updateSeq S (fun _=>#[v,v]) >>= _) _ _ _
 refine wpAny_bind ?_
 refine wpAny_updateSeq hS' rfl ?_
 rw [hname]
 refine wpAny_pure ⟨plainId_quiet F.plain_max_loop _,rM W bt hcmp S hSf _ 0 _ v _ rfl hn (W.frame _ _ _ hst' fun b hbf o e=>?_) hP (Heap.get?_update_self _ hS' rfl) fun v' h'' tk'' hP' hk''=>?_⟩
 ·exact (Heap.get?_update_other _ _ (fun h:S=b=>hSf (by rw [h]; exact hbf))).trans e
 ·exact hR v' h'' tk'' hP' fun b o hbw hbS e=>hk'' b o hbw hbS ((Heap.get?_update_other _ _ (Ne.symm hbS)).trans (hk' b o hbw e))
theorem iL (W:Walks prog w A.in1 I fp wr 0 P St) (S:Addr) (hSf:S ∉ fp) {s:Shared}{c:Nat} (hst:St 0 s.heap)
  (hS:s.heap.get? S=some { cls:=.type "list",dict:=none,data:=.seq #[] c,slots:=#[] })
  (hR:∀ h' tk,(∀ b o,b ∉ wr→b ≠ S→s.heap.get? b=some o→h'.get? b=some o)→R (.ok (.ret .none)) { s with heap:=h',toks:=tk }) :
  codeAny (model prog w) A (.builtin "max.loop" ⟨[.ref I,.none,.ref S],[("default",.none)]⟩) R s:=by
 refine codeAny_builtin F.entry_max_loop ?_
 rw [Around.under_plainId F.plain_max_loop _]
 show wpAny _ A.in1 (seqItems? (.ref S) >>= _) _ _ s
 refine wpAny_bind (wpAny_seqItems hS rfl ?_)
 show wpAny _ A.in1 (tryCatch (pyNext (.ref I)) _ >>= _) _ _ s
 refine wpAny_bind (wpAny_tryCatch (W.done s _ _ hst fun h' tk hk'=>?_))
 show wpAny _ A.in1 (rule _ >>= _) _ _ _
 exact wpAny_bind (wpAny_rule (wpAny_pure (hR h' tk fun b o hbw _ e=>hk' b o hbw e)))
end
section
variable {prog:Program}{w:World}{A:Around}{E:Value→Shared→Prop}{s:Shared}
theorem iK {x:Value}{Q:Value→Shared→Prop}
  (h:wpAny (model prog w) A.in1 (pyIter x) (fun it s₂=>∃ I fp wr n P St bt,it=.ref I ∧ Walks prog w A.in1 I fp wr n P St ∧ St 0 s₂.heap ∧ (∀ b ∈ fp,b < s₂.heap.objs.size) ∧ CmpOf prog w A.in1 .Gt P bt ∧
   (∀ v h' tk,0 < n→P (argBest bt (n - 1)) v→(∀ b o,b ∉ wr→s₂.heap.get? b=some o→h'.get? b=some o)→Q v { s₂ with heap:=h',toks:=tk }) ∧
   (∀ h' tk,n=0→(∀ b o,b ∉ wr→s₂.heap.get? b=some o→h'.get? b=some o)→Q .none { s₂ with heap:=h',toks:=tk })) E s) :
  wpAny (model prog w) A (call (.builtin "max") [x] [(Str.ofString "default",.none)]) Q E s:=by
 have hname:(toString "max" ++ toString ".loop":String)="max.loop":=by decide
 refine kmk_tree F.kind_max F.plain_max F.entry_max (rm _) ?_
 show wpAny _ A.in1 (Builtin.Builtins.bindParams "max" ["key","default"] 0 ⟨[],[(Str.ofString "default",.none)]⟩ >>= _) _ _ s
 refine wpAny_bind (wpAny_of_eq (show Builtin.Builtins.bindParams "max" ["key","default"] 0 ⟨[],[(Str.ofString "default",.none)]⟩=pure [none,some .none] from rfl) ?_)
 refine wpAny_bind (wpAny_pure ?_)
 refine wpAny_bind (wpAny_mono h (fun it s₂ h₂=>?_) fun _ _ e=>e)
 obtain ⟨I,fp,wr,n,P,St,bt,rfl,W,hst,hfp,hcmp,hQ,hQ0⟩:=h₂
 refine wpAny_bind (wpAny_newObj_type ?_)
 have hSf:s₂.heap.objs.size ∉ fp:=fun hm=>Nat.lt_irrefl _ (hfp _ hm)
 rw [hname]
 refine wpAny_pure ⟨plainId_quiet F.plain_max_loop _,?_⟩
 rcases Nat.eq_zero_or_pos n with hn | hn
 ·subst hn
  refine iL W s₂.heap.objs.size hSf (W.frame _ _ _ hst fun b _ o e=>Heap.get?_push_of_some _ e) (Heap.get?_push_size _ rfl) fun h' tk hk=>?_
  exact hQ0 h' tk rfl fun b o hbw e=>hk b o hbw (Nat.ne_of_lt (Heap.lt_size e)) (Heap.get?_push_of_some _ e)
 ·refine ix W bt hcmp s₂.heap.objs.size hSf hn (W.frame _ _ _ hst fun b _ o e=>Heap.get?_push_of_some _ e) (Heap.get?_push_size _ rfl) fun v h' tk hP hk=>?_
  exact hQ v h' tk hn hP fun b o hbw e=>hk b o hbw (Nat.ne_of_lt (Heap.lt_size e)) (Heap.get?_push_of_some _ e)
end
section
variable {g:Cfg}{env:Env}{A:Around}{X:Value→Shared→Prop}{s:Shared}{as:List Addr}{fr:Fra} {σ σ':Sto}{Q:Value→Shared→Prop}
theorem yv {l:Nat}{x:Value}{is:List Int}{v:V} (T:At g env as fr σ s) (hA:A.handled=none) (ha:RepV as s.heap (.ref l) x) (e1:(getL σ l).bind aA=some is)
  (e2:v=match gV is with | some i=>V.int i | none=>V.none)
  (hQ:aK g env as fr s v σ Q):wpAny (model g.prog g.w) A (call (.builtin "max") [x] [(Str.ofString "default",.none)]) Q X s:=by
 obtain ⟨vs,e3,e4⟩:=Option.bind_eq_some_iff.mp e1
 refine aw T.R ha e3 fun ad items m qx hd ho hr hz hsz=>?_; subst qx
 have hi:=bo e4 hr
 have hlen:=hi.length
 have hne:ad ≠ s.heap.objs.size:=Nat.ne_of_lt (Heap.lt_size ho)
 refine iK (wpAny_pyIter_list ho.isList ?_)
 refine ⟨s.heap.objs.size,_,_,items.size,_,_,fun i j=>decide (at0 is j < at0 is i),rfl,Walks.list (A:=A.in1) hA s.heap.objs.size ad hne items,⟨⟨_,Heap.get?_push_size _ rfl,rfl,rfl⟩,ho.isList.push _⟩,?_,?_,?_,?_⟩
 ·intro b hb
  rcases List.mem_cons.mp hb with rfl | hb
  ·rw [Heap.size_push]; exact Nat.lt_succ_self _
  ·rw [List.mem_singleton.mp hb,Heap.size_push]; exact Nat.lt_succ_of_lt (Heap.lt_size ho)
 ·intro i j vi vj s' Q' E' hvi hvj hq
  obtain ⟨t,rfl⟩:=co hi i (by simpa using hvi)
  obtain ⟨u,rfl⟩:=co hi j (by simpa using hvj)
  exact PyProof.Rows.gt_int hq
 ·intro v' h' tk hn hv hk
  obtain ⟨t,rfl⟩:=co hi _ (by simpa using hv)
  cases is with
  | nil=>rw [Array.length_toList] at hlen; rw [hlen] at hn; exact absurd hn (Nat.lt_irrefl _)
  | cons y ys =>
   simp at hlen
   have e5:=d8 ys y (items.size - 1) (by lia)
   rw [List.take_of_length_le (by lia)] at e5
   rw [e5]
   have kk:=ir (h:=s.heap) (az _ _) hk (by intro b hb; rw [List.mem_singleton.mp hb]; exact new_none _)
   exact hQ.use T (aC.of_ext kk) (T.R.ext kk) (by rw [e2]; show RepV _ _ (.int _) _; rw [RepV]; exact ⟨_,rfl⟩)
 ·intro h' tk hn hk
  cases is with
  | nil =>
   have kk:=ir (h:=s.heap) (az _ _) hk (by intro b hb; rw [List.mem_singleton.mp hb]; exact new_none _)
   exact hQ.use T (aC.of_ext kk) (T.R.ext kk) (by rw [e2]; show RepV _ _ .none _; rw [RepV])
  | cons y ys=>rw [Array.length_toList,hn] at hlen; cases hlen
end
end Mine
namespace Mine
set_option backward.match.sparseCases false
open PySem PyProof.Rows PySem.W
theorem jU {σ σ':Sto}{o:Option V}{v:V} (e:bS σ o=.ok v σ'):o=some v ∧ σ'=σ:=by
 unfold bS at e; split at e
 ·cases e; exact ⟨rfl,rfl⟩
 ·cases e
theorem qE {σ σ':Sto}{o:Option Bool}{v:V} (e:dY σ o=.ok v σ'):∃ b,o=some b ∧ v=.bool b ∧ σ'=σ:=by
 unfold dY at e; split at e
 ·cases e; exact ⟨_,rfl,rfl,rfl⟩
 ·cases e
theorem eP {σ σ':Sto}{o:Option Bool}{v:V}{G:Prop} (e:dY σ o=.ok v σ') (k:∀ b,o=some b→v=.bool b→σ'=σ→G):G:=let ⟨b,h1,h2,h3⟩:=qE e; k b h1 h2 h3
section
variable {g:Cfg}{K:Frag}{c0:CE}{fa:Nat→Option Addr}{call:Nat→List V→Sto→RE}{env:Env}{A:Around}{X:Value→Shared→Prop}{s:Shared}{as:List Addr}{fr:Fra} {σ σ':Sto}{r n:Nat}
 {names:List (Str × NameKind)}{Q:Value→Shared→Prop}{v:V}
theorem qn {l:Nat}{x:Value}{vs ys:List V}{sl:Addr}{vl vu vst:Value}{lo hi st:Option Int}{ve ie:Expr} (T:At g env as fr σ s) (ha:RepV as s.heap (.ref l) x) (e:getL σ l=some vs)
  (hs:s.heap.IsSliceOf sl vl vu vst) (pl:IsPart vl lo) (pu:IsPart vu hi) (ps:IsPart vst st) (h0:st ≠ some 0)
  (hy:∀ items:Array Value,ah as s.heap vs items.toList→ah as s.heap ys (slicePick items lo hi st).toList)
  (en:cN ys σ=.ok v σ')
  (hsub:∀ o i,∃ ops,subscripted ie false o i=operate ops (getItem o i)) (hQ:aK g env as fr s v σ' Q):wpAny (model g.prog g.w) A (subscriptTail ve ie x (.ref sl)) Q X s:=by
 refine aw T.R ha e fun a items m qx ha' ho hr hz hsz=>?_; subst qx
 refine tail_any (T:="list") ⟨_,ho,rfl⟩ slot_list_getitem.lookup ?_ (hsub _ _).choose_spec
 have hr':=hy items hr
 have hl:(slicePick items lo hi st).size=ys.length:=by have:=(ah.f2.mp hr').length; simpa using this.symm
 refine wpAny_getItem_list_slice ho.isList hs pl pu ps h0 ?_ ?_
 ·exact hQ.newH (tk:=s.toks) T hr' en
 ·rw [hsz]; exact hz
noncomputable def aN (g:Cfg) (c0:CE) (call:Nat→List V→Sto→RE) (r:Nat) (names:List (Str × NameKind)) (e:Expr) (e':E):Prop :=
 ∀ (env:Env) (A:Around) (X:Value→Shared→Prop) (s:Shared) (as:List Addr) (fr:Fra) (σ σ':Sto) (v:V) (Q:Value→Shared→Prop),
  aq (c0.sub names) env A→cb g A (r + 1)→At g env as fr σ s→evE call e' fr σ=.ok v σ'→aK g env as fr s v σ' Q→wpAny (model g.prog g.w) A (eval e env) Q X s
noncomputable def kh (g:Cfg) (c0:CE) (call:Nat→List V→Sto→RE) (r:Nat) (names:List (Str × NameKind)) (e:Expr) (e':E):Prop :=
 ∀ (env:Env) (A:Around) (X:Value→Shared→Prop) (s:Shared) (as:List Addr) (fr:Fra) (σ σ':Sto) (b:Bool) (Q:Bool→Shared→Prop),
  aq (c0.sub names) env A→cb g A (r + 1)→At g env as fr σ s→evE call e' fr σ=.ok (.bool b) σ'→n5 g env as fr s b σ' Q→wpAny (model g.prog g.w) A (isTrue e env (eval e env)) Q X s
theorem xL {k p}:aN g c0 call r names (.Constant .none k p) .none:=fun env A X s as fr σ σ' v Q N hA T ev hQ=>by
 obtain ⟨rfl,rfl⟩:=bw ev
 exact Constant_none (hQ.same' T (by rw [RepV]))
theorem xZ {b k p}:aN g c0 call r names (.Constant (.bool b) k p) (.bool b):=fun env A X s as fr σ σ' v Q N hA T ev hQ=>by
 obtain ⟨rfl,rfl⟩:=bw ev
 exact Constant_bool (hQ.bool' T)
theorem AP {b k p}:aN g c0 call r names (.Constant (.int b) k p) (.int b):=fun env A X s as fr σ σ' v Q N hA T ev hQ=>by
 obtain ⟨rfl,rfl⟩:=bw ev
 exact wpAny_Constant_int (hQ.int T)
theorem AV {b k p}:aN g c0 call r names (.Constant (.str b) k p) (.str b):=fun env A X s as fr σ σ' v Q N hA T ev hQ=>by
 obtain ⟨rfl,rfl⟩:=bw ev
 exact wpAny_Constant_str (hQ.same T (by rw [RepV]; exact ⟨_,rfl⟩))
theorem AN {x:Str}{i p} (hl:(c0.sub names).loc? x=some i) (hd:(x == ("__debug__":Str))=false) (hc:(x == ("__classdict__":Str))=false):aN g c0 call r names (.Name x p) (.loc i):=fun env A X s as fr σ σ' v Q N hA T ev hQ=>by
 have ev:(match fr[i]? with | some (some v)=>RE.ok v σ | _=>.bad)=.ok v σ':=ev
 rcases he:fr[i]? with _ | _ | v' <;> rw [he] at ev
 ·exact ax ev
 ·exact ax ev
 ·obtain ⟨rfl,rfl⟩:=bw ev
  exact Bd T N hl hd hc he hQ
theorem vP {x:Str}{i p} (G:bC g K c0 fa) (hg:(c0.sub names).glob x=true) (hd:(x == ("__debug__":Str))=false) (hk:c0.consts.lookup x=some i):aN g c0 call r names (.Name x p) (.int i):=fun env A X s as fr σ σ' v Q N hA T ev hQ=>by
 obtain ⟨rfl,rfl⟩:=bw ev
 obtain ⟨t,ht⟩:=G.const x i hk
 exact cy T N hg hd ht (hQ.same' T (by rw [RepV]; exact ⟨_,rfl⟩))
theorem AW {l rt op a b p} (IH:bv g c0 call r n) (h1:aj n (c0.sub names) l=some a) (h2:aj n (c0.sub names) rt=some b):aN g c0 call r names (.BinOp l op rt p) (.bin op a b):=fun env A X s as fr σ σ' v Q N hA T ev hQ=>by
 refine aB ev fun u τ e1 e2=>?_
 refine aB e2 fun w τ' e3 e4=>?_
 exact wpAny_BinOp (two IH h1 h2 N hA T e1 e3 fun x y as' h' tk st R' F' r1 r2=>zM (T.step R' F') r1 r2 e4 (aR hQ st R' F'))
theorem A4 {a b k1 p1 k2 p2 p} (ha:0 ≤ a ∧ a ≤ 10 ∧ 0 ≤ b ∧ b ≤ 100):aN g c0 call r names (.BinOp (.Constant (.int a) k1 p1) .Pow (.Constant (.int b) k2 p2) p) (.pow a.toNat b.toNat):=fun env A X s as fr σ σ' v Q N hA T ev hQ=>by
 obtain ⟨rfl,rfl⟩:=bw ev
 have h64:a.natAbs < 2 ^ 64:=by
  have:(2:Nat)^64=18446744073709551616:=by decide +kernel
  lia
 refine wpAny_BinOp (wpAny_Constant_int (wpAny_Constant_int (pow_int_small ha.2.2.1 (by lia) h64 ?_)))
 have:((a.toNat:Nat):Int)=a:=Int.toNat_of_nonneg ha.1
 rw [this] at hQ
 exact hQ.int T
theorem An {x a p} (IH:bv g c0 call r n) (h1:aj n (c0.sub names) x=some a):aN g c0 call r names (.UnaryOp .USub x p) (.neg a):=fun env A X s as fr σ σ' v Q N hA T ev hQ=>by
 refine aB ev fun u τ e1 e2=>?_
 refine UnaryOp_ (IH names x a h1 env A X s as fr σ τ u _ N hA T e1 fun val as' h' tk st R' F' r1=>?_)
 split at e2
 ·cases e2
  rw [RepV] at r1; obtain ⟨t,rfl⟩:=r1
  exact PyProof.Rows.neg_int ((aR (tk:=tk) hQ st R' F').int (T.step R' F'))
 ·cases e2
theorem Bi {x a p} (IH:bv g c0 call r n) (h1:aj n (c0.sub names) x=some a):aN g c0 call r names (.UnaryOp .Not x p) (.not a):=fun env A X s as fr σ σ' v Q N hA T ev hQ=>by
 refine aB ev fun u τ e1 e2=>?_
 refine UnaryOp_ (IH names x a h1 env A X s as fr σ τ u _ N hA T e1 fun val as' h' tk st R' F' r1=>?_)
 split at e2
 ·cases e2
  rw [RepV] at r1; subst r1
  exact not_of (wpAny_truthy_bool ((aR (tk:=tk) hQ st R' F').bool' (T.step R' F')))
 ·cases e2
set_option tactic.hygienic true in
theorem Bm {x a p} (IH:lj g c0 call r n) (h1:aj n (c0.sub names) x=some a):kh g c0 call r names (.UnaryOp .Not x p) (.not a):=fun env A X s as fr σ σ' v Q N hA T ev hQ=>by
 refine aB ev fun u τ e1 e2=>?_
 split at e2
 ·rename_i b
  cases e2
  exact isTrue_not (IH names x a h1 env A X s as fr σ _ b _ N hA T e1 fun as' h' tk st R' F'=>hQ as' h' tk st R' F')
 ·cases e2
theorem tS {op vs es b' p} (IH:bv g c0 call r n) (h1:aQ (aj n (c0.sub names)) vs=some es) (h2:gf op es=some b'):aN g c0 call r names (.BoolOp op vs p) b':=fun env A X s as fr σ σ' v Q N hA T ev hQ =>
 fq IH vs es b' s as σ σ' v Q h1 h2 N hA T ev hQ
theorem tL {op vs es b' p} (IH:lj g c0 call r n) (h1:aQ (aj n (c0.sub names)) vs=some es) (h2:gf op es=some b'):kh g c0 call r names (.BoolOp op vs p) b':=fun env A X s as fr σ σ' v Q N hA T ev hQ =>
 wpAny_isTrue_BoolOp (ez IH vs es b' s as σ σ' v Q h1 h2 N hA T ev hQ)
theorem iA {op:CmpOp}{rt:Expr} (h:dB op rt=true):behindInMarks op rt=false:=by
 unfold dB at h; simpa using h
theorem A8 {l rt op a b p} (G:bC g K c0 fa) (IH:bv g c0 call r n) (hm:dB op rt=true) (h1:aj n (c0.sub names) l=some a) (h2:aj n (c0.sub names) rt=some b):aN g c0 call r names (.Compare l [op] [rt] p) (.cmp op a b):=fun env A X s as fr σ σ' v Q N hA T ev hQ=>by
 refine aB ev fun u τ e1 e2=>?_
 refine aB e2 fun w τ' e3 e4=>?_
 refine eP e4 fun b' e5 qx2 qx3=>?_; subst qx2; subst qx3
 exact wpAny_Compare1 (two IH h1 h2 N hA T e1 e3 fun x y as' h' tk st R' F' r1 r2=>kU G.sys (T.step R' F') hA r1 r2 e5 (aR hQ st R' F')) (iA hm)
theorem AJ {l rt op a b p} (G:bC g K c0 fa) (IH:bv g c0 call r n) (hm:dB op rt=true) (h1:aj n (c0.sub names) l=some a) (h2:aj n (c0.sub names) rt=some b):kh g c0 call r names (.Compare l [op] [rt] p) (.cmp op a b):=fun env A X s as fr σ σ' v Q N hA T ev hQ=>by
 refine aB ev fun u τ e1 e2=>?_
 refine aB e2 fun w τ' e3 e4=>?_
 refine eP e4 fun b' e5 e6 qx3=>?_; subst qx3
 cases e6
 refine wpAny_isTrue_Compare1 (two IH h1 h2 N hA T e1 e3 fun x y as' h' tk st R' F' r1 r2=>?_) (iA hm)
 refine kU G.sys (T.step (tk:=tk) R' F') hA r1 r2 e5 fun val as2 h2 tk2 st2 R2 F2' r3=>?_
 rw [RepV] at r3; subst r3
 exact wpAny_truthy_bool (hQ as2 h2 tk2 (ao st st2 R2 F2') R2 F2')
theorem fQ {o1 o2:CmpOp}{m rt:Expr} (h:dB o2 rt=true):lastMarks [o1,o2] [m,rt]=false:=by
 have:=iA h; simpa [lastMarks] using this
set_option tactic.hygienic true in
theorem yJ {l m rt o1 o2 a b d p} (G:bC g K c0 fa) (IH:bv g c0 call r n) (hm:dB o2 rt=true) (h1:aj n (c0.sub names) l=some a) (h2:aj n (c0.sub names) m=some b) (h3:aj n (c0.sub names) rt=some d) :
  aN g c0 call r names (.Compare l [o1,o2] [m,rt] p) (.cmp2 o1 o2 a b d):=fun env A X s as fr σ σ' v Q N hA T ev hQ=>by
 refine aB ev fun u τ e1 e2=>?_
 refine aB e2 fun w τ' e3 e4=>?_
 refine Compare_chain (wpAny_mono (two (Q:=fun x y s2=>wpAny (model g.prog g.w) A (compareOp o1 x y) (fun c s₂=>wpAny (model g.prog g.w) A (truthy c)
   (fun t s₃=>if t then wpAny (model g.prog g.w) A (compareChain p y [o2] [eval rt env]) Q X s₃ else Q c s₃) X s₂) X s2) IH h1 h2 N hA T e1 e3 fun x y as' h' tk st R' F' r1 r2=>?_) (fun x s1 h=>chain_link h) fun _ _ h=>h) (fQ hm)
 split at e4
 ·rename_i e5
  refine kU G.sys (T.step (tk:=tk) R' F') hA r1 r2 e5 fun val as2 h2' tk2 st2 R2 F2' r3=>?_
  rw [RepV] at r3; subst r3
  refine wpAny_truthy_bool ?_
  refine aB e4 fun z τ2 e6 e7=>?_
  refine eP e7 fun b' e8 qx2 qx3=>?_; subst qx2; subst qx3
  refine chain_last (IH names rt d h3 env A X _ as2 fr τ' _ z _ N hA ⟨F2',R2⟩ e6 fun val as3 h3 tk3 st3 R3 F3 r4=>?_)
  have kp:=At.keep (s:={ s with heap:=h',toks:=tk }) ⟨F',R'⟩ st2
  have kp2:=At.keep (s:={ s with heap:=h2',toks:=tk2 }) ⟨F2',R2⟩ st3
  have st13:=ao st (ao st2 st3 R3 F3) R3 F3
  exact kU G.sys (T.step (tk:=tk3) R3 F3) hA (RepV.keep kp2 _ _ (RepV.keep kp _ _ r2)) r4 e8 (aR (s:=s) (tk:=tk3) hQ st13 R3 F3)
 ·rename_i e5
  cases e4
  refine kU G.sys (T.step (tk:=tk) R' F') hA r1 r2 e5 fun val as2 h2' tk2 st2 R2 F2' r3=>?_
  have r3':=r3
  rw [RepV] at r3; subst r3
  refine wpAny_truthy_bool ?_
  exact hQ _ as2 h2' tk2 (ao st st2 R2 F2') R2 F2' r3'
 ·cases e4
set_option tactic.hygienic true in
theorem xE {l m rt o1 o2 a b d p} (G:bC g K c0 fa) (IH:bv g c0 call r n) (hm:dB o2 rt=true) (h1:aj n (c0.sub names) l=some a) (h2:aj n (c0.sub names) m=some b) (h3:aj n (c0.sub names) rt=some d) :
  kh g c0 call r names (.Compare l [o1,o2] [m,rt] p) (.cmp2 o1 o2 a b d):=fun env A X s as fr σ σ' v Q N hA T ev hQ=>by
 refine aB ev fun u τ e1 e2=>?_
 refine aB e2 fun w τ' e3 e4=>?_
 refine isTrue_chain (wpAny_mono (two (Q:=fun x y s2=>wpAny (model g.prog g.w) A (compareOp o1 x y) (fun c s₂=>wpAny (model g.prog g.w) A (truthy c)
   (fun t s₃=>if t then wpAny (model g.prog g.w) A (testChain p y [o2] [eval rt env]) Q X s₃ else Q false s₃) X s₂) X s2) IH h1 h2 N hA T e1 e3 fun x y as' h' tk st R' F' r1 r2=>?_) (fun x s1 h=>test_link h) fun _ _ h=>h) (fQ hm)
 split at e4
 ·rename_i e5
  refine kU G.sys (T.step (tk:=tk) R' F') hA r1 r2 e5 fun val as2 h2' tk2 st2 R2 F2' r3=>?_
  rw [RepV] at r3; subst r3
  refine wpAny_truthy_bool ?_
  refine aB e4 fun z τ2 e6 e7=>?_
  refine eP e7 fun b' e8 e9 qx3=>?_; subst qx3
  cases e9
  refine test_last (IH names rt d h3 env A X _ as2 fr τ' _ z _ N hA ⟨F2',R2⟩ e6 fun val as3 h3 tk3 st3 R3 F3 r4=>?_)
  have kp:=At.keep (s:={ s with heap:=h',toks:=tk }) ⟨F',R'⟩ st2
  have kp2:=At.keep (s:={ s with heap:=h2',toks:=tk2 }) ⟨F2',R2⟩ st3
  have st13:=ao st (ao st2 st3 R3 F3) R3 F3
  refine kU G.sys (T.step (tk:=tk3) R3 F3) hA (RepV.keep kp2 _ _ (RepV.keep kp _ _ r2)) r4 e8 fun val as4 h4 tk4 st4 R4 F4 r5=>?_
  rw [RepV] at r5; subst r5
  exact wpAny_truthy_bool (hQ as4 h4 tk4 (ao st13 st4 R4 F4) R4 F4)
 ·rename_i e5
  cases e4
  refine kU G.sys (T.step (tk:=tk) R' F') hA r1 r2 e5 fun val as2 h2' tk2 st2 R2 F2' r3=>?_
  rw [RepV] at r3; subst r3
  exact wpAny_truthy_bool (hQ as2 h2' tk2 (ao st st2 R2 F2') R2 F2')
 ·cases e4
theorem pd {i:Expr}{b:E}{c:CE} (h:aj n c i=some b):∀ o x,subscripted i false o x=operate [o,x] (getItem o x):=by
 have hk:=cZ h
 cases i <;> first | (intros; rfl) | exact ft hk
theorem AE {va i a b p} (IH:bv g c0 call r n) (h1:aj n (c0.sub names) va=some a) (h2:aj n (c0.sub names) i=some b):aN g c0 call r names (.Subscript va i p) (.sub a b):=fun env A X s as fr σ σ' v Q N hA T ev hQ=>by
 refine aB ev fun u τ e1 e2=>?_
 refine aB e2 fun w τ' e3 e4=>?_
 obtain ⟨e5,rfl⟩:=jU e4
 exact Subscript_ (two IH h1 h2 N hA T e1 e3 fun x y as' h' tk st R' F' r1 r2=>AI (T.step R' F') hA r1 r2 (pd h2) e5 (aR hQ st R' F'))
end
end Mine
namespace Mine
open PySem PyProof.Rows PySem.W
theorem Rel.pushAt {g:Cfg}{as:List Addr} {σ:Sto}{h h':Heap}{o:AO}{a:Addr} (R:Rel g as σ h) (k:∀ (b:Addr) (o:Obj),b ≠ a→h.get? b=some o→h'.get? b=some o) (ha:a ∉ as) (hb:g.b.get? a=none)
  (hi:∀ ob,h.get? a=some ob→¬ Imm ob) (ho:bR as h (as ++ [a]) h'→o4 g (as ++ [a]) h' o a):bR as h (as ++ [a]) h' ∧ Rel g (as ++ [a]) (σ ++ [o]) h':=by
 have K:bR as h (as ++ [a]) h':=⟨fun j c e=>by rw [List.getElem?_append_left (List.getElem?_eq_some_iff.mp e).1]; exact e,fun b ob e im _=>k b ob (fun q=>by subst q; exact hi ob e im) e,fun b q=>(List.mem_append.mp q).imp id fun q=>(List.mem_singleton.mp q:b=a) ▸ hi⟩
 refine ⟨K,⟨fun b ob e=>k b ob (fun q=>by subst q; rw [hb] at e; cases e) (R.base b ob e),by simp [R.len],?_,fun b hb'=>?_,fun i b ob h1 h2=>?_,R.hnd.keep K⟩⟩
 ·exact List.nodup_append.mpr ⟨R.nd,by simp,fun x hx y hy e=>by simp at hy; subst hy; subst e; exact ha hx⟩
 ·rcases List.mem_append.mp hb' with q | q
  ·exact R.new b q
  ·simp at q; subst q; exact hb
 ·rcases Nat.lt_trichotomy i as.length with hi' | hi' | hi'
  ·rw [List.getElem?_append_left hi'] at h1
   rw [List.getElem?_append_left (R.len ▸ hi')] at h2
   exact (R.obj i b ob h1 h2).keep K fun oc e=>k b oc (fun q=>ha (q ▸ List.mem_of_getElem? h1)) e
  ·subst hi'
   rw [R.len] at h2
   simp at h1 h2; subst h1; subst h2; exact ho K
  ·rw [List.getElem?_eq_none (by simp; lia)] at h1; cases h1
section
variable {g:Cfg}{K:Frag}{c0:CE}{fa:Nat→Option Addr}{call:Nat→List V→Sto→RE}{env:Env}{A:Around}{X:Value→Shared→Prop}{s:Shared}{as:List Addr}{fr:Fra} {σ σ':Sto}{r n:Nat}
 {names:List (Str × NameKind)}{Q:Value→Shared→Prop}{v:V}
theorem ay.there {h:Heap} (F:ay g env as fr h):∃ o,h.get? env.locals=some o:=by
 obtain ⟨m,⟨o,es,ep,e,_⟩,_⟩:=F.ns; exact ⟨o,e⟩
theorem At.notNew (T:At g env as fr σ s):s.heap.objs.size ≠ env.locals ∧ s.heap.objs.size ∉ as ∧ g.b.get? s.heap.objs.size=none:=by
 refine ⟨fun q=>?_,fun q=>?_,?_⟩
 ·obtain ⟨o,e⟩:=T.F.there; have:=Heap.lt_size e; rw [q] at this; exact Nat.lt_irrefl _ this
 ·obtain ⟨o,e,_⟩:=T.R.there q; have:=Heap.lt_size e; exact Nat.lt_irrefl _ this
 ·cases e:g.b.get? s.heap.objs.size with
  | none=>rfl
  | some o=>have:=T.R.base _ _ e; rw [new_none] at this; cases this
theorem At.push (T:At g env as fr σ s) (o:Obj):At g env as fr σ { s with heap:=s.heap.push o } :=
 have x:aC [] as s.heap as (s.heap.push o):=aC.of_ext (az _ _)
 ⟨T.frame x,T.R.ext (az _ _)⟩
theorem bG (as:List Addr) (h:Heap) (o:Obj) (own:List Addr):aC own as h as (h.push o):=aC.of_ext (az _ _)
theorem ay.alter {as':List Addr}{h h':Heap}{d:Addr} (F:ay g env as fr h) (K:bR as h as' h') (hk:∀ (b:Addr) (o:Obj),b ≠ d→h.get? b=some o→h'.get? b=some o) (hL:env.locals ≠ d) (hc:∀ x c,env.cells.lookup x=some c→c ≠ d)
  (has:∀ a ∈ as',a ∈ as ∨ a=d):ay g env as' fr h':=by
 obtain ⟨m,hm,hv⟩:=F.ns
 refine ⟨F.kind,F.above,F.glob,F.blt,F.len,F.nd,⟨m,hm.at' fun o e=>hk _ o hL e,fun i x v h1 h2=>?_⟩,fun i x k h1 h2=>?_,fun q=>?_,fun x c hc'=>⟨fun q=>?_,(F.offc _ _ hc').2.1,?_⟩,F.apart,F.newc⟩
 ·obtain ⟨val,e1,e2⟩:=hv i x v h1 h2
  exact ⟨val,e1,RepV.keep K _ _ e2⟩
 ·obtain ⟨c,cv,e1,⟨o,e2,e2'⟩,e3⟩:=F.cells i x k h1 h2
  refine ⟨c,cv,e1,⟨o,hk _ _ (hc _ _ e1) e2,e2'⟩,fun v e=>?_⟩
  obtain ⟨val,e4,e5⟩:=e3 v e
  exact ⟨val,e4,RepV.keep K _ _ e5⟩
 ·rcases has _ q with q | q
  ·exact F.off q
  ·exact hL q
 ·rcases has _ q with q | q
  ·exact (F.offc _ _ hc').1 q
  ·exact hc _ _ hc' q
 ·obtain ⟨cv,o,e,e'⟩:=(F.offc _ _ hc').2.2
  exact ⟨cv,o,hk _ _ (hc _ _ hc') e,e'⟩
theorem At.cellNew (T:At g env as fr σ s):∀ x c,env.cells.lookup x=some c→c ≠ s.heap.objs.size:=fun x c hc q=>by
 obtain ⟨cv,o,e,_⟩:=(T.F.offc _ _ hc).2.2
 have:=Heap.lt_size e; rw [q] at this; exact Nat.lt_irrefl _ this
theorem ym {va a x k p} (G:bC g K c0 fa) (I:bu g) (IH:bv g c0 call r n) (hb:d0 va=true) (h1:aj n (c0.sub names) va=some a) (hk:c0.attrs.lookup x=some k):aN g c0 call r names (.Attribute va x p) (.attr a k):=fun env A X s as fr σ σ' v Q N hA T ev hQ=>by
 refine aB ev fun u τ e1 e2=>?_
 obtain ⟨e5,rfl⟩:=jU e2
 refine Attribute_any_ (IH names va a h1 env A X s as fr σ _ u _ N hA T e1 fun val as' h' tk st R' F' r1=>yG G I (T.step (tk:=tk) R' F') r1 hk e5 (aR hQ st R' F')) ?_
 have:=jw (x:=x) (env:=env) (act:=eval va env) hb
 show (attributeBase va x env (eval va env) >>= _)=_
 rw [this]
theorem xR {es es' p} (IH:bv g c0 call r n) (h1:aQ (aj n (c0.sub names)) es=some es'):aN g c0 call r names (.List es p) (.list es'):=fun env A X s as fr σ σ' v Q N hA T ev hQ=>by
 refine bJ ev fun u τ e1 e2=>?_
 refine wpAny_List (gm IH es es' s as σ τ u _ h1 N hA T e1 fun xs as' h' tk st R' F' r1=>?_)
 have hl:=(ah.f2.mp r1).length
 refine ⟨by rw [← hl]; exact eM e2,?_⟩
 exact (aR (tk:=tk) hQ st R' F').newH (tk:=tk) (T.step R' F') (xs:=u) (items:=xs.toArray) (by simpa using r1) e2
set_option tactic.hygienic true in
theorem AG {es es' k p} (IH:bv g c0 call r n) (h1:aQ (aj n (c0.sub names)) es=some es'):aN g c0 call r names (.Tuple es k p) (.tup es'):=fun env A X s as fr σ σ' v Q N hA T ev hQ=>by
 refine bJ ev fun u τ e1 e2=>?_
 split at e2
 case isFalse=>cases e2
 rename_i hlen
 cases e2
 refine wpAny_Tuple (gm IH es es' s as σ _ u _ h1 N hA T e1 fun xs as' h' tk st R' F' r1=>?_)
 have hl:=(ah.f2.mp r1).length
 refine ⟨by rw [← hl]; show _ ≤ 2 ^ 24; lia,?_⟩
 have T':=T.step (tk:=tk) R' F'
 have x:aC [] as' h' as' (h'.push { cls:=.type "tuple",data:=.seq xs.toArray }):=aC.of_ext (az _ _)
 refine (aR (tk:=tk) hQ st R' F').use (tk:=tk) T' x (R'.ext (az _ _)) ?_
 rw [RepV]
 exact ⟨_,xs.toArray,0,rfl,Heap.get?_push_size _ rfl,⟨by simp; lia,T'.notNew.2.1⟩,by simpa using ah.keep (R'.keep0 x) _ _ r1⟩
set_option tactic.hygienic true in
theorem zK {va lo a b p p'} (IH:bv g c0 call r n) (h1:aj n (c0.sub names) va=some a) (h2:aj n (c0.sub names) lo=some b):aN g c0 call r names (.Subscript va (.Slice (some lo) none none p') p) (.slo a b):=fun env A X s as fr σ σ' v Q N hA T ev hQ=>by
 refine aB ev fun u τ e1 e2=>?_
 refine aB e2 fun w τ' e3 e4=>?_
 refine Subscript_ (IH names va a h1 env A X s as fr σ τ u _ N hA T e1 fun x as1 k1 tk1 st1 R1 F1 r1=>?_)
 refine wpAny_Slice (wpAny_evalPart_some (IH names lo b h2 env A X _ as1 fr τ τ' w _ N hA ⟨F1,R1⟩ e3 fun y as2 k2 tk2 st2 R2 F2' r2=>?_))
 refine wpAny_pure (wpAny_pure ?_)
 have r1':=RepV.keep (At.keep (s:={ s with heap:=k1,toks:=tk1 }) ⟨F1,R1⟩ st2) _ _ r1
 split at e4
 case h_2=>cases e4
 rename_i l k
 split at e4
 case h_2=>cases e4
 rename_i xs hx
 split at e4
 case isFalse=>cases e4
 rename_i hk
 have T2:At g env as2 fr τ' { s with heap:=k2,toks:=tk2 }:=⟨F2',R2⟩
 have T3:=T2.push { cls:=.type "slice",data:=.fields #[y,.none,.none] }
 have kp:=R2.keep0 (bG as2 k2 { cls:=.type "slice",data:=.fields #[y,.none,.none] } [])
 refine qn (lo:=some k) T3 (RepV.keep kp _ _ r1') hx (Heap.IsSliceOf.new k2 y .none .none) ?_ .none .none (by simp) (fun items hi=>?_) e4 (fun _ _=>⟨_,rfl⟩) ?_
 ·rw [RepV] at r2; obtain ⟨t,rfl⟩:=r2; exact .int _ _
 ·obtain ⟨k',rfl⟩:=Int.eq_ofNat_of_zero_le hk
  show ah _ _ _ (slicePick items (some (k':Int)) none none).toList
  rw [slicePick_from']
  simpa using ah.f2.mpr ((ah.f2.mp hi).drop k')
 ·exact fun val as3 h3 tk3 st3 R3 F3 r3=>hQ val as3 h3 tk3 (ao st1 (ao st2 (ao (g:=g) (fr:=fr) (bG as2 k2 _ _) st3 R3 F3) R3 F3) R3 F3) R3 F3 r3
set_option tactic.hygienic true in
theorem Aw {va lo a b p p'} (IH:bv g c0 call r n) (h1:aj n (c0.sub names) va=some a) (h2:aj n (c0.sub names) lo=some b):aN g c0 call r names (.Subscript va (.Slice none (some lo) none p') p) (.shi a b):=fun env A X s as fr σ σ' v Q N hA T ev hQ=>by
 refine aB ev fun u τ e1 e2=>?_
 refine aB e2 fun w τ' e3 e4=>?_
 refine Subscript_ (IH names va a h1 env A X s as fr σ τ u _ N hA T e1 fun x as1 k1 tk1 st1 R1 F1 r1=>?_)
 refine wpAny_Slice (wpAny_pure (wpAny_evalPart_some (IH names lo b h2 env A X _ as1 fr τ τ' w _ N hA ⟨F1,R1⟩ e3 fun y as2 k2 tk2 st2 R2 F2' r2=>?_)))
 refine wpAny_pure ?_
 have r1':=RepV.keep (At.keep (s:={ s with heap:=k1,toks:=tk1 }) ⟨F1,R1⟩ st2) _ _ r1
 split at e4
 case h_2=>cases e4
 rename_i l k
 split at e4
 case h_2=>cases e4
 rename_i xs hx
 split at e4
 case isFalse=>cases e4
 rename_i hk
 have T2:At g env as2 fr τ' { s with heap:=k2,toks:=tk2 }:=⟨F2',R2⟩
 have T3:=T2.push { cls:=.type "slice",data:=.fields #[.none,y,.none] }
 have kp:=R2.keep0 (bG as2 k2 { cls:=.type "slice",data:=.fields #[.none,y,.none] } [])
 refine qn (hi:=some k) T3 (RepV.keep kp _ _ r1') hx (Heap.IsSliceOf.new k2 .none y .none) .none ?_ .none (by simp) (fun items hi=>?_) e4 (fun _ _=>⟨_,rfl⟩) ?_
 ·rw [RepV] at r2; obtain ⟨t,rfl⟩:=r2; exact .int _ _
 ·obtain ⟨k',rfl⟩:=Int.eq_ofNat_of_zero_le hk
  show ah _ _ _ (slicePick items none (some (k':Int)) none).toList
  rw [slicePick_upto']
  simpa using ah.f2.mpr ((ah.f2.mp hi).take k')
 ·exact fun val as3 h3 tk3 st3 R3 F3 r3=>hQ val as3 h3 tk3 (ao st1 (ao st2 (ao (g:=g) (fr:=fr) (bG as2 k2 _ _) st3 R3 F3) R3 F3) R3 F3) R3 F3 r3
theorem At.notSys (G:Sys g) (T:At g env as fr σ s):(s.heap.objs.size == sysModules)=false:=by
 obtain ⟨o,e⟩:=T.F.there
 have h1:=Heap.lt_size e
 have h2:=T.F.above
 have h3:=G.sys
 cases q:s.heap.objs.size == sysModules with
 | false=>rfl
 | true =>
  have:=eq_of_beq q
  rw [this] at h1
  exact absurd (Nat.lt_of_lt_of_le h3 h2) (Nat.lt_asymm h1)
theorem wg {p} (G:bC g K c0 fa):aN g c0 call r names (.Dict [] [] p) .dict0:=fun env A X s as fr σ σ' v Q N hA T ev hQ=>by
 obtain ⟨rfl,rfl⟩:=bw ev
 refine wpAny_Dict_empty ?_
 have x:aC [] as s.heap (as ++ [s.heap.objs.size]) (s.heap.push { cls:=.type "dict",data:=.dict #[] }):=gN (az _ _) (new_none _)
 refine hQ.use (tk:=s.toks) T x (T.R.push (az _ _) (new_none _) ⟨[],Heap.DictOfH.new _,.nil,⟨Nat.zero_le _,fun _ q=>nomatch q⟩,T.notSys G.sys⟩) ?_
 rw [RepV]
 exact ⟨_,rfl,by rw [← T.R.len]; simp⟩
set_option tactic.hygienic true in
theorem wk {ke va a b p} (G:bC g K c0 fa) (IH:bv g c0 call r n) (h1:aj n (c0.sub names) ke=some a) (h2:aj n (c0.sub names) va=some b):aN g c0 call r names (.Dict [some ke] [va] p) (.dict1 a b):=fun env A X s as fr σ σ' v Q N hA T ev hQ=>by
 refine aB ev fun u τ e1 e2=>?_
 refine aB e2 fun w τ' e3 e4=>?_
 split at e4
 case h_2=>cases e4
 rename_i i
 cases e4
 have T1:=T.push { cls:=.type "dict",data:=.dict #[] }
 have nn:=T.notNew
 have hd0:=Heap.DictOf.new (knd:=intKind g.prog g.w) s.heap
 refine wpAny_Dict_walk (knd:=intKind g.prog g.w) rfl rfl (by simp) (by simp) (pairTrees_cons_walk (two IH h1 h2 N hA T1 e1 e3 fun x y as' h' tk st R' F' r1 r2=>pairTrees_nil_walk ?_))
 rw [RepV] at r1; obtain ⟨t,rfl⟩:=r1
 have hda:s.heap.objs.size ∉ as':=by
  obtain ⟨⟨t',rfl,ht⟩,_⟩:=st
  intro q
  rcases List.mem_append.mp q with q | q
  ·exact nn.2.1 q
  ·have:=ht _ q; rw [Heap.get?_push_size _ rfl] at this; cases this
 refine ⟨[(i,y)],⟨intKind_is _ _ _ _,rfl,trivial⟩,?_,fun h2' hd' hs'=>?_⟩
 ·exact hd0.at fun o e=>st.ext _ _ e (by simpa using nn.1) nn.2.1
 have hk:∀ (b:Addr) (o:Obj),b ≠ s.heap.objs.size→h'.get? b=some o→h2'.get? b=some o:=fun b o hb e=>by rw [hs'.2 b hb]; exact e
 have hni:∀ ob,h'.get? s.heap.objs.size=some ob→¬ Imm ob:=fun ob e hi=>by
  have:=st.ext _ _ (Heap.get?_push_size s.heap (o:={ cls:=.type "dict",data:=.dict #[] }) rfl) (by simpa using nn.1) nn.2.1
  rw [e] at this; cases this
  exact hi.2.1 _ _ rfl
 obtain ⟨K',R2⟩:=R'.pushAt (o:=.dI [(i,w)]) hk hda nn.2.2 hni fun kk=>⟨_,hd',by
  show F2 _ _ [(i,y)]
  exact .cons ⟨rfl,RepV.keep kk _ _ r2⟩ .nil,by simp,T.notSys G.sys⟩
 have st2:aC [env.locals] as s.heap (as' ++ [s.heap.objs.size]) h2':=by
  obtain ⟨⟨t',rfl,ht⟩,hx⟩:=st
  refine ⟨⟨t' ++ [s.heap.objs.size],by simp,fun a ha=>?_⟩,fun b o e hb hb'=>hk b o (fun q=>by subst q; rw [new_none] at e; cases e) (hx b o (az _ _ _ _ e) hb hb')⟩
  rcases List.mem_append.mp ha with q | q
  ·cases e:s.heap.get? a with
   | none=>rfl
   | some o=>have:=ht a q; rw [az _ _ _ _ e] at this; cases this
  ·simp at q; subst q; exact new_none _
 have F2':ay g env (as' ++ [s.heap.objs.size]) fr h2':=F'.alter K' hk (Ne.symm nn.1) T.cellNew (by intro a ha; rcases List.mem_append.mp ha with q | q; exact .inl q; simp at q; exact .inr q)
 refine hQ _ _ h2' _ st2 R2 F2' ?_
 rw [RepV]
 exact ⟨_,rfl,by rw [← R'.len]; simp⟩
end
end Mine
namespace Mine
open PySem PyProof.Rows PySem.W
section
variable {g:Cfg}{K:Frag}{c0:CE}{fa:Nat→Option Addr}{call:Nat→List V→Sto→RE}{env:Env}{A:Around}{X:Value→Shared→Prop}{s:Shared}{as:List Addr}{fr:Fra} {σ σ':Sto}{r n:Nat}
 {names:List (Str × NameKind)}{Q:Value→Shared→Prop}{v:V}
theorem rZ {pos:Pos}{c:CE}:∀ {es:List Expr}{es':List E},aQ (aj n c) es=some es'→(backTo pos (starEach es env)).any (·.1)=false
 | [],_,_=>rfl
 | e :: es,es',h=>by
  refine cn h fun a as' h1 h2 qx4=>?_; subst qx4
  rw [aW h1]
  show (false || (backTo pos (starEach es env)).any (·.1))=false
  rw [rZ h2]; rfl
theorem aV {pos:Pos}{f:Value}{first:List Value} (IH:bv g c0 call r n) (hk:∀ h:Heap,(∀ (a:Addr) (o:Obj),g.b.get? a=some o→h.get? a=some o)→∃ k,(k=Keeper.frame ∨ k=Keeper.machine ∨ k=Keeper.boundFrame) ∧ Looks (model g.prog g.w) h (keeperOf f) k)
  {es:List Expr}{es':List E}{vs:List V} (h1:aQ (aj n (c0.sub names)) es=some es') (N:aq (c0.sub names) env A) (hA:cb g A (r + 1)) (T:At g env as fr σ s) (ev:b6 call es' fr σ=.ok vs σ')
  (hQ:∀ (xs:List Value) (as':List Addr) (h':Heap) (tk:Nat),aC [env.locals] as s.heap as' h'→Rel g as' σ' h'→ay g env as' fr h'→ah as' h' vs xs→wpAny (model g.prog g.w) A (PySem.call f (first ++ xs)) Q X { s with heap:=h',toks:=tk }) :
  wpAny (model g.prog g.w) A (callWith pos f first (backTo pos (starEach es env)) []) Q X s:=by
 refine callWith_of (P:=fun h=>∀ (a:Addr) (o:Obj),g.b.get? a=some o→h.get? a=some o) (by rw [rZ h1]; rfl) hk ?_
 have fin:∀ (xs:List Value) (as':List Addr) (h':Heap) (tk:Nat),aC [env.locals] as s.heap as' h'→Rel g as' σ' h'→ay g env as' fr h'→ah as' h' vs xs →
  (∀ (a:Addr) (o:Obj),g.b.get? a=some o→({ s with heap:=h',toks:=tk }:Shared).heap.get? a=some o) ∧ wpAny (model g.prog g.w) A (PySem.call f (first ++ (⟨xs,[]⟩:Args).pos) (⟨xs,[]⟩:Args).kw) Q X { s with heap:=h',toks:=tk } :=
  fun xs as' h' tk st R' F' r'=>⟨R'.base,hQ xs as' h' tk st R' F' r'⟩
 cases es with
 | nil =>
  rw [du] at h1; cases h1; rw [b6] at ev; cases ev
  exact PySem.evalArgs_none (fin [] as s.heap s.toks (aC.refl _ _ _) T.R T.F (by rw [ah]))
 | cons e es =>
  have key:=gm (A:=A) (X:=X) (pos:=pos) IH (e :: es) es' s as σ σ' vs (fun xs s'=>(∀ (a:Addr) (o:Obj),g.b.get? a=some o→s'.heap.get? a=some o) ∧ wpAny (model g.prog g.w) A (PySem.call f (first ++ (⟨xs,[]⟩:Args).pos) (⟨xs,[]⟩:Args).kw) Q X s') h1 N hA T ev fin
  refine cn h1 fun a as' h3 h4 qx4=>?_; subst qx4
  rw [aW h3] at key ⊢
  exact Calls.evalArgs_plain key
theorem eY (id:String):∀ h:Heap,∃ k,(k=Keeper.frame ∨ k=Keeper.machine ∨ k=Keeper.boundFrame) ∧ Looks (model g.prog g.w) h (keeperOf (.builtin id)) k:=fun h=>⟨.machine,.inr (.inl rfl),.now⟩
theorem j0 (id:String):∀ h:Heap,∃ k,(k=Keeper.frame ∨ k=Keeper.machine ∨ k=Keeper.boundFrame) ∧ Looks (model g.prog g.w) h (keeperOf (.type id)) k:=fun h=>⟨.machine,.inr (.inl rfl),.now⟩
theorem td (b:BN) (hb:bOk b=true):∀ h:Heap,∃ k,(k=Keeper.frame ∨ k=Keeper.machine ∨ k=Keeper.boundFrame) ∧ Looks (model g.prog g.w) h (keeperOf (mA b)) k:=by
 cases b <;> first | exact ft hb | exact eY _ | exact j0 _
theorem iS {α:Type}{P:α→Bool}{x:Str}{b:α}:∀ {l:List (Str × α)},l.all (fun q=>P q.2)=true→l.lookup x=some b→P b=true
 | [],_,e=>nn e
 | q :: l,h,e=>by
  obtain ⟨h1,h2⟩:=af (show (P q.2 && l.all fun q=>P q.2)=true from h)
  obtain ⟨y,c⟩:=q
  rw [List.lookup_cons] at e
  cases hq:x == y <;> rw [hq] at e
  ·exact iS h2 e
  ·exact Option.some.inj e ▸ h1
theorem fk {f:Value} (G:bC g K c0 fa) (hk:keepIn K f=true):∀ h:Heap,(∀ (a:Addr) (o:Obj),g.b.get? a=some o→h.get? a=some o)→∃ k,(k=Keeper.frame ∨ k=Keeper.machine ∨ k=Keeper.boundFrame) ∧ Looks (model g.prog g.w) h (keeperOf f) k :=
 fun h hb=>keeps_K hk h (G.kin.keeps hb)
theorem Bl {f:Str}{fp p:Pos}{b es es'} (G:bC g K c0 fa) (IH:bv g c0 call r n) (hg:(c0.sub names).glob f=true) (hd:(f == ("__debug__":Str))=false) (hb:bltName.lookup f=some b) (hne:bOk b=true) (hh:c0.hnd=false) (h1:aQ (aj n (c0.sub names)) es=some es') :
  aN g c0 call r names (.Call (.Name f fp) es [] p) (.blt b es'):=fun env A X s as fr σ σ' v Q N hA T ev hQ=>by
 refine bJ ev fun us τ e1 e2=>?_
 refine wpAny_Call_NameR (cy T N hg hd (G.blt f b hb) ?_)
 refine aV IH (fun h _=>?_) h1 N hA T e1 fun xs as' h' tk st R' F' r'=>?_
 ·exact td b hne h
 ·exact zO G.sys (T.step (tk:=tk) R' F') (hA.none (G.hd hh)) r' hne e2 (aR hQ st R' F')
theorem cb.less {m k:Nat} (h:cb g A (m + k)):cb g A m:=by
 have h1:=h.units; have h2:=h.depth
 exact ⟨by lia,by lia,h.handled⟩
theorem ay.size {h:Heap} (F:ay g env as fr h):g.b.objs.size ≤ h.objs.size:=by
 obtain ⟨o,e⟩:=F.there
 exact Nat.le_trans F.above (Nat.le_of_lt (Heap.lt_size e))
theorem iT {as':List Addr}{h':Heap}{tk:Nat} {τ:Sto}{val:Value}{as2:List Addr}{h2:Heap}{tk2:Nat} (hQ:aK g env as fr s v σ' Q) (st:aC [env.locals] as s.heap as' h') (R':Rel g as' τ h') (F':ay g env as' fr h')
  (st2:aC [] as' h' as2 h2) (R2:Rel g as2 σ' h2) (r2:RepV as2 h2 v val):Q val { s with heap:=h2,toks:=tk2 } :=
 (aR (tk:=tk) hQ st R' F').use (tk:=tk2) (s:={ s with heap:=h',toks:=tk }) ⟨F',R'⟩ st2 R2 r2
theorem yK {f:Str}{fp p:Pos}{k es es'} (G:bC g K c0 fa) (C:dX g fa call r) (IH:bv g c0 call r n) (hg:(c0.sub names).glob f=true) (hd:(f == ("__debug__":Str))=false) (hb:c0.fns.lookup f=some k) (h1:aQ (aj n (c0.sub names)) es=some es') :
  aN g c0 call r names (.Call (.Name f fp) es [] p) (.call k es'):=fun env A X s as fr σ σ' v Q N hA T ev hQ=>by
 refine bJ ev fun us τ e1 e2=>?_
 obtain ⟨a,hv,hfa,hkp⟩:=G.fn f k hb
 refine wpAny_Call_NameR (cy T N hg hd hv ?_)
 refine aV IH (fk G hkp) h1 N hA T e1 fun xs as' h' tk st R' F' r'=>?_
 refine wpAny_call (C k a us τ σ' v hfa e2 A _ as' xs _ (hA.less (k:=1)) R' F'.size r' fun val as2 h2 tk2 st2 R2 r2=>?_)
 exact iT (s:=s) (tk:=tk) (tk2:=tk2) hQ st R' F' st2 R2 r2
theorem qX {r:RE} (e:noX r=.ok v σ'):r=.ok v σ':=by
 cases r with
 | ok=>exact e
 | ex=>cases e
 | bad=>cases e
theorem wY {f:Str}{fp p:Pos}{k es es'} (G:bC g K c0 fa) (C:gP g K c0 call r) (IH:bv g c0 call r n) (hg:(c0.sub names).glob f=true) (hd:(f == ("__debug__":Str))=false) (hb:c0.tfns.lookup f=some k) (ht:c0.top=some names) (h1:aQ (aj n (c0.sub names)) es=some es') :
  aN g c0 call r names (.Call (.Name f fp) es [] p) (.tcall k es'):=fun env A X s as fr σ σ' v Q N hA T ev hQ=>by
 refine bJ ev fun us τ e1 e2=>?_
 obtain ⟨a,hv,hkp,hc⟩:=C f k hb
 obtain ⟨hfr,hf⟩:=N.top ht
 refine wpAny_Call_NameR (cy T N hg hd hv ?_)
 refine aV IH (fk G hkp) h1 N hA T e1 fun xs as' h' tk st R' F' r'=>?_
 exact wpAny_call (hc us τ σ' v (qX e2) A _ as' xs env fr _ (hA.less (k:=1)) hfr hf ⟨F',R'⟩ r' (aR (tk:=tk) hQ st R' F'))
set_option tactic.hygienic true in
theorem rN {ds:List Nat}{u:V}{b:Bool}{f:Nat→Bool} (e:A2 u ds f=some b):∃ D,u=.exc D ∧ D ∈ ds ∧ b=f D:=by
 cases u <;> first | exact nn e | skip
 rename_i D
 by_cases h:ds.contains D
 ·exact ⟨D,rfl,List.contains_iff_mem.mp h,(Option.some.inj ((if_pos h).symm.trans e)).symm⟩
 ·exact nn ((if_neg h).symm.trans e)
theorem vp {D:Addr}{cv val:Value}{b:Bool} (G:bC g K c0 fa) (hD:D ∈ c0.excs.map (·.2)) (e:kitOne K (.ref D) cv=some b) (T:At g env as fr σ s) (r:RepV as s.heap (.exc D) val) (hQ:aK g env as fr s (.bool b) σ Q) :
  wpAny (model g.prog g.w) A (PySem.call (.builtin "isinstance") [val,cv]) Q X s:=by
 rw [RepV] at r
 obtain ⟨a,o,vs,rfl,ho,hn,hc,hd⟩:=r
 refine kia_one (t8 (ox:=o) (G.exc.k D hD)) (G.kin.keeps T.R.base) ⟨ho,hc,?_,?_⟩ e (by simp) fun tk=>hQ.bool T
 ·unfold notCls; rw [hd]
 ·rw [hn]; trivial
set_option tactic.hygienic true in
set_option backward.match.sparseCases false in
theorem s4 {u:V}{b:Bool} (e:vI .inst u σ=some b):∃ l d,u=.ref l ∧ σ[l]?=some (.inst d) ∧ b=true:=by
 cases u <;> first | exact nn e | skip
 rename_i l
 have e:(match σ[l]? with | some (.inst _)=>some true | _=>none)=some b:=e
 split at e
 ·rename_i d hd; exact ⟨l,d,rfl,hd,(Option.some.inj e).symm⟩
 ·exact nn e
theorem zt {t:Str}{ty:Ty} (G:bC g K c0 fa) (ht:pU c0 t=some ty):∃ cv,GV g t cv ∧ ∀ {env:Env}{A:Around}{X:Value→Shared→Prop}{s:Shared}{as:List Addr}{fr:Fra} {σ:Sto}{u:V}{b:Bool}{Q:Value→Shared→Prop}{val:Value},At g env as fr σ s→vI ty u σ=some b→RepV as s.heap u val→aK g env as fr s (.bool b) σ Q→wpAny (model g.prog g.w) A (PySem.call (.builtin "isinstance") [val,cv]) Q X s:=by
 unfold pU at ht
 cases hl:tyName.lookup t with
 | some ty' =>
  rw [hl] at ht
  rw [← Option.some.inj ht]
  have this:∀ q ∈ tyName,∃ y,s8 q.2=some y:=by
   intro q hq
   simp only [tyName,List.mem_cons,List.not_mem_nil,or_false] at hq
   rcases hq with rfl | rfl | rfl | rfl <;> exact ⟨_,rfl⟩
  exact (this _ (ay.keep.lookup_mem hl)).elim fun y hy=>⟨y,G.typ t ty' y hl hy,fun T e r hQ=>zS T r e hy hQ⟩
 | none =>
  rw [hl] at ht
  cases hc:c0.clss.lookup t with
  | some k =>
   rw [hc] at ht
   rw [← Option.some.inj ht]
   refine ⟨_,(G.cls t k hc).elim fun _ h=>h.1,fun T e r hQ=>?_⟩
   obtain ⟨l,d,rfl,hd,rfl⟩:=s4 e
   refine cV T.R r hd fun ad dx qx2 hl hdd ho'=>?_; subst qx2
   refine isi_call (K:=K) (t:=.ref g.C) (G.kin.keeps T.R.base) (fun M=>?_) (G.clsO t k hc) (by simp) (hQ.bool' T)
   obtain ⟨ob,hob,_⟩:=T.R.there (List.mem_of_getElem? hdd)
   exact InstAt.type (od:=some ob) (x:=ad) (ox:=instObj g.C dx) ⟨ho',rfl,rfl,hob⟩
  | none =>
   rw [hc] at ht
   cases hx:c0.excs.lookup t with
   | some C =>
    rw [hx] at ht
    rw [← Option.some.inj ht]
    refine ⟨_,G.exc.i t C hx,fun T e r hQ=>?_⟩
    obtain ⟨D,rfl,hD,rfl⟩:=rN e
    exact vp G hD (G.exc.o C (List.mem_map.mpr ⟨_,av hx,rfl⟩) D hD) T r hQ
   | none =>
    rw [hx] at ht
    have h0:=au ht
    rw [← Option.some.inj h0.2,show t=_ from eq_of_beq h0.1]
    refine ⟨_,G.exc.v,fun T e r hQ=>?_⟩
    obtain ⟨D,rfl,hD,rfl⟩:=rN e
    exact vp G hD (G.exc.w D hD) T r hQ
theorem Bb {a:Expr}{t:Str}{x ty p fp tp} (G:bC g K c0 fa) (IH:bv g c0 call r n) (hg:(c0.sub names).glob "isinstance"=true) (hgt:(c0.sub names).glob t=true) (ht:pU c0 t=some ty) (hdt:(t == ("__debug__":Str))=false) (h1:aj n (c0.sub names) a=some x) :
  aN g c0 call r names (.Call (.Name "isinstance" fp) [a,.Name t tp] [] p) (.isi x ty):=fun env A X s as fr σ σ' v Q N hA T ev hQ=>by
 refine aB ev fun u τ e1 e2=>?_
 refine eP e2 fun b e3 qx2 qx3=>?_; subst qx2; subst qx3
 refine wpAny_Call_NameR (cy T N hg rfl G.isi ?_)
 refine Calls.callWith_builtin (by rw [aW h1]; rfl) ?_
 rw [aW h1]
 refine Calls.evalArgs_plain ?_
 have hrw:(false,eval a env) :: (backTo p (starEach [.Name t tp] env))=backTo p (starEach (a :: [.Name t tp]) env):=by rw [aW h1]; rfl
 show wpAny _ A (spliced ((false,eval a env) :: (backTo p (starEach [.Name t tp] env)))) _ X s
 rw [hrw]
 refine wpAny_items_cons ?_ (aW h1 _ _)
 refine IH names a x h1 env A X s as fr σ _ u _ N hA T e1 fun val as' h' tk st R' F' r'=>?_
 have T':=T.step (tk:=tk) R' F'
 exact (zt G ht).elim fun cv hi=>wpAny_items_cons (cy T' N hgt hdt hi.1 (wpAny_items_nil (hi.2 T' e3 r' (aR hQ st R' F'))))
set_option tactic.hygienic true in
theorem xJ {a:Expr}{x p fp k p1 kp} (G:bC g K c0 fa) (IH:bv g c0 call r n) (hg:(c0.sub names).glob "max"=true) (hh:c0.hnd=false) (h1:aj n (c0.sub names) a=some x) :
  aN g c0 call r names (.Call (.Name "max" fp) [a] [⟨some "default",.Constant .none k p1,kp⟩] p) (.maxd x):=fun env A X s as fr σ σ' v Q N hA T ev hQ=>by
 refine aB ev fun u τ e1 e2=>?_
 show wpAny _ A (eval (.Name "max" fp) env >>= fun f=>callWith p f [] (backTo p (starEach [a] env)) (backToKw p (keywordEach [⟨some "default",.Constant .none k p1,kp⟩] env))) Q X s
 refine wpAny_bind (cy T N hg rfl (G.blt "max" .max rfl) ?_)
 refine callWith_kw ?_ (by rw [aW h1]; rfl) (by rw [aW h1]; rfl) rfl rfl
 refine wpAny_items_cons ?_ (aW h1 _ _)
 refine IH names a x h1 env A X s as fr σ τ u _ N hA T e1 fun val as' h' tk st R' F' r'=>wpAny_items_nil ?_
 have T':=T.step (tk:=tk) R' F'
 have fin:∀ is l,u=.ref l→(getL τ l).bind aA=some is→(v=match gV is with | some i=>V.int i | none=>V.none)→σ'=τ →
   wpAny (model g.prog g.w) A (PySem.call (.builtin "max") [val] [(Str.ofString "default",.none)]) Q X { s with heap:=h',toks:=tk }:=fun is l hu hi hv hs=>by
  subst hu; subst hs
  exact yv T' (hA.none (G.hd hh)) r' hi hv (aR hQ st R' F')
 have fin':∀ is l,u=.ref l→(getL τ l).bind aA=some is→(v=match gV is with | some i=>V.int i | none=>V.none)→σ'=τ →
   wpAny (model g.prog g.w) A (evalAll ((backToKw p (keywordEach [⟨some "default",.Constant .none k p1,kp⟩] env)).map (·.2)))
   (fun kvs s₂=>wpAny (model g.prog g.w) A (PySem.call (.builtin "max") [val] (((backToKw p (keywordEach [⟨some "default",.Constant .none k p1,kp⟩] env)).filterMap (·.1)).zip kvs)) Q X s₂) X { s with heap:=h',toks:=tk }:=fun is l hu hi hv hs=>by
  have:=fin is l hu hi hv hs
  show wpAny _ A (do let v ← (do let v ← eval (.Constant .none k p1) env; standAt p; pure v); return v :: (← holding [v] (evalAll []))) _ X _
  refine wpAny_bind (wpAny_bind (Constant_none (wpAny_bind (wpAny_standAt (wpAny_pure (wpAny_bind (wpAny_holding (wpAny_pure (wpAny_pure ?_)))))))))
  exact this
 split at e2
 case h_2=>cases e2
 rename_i l
 split at e2
 ·rename_i hi
  cases e2
  exact fin' [] l rfl hi rfl rfl
 ·rename_i is hne hi
  obtain ⟨e3,rfl⟩:=jU e2
  obtain ⟨i,e4,rfl⟩:=Option.map_eq_some_iff.mp e3
  exact fin' is l rfl hi (by rw [e4]) rfl
 ·cases e2
end
end Mine
namespace Mine
open PySem PyProof.Rows PySem.W
theorem qi (is:List Int):(firstMet (fun i=>is.getD i 0) is.length)=jN is:=by
 unfold firstMet jN
 have:(List.range is.length).map (fun i=>is.getD i 0)=is:=by
  apply List.ext_getElem
  ·simp
  ·intro i h1 h2; simp at h1; simp [h1]
 rw [this]; rfl
set_option tactic.hygienic true in
theorem oX {u v:V} {τ σ':Sto} (e:gA .setLen [u] τ=.ok v σ'):∃ l is,u=.ref l ∧ (getL τ l).bind aA=some is ∧ is.length ≤ 1000 ∧ v=.int (jN is).length ∧ σ'=τ:=by
 cases u <;> try (simp only [gA,zb,yz] at e; cases e)
 rename_i l
 simp only [gA,zb,yz] at e
 split at e
 ·rename_i is hi
  split at e
  ·cases e; exact ⟨l,is,rfl,hi,by assumption,rfl,rfl⟩
  ·cases e
 ·cases e
set_option tactic.hygienic true in
theorem ul {u v:V} {τ σ':Sto} (e:gA .revl [u] τ=.ok v σ'):∃ l xs,u=.ref l ∧ getL τ l=some xs ∧ cN xs.reverse τ=.ok v σ':=by
 cases u <;> try (simp only [gA,zb,yz] at e; cases e)
 rename_i l
 simp only [gA,zb,yz] at e
 split at e
 ·rename_i is hi
  exact ⟨l,is,rfl,hi,e⟩
 ·cases e
section
variable {g:Cfg}{K:Frag}{c0:CE}{fa:Nat→Option Addr}{call:Nat→List V→Sto→RE}{env:Env}{A:Around}{X:Value→Shared→Prop}{s:Shared}{as:List Addr}{fr:Fra} {σ σ':Sto}{r n:Nat}
 {names:List (Str × NameKind)}{Q:Value→Shared→Prop}{v:V}
theorem yp {f:Str}{fp p:Pos}{es:List Expr}{es':List E}{fv:Value}{us:List V} (IH:bv g c0 call r n) (hg:(c0.sub names).glob f=true) (hd:(f == ("__debug__":Str))=false) (hv:GV g f fv) (hk:∃ id,fv=.builtin id ∨ fv=.type id)
  (h1:aQ (aj n (c0.sub names)) es=some es') (N:aq (c0.sub names) env A) (hA:cb g A (r + 1)) (T:At g env as fr σ s) (ev:b6 call es' fr σ=.ok us σ')
  (hQ:∀ (ys:List Value) (as':List Addr) (h':Heap) (tk:Nat),aC [env.locals] as s.heap as' h'→Rel g as' σ' h'→ay g env as' fr h'→ah as' h' us ys→wpAny (model g.prog g.w) A (PySem.call fv ys) Q X { s with heap:=h',toks:=tk }) :
  wpAny (model g.prog g.w) A (eval (.Call (.Name f fp) es [] p) env) Q X s:=by
 refine wpAny_Call_NameR (cy T N hg hd hv ?_)
 refine aV IH (fun h _=>?_) h1 N hA T (vs:=us) (σ':=σ') ev hQ
 obtain ⟨id,q | q⟩:=hk <;> rw [q]
 ·exact eY id h
 ·exact j0 id h
theorem lI {f:Str}{fp p:Pos}{a:Expr}{x:E}{fv:Value}{u:V} (IH:bv g c0 call r n) (hg:(c0.sub names).glob f=true) (hd:(f == ("__debug__":Str))=false) (hv:GV g f fv) (hk:∃ id,fv=.builtin id ∨ fv=.type id)
  (h1:aj n (c0.sub names) a=some x) (N:aq (c0.sub names) env A) (hA:cb g A (r + 1)) (T:At g env as fr σ s) (ev:evE call x fr σ=.ok u σ')
  (hQ:∀ (y:Value) (as':List Addr) (h':Heap) (tk:Nat),aC [env.locals] as s.heap as' h'→Rel g as' σ' h'→ay g env as' fr h'→RepV as' h' u y→wpAny (model g.prog g.w) A (PySem.call fv [y]) Q X { s with heap:=h',toks:=tk }) :
  wpAny (model g.prog g.w) A (eval (.Call (.Name f fp) [a] [] p) env) Q X s:=by
 refine yp (es':=[x]) (us:=[u]) (σ':=σ') IH hg hd hv hk (by rw [gX,h1]; rfl) N hA T (by rw [b6]; dsimp only; rw [ev]; simp [b6,RE.binds_ok,REs.binds_ok]) fun xs as' h' tk st R' F' r'=>?_
 rw [ah] at r'
 obtain ⟨y,ys,rfl,r1,r2⟩:=r'
 rw [ah] at r2; subst r2
 exact hQ y as' h' tk st R' F' r1
theorem kH {p:Pos}{f:Expr}{x:Expr}{kw:List Keyword}{pos:Pos}{Q:List Value→Shared→Prop} (h:wpAny (model g.prog g.w) A (eval (.Call f [x] kw pos) env) (fun v s'=>Q [v] s') X s):wpAny (model g.prog g.w) A (spliced (backTo p (starEach [.Call f [x] kw pos] env))) Q X s :=
 wpAny_items_cons (wpAny_mono h (fun v s' h'=>wpAny_items_nil h') fun _ _ h=>h)
theorem ua {a:Expr}{x p fp p1 fp1} (G:bC g K c0 fa) (IH:bv g c0 call r n) (hg:(c0.sub names).glob "len"=true) (hg1:(c0.sub names).glob "set"=true) (hh:c0.hnd=false) (h1:aj n (c0.sub names) a=some x) :
  aN g c0 call r names (.Call (.Name "len" fp) [.Call (.Name "set" fp1) [a] [] p1] [] p) (.blt .setLen [x]):=fun env A X s as fr σ σ' v Q N hA T ev hQ=>by
 refine bJ ev fun us τ e1 e2=>?_
 rw [b6] at e1
 refine jp e1 fun u τ1 e3 e4=>?_
 rw [b6] at e4
 cases e4
 refine wpAny_Call_NameR (cy T N hg rfl (G.blt "len" .len rfl) ?_)
 show wpAny _ A (callWith p (.builtin "len") [] _ []) Q X s
 refine Calls.callWith_builtin rfl (Calls.evalArgs_plain ?_)
 refine kH (p:=p) (lI IH hg1 rfl G.set ⟨_,.inr rfl⟩ h1 N hA T e3 fun y as' h' tk st R' F' r'=>?_)
 have T':=T.step (tk:=tk) R' F'
 obtain ⟨l,is,rfl,hi,hlen,rfl,rfl⟩:=oX e2
 obtain ⟨vs,h2,h3⟩:=Option.bind_eq_some_iff.mp hi
 refine aw (s:={ s with heap:=h',toks:=tk }) R' r' h2 fun ad items m qx hd ho hr hz hsz=>?_; subst qx
 have hints:=bo h3 hr
 have hl:=hints.length
 rw [Array.length_toList] at hl
 refine call_set_list (hA.none (G.hd hh)) ho.isList hints (by show _ < 4096; lia) fun h2' tk2 hS hk=>?_
 rw [hl,qi] at hS
 obtain ⟨o,es,ep,t,q1,q2,q3,q4,q5,q6,q7,q8⟩:=hS
 refine call_len_set q1 q2 q3 q7 ?_ ?_
 ·have:es.size < 4096:=q6
  have h63:(2:Int) ^ 63=9223372036854775808:=by decide +kernel
  lia
 ·rw [q8]
  have kk:∀ (b:Addr) (o:Obj),h'.get? b=some o→h2'.get? b=some o:=fun b o e=>hk b o (Heap.lt_size e) e
  exact (aR (tk:=tk) hQ st R' F').use (tk:=tk2 + 1 + 1) T' (aC.of_ext kk) (R'.ext kk) (by rw [RepV]; exact ⟨_,rfl⟩)
theorem yO {a:Expr}{x p fp p1 fp1} (G:bC g K c0 fa) (IH:bv g c0 call r n) (hg:(c0.sub names).glob "list"=true) (hg1:(c0.sub names).glob "reversed"=true) (hh:c0.hnd=false) (h1:aj n (c0.sub names) a=some x) :
  aN g c0 call r names (.Call (.Name "list" fp) [.Call (.Name "reversed" fp1) [a] [] p1] [] p) (.blt .revl [x]):=fun env A X s as fr σ σ' v Q N hA T ev hQ=>by
 refine bJ ev fun us τ e1 e2=>?_
 rw [b6] at e1
 refine jp e1 fun u τ1 e3 e4=>?_
 rw [b6] at e4
 cases e4
 refine wpAny_Call_NameR (cy T N hg rfl (G.blt "list" .list rfl) ?_)
 show wpAny _ A (callWith p (.type "list") [] _ []) Q X s
 refine PySem.callWith_type rfl (Calls.evalArgs_plain ?_)
 refine kH (p:=p) (lI IH hg1 rfl G.rev ⟨_,.inr rfl⟩ h1 N hA T e3 fun y as' h' tk st R' F' r'=>?_)
 have T':=T.step (tk:=tk) R' F'
 obtain ⟨l,xs,rfl,h2,h3⟩:=ul e2
 refine aw (s:={ s with heap:=h',toks:=tk }) R' r' h2 fun ad items m qx hd ho hr hz hsz=>?_; subst qx
 refine call_reversed_list ho.isList ?_
 have hne:ad ≠ h'.objs.size:=Nat.ne_of_lt (Heap.lt_size ho)
 refine jF (hA.none (G.hd hh)) ⟨_,Heap.get?_push_size _ rfl,rfl,rfl⟩ (ho.isList.push _) (by rw [hsz]; exact hz) fun h2' tk2 acc c' hk hacc he=>?_
 have kk:∀ (b:Addr) (o:Obj),h'.get? b=some o→h2'.get? b=some o:=fun b o e=>hk b o (Nat.ne_of_lt (Heap.lt_size e)) (az _ _ _ _ e)
 have hnn:h'.get? (h'.push (revObj ad ((items.size:Int) - 1))).objs.size=none:=by
  cases e:h'.get? (h'.push (revObj ad ((items.size:Int) - 1))).objs.size with
  | none=>rfl
  | some o=>have:=Heap.lt_size e; rw [Heap.size_push] at this; exact absurd (Nat.lt_of_succ_lt this) (Nat.lt_irrefl _)
 refine (aR (tk:=tk) hQ st R' F').new (tk:=tk2) (xs:=xs.reverse) (items:=acc) T' kk hnn ⟨c',hacc⟩ ?_ h3
 rw [he]
 exact ah.f2.mpr (ah.f2.mp hr).reverse
end
end Mine
namespace Mine
open PySem PyProof.Rows PySem.W
section
variable {g:Cfg}{K:Frag}{c0:CE}{fa:Nat→Option Addr}{call:Nat→List V→Sto→RE}{env:Env}{A:Around}{X:Value→Shared→Prop}{s:Shared}{as:List Addr}{fr:Fra} {σ σ':Sto}{r n:Nat}
 {names:List (Str × NameKind)}{Q:Value→Shared→Prop}{v:V}
theorem At.pushN {h':Heap}{a:Addr}{o:AO} (T:At g env as fr σ s) {as1:List Addr} {σ1:Sto} (x:aC [env.locals] as s.heap as1 h') (R':Rel g as1 σ1 h') (F':ay g env as1 fr h') (hn:s.heap.get? a=none) (ha:a ∉ as1)
  (hb:g.b.get? a=none) (hL:a ≠ env.locals) (hc:∀ y c,env.cells.lookup y=some c→c ≠ a) (hi:∀ ob,h'.get? a=some ob→¬ Imm ob) (ho:o4 g (as1 ++ [a]) h' o a) :
  aC [env.locals] as s.heap (as1 ++ [a]) h' ∧ Rel g (as1 ++ [a]) (σ1 ++ [o]) h' ∧ ay g env (as1 ++ [a]) fr h':=by
 obtain ⟨K',R2⟩:=R'.pushAt (h':=h') (o:=o) (a:=a) (fun _ _ _ e=>e) ha hb hi (fun _=>ho)
 refine ⟨?_,R2,F'.alter (d:=a) K' (fun _ _ _ e=>e) (Ne.symm hL) hc (by intro b hb'; rcases List.mem_append.mp hb' with q | q; exact .inl q; simp at q; exact .inr q)⟩
 obtain ⟨⟨t,rfl,ht⟩,hx⟩:=x
 refine ⟨⟨t ++ [a],by simp,fun b hb'=>?_⟩,hx⟩
 rcases List.mem_append.mp hb' with q | q
 ·exact ht b q
 ·simp at q; subst q; exact hn
theorem mX {f:Str}{fp p:Pos}{k es es'}{us:List V} {τ:Sto} (G:bC g K c0 fa) (IH:bv g c0 call r n) (hg:(c0.sub names).glob f=true) (hd:(f == ("__debug__":Str))=false) (hb:c0.clss.lookup f=some k) (h1:aQ (aj n (c0.sub names)) es=some es')
  (N:aq (c0.sub names) env A) (hA:cb g A (r + 1)) (T:At g env as fr σ s) (e1:b6 call es' fr σ=.ok us τ)
  (H:∀ (fI:Addr) (xs:List Value) (as':List Addr) (h':Heap) (tk:Nat) (dx x:Addr) (h2:Heap),fa k=some fI→aC [env.locals] as s.heap as' h'→Rel g as' τ h'→aC [env.locals] as' h' (as' ++ [dx] ++ [x]) h2→Rel g (as' ++ [dx] ++ [x]) (τ ++ [.att []] ++ [.inst τ.length]) h2→ay g env (as' ++ [dx] ++ [x]) fr h2 →
   ah (as' ++ [dx] ++ [x]) h2 (.ref (τ.length + 1) :: us) (.ref x :: xs)→cb g (A.under (.builtin "type.__call__" ⟨.ref g.C :: xs,[]⟩)) r →
   codeAny (model g.prog g.w) (A.under (.builtin "type.__call__" ⟨.ref g.C :: xs,[]⟩)) (.call (.ref fI) ⟨.ref x :: xs,[]⟩) (InitBack x fun r s'=>match r with | .ok (.ret v)=>Q v s' | .ok _=>False | .error e=>X e s') { s with heap:=h2,toks:=tk }) :
  wpAny (model g.prog g.w) A (eval (.Call (.Name f fp) es [] p) env) Q X s:=by
 obtain ⟨fI,hv,hfa,hkp,hmk,hin,hfn⟩:=G.cls f k hb
 refine wpAny_Call_NameR (cy T N hg hd hv ?_)
 refine aV IH (fk G hkp) h1 N hA T e1 fun xs as' h' tk st R' F' r'=>?_
 have T':At g env as' fr τ { s with heap:=h',toks:=tk }:=⟨F',R'⟩
 obtain ⟨m,hF,_⟩:=F'.fr R'
 refine call_cls (L:=env.locals) (h₀:=g.b) (news:=newsOf g.b env.locals h') hF G.kin (eQ _ _ _) hmk hin hfn fun x dx h2 F2 N2 hlt hlt2=>?_
 obtain ⟨K1,st1,R1,F1⟩:=T'.byNews hF.ns F2 N2 (fun p hp=>.tail _ (.tail _ hp))
 have nx:=N2 _ (.head _)
 have nd:=N2 _ (.tail _ (.head _))
 have fresh:∀ b,dx ≤ b→b ≠ env.locals→g.b.get? b=none→h'.get? b=none:=fun b hb hL hg'=>by
  cases e:h'.get? b with
  | none=>rfl
  | some o=>exact absurd (Nat.lt_of_lt_of_le (hlt (b,o) (cx.mpr ⟨e,hL,hg'⟩)) hb) (Nat.lt_irrefl _)
 have fd:=fresh dx (Nat.le_refl _) nd.2.1 nd.2.2
 have fx:=fresh x (Nat.le_of_lt hlt2) nx.2.1 nx.2.2
 have notin:∀ b,h'.get? b=none→b ∉ as':=fun b hb q=>by obtain ⟨o,e,_⟩:=R'.there q; rw [hb] at e; cases e
 have cellne:∀ b,h'.get? b=none→∀ y c,env.cells.lookup y=some c→c ≠ b:=fun b hb y c hc q=>by
  subst q; obtain ⟨cv,o,e,_⟩:=(F'.offc _ _ hc).2.2; rw [hb] at e; cases e
 obtain ⟨st2,R2,F2'⟩:=T'.pushN (a:=dx) (o:=.att []) st1 R1 F1 fd (notin _ fd) nd.2.2 nd.2.1 (cellne _ fd) (fun ob e hi=>by rw [nd.1] at e; cases e; exact hi.2.1 _ _ rfl) ⟨[],0,nd.1,.nil,by simp⟩
 have hlen:as'.length=τ.length:=R'.len
 obtain ⟨st3,R3,F3⟩:=T'.pushN (a:=x) (o:=.inst τ.length) st2 R2 F2' fx (by
   intro q; rcases List.mem_append.mp q with q | q
   ·exact notin _ fx q
   ·simp at q; rw [q] at hlt2; exact Nat.lt_irrefl _ hlt2) nx.2.2 nx.2.1 (cellne _ fx) (fun ob e hi=>by rw [nx.1] at e; cases e; rcases hi.1 with q | q <;> simp at q) ⟨dx,by rw [← hlen]; simp,nx.1⟩
 have hroom:cb g (A.under (.builtin "type.__call__" ⟨.ref g.C :: xs,[]⟩)) r:=⟨by have:=hA.units; rw [units_under_make]; lia,by have:=hA.depth; rw [depth_under_make]; lia,hA.handled⟩
 have K3:bR as' h' (as' ++ [dx] ++ [x]) h2:=R'.keep st3 F'.notImm
 refine H fI xs as' h' tk dx x h2 hfa st R' st3 R3 F3 ?_ hroom
 rw [ah]
 exact ⟨_,_,rfl,by rw [RepV]; exact ⟨x,rfl,by rw [← hlen]; simp⟩,ah.keep K3 _ _ r'⟩
set_option tactic.hygienic true in
theorem BY {f:Str}{fp p:Pos}{k es es'} (G:bC g K c0 fa) (C:dX g fa call r) (IH:bv g c0 call r n) (hg:(c0.sub names).glob f=true) (hd:(f == ("__debug__":Str))=false) (hb:c0.clss.lookup f=some k) (h1:aQ (aj n (c0.sub names)) es=some es') :
  aN g c0 call r names (.Call (.Name f fp) es [] p) (.mk k es'):=fun env A X s as fr σ σ' v Q N hA T ev hQ=>by
 refine bJ ev fun us τ e1 e2=>?_
 have e2':∃ σ2,call k (.ref (τ.length + 1) :: us) (τ ++ [.att []] ++ [.inst τ.length])=.ok .none σ2 ∧ v=.ref (τ.length + 1) ∧ σ'=σ2:=by
  rw [List.append_assoc]
  split at e2
  ·rename_i σ2 hq; cases e2; exact ⟨_,hq,rfl,rfl⟩
  ·cases e2
  ·cases e2
  ·cases e2
 obtain ⟨_,e3,rfl,rfl⟩:=e2'
 refine mX G IH hg hd hb h1 N hA T e1 fun fI xs as' h' tk dx x h2 hfa st R' st3 R3 F3 href hroom=>?_
 refine C k fI _ _ σ' .none hfa e3 _ _ (as' ++ [dx] ++ [x]) (.ref x :: xs) _ hroom R3 F3.size href fun val as4 h4 tk4 st4 R4 r4=>?_
 rw [RepV] at r4; subst r4
 refine ⟨rfl,?_⟩
 have K4:=R3.keep0 st4
 have F4:=F3.keep K4 st4 (by simp)
 have st34:=ao st3 (st4.grow (own':=[env.locals]) (by simp)) R4 F4
 rw [ah] at href
 obtain ⟨_,_,hq,href,_⟩:=href
 cases hq
 exact hQ (.ref x) as4 h4 tk4 (ao st st34 R4 F4) R4 F4 (RepV.keep K4 _ _ href)
theorem jV {o:Expr}{x:Str}{apos pos:Pos}{args:List Expr}{args':List E}{c:CE} (e1:attributeBase o x env (eval o env)=eval o env) (hl:args.length ≤ 8) (hp:(apos.endLine == pos.line)=true) (h1:aQ (aj n c) args=some args') :
  eval (.Call (.Attribute o x apos) args [] pos) env=(do
   let ov ← eval o env
   standAt apos.atName
   let (f,first) ← holding [ov] (getMethod ov x (do return (← importBound o env).getD true))
   callWith pos f first (backTo pos (starEach args env)) []):=by
 have e2:methodCallForm (args.length + ([]:List Keyword).length) (backTo pos (starEach args env)) (backToKw pos (keywordEach [] env))=true:=by
  show methodCallForm (args.length + 0) (backTo pos (starEach args env)) []=true
  unfold methodCallForm
  have:=rZ (env:=env) (pos:=pos) h1
  have ha:(backTo pos (starEach args env)).all (fun x=>!x.1)=true:=by
   rw [List.all_eq_true]; intro y hy
   rw [List.any_eq_false] at this
   simpa using this y hy
  rw [ha]
  have:args.length + 0 + 0 < 30:=by lia
  show (true && true && decide (args.length + 0 + 0 < 30))=true
  rw [decide_eq_true this]; rfl
 show (attributeBase o x env (eval o env) >>= fun ov=>standAt apos.atName >>= fun _=>methodCall o x apos pos env ov (args.length + ([]:List Keyword).length) (backTo pos (starEach args env)) (backToKw pos (keywordEach [] env)))=_
 rw [e1]
 unfold methodCall
 rw [e2]
 unfold methodCallPos calleeOf
 rw [hp]
 rfl
theorem zo {o:Expr}{x:Str}{apos p:Pos}{a es es' m} (IH:bv g c0 call r n) (hb:d0 o=true) (hl:es.length ≤ 8) (hp:(apos.endLine == p.line)=true)
  (h0:aj n (c0.sub names) o=some a) (h1:aQ (aj n (c0.sub names)) es=some es') (hml:dO.lookup x=some m) :
  aN g c0 call r names (.Call (.Attribute o x apos) es [] p) (.meth a m es'):=fun env A X s as fr σ σ' v Q N hA T ev hQ=>by
 refine MethodCall_ (pl:=do return (← importBound o env).getD true) ?_ (jV (jw hb) hl hp h1)
 refine aB ev fun u τ e1 e2=>?_
 obtain ⟨l,xs,rfl,hx,e2⟩:=jq e2
 refine bJ e2 fun us τ' e3 e4=>?_
 obtain ⟨l',xs',hll,hx',e5⟩:=jq e4
 cases hll
 refine IH names o a h0 env A X s as fr σ τ _ _ N hA T e1 fun val as' h' tk st R' F' r'=>?_
 have T':At g env as' fr τ { s with heap:=h',toks:=tk }:=⟨F',R'⟩
 obtain ⟨hslot,hty⟩:=rd hml
 cases hG R' r' hx with
 | mk ad items mm hd ho hr hz hsz =>
  refine getMethod_list_of hslot hty ho.isList ⟨_,ho,rfl⟩ ?_
  refine aV IH (fun h _=>eY _ h) h1 N hA T' e3 fun xs as2 h2 tk2 st2 R2 F2' r2=>?_
  have T2:At g env as2 fr τ' { s with heap:=h2,toks:=tk2 }:=⟨F2',R2⟩
  exact xY (iS (P:=mOk) (l:=dO) rfl hml) T2 (hG R2 (RepV.keep (T'.keep st2) _ _ r') hx') r2 e5 (aR (s:=s) (tk:=tk2) hQ (ao st st2 R2 F2') R2 F2')
theorem qO {xs:List V}{v:V} (e:yS xs σ=.ok v σ'):∃ x,xs=[.str x] ∧ v=.str x ∧ σ'=σ:=by
 rcases xs with _ | ⟨a,_ | ⟨b,xs⟩⟩
 ·exact ax e
 ·cases a <;> first | exact ax e | skip
  obtain ⟨rfl,rfl⟩:=bw e
  exact ⟨_,rfl,rfl,rfl⟩
 ·cases a <;> exact ax e
theorem yR {sp:Str}{k:Nat}{p1 apos p:Pos}{e:Expr}{a:E} (IH:bv g c0 call r n) (hp:(apos.endLine == p.line)=true) (h1:aj n (c0.sub names) e=some a) :
  aN g c0 call r names (.Call (.Attribute (.Constant (.str sp) k p1) "join" apos) [e] [] p) (.join sp a):=fun env A X s as fr σ σ' v Q N hA T ev hQ=>by
 refine aB ev fun u τ e1 e2=>?_
 obtain ⟨l,xs,rfl,hx,e2⟩:=jq e2
 obtain ⟨x,rfl,rfl,rfl⟩:=qO e2
 have hm:aQ (aj n (c0.sub names)) [e]=some [a]:=by rw [gX,h1]; rfl
 have hes:b6 call [a] fr σ=.ok [.ref l] σ':=by show (evE call a fr σ).binds _=_; rw [e1]; rfl
 refine MethodCall_ (pl:=do return (← importBound (.Constant (.str sp) k p1) env).getD true) ?_ (jV rfl (by decide:1 ≤ 8) hp hm)
 refine wpAny_Constant_str (GM.join ?_)
 refine aV (s:={ s with toks:=s.toks + 1 }) (first:=[.str sp s.toks]) IH (fun h _=>eY _ h) hm N hA ⟨T.F,T.R⟩ hes fun ys as' h' tk st R' F' r'=>?_
 rw [ah] at r'
 obtain ⟨y,ys,rfl,r1,r2⟩:=r'
 rw [ah] at r2; subst r2
 cases hG R' r1 hx with
 | mk ad items mm hd ho hr hz hsz =>
  rw [ah] at hr
  obtain ⟨z,zs,hi,r3,r4⟩:=hr
  rw [ah] at r4; subst r4
  rw [RepV] at r3
  obtain ⟨t,rfl⟩:=r3
  have hi':items=#[.str x t]:=by apply Array.ext'; simpa using hi
  subst hi'
  refine wpAny_call_entry F.slot_str_join (typeIs_str _ _ _) F.entry_str_join ?_ (F.args_str_join_2 _ _)
  obtain ⟨other,hj⟩:=join_tree sp s.toks ad
  show wpAny _ _ (Builtin.«str.join» ⟨[.str sp s.toks,.ref ad],[]⟩) _ _ _
  rw [hj]
  refine wpAny_bind (wpAny_typeOf (show ({ s with heap:=h',toks:=tk }:Shared).TypeIs (.ref ad) "list" from ⟨_,ho,rfl⟩) ?_)
  rw [if_pos (by decide)]
  refine wpAny_bind (wpAny_seqItems ho rfl ?_)
  show wpAny _ _ (do rule "str.join.same-object"; ret (Value.str x t)) _ _ _
  refine wpAny_bind (wpAny_rule (wpAny_pure ?_))
  exact ⟨_,rfl,hQ (.str x t) as' h' tk st R' F' (by rw [RepV]; exact ⟨t,rfl⟩)⟩
theorem xh {o:Expr}{x:Str}{apos p:Pos}{a es es' f} (G:bC g K c0 fa) (C:dX g fa call r) (IH:bv g c0 call r n) (hb:d0 o=true) (hl:es.length ≤ 8) (hp:(apos.endLine == p.line)=true)
  (h0:aj n (c0.sub names) o=some a) (h1:aQ (aj n (c0.sub names)) es=some es') (hf:c0.mths.lookup x=some f) :
  aN g c0 call r names (.Call (.Attribute o x apos) es [] p) (.umeth a f es'):=fun env A X s as fr σ σ' v Q N hA T ev hQ=>by
 refine MethodCall_ (pl:=do return (← importBound o env).getD true) ?_ (jV (jw hb) hl hp h1)
 refine aB ev fun u τ e1 e2=>?_
 obtain ⟨l,d,ents,rfl,hd,he,e2⟩:=qJ e2
 refine bJ e2 fun us τ' e3 e4=>?_
 refine IH names o a h0 env A X s as fr σ τ _ _ N hA T e1 fun val as' h' tk st R' F' r'=>?_
 have T':At g env as' fr τ { s with heap:=h',toks:=tk }:=⟨F',R'⟩
 obtain ⟨fad,hfa,hpg,hfi,hfn,hkp,hna⟩:=G.mth x f hf
 refine cV (s:={ s with heap:=h',toks:=tk }) R' r' hd fun ad dx qx2 h2 h3 h4=>?_; subst qx2
 obtain ⟨es0,nn,h5,h6,_⟩:=jC (s:={ s with heap:=h',toks:=tk }) R' h3 he
 obtain ⟨m,hF,_⟩:=F'.fr R'
 refine method_inst (L:=env.locals) (h₀:=g.b) (m:=m) (es:=es0) (n:=nn) (ox:=instObj g.C dx) hF G.kin ⟨h4,rfl,rfl,h5⟩ hpg hfi hfn (kq hna h6) ?_
 refine aV (first:=[.ref ad]) IH (fk G hkp) h1 N hA T' e3 fun xs as2 h2' tk2 st2 R2 F2' r2=>?_
 have r3:=RepV.keep (T'.keep st2) _ _ r'
 refine wpAny_call (C f fad _ τ' σ' v hfa e4 A _ as2 (.ref ad :: xs) _ (hA.less (k:=1)) R2 F2'.size (by rw [ah]; exact ⟨_,_,rfl,r3,r2⟩) fun val as3 h3' tk3 st3 R3 r4=>?_)
 exact iT (s:=s) (tk:=tk2) (tk2:=tk3) hQ (ao st st2 R2 F2') R2 F2' st3 R3 r4
end
end Mine
namespace Mine
open PySem PyProof.Rows PySem.W
noncomputable def nR (src:Src) (I:Addr) (i:Nat) (as:List Addr) (h:Heap):Prop:=match src with
 | .live l=>∃ a,as[l]?=some a ∧ h.IsListIter I a i
 | .tup vs=>∃ a items n,h.get? a=some { cls:=.type "tuple",data:=.seq items n } ∧ a ∉ as ∧ ah as h vs items.toList ∧ h.IsTupleIter I a i
 | .rng lo hi=>IsRangeIter h I (lo + (i:Int) * 1) (((hi - lo).toNat:Int) - (i:Nat)) 1
 | .enum _=>False
 | .zip _ _ _=>False
theorem nR.there {src:Src}{I:Addr}{i:Nat}{as:List Addr}{h:Heap} (it:nR src I i as h):∃ o,h.get? I=some o ∧ ¬ Imm o:=by
 cases src with
 | live l =>
  obtain ⟨a,_,o,e,hc,_⟩:=it
  exact ⟨o,e,fun q=>by rcases q.1 with q | q <;> rw [hc] at q <;> simp at q⟩
 | tup vs =>
  obtain ⟨a,_,_,_,_,_,o,e,hc,_⟩:=it
  exact ⟨o,e,fun q=>by rcases q.1 with q | q <;> rw [hc] at q <;> simp at q⟩
 | rng lo hi=>exact ⟨_,it,fun q=>by rcases q.1 with q | q <;> simp at q⟩
 | enum l=>exact it.elim
 | zip l k p=>exact it.elim
theorem nR.keep {src:Src}{I:Addr}{i:Nat}{as as':List Addr}{h h':Heap} (it:nR src I i as h) (K:bR as h as' h') (hI:∀ o,h.get? I=some o→h'.get? I=some o):nR src I i as' h':=by
 cases src with
 | live l =>
  obtain ⟨a,e1,o,e2,e3⟩:=it
  exact ⟨a,K.pre _ _ e1,o,hI _ e2,e3⟩
 | tup vs =>
  obtain ⟨a,items,n,e1,e0,e2,o,e3,e4⟩:=it
  exact ⟨a,items,n,K.imm _ _ e1 dy (fun q=>absurd q e0),K.off e1 dy e0,ah.keep K _ _ e2,o,hI _ e3,e4⟩
 | rng lo hi=>exact hI _ it
 | enum l=>exact it.elim
 | zip l k p=>exact it.elim
theorem Rel.other {g:Cfg}{as:List Addr} {σ:Sto}{h h':Heap}{I:Addr} (R:Rel g as σ h) (k:∀ (b:Addr) (o:Obj),b ≠ I→h.get? b=some o→h'.get? b=some o) (hI:I ∉ as) (hb:g.b.get? I=none) (hi:∀ o,h.get? I=some o→¬ Imm o) :
  bR as h as h' ∧ Rel g as σ h':=by
 have K:bR as h as h':=.same fun b o e im _=>k b o (fun q=>by subst q; exact hi o e im) e
 exact ⟨K,⟨fun b o e=>k b o (fun q=>by subst q; rw [hb] at e; cases e) (R.base b o e),R.len,R.nd,R.new,fun i b o h1 h2=>(R.obj i b o h1 h2).keep K fun ob e=>k b ob (fun q=>hI (q ▸ List.mem_of_getElem? h1)) e,R.hnd.keep K⟩⟩
section
variable {g:Cfg}{env:Env}{A:Around}{X:Value→Shared→Prop}{s:Shared}{as:List Addr}{fr:Fra} {σ σ':Sto}
theorem qp {src:Src}{I:Addr}{i:Nat}{v:V}{Q:Option Value→Shared→Prop} (R:Rel g as σ s.heap) (it:nR src I i as s.heap) (hI:I ∉ as) (hb:g.b.get? I=none) (e:bc σ i src=some (some v))
  (hQ:∀ val h' tk,(∀ (b:Addr) (o:Obj),b ≠ I→s.heap.get? b=some o→h'.get? b=some o)→bR as s.heap as h'→Rel g as σ h'→nR src I (i + 1) as h'→RepV as h' v val→Q (some val) { s with heap:=h',toks:=tk }) :
  wpAny (model g.prog g.w) A (pyNext (.ref I)) Q X s:=by
 have hth:=it.there
 have hni:∀ o,s.heap.get? I=some o→¬ Imm o:=fun o e=>by obtain ⟨o',e',n⟩:=hth; rw [e] at e'; cases e'; exact n
 cases src with
 | live l =>
  obtain ⟨a,e1,e2⟩:=it
  obtain ⟨xs,e3,e4⟩:=Option.map_eq_some_iff.mp e
  have r0:RepV as s.heap (.ref l) (.ref a):=by rw [RepV]; exact ⟨a,rfl,e1⟩
  refine aw R r0 e3 fun a' items n q hd ho hr hz hsz=>?_
  cases q
  obtain ⟨val,h1,h2⟩:=(ah.f2.mp hr).get e4
  refine wpAny_pyNext_list_item e2 ho.isList (by simpa using h1) fun h' hit hs=>?_
  have k:∀ (b:Addr) (o:Obj),b ≠ I→s.heap.get? b=some o→h'.get? b=some o:=fun b o hb e=>by rw [hs.2 b hb]; exact e
  obtain ⟨K,R'⟩:=R.other k hI hb hni
  exact hQ val h' s.toks k K R' ⟨a,e1,hit⟩ (RepV.keep K _ _ h2)
 | tup vs =>
  obtain ⟨a,items,n,e1,e0,e2,e3⟩:=it
  simp only [bc,Option.some.injEq] at e
  obtain ⟨val,h1,h2⟩:=(ah.f2.mp e2).get e
  refine wpAny_pyNext_tuple_item e3 ⟨_,e1,rfl,n,rfl⟩ (by simpa using h1) fun h' hit hs=>?_
  have k:∀ (b:Addr) (o:Obj),b ≠ I→s.heap.get? b=some o→h'.get? b=some o:=fun b o hb e=>by rw [hs.2 b hb]; exact e
  obtain ⟨K,R'⟩:=R.other k hI hb hni
  exact hQ val h' s.toks k K R' ⟨a,items,n,K.imm _ _ e1 dy (fun q=>absurd q e0),e0,ah.keep K _ _ e2,hit⟩ (RepV.keep K _ _ h2)
 | rng lo hi =>
  simp only [bc,Option.some.injEq,iG] at e
  have hlt:i < (hi - lo).toNat:=by
   have:=(List.getElem?_eq_some_iff.mp e).1; simpa using this
  have hv:v=.int (lo + (i:Int)):=by
   rw [List.getElem?_map,List.getElem?_range hlt] at e
   simpa using e.symm
  subst hv
  refine wpAny_pyNext_range_item it (by lia) fun h' hit hs=>?_
  have k:∀ (b:Addr) (o:Obj),b ≠ I→s.heap.get? b=some o→h'.get? b=some o:=fun b o hb e=>by rw [hs.2 b hb]; exact e
  obtain ⟨K,R'⟩:=R.other k hI hb hni
  have e1:lo + (i:Int) * 1 + 1=lo + ((i + 1:Nat):Int) * 1:=by lia
  have e2:((hi - lo).toNat:Int) - (i:Nat) - 1=((hi - lo).toNat:Int) - ((i + 1:Nat):Int):=by lia
  rw [e1,e2] at hit
  exact hQ _ h' _ k K R' hit (by rw [RepV]; exact ⟨_,by rw [Int.mul_one]⟩)
 | enum l=>exact it.elim
 | zip l k p=>exact it.elim
theorem ru {src:Src}{I:Addr}{i:Nat}{Q:Option Value→Shared→Prop} (hA:A.handled=g.hd.map .ref) (R:Rel g as σ s.heap) (it:nR src I i as s.heap) (hI:I ∉ as) (hb:g.b.get? I=none) (hsm:∀ lo hi,src=.rng lo hi→i ≤ (hi - lo).toNat)
  (hst':∀ vs,src=.tup vs→i ≤ vs.length) (e:bc σ i src=some none)
  (hQ:∀ h' tk,(∀ (b:Addr) (o:Obj),b ≠ I→s.heap.get? b=some o→h'.get? b=some o)→bR as s.heap as h'→Rel g as σ h'→Q none { s with heap:=h',toks:=tk }) :
  wpAny (model g.prog g.w) A (pyNext (.ref I)) Q X s:=by
 have hth:=it.there
 have hni:∀ o,s.heap.get? I=some o→¬ Imm o:=fun o e=>by obtain ⟨o',e',n⟩:=hth; rw [e] at e'; cases e'; exact n
 have fin:∀ h' tk,(∀ (b:Addr) (o:Obj),b ≠ I→s.heap.get? b=some o→h'.get? b=some o)→Q none { s with heap:=h',toks:=tk }:=fun h' tk k=>by
  obtain ⟨K,R'⟩:=R.other k hI hb hni
  exact hQ h' tk k K R'
 cases src with
 | live l =>
  obtain ⟨a,e1,e2⟩:=it
  obtain ⟨xs,e3,e4⟩:=Option.map_eq_some_iff.mp e
  have r0:RepV as s.heap (.ref l) (.ref a):=by rw [RepV]; exact ⟨a,rfl,e1⟩
  refine aw R r0 e3 fun a' items n q hd ho hr hz hsz=>?_
  cases q
  refine uA (jJ hA R) e2 ho.isList ?_ fun h' hs=>fin h' s.toks hs
  rw [Array.getElem?_eq_none_iff,hsz]
  exact List.getElem?_eq_none_iff.mp e4
 | tup vs =>
  obtain ⟨a,items,n,e1,e0,e2,e3⟩:=it
  simp only [bc,Option.some.injEq] at e
  have h3:vs.length=items.size:=(ah.f2.mp e2).length
  refine kR (jJ hA R) e3 ⟨_,e1,rfl,n,rfl⟩ ?_ fun h' hs=>fin h' s.toks hs
  rw [Array.getElem?_eq_none_iff,← h3]
  exact List.getElem?_eq_none_iff.mp e
 | rng lo hi =>
  simp only [bc,Option.some.injEq,iG] at e
  have h1:=List.getElem?_eq_none_iff.mp e
  rw [List.length_map,List.length_range] at h1
  have h2:=hsm lo hi rfl
  have:i=(hi - lo).toNat:=by lia
  subst this
  exact qA (jJ hA R) it (by lia) fun h' hs=>fin h' s.toks hs
 | enum l=>exact it.elim
 | zip l k p=>exact it.elim
theorem lx {v:V}{x:Value}{src:Src}{Q:Value→Shared→Prop} (T:At g env as fr σ s) (r:RepV as s.heap v x) (hs:iI v=some src) (hl:∀ l,src=.live l→∃ xs,getL σ l=some xs)
  (hQ:∀ o,At g env as fr σ { s with heap:=s.heap.push o }→nR src s.heap.objs.size 0 as (s.heap.push o)→Q (.ref s.heap.objs.size) { s with heap:=s.heap.push o }):wpAny (model g.prog g.w) A (pyIter x) Q X s:=by
 cases v with
 | ref l =>
  cases hs
  obtain ⟨xs,e⟩:=hl l rfl
  refine aw T.R r e fun a items n qx hd ho hr hz hsz=>?_; subst qx
  exact wpAny_pyIter_list ho.isList (hQ _ (T.push _) ⟨a,hd,⟨_,Heap.get?_push_size _ rfl,rfl,rfl⟩⟩)
 | tup vs =>
  cases hs
  have r':=r
  rw [RepV] at r
  obtain ⟨a,items,n,rfl,ho,hz,hr⟩:=r
  refine wpAny_pyIter_tuple ⟨_,ho,rfl,n,rfl⟩ (hQ _ (T.push _) ⟨a,items,n,az _ _ _ _ ho,hz.2,ah.keep (T.R.keep0 (bG as s.heap _ [])) _ _ hr,⟨_,Heap.get?_push_size _ rfl,rfl,rfl⟩⟩)
 | rng lo hi =>
  cases hs
  rw [RepV] at r
  obtain ⟨a,t,u,v,rfl,ho,hb⟩:=r
  obtain ⟨h1,h2⟩:=jH hb
  refine wpAny_pyIter_range ho h2 (hQ _ (T.push _) ?_)
  show IsRangeIter _ _ (lo + ((0:Nat):Int) * 1) (((hi - lo).toNat:Int) - ((0:Nat):Int)) 1
  rw [h1]
  have e1:lo + ((0:Nat):Int) * 1=lo:=by simp
  have e2:(((hi - lo).toNat:Int) - ((0:Nat):Int))=((hi - lo).toNat:Int):=by simp
  rw [e1,e2]
  exact Heap.get?_push_size _ rfl
 | _=>cases hs
end
end Mine
namespace Mine
open PySem PyProof.Rows PySem.W
set_option tactic.hygienic true in
theorem gu {c:CE}{x:Str}{i:Nat} (e:c.locW? x=some i):∃ k,c.names[i]?=some (x,k) ∧ (k=.local ∨ k=.cell):=by
 unfold CE.locW? at e
 split at e
 ·rename_i h; obtain ⟨j,h1,h2⟩:=bp h; rw [h1] at e; cases e; exact ⟨_,h2,.inl rfl⟩
 ·rename_i h; obtain ⟨j,h1,h2⟩:=bp h; rw [h1] at e; cases e; exact ⟨_,h2,.inr rfl⟩
 ·cases e
theorem gO {l:List (Str × NameKind)} (nd:(l.map (·.1)).Nodup) {i j:Nat}{x:Str}{k k':NameKind} (e:l[i]?=some (x,k)) (e':l[j]?=some (x,k')):i=j:=by
 obtain ⟨h1,h2⟩:=List.getElem?_eq_some_iff.mp e
 obtain ⟨h3,h4⟩:=List.getElem?_eq_some_iff.mp e'
 have e1:(l.map (·.1))[i]'(by simpa using h1)=x:=by simp [h2]
 have e2:(l.map (·.1))[j]'(by simpa using h3)=x:=by simp [h4]
 exact (List.getElem_inj nd).mp (e1.trans e2.symm)
section
variable {g:Cfg}{env:Env}{A:Around}{X:Value→Shared→Prop}{s:Shared}{as:List Addr}{fr:Fra} {σ σ':Sto}{c:CE}{own:List Addr}
noncomputable def yX (c:CE) (env:Env) (own:List Addr):Prop:=env.locals ∈ own ∧ (∀ (i:Nat) (x:Str),c.names[i]?=some (x,.cell)→∀ a,env.cells.lookup x=some a→a ∈ own) ∧ ∀ a ∈ own,a ∈ ownOf env
theorem eW (c:CE) (env:Env):yX c env (ownOf env):=⟨.head _,fun _ _ _ _ e=>gH e,fun _ h=>h⟩
theorem ur {c:CE}{env:Env} (h:∀ x ∈ c.names,x.2 ≠ .cell):yX c env [env.locals]:=⟨.head _,fun i x e=>absurd rfl (h (x,.cell) (List.mem_of_getElem? e)),fun a ha=>by simp at ha; subst ha; exact .head _⟩
noncomputable def iN (g:Cfg) (env:Env) (own:List Addr) (as:List Addr) (σ:Sto) (s:Shared) (fr:Fra) (Q:Unit→Shared→Prop):Prop :=
 ∀ (as':List Addr) (h':Heap) (tk:Nat),aC own as s.heap as' h'→bR as s.heap as' h'→Rel g as' σ h'→ay g env as' fr h'→Q () { s with heap:=h',toks:=tk }
theorem gE {x:Str}{i:Nat}{v:V}{val:Value}{Q:Unit→Shared→Prop} (T:At g env as fr σ s) (N:aq c env A) (O:yX c env own) (hl:c.locW? x=some i) (r:RepV as s.heap v val)
  (hQ:iN g env own as σ s (fr.set i (some v)) Q):wpAny (model g.prog g.w) A (storeName env x val) Q X s:=by
 obtain ⟨k,h1,h2⟩:=gu hl
 obtain ⟨k',h3,h4⟩:=N.get h1
 have hk:k'=k:=by
  rcases h4 with h4 | h4
  ·exact h4.symm
  ·rcases h2 with q | q <;> rw [q] at h4 <;> cases h4.1
 subst hk
 have hx:env.kindOf x=some k':=be T.F.nd h3
 have hi:i < fr.length:=by rw [T.F.len]; exact (List.getElem?_eq_some_iff.mp h3).1
 rcases h2 with rfl | rfl
 ·obtain ⟨m,hm,hv⟩:=T.F.ns
  refine wpAny_storeName_local hx hm (fun h' hns hs=>?_) (hp:=by rw [T.F.kind]; rfl)
  have k:∀ (b:Addr) (o:Obj),b ≠ env.locals→s.heap.get? b=some o→h'.get? b=some o:=fun b o hb e=>by rw [hs.2 b hb]; exact e
  have x0:aC [env.locals] as s.heap as h':=⟨⟨[],by simp,by simp⟩,fun b o e hb _=>k b o (by simpa using hb) e⟩
  have K:=T.R.keep x0 T.F.notImm
  have hLb:g.b.get? env.locals=none:=by
   cases e:g.b.get? env.locals with
   | none=>rfl
   | some o=>exact absurd (Heap.lt_size e) (Nat.not_lt.mpr T.F.above)
  obtain ⟨_,R'⟩:=T.R.other k T.F.off hLb (fun o e=>T.F.notImm _ (.head _) o e)
  refine hQ as h' _ (x0.grow (by intro a ha; simp at ha; subst ha; exact O.1)) K R' ?_
  refine ⟨T.F.kind,T.F.above,T.F.glob,T.F.blt,by rw [List.length_set]; exact T.F.len,T.F.nd,⟨_,hns,fun j y w e1 e2=>?_⟩,fun j y kk e1 e2=>?_,T.F.off,fun y c' hc'=>⟨(T.F.offc _ _ hc').1,(T.F.offc _ _ hc').2.1,?_⟩,T.F.apart,T.F.newc⟩
  ·by_cases hy:y=x
   ·subst hy
    have:=gO T.F.nd h3 e1; subst this
    rw [List.getElem?_set_self hi] at e2
    simp only [Option.some.injEq] at e2; subst e2
    exact ⟨val,by simp,RepV.keep K _ _ r⟩
   ·have hij:i ≠ j:=fun q=>by subst q; rw [h3] at e1; cases e1; exact hy rfl
    rw [List.getElem?_set_ne hij] at e2
    obtain ⟨val',q1,q2⟩:=hv j y w e1 e2
    exact ⟨val',by simp [hy,q1],RepV.keep K _ _ q2⟩
  ·obtain ⟨cc,cv,q1,⟨o,q2,q2'⟩,q3⟩:=T.F.cells j y kk e1 e2
   have hij:i ≠ j:=fun q=>by subst q; rw [h3] at e1; cases e1; rcases e2 with e2 | e2 <;> cases e2
   refine ⟨cc,cv,q1,⟨o,k _ _ (T.F.offc _ _ q1).2.1 q2,q2'⟩,fun w e=>?_⟩
   rw [List.getElem?_set_ne hij] at e
   obtain ⟨val',q4,q5⟩:=q3 w e
   exact ⟨val',q4,RepV.keep K _ _ q5⟩
  ·obtain ⟨cv,o,e,e'⟩:=(T.F.offc _ _ hc').2.2
   exact ⟨cv,o,k _ _ (T.F.offc _ _ hc').2.1 e,e'⟩
 ·obtain ⟨cc,cv,q1,q2,q3⟩:=T.F.cells i x _ h3 (.inl rfl)
  refine wpAny_storeName_cell T.F.kind hx q1 q2 fun h' hc' hs=>?_
  have k:∀ (b:Addr) (o:Obj),b ≠ cc→s.heap.get? b=some o→h'.get? b=some o:=fun b o hb e=>by rw [hs.2 b hb]; exact e
  have hni:∀ o,s.heap.get? cc=some o→¬ Imm o:=fun o e hi=>by
   obtain ⟨o',e',hd⟩:=q2
   rw [e] at e'; cases e'
   exact hi.2.2 _ hd
  have hoff:=T.F.offc _ _ q1
  have hcb:g.b.get? cc=none:=T.F.newc _ _ q1
  obtain ⟨K,R'⟩:=T.R.other k hoff.1 hcb hni
  have hmem:cc ∈ own:=O.2.1 _ _ h1 _ q1
  refine hQ as h' s.toks ⟨⟨[],by simp,by simp⟩,fun b o e hb _=>k b o (fun q=>hb (q ▸ hmem)) e⟩ K R' ?_
  obtain ⟨m,hm,hv⟩:=T.F.ns
  refine ⟨T.F.kind,T.F.above,T.F.glob,T.F.blt,by rw [List.length_set]; exact T.F.len,T.F.nd,⟨m,hm.at' fun o e=>k _ o (Ne.symm hoff.2.1) e,fun j y w e1 e2=>?_⟩,fun j y kk e1 e2=>?_,T.F.off,fun y c' hc'=>⟨(T.F.offc _ _ hc').1,(T.F.offc _ _ hc').2.1,?_⟩,T.F.apart,T.F.newc⟩
  ·have hij:i ≠ j:=fun q=>by subst q; rw [h3] at e1; cases e1
   rw [List.getElem?_set_ne hij] at e2
   obtain ⟨val',p1,p2⟩:=hv j y w e1 e2
   exact ⟨val',p1,RepV.keep K _ _ p2⟩
  ·by_cases hy:y=x
   ·subst hy
    have:=gO T.F.nd h3 e1; subst this
    refine ⟨cc,some val,q1,hc',fun w e=>?_⟩
    rw [List.getElem?_set_self hi] at e
    simp only [Option.some.injEq] at e; subst e
    exact ⟨val,rfl,RepV.keep K _ _ r⟩
   ·have hij:i ≠ j:=fun q=>by subst q; rw [h3] at e1; cases e1; exact hy rfl
    obtain ⟨c2,cv2,p1,⟨o,p2,p2'⟩,p3⟩:=T.F.cells j y kk e1 e2
    have hcc:c2 ≠ cc:=fun q=>by subst q; exact hy (T.F.apart _ _ _ p1 q1)
    refine ⟨c2,cv2,p1,⟨o,k _ _ hcc p2,p2'⟩,fun w e=>?_⟩
    rw [List.getElem?_set_ne hij] at e
    obtain ⟨val',p4,p5⟩:=p3 w e
    exact ⟨val',p4,RepV.keep K _ _ p5⟩
  ·obtain ⟨cv2,o,e,e'⟩:=(T.F.offc _ _ hc').2.2
   by_cases hcc:c'=cc
   ·subst hcc; exact ⟨_,hc'⟩
   ·exact ⟨cv2,o,k _ _ hcc e,e'⟩
theorem iN.of {fr':Fra} {σ1:Sto}{as':List Addr}{h':Heap}{tk:Nat}{Q:Unit→Shared→Prop} (O:∀ a ∈ own,a ∈ ownOf env) (hQ:iN g env own as σ' s fr' Q) (x:aC own as s.heap as' h') (K:bR as s.heap as' h') :
  iN g env own as' σ' { s with heap:=h',toks:=tk } fr' Q:=fun as2 h2 tk2 x2 K2 R2 F2' =>
 hQ as2 h2 tk2 (x.trans x2 R2.nd fun a ha=>F2'.offs a (O a ha)) (K.trans K2) R2 F2'
theorem oV {elts:List Expr}{is:List Nat} (h:bM c elts=some is):(assignEach elts env).length=is.length ∧ (assignEach elts env).findIdx? (·.1)=none:=by
 induction elts generalizing is with
 | nil=>rw [bM] at h; cases h; exact ⟨rfl,rfl⟩
 | cons e r ih =>
  refine bX (show fT List.cons ((dS e).bind c.locW?) (bM c r)=some is from h) fun i js h1 h2 qx4=>?_; subst qx4
  refine bq h1 fun x h3 h4=>?_
  obtain ⟨p,rfl⟩:=bK h3
  obtain ⟨a,b⟩:=ih h2
  refine ⟨congrArg Nat.succ a,?_⟩
  show List.findIdx? _ ((false,assign (.Name x p) env) :: assignEach r env)=none
  rw [List.findIdx?_cons,b]; rfl
theorem kt (N:aq c env A) (O:yX c env own) {Q:Unit→Shared→Prop}:∀ (elts:List Expr) (is:List Nat) (vs:List V) (vals:List Value) (s:Shared) (fr:Fra) (as:List Addr),bM c elts=some is→At g env as fr σ s→ah as s.heap vs vals→vs.length=is.length →
  iN g env own as σ s ((is.zip vs).foldl (fun f p=>f.set p.1 (some p.2)) fr) Q→wpAny (model g.prog g.w) A (assignInOrder ((assignEach elts env).map (·.2)) vals) Q X s
 | [],is,vs,vals,s,fr,as,h,T,r,hl,hQ=>by
  rw [bM] at h; cases h
  cases vs with
  | nil =>
   rw [ah] at r; subst r
   exact wpAny_pure (hQ as s.heap s.toks (aC.refl _ _ _) (.same fun _ _ e _ _=>e) T.R T.F)
  | cons a b=>simp at hl
 | e :: elts,is,vs,vals,s,fr,as,h,T,r,hl,hQ=>by
  refine bX (show fT List.cons ((dS e).bind c.locW?) (bM c elts)=some is from h) fun i js h1' h2 qx4=>?_; subst qx4
  refine bq h1' fun x h3 h1=>?_
  obtain ⟨p,rfl⟩:=bK h3
  cases vs with
  | nil=>exact nomatch hl
  | cons v vs =>
   rw [ah] at r
   obtain ⟨y,ys,rfl,r1,r2⟩:=r
   show wpAny _ A (do holding ys (assign (.Name x p) env y); assignInOrder ((assignEach elts env).map (·.2)) ys) Q X s
   refine wpAny_bind (wpAny_holding (wpAny_assign_Name (gE T N O h1 r1 fun as' h' tk st K R' F'=>?_)))
   exact kt N O elts js vs ys _ _ as' h2 ⟨F',R'⟩ (ah.keep K _ _ r2) (Nat.succ.inj hl) (iN.of (σ1:=σ) O.2.2 hQ st K)
set_option tactic.hygienic true in
theorem jz {target:Expr}{tg:List Nat}{one:Bool}{v:V}{val:Value}{fr':Fra}{Q:Unit→Shared→Prop} (hA:A.handled=g.hd.map .ref) (T:At g env as fr σ s) (N:aq c env A) (O:yX c env own) (ht:tgt c target=some (tg,one)) (r:RepV as s.heap v val)
  (e:bW tg one v fr=some fr') (hQ:iN g env own as σ s fr' Q):wpAny (model g.prog g.w) A (assign target env val) Q X s:=by
 unfold tgt at ht
 cases hn:dS target with
 | some x =>
  rw [hn] at ht
  refine bT ht fun i h1 h2=>?_
  obtain ⟨p,rfl⟩:=bK hn
  cases h2
  have e':(if i < fr.length then some (fr.set i (some v)) else none)=some fr':=e
  split at e'
  ·cases e'
   exact wpAny_assign_Name (gE T N O h1 r hQ)
  ·exact nn e'
 | none =>
  rw [hn] at ht
  cases hv:vw target <;> rw [hv] at ht <;> first | exact nn ht | skip
  rename_i ts
  refine bT ht fun is h1 h2=>?_
  obtain ⟨kk,tp,rfl⟩:=bE hv
  cases h2
  cases v <;> first | exact nn e | skip
  rename_i vs
  have e':(if vs.length=tg.length ∧ tg.all (· < fr.length) then some ((tg.zip vs).foldl (fun f p=>f.set p.1 (some p.2)) fr) else none)=some fr':=e
  split at e'
  ·rename_i hc
   cases e'
   rw [RepV] at r
   obtain ⟨a,items,n,rfl,ho,hz,hr⟩:=r
   obtain ⟨q1,q2⟩:=oV (env:=env) h1
   have hl:=(ah.f2.mp hr).length
   refine kQ (jJ hA T.R) ⟨_,ho,rfl,n,rfl⟩ (by rw [q1,← hc.1]; exact hl) q2 fun h' k=>?_
   have x0:aC [] as s.heap as h':=aC.of_ext k
   have K:=T.R.keep0 x0
   exact kt N O _ _ vs items.toList { s with heap:=h' } fr as h1 ⟨T.frame x0,T.R.ext k⟩ (ah.keep K _ _ hr) hc.1 (iN.of (tk:=s.toks) (σ1:=σ) O.2.2 hQ (x0.grow (fun _ h=>nomatch h)) K)
  ·exact nn e'
theorem Bx {src:Src}{I:Addr}{i:Nat}{target:Expr}{val:Value}{Q:Unit→Shared→Prop} (it:nR src I i as s.heap) (h:Q () s):wpAny (model g.prog g.w) A (letOwnedTupleGo target (.ref I) val) Q X s:=by
 have key:∃ o n vs,s.heap.get? I=some o ∧ o.cls=.type n ∧ o.data=.fields vs ∧ (["enumerate","zip","dict_itemiterator","dict_reverseitemiterator","odict_iterator","itertools.zip_longest","itertools.pairwise"].contains n)=false:=by
  cases src with
  | live l=>obtain ⟨a,_,o,e,hc,hd⟩:=it; exact ⟨o,_,_,e,hc,hd,by decide⟩
  | tup vs=>obtain ⟨a,_,_,_,_,_,o,e,hc,hd⟩:=it; exact ⟨o,_,_,e,hc,hd,by decide⟩
  | rng lo hi=>exact ⟨_,_,_,it,rfl,rfl,by decide⟩
  | enum l=>exact it.elim
  | zip l k p=>exact it.elim
 obtain ⟨o,n,vs,h1,h2,h3,h4⟩:=key
 have main:wpAny (model g.prog g.w) A (do
  let (.ref r,.ref a):=(Value.ref I,val) | return
  let o ← load r
  match o.cls,o.data with
  | .type n,.fields vs =>
   if ["enumerate","zip","dict_itemiterator","dict_reverseitemiterator","odict_iterator","itertools.zip_longest","itertools.pairwise"].contains n && vs[0]? == some (rawInt a) then
    rule "for.unpacks-the-owned-tuple"
    updateField r 0 .none
  | _,_=>pure ():Sem Unit) Q X s:=by
  cases val with
  | ref a =>
   refine wpAny_bind (wpAny_load h1 ?_)
   rw [h2,h3]
   simp only [h4,Bool.false_and,Bool.false_eq_true,if_false]
   exact wpAny_pure h
  | _=>exact wpAny_pure h
 cases target <;> first | exact wpAny_pure h | exact main
end
section
variable {prog:Program}{w:World}{A:Around}{R:Result→Shared→Prop}{s:Shared}
theorem nK {target it body orelse env} (I:Nat→Shared→Prop)
  (turn:∀ n s,I n s→wpAny (model prog w) A (pyNext it) (fun r s₁=>match r with
   | none=>wpAny (model prog w) A (execs orelse env) (fun f s₃=>R (.ok f) s₃) (notedBy (model prog w) A env fun e s'=>R (.error e) s') s₁
   | some v=>wpAny (model prog w) A (letOwnedTupleGo target it v) (fun _ s₁=>wpAny (model prog w) A (assign target env v) (fun _ s₂=>wpAny (model prog w) A (execs body env) (fun f s₃=>match f with
     | .next | .cont=>∃ m,m < n ∧ I m s₃
     | .brk=>R (.ok .next) s₃
     | .ret v=>R (.ok (.ret v)) s₃) (notedBy (model prog w) A env fun e s'=>R (.error e) s') s₂) (notedBy (model prog w) A env fun e s'=>R (.error e) s') s₁) (notedBy (model prog w) A env fun e s'=>R (.error e) s') s₁) (notedBy (model prog w) A env fun e s'=>R (.error e) s') s)
  (n:Nat) (h:I n s):codeAny (model prog w) A (.forLoop target it body orelse env) R s:=by
 refine codeAny_loop' rfl I (fun n s hI=>?_) n h
 show wpAny _ _ ((forTurn target it body orelse env).onRaise (fun x=>do noteFrame x env; theTreesLotGoes x)) _ _ s
 refine wpAny_noted ?_
 simp only [forTurn]
 refine wpAny_bind (wpAny_standAt (wpAny_bind (wpAny_onRaise (wpAny_mono (turn n s hI) (fun r s₁ h₁=>?_) fun _ _ h'=>wpAny_standAt h'))))
 cases r with
 | none=>exact wpAny_pure (.inr ⟨rfl,codeAny_block h₁⟩)
 | some v =>
  refine wpAny_bind (wpAny_mono h₁ (fun _ s₁ h₁=>?_) fun _ _ h'=>h')
  refine wpAny_bind (wpAny_mono h₁ (fun _ s₂ h₂=>wpAny_bind (wpAny_mono h₂ (fun f s₃ h₃=>?_) fun _ _ h'=>h')) fun _ _ h'=>h')
  cases f with
  | next=>exact wpAny_pure (.inl ⟨rfl,h₃⟩)
  | cont=>exact wpAny_pure (.inl ⟨rfl,h₃⟩)
  | brk=>exact wpAny_pure h₃
  | ret v=>exact wpAny_pure h₃
theorem qQ {elt target iter:Expr}{ifs:List Expr}{scope:Scope}{pos:Pos}{it acc:Value}{env:Env} (I:Nat→Shared→Prop)
  (turn:∀ n s,I n s→wpAny (model prog w) A (pyNext it) (fun r s₁=>match r with
   | none=>R (.ok .next) s₁
   | some v=>wpAny (model prog w) A (letOwnedTupleGo target it v) (fun _ s₁=>wpAny (model prog w) A (assign target env v) (fun _ s₂ =>
     wpAny (model prog w) A (forIn ifs true fun c r=>if r=true then do let ok ← isTrue c env (eval c env); pure (ForInStep.yield ok) else pure (ForInStep.yield r)) (fun ok s₃ =>
      if ok=true then wpAny (model prog w) A (eval elt env) (fun x s₄ =>
       wpAny (model prog w) A (call (.builtin "list.append") [acc,x]) (fun _ s₅=>∃ m,m < n ∧ I m s₅) (notedBy (model prog w) A env fun e s'=>R (.error e) s') s₄) (notedBy (model prog w) A env fun e s'=>R (.error e) s') s₃
      else ∃ m,m < n ∧ I m s₃) (notedBy (model prog w) A env fun e s'=>R (.error e) s') s₂) (notedBy (model prog w) A env fun e s'=>R (.error e) s') s₁) (notedBy (model prog w) A env fun e s'=>R (.error e) s') s₁) (notedBy (model prog w) A env fun e s'=>R (.error e) s') s)
  (n:Nat) (h:I n s) :
  codeAny (model prog w) A (.compLoop (.ListComp elt [⟨target,iter,ifs,0⟩] scope pos) 0 it acc env) R s:=by
 refine codeAny_loop rfl I (fun n s hI=>?_) n h
 show wpAny _ A ((compTurn (.ListComp elt [⟨target,iter,ifs,0⟩] scope pos) 0 it acc env).onRaise (fun x=>do noteFrame x env; theTreesLotGoes x)) _ _ s
 refine wpAny_noted ?_
 rw [compTurn_list]
 refine wpAny_bind (wpAny_standAt (wpAny_bind (wpAny_mono (turn n s hI) (fun r s₁ h₁=>?_) fun _ _ h'=>h')))
 cases r with
 | none=>exact wpAny_pure h₁
 | some v =>
  refine wpAny_bind (wpAny_mono h₁ (fun _ s₁ h₁=>?_) fun _ _ h'=>h')
  refine wpAny_bind (wpAny_mono h₁ (fun _ s₂ h₂=>wpAny_bind (wpAny_mono h₂ (fun ok s₃ h₃=>?_) fun _ _ h'=>h')) fun _ _ h'=>h')
  cases ok with
  | false=>exact wpAny_pure ⟨rfl,h₃⟩
  | true =>
   exact wpAny_bind (wpAny_bind (wpAny_mono h₃ (fun x s₄ h₄=>wpAny_bind (wpAny_mono h₄ (fun _ s₅ h₅=>wpAny_pure (wpAny_pure ⟨rfl,h₅⟩)) fun _ _ h'=>h')) fun _ _ h'=>h'))
end
end Mine
namespace Mine
open PySem PyProof.Rows PySem.W
noncomputable def iF (i:Nat):Src→Prop
 | .live _=>True
 | .tup vs=>i ≤ vs.length
 | .rng lo hi=>i ≤ (hi - lo).toNat
 | .enum _=>True
 | .zip _ _ _=>True
theorem iF.tup {i:Nat}{src:Src} (h:iF i src):∀ vs,src=.tup vs→i ≤ vs.length:=fun vs e=>by subst e; exact h
theorem iF.rng {i:Nat}{src:Src} (h:iF i src):∀ lo hi,src=.rng lo hi→i ≤ (hi - lo).toNat:=fun lo hi e=>by subst e; exact h
theorem iF.zero {src:Src}:iF 0 src:=by cases src <;> first | trivial | exact Nat.zero_le _
theorem iF.next {σ:Sto}{i:Nat}{src:Src}{v:V} (h:bc σ i src=some (some v)):iF (i + 1) src:=by
 cases src with
 | live l=>trivial
 | tup vs=>exact (List.getElem?_eq_some_iff.mp (Option.some.inj h)).1
 | rng lo hi =>
  have:=(List.getElem?_eq_some_iff.mp (Option.some.inj h)).1
  unfold iG at this
  rw [List.length_map,List.length_range] at this
  exact this
 | enum l=>trivial
 | zip l k p=>trivial
theorem jW {α:Type}{o:Option (Option V)}{bad fin z:α}{k:V→α}{G:Prop} (e:oP o bad fin k=z) (hb:bad=z→G) (h1:o=some none→fin=z→G) (h2:∀ v,o=some (some v)→k v=z→G):G :=
 fO e (fun _=>hb) fun p hp e=>fO e (fun q=>h1 (hp.trans (congrArg some q))) fun v q=>h2 v (hp.trans (congrArg some q))
theorem lF {α:Type}{o:Option Src} {σ:Sto}{bad z:α}{f:Src→Nat→α}{G:Prop} (e:tW o σ bad f=z) (hb:bad=z→G) (h:∀ src n,o=some src→(∃ m,my σ src=some m)→f src n=z→G):G :=
 fO e (fun _=>hb) fun src hs e=>fO e (fun _=>hb) fun n hn e=>h src _ hs ⟨n,hn⟩ e
theorem rp {α:Type}{v:V} {σ:Sto}{bad z:α}{f:Src→Nat→α}{G:Prop} (e:zL v σ bad f=z) (hb:bad=z→G) (h:∀ src n,iI v=some src→(∀ l,src=.live l→∃ xs,getL σ l=some xs)→f src n=z→G):G :=
 lF e hb fun src n hs hn e=>h src n hs (fun l q=>by
  subst q
  obtain ⟨m,hn⟩:=hn
  obtain ⟨xs,hx,_⟩:=Option.map_eq_some_iff.mp hn
  exact ⟨xs,hx⟩) e
theorem qN {Ψ:List V→Sto→Prop}{a b:List V}{s t:Sto} (e:REs.ok a s=.ok b t) (h:Ψ b t):Ψ a s:=by cases e; exact h
section
variable {tg:List Nat}{one:Bool}{cond elt:Fra→Sto→RE}{src:Src}{n i:Nat}{fr:Fra} {σ σ':Sto}{acc ys:List V}{G:Prop}
theorem yV {α:Type}{r:RE}{k:V→Sto→Option α}{z:α} (e:r.opt k=some z) (h:∀ v τ,r=.ok v τ→k v τ=some z→G):G :=
 RE.casesOn (motive:=fun t=>r=t→t.opt k=some z→G) r h (fun _ _ _ q=>nn q) (fun _ q=>nn q) rfl e
theorem v7 {α:Type}{c:V}{a b:Option α}{z:α} (e:yl c a b=some z) (h1:c=.bool true→a=some z→G) (h2:c=.bool false→b=some z→G):G:=by
 cases c with
 | bool p=>cases p with
  | true=>exact h1 rfl e
  | false=>exact h2 rfl e
 | _=>exact nn e
theorem kX {v:V}{t:Fra × List V × Sto} (Ψ:Fra × List V × Sto→Prop) (e:lX tg one cond elt v fr σ acc=some t) (hΨ:Ψ t)
  (h:∀ fr1,bW tg one v fr=some fr1→(∀ G2:Prop,(∀ τ y υ,cond fr1 σ=.ok (.bool true) τ→elt fr1 τ=.ok y υ→Ψ (fr1,acc ++ [y],υ)→G2)→(∀ τ,cond fr1 σ=.ok (.bool false) τ→Ψ (fr1,acc,τ)→G2)→G2)→G):G :=
 (aU e).elim fun fr1 e=>h fr1 e.1 fun _ h1 h2=>yV e.2 fun _ τ q e=>v7 e
  (fun p e=>yV e fun y υ q2 e=>h1 τ y υ (p ▸ q) q2 (Option.some.inj e ▸ hΨ)) fun p e=>h2 τ (p ▸ q) (Option.some.inj e ▸ hΨ)
theorem rK (Ψ:List V→Sto→Prop) (ev:eh tg one cond elt src n i fr σ acc=.ok ys σ') (hΨ:Ψ ys σ') (h1:bc σ i src=some none→Ψ acc σ→G)
  (h2:∀ n' v t,n' < n→bc σ i src=some (some v)→lX tg one cond elt v fr σ acc=some t→eh tg one cond elt src n' (i + 1) t.1 t.2.2 t.2.1=.ok ys σ'→G):G:=by
 cases n with
 | zero=>exact nomatch ev
 | succ n=>exact jW ev (fun q=>nomatch q) (fun o e=>h1 o (qN e hΨ)) fun v o e=>fO e (fun _ q=>nomatch q) fun t ht e=>h2 n v t (Nat.lt_succ_self _) o ht e
theorem ri:∀ (n i:Nat) (fr:Fra) (σ:Sto) (acc:List V),eh tg one cond elt src n i fr σ acc=.ok ys σ'→acc.length ≤ ys.length:=by
 intro n
 induction n with
 | zero=>exact fun _ _ _ _ ev=>nomatch ev
 | succ n ih =>
  exact fun i fr σ acc ev=>jW ev (fun q=>nomatch q) (fun _ e=>qN (Ψ:=fun a _=>a.length ≤ ys.length) e (Nat.le_refl _)) fun v _ e=>fO e (fun _ q=>nomatch q) fun t ht e =>
   kX (fun t=>t.2.1.length ≤ ys.length) ht (ih _ _ _ _ e) fun fr1 _ k=>k _ (fun _ y _ _ _ h=>Nat.le_trans (by rw [List.length_append]; exact Nat.le_add_right _ _) h) fun _ _ h=>h
end
structure CX (g:Cfg) (env cenv:Env) (s:Shared) (I D:Addr):Prop where
 IL:I ≠ env.locals
 DL:D ≠ env.locals
 CL:cenv.locals ≠ env.locals
 IC:I ≠ cenv.locals
 DC:D ≠ cenv.locals
 ID:I ≠ D
 ce:∀ x c,env.cells.lookup x=some c→c ≠ I ∧ c ≠ D ∧ c ≠ cenv.locals
 cc:∀ x c,cenv.cells.lookup x=some c→c ≠ I ∧ c ≠ D
 Ib:g.b.get? I=none
 Db:g.b.get? D=none
 Cb:g.b.get? cenv.locals=none
 In:s.heap.get? I=none
 Dn:s.heap.get? D=none
 Cn:s.heap.get? cenv.locals=none
structure CI (g:Cfg) (env cenv:Env) (fr frc:Fra) (s:Shared) (as:List Addr) (src:Src) (I D:Addr) (i:Nat) (acc:List V) (as1:List Addr) (σ:Sto) (h:Heap):Prop where
 st:aC [env.locals] as s.heap as1 h
 R:Rel g as1 σ h
 F:ay g env as1 fr h
 Fc:ay g cenv as1 frc h
 it:nR src I i as1 h
 acc:∃ items,h.PlainList D items ∧ ah as1 h acc items.toList
 offI:I ∉ as1
 offD:D ∉ as1
section
variable {g:Cfg}{K:Frag}{c0:CE}{fa:Nat→Option Addr}{call:Nat→List V→Sto→RE}{env cenv:Env}{A:Around}{X:Value→Shared→Prop}{s:Shared}{as:List Addr}{fr frc:Fra} {σ σ':Sto}{r n:Nat}
 {names:List (Str × NameKind)}{src:Src}{I D:Addr}{i:Nat}{acc:List V}{as1:List Addr}{h:Heap}
theorem kg {h:Heap}{C:Addr}{m:Str→Option Value} (hm:h.Ns C m):∀ o,h.get? C=some o→¬ Imm o:=fun o e hi=>by
 obtain ⟨o',es,ep,e',d,_⟩:=hm
 cases Option.some.inj (e.symm.trans e')
 exact hi.2.1 _ _ d
theorem cQ {items:Array Value} (p:h.PlainList D items):∀ o,h.get? D=some o→¬ Imm o:=fun o e hi=>by
 obtain ⟨n,e'⟩:=p; rw [e] at e'; cases e'; rcases hi.1 with q | q <;> simp at q
theorem CI.step {frc':Fra}{as2:List Addr} {σ2:Sto}{h2:Heap} (Z:CX g env cenv s I D) (C:CI g env cenv fr frc s as src I D i acc as1 σ h) (x:aC [cenv.locals] as1 h as2 h2) (R2:Rel g as2 σ2 h2) (Fc2:ay g cenv as2 frc' h2) :
  CI g env cenv fr frc' s as src I D i acc as2 σ2 h2:=by
 have K2:bR as1 h as2 h2:=C.R.keep x C.Fc.notImm
 have F2:ay g env as2 fr h2:=C.F.keep K2 x (by
  intro a ha q; simp at q; subst q
  rcases bQ ha with q | ⟨y,q⟩
  ·exact Z.CL q
  ·exact (Z.ce _ _ q).2.2 rfl)
 obtain ⟨items,p1,p2⟩:=C.acc
 have there:∀ b o,h.get? b=some o→b ∉ as1→b ∉ as2:=fun b o e hb q=>by
  obtain ⟨⟨t,rfl,ht⟩,_⟩:=x
  rcases List.mem_append.mp q with q | q
  ·exact hb q
  ·rw [ht b q] at e; cases e
 refine ⟨?_,R2,F2,Fc2,C.it.keep K2 fun o e=>x.ext I o e (by simpa using Z.IC) C.offI,⟨items,p1.at fun o e=>x.ext D o e (by simpa using Z.DC) C.offD,ah.keep K2 _ _ p2⟩,?_,?_⟩
 ·have a1:aC [env.locals,cenv.locals] as s.heap as1 h:=C.st.grow (by intro a ha; simp at ha; subst ha; simp)
  have a2:aC [env.locals,cenv.locals] as1 h as2 h2:=x.grow (by intro a ha; simp at ha; subst ha; simp)
  exact (a1.trans a2 R2.nd (by intro a ha; simp at ha; rcases ha with rfl | rfl; exact F2.off; exact Fc2.off)).shrink (by
   intro a ha; simp at ha; rcases ha with rfl | rfl
   ·exact .inl (by simp)
   ·exact .inr Z.Cn)
 ·obtain ⟨o,e,_⟩:=C.it.there; exact there _ _ e C.offI
 ·obtain ⟨m,e⟩:=p1; exact there _ _ e C.offD
theorem CI.other {h2:Heap}{d:Addr}{j:Nat}{acc':List V} (Z:CX g env cenv s I D) (C:CI g env cenv fr frc s as src I D i acc as1 σ h) (hd:d=I ∨ d=D) (k:∀ (b:Addr) (o:Obj),b ≠ d→h.get? b=some o→h2.get? b=some o)
  (hit:nR src I j as1 h2) (hacc:bR as1 h as1 h2→∃ items,h2.PlainList D items ∧ ah as1 h2 acc' items.toList):CI g env cenv fr frc s as src I D j acc' as1 σ h2:=by
 obtain ⟨items,p1,p2⟩:=C.acc
 have hoff:d ∉ as1:=by rcases hd with rfl | rfl; exact C.offI; exact C.offD
 have hb:g.b.get? d=none:=by rcases hd with rfl | rfl; exact Z.Ib; exact Z.Db
 have hni:∀ o,h.get? d=some o→¬ Imm o:=by
  rcases hd with rfl | rfl
  ·intro o e; obtain ⟨o',e',q⟩:=C.it.there; rw [e] at e'; cases e'; exact q
  ·exact cQ p1
 obtain ⟨K2,R2⟩:=C.R.other k hoff hb hni
 have hL:env.locals ≠ d:=by rcases hd with rfl | rfl; exact Ne.symm Z.IL; exact Ne.symm Z.DL
 have hC:cenv.locals ≠ d:=by rcases hd with rfl | rfl; exact Ne.symm Z.IC; exact Ne.symm Z.DC
 have hn:s.heap.get? d=none:=by rcases hd with rfl | rfl; exact Z.In; exact Z.Dn
 refine ⟨?_,R2,C.F.alter K2 k hL (fun y c q=>?_) (fun a ha=>.inl ha),C.Fc.alter K2 k hC (fun y c q=>?_) (fun a ha=>.inl ha),hit,hacc K2,C.offI,C.offD⟩
 ·have a2:aC [env.locals,d] as1 h as1 h2:=⟨⟨[],by simp,by simp⟩,fun b o e hb _=>k b o (by intro q; subst q; simp at hb) e⟩
  have a1:aC [env.locals,d] as s.heap as1 h:=C.st.grow (by intro a ha; simp at ha; subst ha; simp)
  exact (a1.trans a2 R2.nd (by intro a ha; simp at ha; rcases ha with rfl | rfl; exact C.F.off; exact hoff)).shrink (by
   intro a ha; simp at ha; rcases ha with rfl | rfl
   ·exact .inl (by simp)
   ·exact .inr hn)
 ·rcases hd with rfl | rfl
  ·exact (Z.ce _ _ q).1
  ·exact (Z.ce _ _ q).2.1
 ·rcases hd with rfl | rfl
  ·exact (Z.cc _ _ q).1
  ·exact (Z.cc _ _ q).2
theorem iq {M:Model}{env:Env}{Q:Bool→Shared→Prop}:∀ (ifs:List Expr),Q false s →
  wpAny M A (forIn ifs false fun c r=>if r=true then do let ok ← isTrue c env (eval c env); pure (ForInStep.yield ok) else pure (ForInStep.yield r)) Q X s
 | [],h=>wpAny_pure h
 | c :: ifs,h=>by
  rw [List.forIn_cons]
  simp only [Bool.false_eq_true,if_false]
  exact wpAny_bind (wpAny_pure (iq ifs h))
theorem iz (IT:lj g c0 call r n):∀ (ifs:List Expr) (cs:List E) (s:Shared) (as:List Addr) (σ σ':Sto) (b:Bool) (Q:Bool→Shared→Prop),aQ (aj n (c0.sub names)) ifs=some cs→aq (c0.sub names) env A→cb g A (r + 1) →
  At g env as fr σ s→dU (ln call cs) fr σ=.ok (.bool b) σ'→n5 g env as fr s b σ' Q →
  wpAny (model g.prog g.w) A (forIn ifs true fun c r=>if r=true then do let ok ← isTrue c env (eval c env); pure (ForInStep.yield ok) else pure (ForInStep.yield r)) Q X s
 | [],cs,s,as,σ,σ',b,Q,h,N,hA,T,ev,hQ=>by
  rw [du] at h; cases h
  cases (show RE.ok (.bool true) σ=_ from ev)
  exact wpAny_pure (hQ as s.heap s.toks (aC.refl _ _ _) T.R T.F)
 | c :: ifs,cs,s,as,σ,σ',b,Q,h,N,hA,T,ev,hQ=>by
  refine cn h fun a cs' h1 h2 qx4=>?_; subst qx4
  rw [yc,v3] at ev
  refine aB ev fun u τ e1 e2=>?_
  rw [List.forIn_cons]
  simp only [if_true]
  split at e2
  ·refine wpAny_bind (wpAny_bind (IT names c a h1 env A X s as fr σ τ true _ N hA T e1 fun as1 k1 tk1 st1 R1 F1=>wpAny_pure ?_))
   exact iz IT ifs cs' _ as1 τ σ' b Q h2 N hA ⟨F1,R1⟩ e2 (ji hQ st1 R1 F1)
  ·cases e2
   refine wpAny_bind (wpAny_bind (IT names c a h1 env A X s as fr σ _ false _ N hA T e1 fun as1 k1 tk1 st1 R1 F1=>wpAny_pure ?_))
   exact iq ifs (hQ as1 k1 tk1 st1 R1 F1)
  ·cases e2
inductive yg (g:Cfg) (env cenv:Env) (fr:Fra) (s:Shared) (as:List Addr) (src:Src) (I D:Addr) (tg:List Nat) (one:Bool) (cd el:Fra→Sto→RE) (ys:List V) (σ':Sto):Nat→Shared→Prop
 | mk {k i:Nat}{frc:Fra} {σ:Sto}{acc:List V}{as1:List Addr}{h:Heap}{tk:Nat} (ev:eh tg one cd el src k i frc σ acc=.ok ys σ') (le:iF i src) (C:CI g env cenv fr frc s as src I D i acc as1 σ h):yg g env cenv fr s as src I D tg one cd el ys σ' k { s with heap:=h,toks:=tk }
set_option tactic.hygienic true in
theorem oI {elt target iter:Expr}{ifs:List Expr}{scope:Scope}{pos:Pos}{tg:List Nat}{one:Bool}{cs:List E}{x':E}{ys:List V}{RR:Result→Shared→Prop}
  (IH:bv g c0 call r n) (IT:lj g c0 call r n) (Z:CX g env cenv s I D) (N:aq (c0.sub names) cenv A) (hA:cb g A (r + 1)) (hnc:∀ x ∈ names,x.2 ≠ .cell) (hys:ys.length ≤ 16777216)
  (ht:tgt (c0.sub names) target=some (tg,one)) (h2:aQ (aj n (c0.sub names)) ifs=some cs) (h3:aj n (c0.sub names) elt=some x') {k:Nat}{h:Heap}{tk:Nat}
  (ev:eh tg one (dU (ln call cs)) (evE call x') src k i frc σ acc=.ok ys σ') (le:iF i src) (C:CI g env cenv fr frc s as src I D i acc as1 σ h)
  (hR:∀ frc' i' as2 h1 h' tk',CI g env cenv fr frc' s as src I D i' ys as2 σ' h1→(∀ (b:Addr) (o:Obj),b ≠ I→h1.get? b=some o→h'.get? b=some o)→RR (.ok .next) { s with heap:=h',toks:=tk' }) :
  codeAny (model g.prog g.w) A (.compLoop (.ListComp elt [⟨target,iter,ifs,0⟩] scope pos) 0 (.ref I) (.ref D) cenv) RR { s with heap:=h,toks:=tk }:=by
 refine qQ (yg g env cenv fr s as src I D tg one (dU (ln call cs)) (evE call x') ys σ') ?_ k ⟨ev,le,C⟩
 rintro k _ ⟨ev,le,C⟩
 rename_i i frc σ acc as1 h tk
 refine rK (fun ys σ'=>∀ frc' i' as2 h1 h' tk',CI g env cenv fr frc' s as src I D i' ys as2 σ' h1→(∀ (b:Addr) (o:Obj),b ≠ I→h1.get? b=some o→h'.get? b=some o)→RR (.ok .next) { s with heap:=h',toks:=tk' }) ev hR (fun e hR=>?_) (fun k' v t hk e ec ev'=>?_)
 ·exact ru hA.handled C.R C.it C.offI Z.Ib le.rng le.tup e fun h' tk' kk K' R'=>hR _ _ _ _ h' tk' C kk
 ·refine qp C.R C.it C.offI Z.Ib e fun val h1 tk1 kk1 K1 R1 it1 r1=>?_
  have C1:=C.other (acc':=acc) Z (.inl rfl) kk1 it1 fun K=>C.acc.elim fun items p=>⟨items,p.1.at fun o e=>kk1 _ _ (Ne.symm Z.ID) e,ah.keep K _ _ p.2⟩
  refine kX (fun t=>eh tg one (dU (ln call cs)) (evE call x') src k' (i + 1) t.1 t.2.2 t.2.1=.ok ys σ') ec ev' fun fr' hb hc=>?_
  refine Bx (s:={ s with heap:=h1,toks:=tk1 }) it1 ?_
  refine jz (own:=[cenv.locals]) (s:={ s with heap:=h1,toks:=tk1 }) hA.handled ⟨C1.Fc,C1.R⟩ N (ur hnc) ht r1 hb fun as2 h2' tk2 st2 K2 R2 F2=>?_
  have C2:=C1.step Z st2 R2 F2
  refine hc _ (fun τ y υ hc1 hc2 run'=>?_) fun τ hc1 run'=>?_
  ·refine iz IT ifs cs { s with heap:=h2',toks:=tk2 } as2 _ τ true _ h2 N hA ⟨C2.Fc,C2.R⟩ hc1 fun as3 h3' tk3 st3 R3 F3=>?_
   have C3:=C2.step Z st3 R3 F3
   rw [if_pos rfl]
   refine IH names elt x' h3 cenv A _ { s with heap:=h3',toks:=tk3 } as3 fr' τ υ y _ N hA ⟨C3.Fc,C3.R⟩ hc2 fun val2 as4 h4 tk4 st4 R4 F4 r4=>?_
   have C4:=C3.step Z st4 R4 F4
   refine C4.acc.elim fun items p=>?_
   have hl:=(ah.f2.mp p.2).length
   have hl2:=ri _ _ _ _ _ run'
   rw [List.length_append] at hl2
   have hsz:items.size=acc.length:=by rw [hl]; rfl
   refine wpAny_list_append_plain p.1 (fun h5 hp5 hs5=>?_) (by show _ ≤ 2 ^ 24; simp at hl2; lia)
   have k5:∀ (b:Addr) (o:Obj),b ≠ D→h4.get? b=some o→h5.get? b=some o:=fun b o hb e=>hs5.extBut b o hb e
   have kD:bR as4 h4 as4 h5:=.same fun b o e im _=>k5 b o (fun q=>cQ p.1 o (q ▸ e) im) e
   exact ⟨k',hk,run',.next e,C4.other (acc':=acc ++ [y]) Z (.inr rfl) k5 (C4.it.keep kD fun o e=>k5 _ _ Z.ID e) fun K=>⟨_,hp5,by
    rw [Array.toList_push]
    exact ah.f2.mpr ((ah.f2.mp (ah.keep K _ _ p.2)).append (.cons (RepV.keep K _ _ r4) .nil))⟩⟩
  ·refine iz IT ifs cs { s with heap:=h2',toks:=tk2 } as2 _ τ false _ h2 N hA ⟨C2.Fc,C2.R⟩ hc1 fun as3 h3' tk3 st3 R3 F3=>?_
   rw [if_neg Bool.false_ne_true]
   exact ⟨k',hk,run',.next e,C2.step Z st3 R3 F3⟩
end
end Mine
namespace Mine
open PySem PyProof.Rows PySem.W
noncomputable def gL (env:Env):List (Str × NameKind)→List (Str × Addr)→List (Str × Addr)
 | [],acc=>acc
 | p :: r,acc=>gL env r (if p.2 == .free then (match env.cells.lookup p.1 with | some c=>(p.1,c) :: acc | none=>acc) else acc)
noncomputable def k8 (env:Env) (x:Str × NameKind) (r:List (Str × Addr)):Sem (ForInStep (List (Str × Addr))) :=
 if (x.2 == .free)=true then do let a ← cellOf env x.1; pure (ForInStep.yield ((x.1,a) :: r)) else pure (ForInStep.yield r)
theorem gI {env:Env}:∀ (names:List (Str × NameKind)) (acc:List (Str × Addr)),(∀ p ∈ names,p.2=.free→∃ c,env.cells.lookup p.1=some c) →
  (forIn names acc (k8 env):Sem (List (Str × Addr)))=pure (gL env names acc)
 | [],acc,_=>rfl
 | p :: r,acc,h=>by
  rw [List.forIn_cons]
  by_cases hp:(p.2 == NameKind.free)=true
  ·obtain ⟨c,hc⟩:=h p (.head _) (eq_of_beq hp)
   have e1:cellOf env p.1=pure c:=by unfold cellOf; rw [hc]
   have e2:k8 env p acc=pure (ForInStep.yield ((p.1,c) :: acc)):=by
    unfold k8; rw [if_pos hp,e1]; rfl
   rw [e2]
   have:=gI r ((p.1,c) :: acc) fun q hq=>h q (.tail _ hq)
   rw [gL,if_pos hp,hc]
   exact this
  ·have e2:k8 env p acc=pure (ForInStep.yield acc):=by
    unfold k8; rw [if_neg hp]
   rw [e2]
   have:=gI r acc fun q hq=>h q (.tail _ hq)
   rw [gL,if_neg hp]
   exact this
theorem rS {env:Env}{sc:Scope} (h:∀ p ∈ sc.names,p.2=.free→∃ c,env.cells.lookup p.1=some c):closureFor sc env=pure (gL env sc.names []):=by
 have:=gI sc.names [] h
 unfold closureFor
 show (forIn sc.names ([]:List (Str × Addr)) _ >>= fun cs=>pure cs)=_
 exact (congrArg (· >>= fun cs=>(pure cs:Sem (List (Str × Addr)))) this)
set_option tactic.hygienic true in
theorem dE {env:Env}:∀ (names:List (Str × NameKind)) (acc:List (Str × Addr)),(∀ x c,acc.lookup x=some c→env.cells.lookup x=some c)→∀ x c,(gL env names acc).lookup x=some c→env.cells.lookup x=some c
 | [],acc,h,x,c,e=>h x c e
 | p :: r,acc,h,x,c,e=>by
  rw [gL] at e
  refine dE r _ (fun y d e'=>?_) x c e
  split at e'
  ·split at e'
   ·rename_i c' hc
    rw [List.lookup_cons] at e'
    split at e'
    ·rename_i q; cases e'; rw [eq_of_beq q]; exact hc
    ·exact h y d e'
   ·exact h y d e'
  ·exact h y d e'
set_option tactic.hygienic true in
theorem fK {env:Env}:∀ (names:List (Str × NameKind)) (acc:List (Str × Addr)) (x:Str),(∀ p ∈ names,p.2=.free→∃ c,env.cells.lookup p.1=some c)→((x,NameKind.free) ∈ names ∨ ∃ c,acc.lookup x=some c)→∃ c,(gL env names acc).lookup x=some c
 | [],acc,x,_,h=>h.elim (fun q=>by cases q) id
 | p :: r,acc,x,hn,h=>by
  rw [gL]
  refine fK r _ x (fun q hq=>hn q (.tail _ hq)) ?_
  rcases h with h | ⟨c,hc⟩
  ·rcases List.mem_cons.mp h with q | q
   ·subst q
    obtain ⟨c,hc⟩:=hn _ (.head _) rfl
    refine .inr ⟨c,?_⟩
    have hc':env.cells.lookup x=some c:=hc
    have hff:(NameKind.free == NameKind.free)=true:=rfl
    simp only [hff,if_true,hc',List.lookup_cons]; simp
   ·exact .inl q
  ·refine .inr ?_
   split
   ·split
    ·rename_i c' _
     rw [List.lookup_cons]
     split
     ·exact ⟨_,rfl⟩
     ·exact ⟨c,hc⟩
    ·exact ⟨c,hc⟩
   ·exact ⟨c,hc⟩
set_option tactic.hygienic true in
theorem jk {c:CE}{x:Str}{i:Nat} (e:c.locC? x=some i):∃ k,c.names[i]?=some (x,k) ∧ (k=.cell ∨ k=.free):=by
 unfold CE.locC? at e
 split at e
 ·rename_i h; obtain ⟨j,h1,h2⟩:=bp h; rw [h1] at e; cases e; exact ⟨_,h2,.inl rfl⟩
 ·rename_i h; obtain ⟨j,h1,h2⟩:=bp h; rw [h1] at e; cases e; exact ⟨_,h2,.inr rfl⟩
 ·cases e
theorem cw {α β:Type}{f:α→Option β}:∀ {l:List α}{l':List β},aQ f l=some l'→l.length=l'.length ∧ ∀ (i:Nat) (a:α),l[i]?=some a→∃ b,l'[i]?=some b ∧ f a=some b
 | [],l',h=>by rw [du] at h; cases h; exact ⟨rfl,fun i a e=>by simp at e⟩
 | x :: r,l',h=>by
  refine cn h fun y ys h1 h2 qx4=>?_; subst qx4
  obtain ⟨q1,q2⟩:=cw h2
  refine ⟨by simp [q1],fun i a e=>?_⟩
  cases i with
  | zero=>simp at e; subst e; exact ⟨y,rfl,h1⟩
  | succ i=>simp at e; simpa using q2 i a e
section
variable {g:Cfg}{c:CE}{env:Env}{A:Around}{s:Shared}{as:List Addr}{fr:Fra} {σ:Sto}{frm:List (Option Nat)}{sc:Scope}
theorem gw (N:aq c env A) (F:ay g env as fr s.heap) (hf:fj c sc=some frm):∀ p ∈ sc.names,p.2=.free→∃ a,env.cells.lookup p.1=some a:=fun p hp hk=>by
 obtain ⟨i,hi,rfl⟩:=List.getElem_of_mem hp
 obtain ⟨o,h1,h2⟩:=(cw (au hf).2).2 i _ (List.getElem?_eq_getElem hi)
 unfold yt at h2
 rw [hk] at h2
 obtain ⟨j,h3,_⟩:=Option.map_eq_some_iff.mp h2
 obtain ⟨k,h4,h5⟩:=jk h3
 obtain ⟨k',h6,h7⟩:=N.get h4
 have hk':k'=.cell ∨ k'=.free:=by
  rcases h7 with q | q
  ·subst q; exact h5
  ·exact .inl q.2
 obtain ⟨a,cv,e,_⟩:=F.cells j _ k' h6 hk'
 exact ⟨a,e⟩
theorem dF (hf:fj c sc=some frm):∀ x ∈ sc.names,x.2 ≠ .cell:=fun p hp hk=>by
 obtain ⟨i,hi,rfl⟩:=List.getElem_of_mem hp
 obtain ⟨o,h1,h2⟩:=(cw (au hf).2).2 i _ (List.getElem?_eq_getElem hi)
 unfold yt at h2
 rw [hk] at h2; cases h2
theorem gy (h:oU sc=true):sc.kind=.function ∧ (sc.names.map (·.1)).Nodup:=by
 unfold oU at h
 simp only [Bool.and_eq_true,decide_eq_true_eq] at h
 refine ⟨?_,h.2⟩
 have:=h.1
 split at this
 ·assumption
 ·cases this
set_option tactic.hygienic true in
theorem eU {env:Env}:∀ names:List (Str × NameKind),F2 (fun (p q:Str × NameKind)=>p.1=q.1 ∧ (p.2=q.2 ∨ (p.2=.free ∧ q.2=.cell))) names
  (names.map fun (n,k)=>if (k == NameKind.free && env.scope.kind == .function && env.kindOf n == some .cell)=true then (n,NameKind.cell) else (n,k))
 | []=>.nil
 | (n,k) :: r=>by
  rw [List.map_cons]
  refine .cons ?_ (eU r)
  dsimp only
  split
  ·rename_i h
   simp only [Bool.and_eq_true] at h
   exact ⟨rfl,.inr ⟨eq_of_beq h.1.1,rfl⟩⟩
  ·exact ⟨rfl,.inl rfl⟩
theorem oq {C:Addr}{h':Heap}{m:Str→Option Value} (T:At g env as fr σ s) (N:aq c env A) (hf:fj c sc=some frm) (ho:oU sc=true) (hC:s.heap.get? C=none) (hCb:g.b.objs.size ≤ C) (k:∀ (a:Addr) (o:Obj),s.heap.get? a=some o→h'.get? a=some o) (hns:h'.Ns C m) :
  ay g (compEnvC sc (gL env sc.names []) C env) as (ee fr frm) h' ∧ aq (c.sub sc.names) (compEnvC sc (gL env sc.names []) C env) A:=by
 obtain ⟨hk,hnd⟩:=gy ho
 have hl:=(cw (au hf).2).1
 have free:=gw N T.F hf
 have hcl:∀ x a,(gL env sc.names []).lookup x=some a→env.cells.lookup x=some a:=dE sc.names [] (fun x a e=>by cases e)
 have K:bR as s.heap as h':=.same fun a o e _ _=>k a o e
 have hN:aq (c.sub sc.names) (compEnvC sc (gL env sc.names []) C env) A:=⟨eU sc.names,fun a e=>N.code a e,fun (q:c.top=some sc.names)=>by have h0:=(au hf).1; rw [q] at h0; simp at h0⟩
 have hN':=hN.map
 have inv:∀ (i:Nat) (x:Str) (kk:NameKind),(compEnvC sc (gL env sc.names []) C env).scope.names[i]?=some (x,kk)→∃ k0,sc.names[i]?=some (x,k0) ∧ (k0=kk ∨ (k0=.free ∧ kk=.cell)):=fun i x kk e=>by
  have hlen:=F2.length hN.f2
  have hi:i < sc.names.length:=by
   have h1:=(List.getElem?_eq_some_iff.mp e).1
   have h2:sc.names.length=(compEnvC sc (gL env sc.names []) C env).scope.names.length:=hlen
   lia
  obtain ⟨q,h1,h2,h3⟩:=F2.get hN.f2 (i:=i) (a:=sc.names[i]) (List.getElem?_eq_getElem hi)
  rw [e] at h1; cases h1
  refine ⟨sc.names[i].2,?_,h3⟩
  rw [List.getElem?_eq_getElem hi]
  exact congrArg some (Prod.ext h2 rfl)
 refine ⟨⟨hk,hCb,T.F.glob,T.F.blt,?_,?_,⟨m,hns,fun i x v e1 e2=>?_⟩,fun i x kk e1 e2=>?_,fun q=>?_,fun x a e=>⟨(T.F.offc _ _ (hcl _ _ e)).1,fun q=>?_,?_⟩,fun x y a e1 e2=>T.F.apart x y a (hcl _ _ e1) (hcl _ _ e2),fun x a e=>T.F.newc x a (hcl _ _ e)⟩,hN⟩
 ·show (ee fr frm).length=_
  rw [show (compEnvC sc (gL env sc.names []) C env).scope.names.length=sc.names.length from (F2.length hN.f2).symm]
  simp [ee,hl]
 ·rw [← hN']; exact hnd
 ·obtain ⟨k0,q1,q2⟩:=inv i x _ e1
  have:k0=.local:=by
   rcases q2 with q | q
   ·exact q
   ·cases q.2
  subst this
  obtain ⟨o,h1,h2⟩:=(cw (au hf).2).2 i _ q1
  unfold yt at h2; cases h2
  unfold ee at e2
  rw [List.getElem?_map,h1] at e2
  simp at e2
 ·obtain ⟨k0,q1,q2⟩:=inv i x _ e1
  have hk0:k0=.free:=by
   rcases q2 with q | q
   ·subst q
    rcases e2 with e2 | e2
    ·exact absurd e2 (dF hf _ (List.mem_of_getElem? q1))
    ·exact e2
   ·exact q.1
  subst hk0
  obtain ⟨o,h1,h2⟩:=(cw (au hf).2).2 i _ q1
  unfold yt at h2
  obtain ⟨j,h3,rfl⟩:=Option.map_eq_some_iff.mp h2
  obtain ⟨k1,h4,h5⟩:=jk h3
  obtain ⟨k',h6,h7⟩:=N.get h4
  have hk':k'=.cell ∨ k'=.free:=by
   rcases h7 with q | q
   ·subst q; exact h5
   ·exact .inl q.2
  obtain ⟨a,cv,p1,⟨ob,p2,p2'⟩,p3⟩:=T.F.cells j _ k' h6 hk'
  obtain ⟨a',ha'⟩:=fK sc.names [] x free (.inl (List.mem_of_getElem? q1))
  have:=hcl _ _ ha'
  rw [p1] at this; cases this
  refine ⟨a,cv,ha',⟨ob,k _ _ p2,p2'⟩,fun v e=>?_⟩
  unfold ee at e
  rw [List.getElem?_map,h1] at e
  simp only [Option.map_some,Option.some.injEq] at e
  have e':fr[j]?=some (some v):=by
   cases q:fr[j]? with
   | none=>rw [q] at e; cases e
   | some w=>rw [q] at e; exact congrArg some e
  obtain ⟨val,p4,p5⟩:=p3 v e'
  exact ⟨val,p4,RepV.keep K _ _ p5⟩
 ·obtain ⟨ob,e,_⟩:=T.R.there q
  have e':s.heap.get? C=some ob:=e
  rw [hC] at e'; cases e'
 ·obtain ⟨cv,o,e',_⟩:=(T.F.offc _ _ (hcl _ _ e)).2.2
  have q':a=C:=q
  rw [q',hC] at e'; cases e'
 ·obtain ⟨cv,o,e',e''⟩:=(T.F.offc _ _ (hcl _ _ e)).2.2
  exact ⟨cv,o,k _ _ e',e''⟩
end
end Mine
namespace Mine
open PySem PyProof.Rows PySem.W
section
variable {g:Cfg}{K:Frag}{c0:CE}{fa:Nat→Option Addr}{call:Nat→List V→Sto→RE}{env:Env}{A:Around}{X:Value→Shared→Prop}{s:Shared}{as:List Addr}{fr:Fra} {σ σ':Sto}{r n:Nat}
 {names:List (Str × NameKind)}{Q:Value→Shared→Prop}
theorem wn {src:Src}{I:Addr}{i:Nat} (R:Rel g as σ s.heap) (it:nR src I i as s.heap) (hQ:Q (.ref I) s):wpAny (model g.prog g.w) A (pyIter (.ref I)) Q X s:=by
 cases src with
 | live l =>
  obtain ⟨a,e1,e2⟩:=it
  exact wpAny_pyIter_listiter e2 hQ
 | tup vs =>
  obtain ⟨a,items,n,e1,e0,e2,e3⟩:=it
  exact wpAny_pyIter_tupleiter e3 hQ
 | rng lo hi=>exact wpAny_pyIter_rangeiter it hQ
 | enum l=>exact it.elim
 | zip l k p=>exact it.elim
theorem jR {iter:Expr}{a:E}{c:CE} (h:aj n c iter=some a):∀ x,foldedSetIterable iter env x=pure x:=by
 intro x
 have hk:=cZ h
 cases iter <;> first | rfl | exact ft hk
theorem lg {elt target iter:Expr}{ifs:List Expr}{scope:Scope}{pos pos':Pos}{use:Option (Value→Sem Unit)}{tg:List Nat}{one:Bool}{cs:List E}{x' it':E}{ys:List V}{frm:List (Option Nat)}{v:V}{src:Src} {τ:Sto}{k:Nat}
  (IH:bv g c0 call r n) (IT:lj g c0 call r n) (N:aq (c0.sub names) env A) (hA:cb g A (r + 1)) (T:At g env as fr σ s)
  (h1:aj n (c0.sub names) iter=some it') (ht:tgt (c0.sub scope.names) target=some (tg,one)) (h2:aQ (aj n (c0.sub scope.names)) ifs=some cs) (h3:aj n (c0.sub scope.names) elt=some x')
  (hf:fj (c0.sub names) scope=some frm) (ho:oU scope=true) (e1:evE call it' fr σ=.ok v τ) (hs:iI v=some src) (hl:∀ l,src=.live l→∃ xs,getL τ l=some xs)
  (run:eh tg one (dU (ln call cs)) (evE call x') src k 0 (ee fr frm) τ []=.ok ys σ') (hys:ys.length ≤ 16777216)
  (fin:∀ as' h' tk C D m,aC [env.locals] as s.heap (as' ++ [D]) h'→Rel g (as' ++ [D]) (σ' ++ [.lst ys]) h'→ay g env (as' ++ [D]) fr h'→as'.length=σ'.length→h'.Ns C m→C ∉ (as' ++ [D])→C ≠ env.locals →
   (∀ x c,env.cells.lookup x=some c→c ≠ C)→g.b.get? C=none→s.heap.get? C=none→compPost (model g.prog g.w) A X use Q (.ref D) C (.ok .next) { s with heap:=h',toks:=tk }) :
  wpAny (model g.prog g.w) A (comprehension (.ListComp elt [⟨target,iter,ifs,0⟩] scope pos) scope env pos' (newList []) false (eval iter env) use) Q X s:=by
 obtain ⟨hk,hnd⟩:=gy ho
 have hclos:=rS (gw N T.F hf)
 refine wpAny_comprehension_free (gs:=[]) rfl (jR h1) hclos hk (fun x hx hx2=>?_) ?_
 ·obtain ⟨i,hi,rfl⟩:=List.getElem_of_mem hx
  refine be hnd (i:=i) ?_
  rw [List.getElem?_eq_getElem hi]
  exact congrArg some (Prod.ext rfl hx2)
 refine IH names iter it' h1 env A X s as fr σ τ v _ N hA T e1 fun x as1 k1 tk1 st1 R1 F1 r1=>?_
 have T1:At g env as1 fr τ { s with heap:=k1,toks:=tk1 }:=⟨F1,R1⟩
 refine lx T1 r1 hs hl fun o T2 it0=>?_
 refine wpAny_newObj_type (wpAny_newFunctionEnv (dF hf) (by simp) (fun h' hns hsb=>?_) hk)
 dsimp only at hns hsb ⊢
 generalize hH2:(k1.push o).push { cls:=.type "list",dict:=none,data:=.seq ([]:List Value).toArray }=H2 at hns hsb ⊢
 have sz1:(k1.push o).objs.size=k1.objs.size + 1:=Heap.size_push ..
 have sz2:H2.objs.size=k1.objs.size + 2:=by rw [← hH2,Heap.size_push,sz1]
 have kk:∀ (b:Addr) (ob:Obj),k1.get? b=some ob→h'.get? b=some ob:=fun b ob e =>
  hsb.extBut b ob (Nat.ne_of_lt (by have:=Heap.lt_size e; rw [sz2]; exact Nat.lt_of_lt_of_le this (by lia))) (Heap.get?_push_of_some _ (hH2 ▸ Heap.get?_push_of_some _ (Heap.get?_push_of_some _ e)))
 have kI:∀ ob,(k1.push o).get? k1.objs.size=some ob→h'.get? k1.objs.size=some ob:=fun ob e =>
  hsb.extBut _ ob (by rw [sz2]; exact Nat.ne_of_lt (by lia)) (Heap.get?_push_of_some _ (hH2 ▸ Heap.get?_push_of_some _ e))
 have hD:h'.get? (k1.push o).objs.size=some { cls:=.type "list",dict:=none,data:=.seq ([]:List Value).toArray } :=
  hsb.extBut _ _ (by rw [sz1,sz2]; exact Nat.ne_of_lt (by lia)) (Heap.get?_push_of_some _ (hH2 ▸ Heap.get?_push_size _ rfl))
 have freshK:∀ b:Addr,k1.objs.size ≤ b→k1.get? b=none:=fun b hb=>by
  cases e:k1.get? b with
  | none=>rfl
  | some ob=>exact absurd (Heap.lt_size e) (Nat.not_lt.mpr hb)
 have fI:=freshK k1.objs.size (Nat.le_refl _)
 have fD:=freshK (k1.push o).objs.size (by rw [sz1]; exact Nat.le_succ _)
 have fC:=freshK H2.objs.size (by rw [sz2]; exact Nat.le_add_right _ _)
 have bnone:∀ b,k1.get? b=none→g.b.get? b=none:=fun b hb=>by
  cases e:g.b.get? b with
  | none=>rfl
  | some ob=>have:=R1.base _ _ e; rw [hb] at this; cases this
 have Lne:∀ b,k1.get? b=none→b ≠ env.locals:=fun b hb q=>by subst q; obtain ⟨ob,e⟩:=F1.there; rw [hb] at e; cases e
 have cne:∀ b,k1.get? b=none→∀ y c,env.cells.lookup y=some c→c ≠ b:=fun b hb y c hc q=>by
  subst q; obtain ⟨cv,ob,e,_⟩:=(F1.offc _ _ hc).2.2; rw [hb] at e; cases e
 have nin:∀ b,k1.get? b=none→b ∉ as1:=fun b hb q=>by obtain ⟨ob,e,_⟩:=R1.there q; rw [hb] at e; cases e
 have hCb:g.b.objs.size ≤ H2.objs.size:=by
  obtain ⟨ob,e⟩:=F1.there
  have h4:=Heap.lt_size e
  have h5:=F1.above
  rw [sz2]
  exact Nat.le_trans h5 (Nat.le_trans (Nat.le_of_lt h4) (Nat.le_add_right _ _))
 obtain ⟨Fc,Nc⟩:=oq (s:={ s with heap:=k1,toks:=tk1 }) T1 N hf ho fC hCb kk hns
 have hcl:∀ x a,(gL env scope.names []).lookup x=some a→env.cells.lookup x=some a:=dE scope.names [] (fun x a e=>by cases e)
 have Z:CX g env (compEnvC scope (gL env scope.names []) H2.objs.size env) { s with heap:=k1,toks:=tk1 } k1.objs.size (k1.push o).objs.size :=
  ⟨Lne _ fI,Lne _ fD,Lne _ fC,by show _ ≠ H2.objs.size; rw [sz2]; exact Nat.ne_of_lt (by lia),by show _ ≠ H2.objs.size; rw [sz1,sz2]; exact Nat.ne_of_lt (by lia),by rw [sz1]; exact Nat.ne_of_lt (Nat.lt_succ_self _),
   fun y c hc=>⟨cne _ fI y c hc,cne _ fD y c hc,cne _ fC y c hc⟩,fun y c hc=>⟨cne _ fI y c (hcl _ _ hc),cne _ fD y c (hcl _ _ hc)⟩,bnone _ fI,bnone _ fD,bnone _ fC,fI,fD,fC⟩
 have x0:aC [] as1 k1 as1 h':=aC.of_ext kk
 have K0:=R1.keep0 x0
 have C0:CI g env (compEnvC scope (gL env scope.names []) H2.objs.size env) fr (ee fr frm) { s with heap:=k1,toks:=tk1 } as1 src k1.objs.size (k1.push o).objs.size 0 [] as1 τ h' :=
  ⟨x0.grow (by simp),R1.ext kk,T1.frame x0,Fc,it0.keep (.same fun b ob e im _=>by
   by_cases hb:b=k1.objs.size
   ·subst hb; exact kI ob e
   ·have:k1.get? b=some ob:=by
     have hlt:=Heap.lt_size e
     rw [sz1] at hlt
     have hlt':b < k1.objs.size:=Nat.lt_of_le_of_ne (Nat.le_of_lt_succ hlt) hb
     cases e':k1.get? b with
     | some ob'=>have:=az k1 o b ob' e'; rw [e] at this; cases this; rfl
     | none=>rw [Heap.get?_push_ne _ _ _ (Nat.ne_of_lt hlt')] at e; rw [e] at e'; cases e'
    exact kk b ob this) kI,⟨_,⟨0,hD⟩,by rw [ah]⟩,nin _ fI,nin _ fD⟩
 have main:codeAny (model g.prog g.w) A (.compLoop (.ListComp elt [⟨target,iter,ifs,0⟩] scope pos) 0 (.ref k1.objs.size) (.ref (k1.push o).objs.size) (compEnvC scope (gL env scope.names []) H2.objs.size env))
   (compPost (model g.prog g.w) A X use Q (.ref (k1.push o).objs.size) H2.objs.size) { s with heap:=h',toks:=tk1 }:=by
  refine oI (s:={ s with heap:=k1,toks:=tk1 }) IH IT Z Nc hA (dF hf) hys ht h2 h3 run .zero C0 fun frc' i' as2 h3' h4' tk4 C kk4=>?_
  have hth:=C.it.there
  have hni:∀ ob,h3'.get? k1.objs.size=some ob→¬ Imm ob:=fun ob e=>by obtain ⟨o',e',q⟩:=hth; rw [e] at e'; cases e'; exact q
  obtain ⟨K4,R4⟩:=C.R.other kk4 C.offI Z.Ib hni
  have F4:=C.F.alter K4 kk4 (Ne.symm Z.IL) (fun y c q=>(Z.ce _ _ q).1) (fun a ha=>.inl ha)
  obtain ⟨items,p1,p2⟩:=C.acc
  have p1':=p1.at fun ob e=>kk4 _ ob (Ne.symm Z.ID) e
  have p2':=ah.keep K4 _ _ p2
  have S4:aC [env.locals] as1 k1 as2 h4':=by
   have a2:aC [env.locals,k1.objs.size] as2 h3' as2 h4':=⟨⟨[],by simp,by simp⟩,fun b ob e hb _=>kk4 b ob (by intro q; subst q; simp at hb) e⟩
   have a1:aC [env.locals,k1.objs.size] as1 k1 as2 h3':=C.st.grow (by intro a ha; simp at ha; subst ha; simp)
   exact (a1.trans a2 R4.nd (by intro a ha; simp at ha; rcases ha with rfl | rfl; exact F4.off; exact C.offI)).shrink (by
    intro a ha; simp at ha; rcases ha with rfl | rfl
    ·exact .inl (by simp)
    ·exact .inr fI)
  obtain ⟨S5,R5,F5⟩:=T1.pushN (a:=(k1.push o).objs.size) (o:=.lst ys) S4 R4 F4 fD C.offD Z.Db Z.DL (fun y c q=>(Z.ce _ _ q).2.1) (cQ p1') ⟨items,p1',ah.keep ⟨fun j cc e=>by rw [List.getElem?_append_left (List.getElem?_eq_some_iff.mp e).1]; exact e,fun _ _ e _ _=>e,fun b q=>(List.mem_append.mp q).imp id fun q=>(List.mem_singleton.mp q:b=_) ▸ cQ p1'⟩ _ _ p2',hys⟩
  have hCns:∃ m,h4'.Ns H2.objs.size m:=by
   obtain ⟨m,hm,_⟩:=C.Fc.ns
   exact ⟨m,hm.at' fun ob e=>kk4 _ ob (Ne.symm Z.IC) e⟩
  obtain ⟨m,hm⟩:=hCns
  refine fin as2 h4' tk4 H2.objs.size (k1.push o).objs.size m (ao st1 S5 R5 F5) R5 F5 R4.len hm ?_ Z.CL (fun y c q=>(Z.ce _ _ q).2.2) Z.Cb ?_
  ·intro q
   rcases List.mem_append.mp q with q | q
   ·exact C.Fc.off q
   ·exact Z.DC (List.mem_singleton.mp q).symm
  ·cases e:s.heap.get? H2.objs.size with
   | none=>rfl
   | some ob =>
    have:=st1.ext _ _ e (by intro q; exact Z.CL (List.mem_singleton.mp q)) (fun q=>nin _ fC (st1.mem q))
    rw [fC] at this; cases this
 exact codeAny_compStart_list main (wn (s:={ s with heap:=h',toks:=tk1 }) C0.R C0.it main)
theorem nU {tg:List Nat}{one:Bool}{it' x':E}{cs:List E}{frm:List (Option Nat)}{v:V} (ev:evE call (.comp tg one it' cs x' frm) fr σ=.ok v σ') :
  ∃ u τ src k ys σ2,evE call it' fr σ=.ok u τ ∧ iI u=some src ∧ (∀ l,src=.live l→∃ xs,getL τ l=some xs) ∧ eh tg one (dU (ln call cs)) (evE call x') src k 0 (ee fr frm) τ []=.ok ys σ2 ∧ cN ys σ2=.ok v σ' :=
 aB ev fun u τ e1 e2=>bJ e2 fun ys σ2 e3 e4=>rp e3 (fun q=>nomatch q) fun src k hs hl e=>⟨u,τ,src,k,ys,σ2,e1,hs,hl,e,e4⟩
theorem xz {elt target iter:Expr}{ifs:List Expr}{scope:Scope}{p:Pos}{tg:List Nat}{one:Bool}{cs:List E}{x' it':E}{frm:List (Option Nat)} (IH:bv g c0 call r n) (IT:lj g c0 call r n)
  (h1:aj n (c0.sub names) iter=some it') (ht:tgt (c0.sub scope.names) target=some (tg,one)) (h2:aQ (aj n (c0.sub scope.names)) ifs=some cs) (h3:aj n (c0.sub scope.names) elt=some x')
  (hf:fj (c0.sub names) scope=some frm) (ho:oU scope=true):aN g c0 call r names (.ListComp elt [⟨target,iter,ifs,0⟩] scope p) (.comp tg one it' cs x' frm):=fun env A X s as fr σ σ' v Q N hA T ev hQ=>by
 obtain ⟨u,τ,src,k,ys,σ2,e1,e2,e3,e4,e5⟩:=nU ev
 have hlen:=eM e5
 cases (if_pos hlen).symm.trans e5
 rw [eval_ListComp]
 refine lg (use:=none) IH IT N hA T h1 ht h2 h3 hf ho e1 e2 e3 e4 hlen fun as' h' tk C D m st R' F' hl hm hC hCL hcc hCb hCn=>⟨m,hm,fun h2 hs2=>?_⟩
 have kk:∀ (b:Addr) (o:Obj),b ≠ C→h'.get? b=some o→h2.get? b=some o:=fun b o hb e=>by rw [hs2.2 b hb]; exact e
 obtain ⟨K2,R2⟩:=R'.other kk hC hCb (kg hm)
 have F2:=F'.alter K2 kk (Ne.symm hCL) hcc (fun a ha=>.inl ha)
 have a2:aC [C,env.locals] (as' ++ [D]) h' (as' ++ [D]) h2:=⟨⟨[],(List.append_nil _).symm,fun _ q=>nomatch q⟩,fun b ob e hb _=>kk b ob (fun q=>hb (q ▸ .head _)) e⟩
 have S2:aC [env.locals] as s.heap (as' ++ [D]) h2:=((st.grow fun a ha=>.tail _ ha).trans a2 R2.nd fun a ha=>(List.mem_cons.mp ha).elim (fun q=>q ▸ hC) fun q=>(List.mem_singleton.mp q) ▸ F2.off).shrink fun a ha=>(List.mem_cons.mp ha).elim (fun q=>.inr (q ▸ hCn)) .inl
 refine hQ _ _ h2 tk S2 R2 F2 ?_
 rw [RepV]; exact ⟨D,rfl,by rw [← hl]; simp⟩
end
end Mine
namespace Mine
open PySem PyProof.Rows PySem.W
section
variable {prog:Program}{w:World}{A:Around}{E:Value→Shared→Prop}{s:Shared}
theorem jL {Q:List Value→Shared→Prop}{r:Addr}{a b c:Int}{t u v:Tok}{n:Nat} (hh:A.handled=none) (hr:IsRange s.heap r a b c t u v) (hsmall:Builtin.Range.small a b c=true)
  (hn:Builtin.Range.rangeSize a b c=n) (hlen:n ≤ 2 ^ 24)
  (hQ:∀ h' tk acc,(∀ b o,s.heap.get? b=some o→h'.get? b=some o)→ItemsOf (fun i v=>∃ t,v=.int (a + i * c) t) acc n→Q acc.toList { s with heap:=h',toks:=tk }) :
  wpAny (model prog w) A (collect (.ref r)) Q E s:=by
 unfold collect
 refine wpAny_bind (wpAny_runValue (codeAny_builtin F.entry_proto_collect ?_))
 rw [Around.under_plainId F.plain_proto_collect _]
 show wpAny _ A.in1 (newList [] >>= fun l=>again (.builtin "list.__iadd__" ⟨[l,.ref r],[]⟩)) _ _ s
 refine wpAny_bind (wpAny_newObj_type ?_)
 refine wpAny_pure ⟨plainId_quiet F.plain_list_iadd _,codeAny_builtin F.entry_list_iadd ?_⟩
 rw [Around.under_plainId F.plain_list_iadd _]
 show wpAny _ A.in1 (Builtin.List.listExtendWith (.ref s.heap.objs.size) (.ref r) (.ref s.heap.objs.size)) _ _ _
 refine wpAny_extend_range (R:=fun r s'=>match r with
   | .ok (.ret v)=>wpAny (model prog w) A (match v with
    | .ref a=>(do let o ← load a; match o.data with | .seq xs _=>pure xs.toList | _=>unsupported "internal:collect")
    | _=>unsupported "internal:collect") Q E s'
   | .ok _=>False
   | .error e=>E e s') (s:={ s with heap:=s.heap.push { cls:=.type "list",data:=.seq #[] } }) hh (Heap.get?_push_of_some _ hr) hsmall hn hlen _ _ 0 (Heap.get?_push_size _ rfl) fun h' tk acc' c' hk hS' hacc=>?_
 show wpAny _ A (load s.heap.objs.size >>= _) _ _ _
 refine wpAny_bind (wpAny_load hS' ?_)
 exact wpAny_pure (hQ h' tk acc' (fun b o e=>hk b o (Nat.ne_of_lt (Heap.lt_size e)) (Heap.get?_push_of_some _ e)) hacc)
variable {h₀:Heap}{L:Addr}{m:Str→Option Value}{news:List (Addr × Obj)}{Q:Value→Shared→Prop}
theorem j8 {kz:List Int}{f r:Addr}{a b c:Int}{t u v:Tok}{n:Nat} (F:Fr h₀ L s.heap m) (N:News h₀ L s.heap news) (hh:A.handled=none) (hr:IsRange s.heap r a b c t u v) (hsmall:Builtin.Range.small a b c=true)
  (hn:Builtin.Range.rangeSize a b c=n) (h64:n < 64) (hlen:kz.length=n)
  (turn:∀ (i:Nat) (t:Tok) (k:Int),i < n→kz[i]?=some k→∀ (h:Heap) (tk:Nat) (own:List (Addr × Obj)),Fr h₀ L h m→News h₀ L h (news ++ own) →
   wpAny (model prog w) A.in1.in1 (call (.ref f) [.int (a + i * c) t]) (KskEnd h₀ L m (news ++ own) k { s with heap:=h,toks:=tk }) (fun _ _=>False) { s with heap:=h,toks:=tk })
  (h:∀ (D:Addr) (h':Heap) (tk:Nat) (vs:List Value) (out:Array Value) (e:Nat),Fr h₀ L h' m→News h₀ L h' ((D,seqObj "list" out e) :: news)→s.heap.get? D=none→vs.length=n→(∀ (i:Nat) (x:Value),vs[i]?=some x→∃ t,x=.int (a + i * c) t)→KskOut false kz vs out.toList→Q (.ref D) { s with heap:=h',toks:=tk }) :
  wpAny (model prog w) A (call (.builtin "sorted") [.ref r] [(Str.ofString "key",.ref f)]) Q E s:=by
 refine call_function_entry_kw kind_sorted plain_sorted entry_sorted (ksk_s1 _ _) ?_
 unfold Builtin.«sorted»
 refine wpAny_bind (m:=checkCount "sorted" 1 1 _) (wpAny_pure ?_)
 refine wpAny_bind (jL (A:=A.in1) hh hr hsmall hn (by lia) fun h1 tk1 acc hk1 hacc=>?_)
 have hvl:acc.toList.length=n:=by rw [Array.length_toList]; exact hacc.1
 refine wpAny_bind (wpAny_newList ?_ (by rw [hvl,sizeLine_eq]; lia))
 have keep:∀ b o,s.heap.get? b=some o→(h1.push (seqObj "list" acc.toList.toArray 0)).get? b=some o:=fun b o q=>Heap.get?_push_of_some _ (hk1 b o q)
 have hoL:(h1.push (seqObj "list" acc.toList.toArray 0)).get? h1.objs.size=some (seqObj "list" acc.toList.toArray 0):=Heap.get?_push_size _ rfl
 have hL:L < h1.objs.size:=by
  obtain ⟨o,es,ep,e,_⟩:=F.ns; exact Heap.lt_size (hk1 _ _ e)
 have hD:s.heap.get? h1.objs.size=none:=by
  cases e:s.heap.get? h1.objs.size with
  | none=>rfl
  | some o=>exact absurd (Heap.lt_size (hk1 _ _ e)) (Nat.lt_irrefl _)
 refine wpAny_bind (wpAny_holding (wpAny_call_entry_kw slot_list_sort ⟨_,hoL,rfl⟩ entry_list_sort ?body (ksk_l1 _ _)))
 case body =>
  show wpAny (model prog w) A.in1.in1 (Builtin.«list.sort» ⟨[.ref h1.objs.size],[(Str.ofString "key",.ref f)]⟩) _ _ _
  rw [ksk_t1]
  refine ksk_sort (s:={ s with heap:=h1.push (seqObj "list" acc.toList.toArray 0),toks:=tk1 }) (vs:=acc.toList) (F.kept keep) (N.grown keep) hoL (Nat.ne_of_gt hL) (Heap.get?_none_of_le (Nat.le_trans F.above (Nat.le_of_lt hL)))
   (fun p hp q=>by have:=(N p hp).1; rw [q,hD] at this; cases this) (by rw [hlen,hvl]) (by rw [hvl]; exact h64) (fun i x k hx hk g tk own F' N'=>?_) fun h' tk out e F' N' k'=>⟨_,rfl,?_⟩
  ·obtain ⟨t',rfl⟩:=hacc.2 i x (by simpa using hx)
   exact turn i t' k (by have:=(List.getElem?_eq_some_iff.mp hx).1; lia) hk g tk own F' N'
  ·exact wpAny_pure ⟨_,rfl,h _ h' tk acc.toList out e F' N' hD hvl (fun i x hx=>hacc.2 i x (by simpa using hx)) k'⟩
end
structure LX (c:CE) (env:Env) (p:Str) (x:Int) (fr:Fra) (h:Heap):Prop where
 kind:env.scope.kind=.function
 par:∃ m t,h.Ns env.locals m ∧ m p=some (.int x t) ∧ env.kindOf p=some .local
 var:∀ y i v,c.locC? y=some i→env.scope.names.lookup y=some .free→fr[i]?=some (some (.int v))→∃ cc t,env.cells.lookup y=some cc ∧ h.IsCell cc (some (.int v t))
set_option tactic.hygienic true in
set_option backward.match.sparseCases false in
theorem uu {n:Nat}{c:CE}{p:Str}{sc:Scope}{e:Expr}{k:KX} (Ψ:Expr→Prop) (h:oZ (n + 1) c p sc e=some k) (H1:∀ y pp,(y == ("__debug__":Str))=false→rT c p sc y=some k→Ψ (.Name y pp))
  (H2:∀ i a pp,some (KX.num i)=some k→Ψ (.Constant (.int i) a pp)) (H3:∀ l op r pp,Ap op (oZ n c p sc l) (oZ n c p sc r)=some k→Ψ (.BinOp l op r pp)):Ψ e:=by
 have h:(match vw e with
  | .const k=>(match k with | .int i=>some (.num i) | _=>none)
  | .name x=>gd (!(x == ("__debug__":Str))) (rT c p sc x)
  | .bin t=>Ap t.2.1 (oZ n c p sc t.1) (oZ n c p sc t.2.2)
  | _=>none)=some k:=h
 cases q:vw e <;> rw [q] at h <;> first | exact nn h | skip
 ·refine (bE q).elim fun pp q=>?_
  rw [q]
  exact H1 _ _ (aP (au h).1) (au h).2
 ·rename_i v
  refine (bE q).elim fun a q=>q.elim fun pp q=>?_
  rw [q]
  cases v <;> first | exact nn h | exact H2 _ _ _ h
 ·refine (bE q).elim fun pp q=>?_
  rw [q]
  exact H3 _ _ _ _ h
theorem vF {fr:Fra}{x z:Int}{a b:Option Int}{f:Int→Int→Option Int}{G:Prop} (h:(a.bind fun p=>b.bind fun q=>f p q)=some z) (k:∀ u v,a=some u→b=some v→f u v=some z→G):G :=
 (aU h).elim fun u h=>(aU h.2).elim fun v h'=>k u v h.1 h'.1 h'.2
theorem jf {α:Type}{P:Prop} [Decidable P] {a b:α} (h:(if P then some a else none)=some b):P ∧ a=b:=by
 by_cases q:P
 ·exact ⟨q,Option.some.inj ((if_pos q).symm.trans h)⟩
 ·exact nn ((if_neg q).symm.trans h)
set_option tactic.hygienic true in
set_option backward.match.sparseCases false in
theorem yu {prog:Program}{w:World}{A:Around}{X:Value→Shared→Prop}{env:Env}{c:CE}{p:Str}{x:Int}{fr:Fra}:∀ (n:Nat) (e:Expr) (k:KX) (z:Int) (s:Shared) (Q:Value→Shared→Prop),oZ n c p env.scope e=some k→kxV fr x k=some z→LX c env p x fr s.heap →
  (∀ t tk,Q (.int z t) { s with toks:=tk })→wpAny (model prog w) A (eval e env) Q X s:=by
 intro n
 induction n with
 | zero=>intro e k z s Q h _ _ _; exact nn h
 | succ n ih =>
  intro e k z s Q h hz C hQ
  refine uu (fun e=>wpAny (model prog w) A (eval e env) Q X s) h (fun y pp hd h=>wpAny_Name ?_ hd) (fun i a pp h=>?_) fun l op r pp h=>?_
  ·have h:(match (y == p) with | true=>some .par | false=>gd (env.scope.names.lookup y == some .free && !(y == ("__classdict__":Str))) ((c.locC? y).map .var))=some k:=h
   cases hy:(y == p) <;> rw [hy] at h
   ·have h1:=af (au h).1
    refine (bD (au h).2).elim fun i h3=>?_
    have hf:env.scope.names.lookup y=some .free:=eq_of_beq h1.1
    rw [← h3.2] at hz
    refine C.var y i z h3.1 hf ?_ |>.elim fun cc hc=>hc.elim fun t hc=>wpAny_loadName_free C.kind hf hc.1 hc.2 (hQ t s.toks) (aP h1.2)
    have hz:(match fr[i]? with | some (some (.int v))=>some v | _=>none)=some z:=hz
    split at hz
    ·rename_i v hv
     rw [hv,Option.some.inj hz]
    ·exact nn hz
   ·rw [← Option.some.inj h] at hz
    refine C.par.elim fun m hp=>hp.elim fun t hp=>?_
    rw [show y=p from eq_of_beq hy]
    exact wpAny_loadName_local C.kind hp.2.2 hp.1 hp.2.1 (Option.some.inj (show some x=some z from hz) ▸ hQ t s.toks)
  ·rw [← Option.some.inj h] at hz
   rw [Option.some.inj (show some i=some z from hz)]
   exact wpAny_Constant_int (hQ _ _)
  ·cases op <;> first | exact nn h | skip
   ·refine (dD h).elim fun a h=>h.elim fun b h=>?_
    rw [← h.2.2] at hz
    refine (aU (show ((kxV fr x a).bind fun p=>(kxV fr x b).map fun q=>p + q)=some z from hz)).elim fun u h3=>(bD h3.2).elim fun v h4=>?_
    rw [← h4.2] at hQ
    exact wpAny_BinOp (ih l a u s _ h.1 h3.1 C fun t tk=>ih r b v { s with toks:=tk } _ h.2.1 h4.1 C fun t2 tk2=>PyProof.Rows.add_int (hQ _ _))
   ·refine (dD h).elim fun a h=>h.elim fun b h=>?_
    rw [← h.2.2] at hz
    refine vF (fr:=fr) (x:=x) (show ((kxV fr x a).bind fun p=>(kxV fr x b).bind fun q=>if fW p q then some (p * q) else none)=some z from hz) fun u v h3 h4 h5=>?_
    rw [← (jf h5).2] at hQ
    exact wpAny_BinOp (ih l a u s _ h.1 h3 C fun t tk=>ih r b v { s with toks:=tk } _ h.2.1 h4 C fun t2 tk2=>PyProof.Rows.mul_int (hQ _ _) (u6 (jf h5).1))
   ·refine (dD h).elim fun a h=>h.elim fun b h=>?_
    rw [← h.2.2] at hz
    refine vF (fr:=fr) (x:=x) (show ((kxV fr x a).bind fun p=>(kxV fr x b).bind fun q=>if q ≠ 0 then some (p.fmod q) else none)=some z from hz) fun u v h3 h4 h5=>?_
    rw [← (jf h5).2] at hQ
    exact wpAny_BinOp (ih l a u s _ h.1 h3 C fun t tk=>ih r b v { s with toks:=tk } _ h.2.1 h4 C fun t2 tk2=>PyProof.Rows.mod_int (jf h5).1 (hQ _ _))
end Mine
namespace Mine
open PySem PyProof.Rows PySem.W
set_option tactic.hygienic true in
theorem dr:∀ {ns:List Str}{xs:List Value}{n:Str},n ∈ ns→ns.length=xs.length→((ns.zip xs).lookup n).isNone=false
 | [],_,_,h,_=>by cases h
 | m :: ns,[],_,_,h=>by cases h
 | m :: ns,x :: xs,n,h,hl=>by
  rw [List.zip_cons_cons,List.lookup_cons]
  split
  ·rfl
  ·rename_i q
   rcases List.mem_cons.mp h with rfl | h
   ·simp at q
   ·exact dr h (by simpa using hl)
theorem iQ {α:Type}{n:Str}:∀ {l r:List (Str × α)},(∀ p ∈ l,p.1 ≠ n)→(l ++ r).lookup n=r.lookup n
 | [],_,_=>rfl
 | p :: l,r,h=>by
  rw [List.cons_append]
  obtain ⟨a,b⟩:=p
  rw [List.lookup_cons]
  have:(n == a)=false:=by
   cases q:n == a with
   | false=>rfl
   | true=>exact absurd (eq_of_beq q).symm (h _ (.head _))
  rw [this]
  exact iQ fun p hp=>h p (.tail _ hp)
theorem mt:∀ (ns pre:List Str) (xs pxs:List Value),(pre ++ ns).Nodup→ns.length=xs.length→pre.length=pxs.length→ns.filterMap (fun n=>((pre.zip pxs ++ ns.zip xs).lookup n).map fun v=>(n,v))=ns.zip xs
 | [],_,xs,_,_,_,_=>rfl
 | n :: ns,pre,[],_,_,hl,_=>by cases hl
 | n :: ns,pre,x :: xs,pxs,nd,hl,hp=>by
  have h1:((pre.zip pxs ++ (n :: ns).zip (x :: xs)).lookup n)=some x:=by
   rw [iQ,List.zip_cons_cons,List.lookup_cons]
   ·simp
   ·intro p hp' q
    have:=(List.of_mem_zip hp').1
    rw [q] at this
    exact (List.nodup_append.mp nd).2.2 n this n (.head _) rfl
  rw [List.filterMap_cons,h1]
  simp only [Option.map_some,List.zip_cons_cons]
  have:=mt ns (pre ++ [n]) xs (pxs ++ [x]) (by simpa using nd) (by simpa using hl) (by simp [hp])
  rw [List.zip_append hp] at this
  simp only [List.append_assoc] at this
  exact congrArg _ this
theorem i6 {fd:FuncData}{ns:List Arg}{d:List Expr} (hp:fd.params=⟨[],ns,none,[],[],none,d⟩) (hd:fd.defaults=.none) (nd:(ns.map (·.arg)).Nodup) {xs:List Value} (hl:ns.length=xs.length) :
  bindArgs fd ⟨xs,[]⟩=pure ((ns.map (·.arg)).zip xs):=by
 have hl':(ns.map (·.arg)).length=xs.length:=by simpa using hl
 have hm:(ns.map (·.arg)).filter (fun n=>(((ns.map (·.arg)).zip xs).lookup n).isNone)=[]:=by
  rw [List.filter_eq_nil_iff]
  intro a ha
  rw [dr ha hl']; simp
 have hm':((ns.map (·.arg)).take (ns.map (·.arg)).length).filter (fun n=>(((ns.map (·.arg)).zip xs).lookup n).isNone)=[]:=by
  rw [List.take_length]; exact hm
 have hzz:=mt (ns.map fun (x:Arg)=>x.arg) [] xs [] (by simpa using nd) hl' rfl
 unfold bindArgs
 rw [hp,hd]
 have hdec:decide (xs.length > (ns.map (·.arg)).length)=false:=decide_eq_false (by lia)
 refine (if_neg (c:=(decide (xs.length > (ns.map (·.arg)).length) && true)=true) (fun q=>by rw [hdec] at q; exact Bool.noConfusion q)).trans ?_
 rw [show ∀ k,List.drop k ((none:Option (Array Value)).getD #[]).toList=[] from fun k=>List.drop_nil]
 refine (if_neg (c:=(!(((ns.map (·.arg)).take (ns.map (·.arg)).length).filter (fun n=>(((ns.map (·.arg)).zip xs).lookup n).isNone)).isEmpty)=true) (fun q=>by rw [hm'] at q; exact Bool.noConfusion q)).trans ?_
 rw [List.zip_nil_right]
 refine congrArg (fun l=>(pure l:Sem (List (Str × Value)))) (Eq.trans (congrArg (List.filterMap _) (List.append_nil (ns.map fun (x:Arg)=>x.arg))) hzz)
theorem io {α:Type} (p:Int × α):∀ l:List (Int × α),(o0 p l).Perm (p :: l)
 | []=>.refl _
 | q :: r=>by
  rw [vc]
  split
  ·exact .refl _
  ·exact ((io p r).cons q).trans (.swap p q r)
theorem fA {α:Type}:∀ l:List (Int × α),(fL l).Perm l
 | []=>.refl _
 | p :: r=>(io p _).trans ((fA r).cons p)
set_option tactic.hygienic true in
theorem gG {α:Type} (p:Int × α):∀ l:List (Int × α),l.Pairwise (fun a b=>a.1 ≤ b.1)→(o0 p l).Pairwise (fun a b=>a.1 ≤ b.1)
 | [],_=>List.pairwise_singleton _ _
 | q :: r,h=>by
  rw [vc]
  have h':=List.pairwise_cons.mp h
  split
  ·rename_i hlt
   refine List.pairwise_cons.mpr ⟨fun b hb=>?_,h⟩
   rcases List.mem_cons.mp hb with e | e
   ·rw [e]; lia
   ·have:=h'.1 b e; lia
  ·rename_i hge
   refine List.pairwise_cons.mpr ⟨fun b hb=>?_,gG p r h'.2⟩
   rcases List.mem_cons.mp ((io p r).mem_iff.mp hb) with e | e
   ·rw [e]; lia
   ·exact h'.1 b e
theorem fS {α:Type}:∀ l:List (Int × α),(fL l).Pairwise (fun a b=>a.1 ≤ b.1)
 | []=>.nil
 | p :: r=>gG p _ (fS r)
theorem oD {α:Type}{l ps:List (Int × α)} (hn:(l.map (·.1)).Nodup) (hp:ps.Perm l) (hs:ps.Pairwise (fun a b=>a.1 ≤ b.1)):ps=fL l:=by
 refine List.Perm.eq_of_pairwise (le:=fun a b=>a.1 ≤ b.1) (fun a b ha hb h1 h2=>?_) hs (fS l) (hp.trans (fA l).symm)
 have ha':=hp.mem_iff.mp ha
 have hb':=(fA l).mem_iff.mp hb
 have e:a.1=b.1:=Int.le_antisymm h1 h2
 obtain ⟨i,hi,rfl⟩:=List.getElem_of_mem ha'
 obtain ⟨j,hj,rfl⟩:=List.getElem_of_mem hb'
 have:i=j:=(List.getElem_inj hn (h₀:=by simpa using hi) (h₁:=by simpa using hj)).mp (by simpa using e)
 subst this; rfl
theorem xC {α β:Type}{R:Int × α→Int × β→Prop} (hR:∀ a b,R a b→a.1=b.1) {p:Int × α}{q:Int × β} (h:R p q) {l:List (Int × α)}{m:List (Int × β)} (f:F2 R l m):F2 R (o0 p l) (o0 q m):=by
 induction f with
 | nil=>exact .cons h .nil
 | @cons a b l m x r ih =>
  show F2 R (if p.1 < a.1 then p :: a :: l else a :: o0 p l) (if q.1 < b.1 then q :: b :: m else b :: o0 q m)
  rw [hR p q h,hR a b x]
  split
  ·exact .cons h (.cons x r)
  ·exact .cons x ih
theorem wV {α β:Type}{R:Int × α→Int × β→Prop} (hR:∀ a b,R a b→a.1=b.1) {l:List (Int × α)}{m:List (Int × β)} (f:F2 R l m):F2 R (fL l) (fL m):=by
 induction f with
 | nil=>exact .nil
 | cons x _ ih=>exact xC hR x ih
theorem xo {α β:Type}{R:α→β→Prop} (ks:List Int) {l:List α}{m:List β} (f:F2 R l m):F2 (fun (a:Int × α) (b:Int × β)=>a.1=b.1 ∧ R a.2 b.2) (ks.zip l) (ks.zip m):=by
 induction f generalizing ks with
 | nil=>rw [List.zip_nil_right,List.zip_nil_right]; exact .nil
 | cons x _ ih =>
  cases ks with
  | nil=>exact .nil
  | cons k ks=>exact .cons ⟨rfl,x⟩ (ih ks)
theorem yb {α β α' β':Type}{R:α→β→Prop}{R':α'→β'→Prop}{f:α→α'}{g:β→β'} (h:∀ a b,R a b→R' (f a) (g b)) {l:List α}{m:List β} (r:F2 R l m):F2 R' (l.map f) (m.map g):=by
 induction r with
 | nil=>exact .nil
 | cons x _ ih=>exact .cons (h _ _ x) ih
theorem sT {ps:Arguments}{p:Str} (h:BF ps=some p):∃ a,ps=⟨[],[a],none,[],[],none,[]⟩ ∧ a.arg=p:=by
 obtain ⟨p1,p2,p3,p4,p5,p6,p7⟩:=ps
 rcases p2 with _ | ⟨a,_ | ⟨b,p2⟩⟩
 ·exact nn h
 ·have h0:=au h
  have h1:=af h0.1
  have h2:=af h1.2
  have h3:=af h2.2
  have h4:=af h3.2
  have h5:=af h4.2
  exact ⟨a,by rw [show p1=[] from List.isEmpty_iff.mp h1.1,show p3=none from Option.isNone_iff_eq_none.mp h2.1,show p4=[] from List.isEmpty_iff.mp h3.1,show p5=[] from List.isEmpty_iff.mp h4.1,show p6=none from Option.isNone_iff_eq_none.mp h5.1,show p7=[] from List.isEmpty_iff.mp h5.2],Option.some.inj h0.2⟩
 ·exact nn h
section
variable {g:Cfg}{K:Frag}{c0:CE}{fa:Nat→Option Addr}{call:Nat→List V→Sto→RE}{env:Env}{A:Around}{X:Value→Shared→Prop}{s:Shared}{as:List Addr}{fr:Fra} {σ σ':Sto}{r n:Nat}
 {names:List (Str × NameKind)}{Q:Value→Shared→Prop}{v:V}{sc:Scope}{body:Expr}{lp:Pos}
noncomputable def zA (env:Env) (a:Arg) (body:Expr) (sc:Scope) (pm:Value) (c':Addr) (ctv:Value):Obj :=
 kla_obj "<lambda>" (env.qual ++ "<lambda>") ⟨[],[a],none,[],[],none,[]⟩ body sc (gL env sc.names []) pm c' ctv
theorem z3 {a:Arg}{ca:Addr}{frm:List (Option Nat)} (G:bC g K c0 fa) (N:aq (c0.sub names) env A) (T:At g env as fr σ s) (hl:c0.lam=some ca) (ht:σ[1]?=some (.tab false)) (hf:fj (c0.sub names) sc=some frm)
  (hQ:∀ (f:Addr) (h':Heap) (tk:Nat) (pm:Value) (c':Addr) (ctv:Value),aC [env.locals] as s.heap as h'→Rel g as (σ.set 1 (.tab true)) h'→ay g env as fr h'→h'.get? f=some (zA env a body sc pm c' ctv)→h'.CodeRec (.ref c') (env.qual ++ "<lambda>")→Q (.ref f) { s with heap:=h',toks:=tk }) :
  wpAny (model g.prog g.w) A (eval (.Lambda ⟨[],[a],none,[],[],none,[]⟩ body sc lp) env) Q X s:=by
 obtain ⟨mg,Tg,C,_,hB,hne,_⟩:=G.lam ca hl
 have h1l:1 < as.length:=by rw [T.R.len]; exact (List.getElem?_eq_some_iff.mp ht).1
 have ha1:as[1]?=some as[1]:=List.getElem?_eq_getElem h1l
 obtain ⟨hP1,ps,hps,hps0⟩:=T.R.obj 1 _ _ ha1 ht
 rw [hP1] at ha1 hps
 rw [hps0 rfl] at hps
 have hPas:g.tab ∈ as:=List.mem_of_getElem? ha1
 refine kla_eval rfl (kla_makeFunction (mg:=mg) (rS (gw N T.F hf)) T.F.glob (Tg.keeps T.R.base) (N.code ca hl) (C.keeps T.R.base) hps trivial rfl hne (hB.keeps T.R.base) fun c' ctv h' tk hx hge hlt hrec htb=>?_)
 generalize hO:kla_obj "<lambda>" (env.qual ++ "<lambda>") ⟨[],[a],none,[],[],none,[]⟩ body sc (gL env sc.names []) ((mg "__name__").getD .none) c' ctv=ob
 have hk:∀ (b:Addr) (o:Obj),b ≠ g.tab→s.heap.get? b=some o→(h'.push ob).get? b=some o:=fun b o hb e=>Heap.get?_push_of_some _ (hx b o hb e)
 have KK:bR as s.heap as (h'.push ob):=.same fun b o e hi _=>hk b o (fun q=>by
  subst q; rw [hps] at e; cases e; rcases hi.1 with q | q | ⟨_,_,q,_⟩ <;> cases q) e
 have R':Rel g as (σ.set 1 (.tab true)) (h'.push ob):=by
  refine ⟨fun b o e=>hk b o (fun q=>by subst q; rw [T.R.new _ hPas] at e; cases e) (T.R.base b o e),by rw [List.length_set]; exact T.R.len,T.R.nd,T.R.new,fun i b o e1 e2=>?_,T.R.hnd.keep KK⟩
  by_cases hi:i=1
  ·subst hi
   rw [ha1] at e1; cases e1
   rw [List.getElem?_set_self (by rw [← T.R.len]; exact h1l)] at e2; cases e2
   exact ⟨rfl,_,Heap.get?_push_of_some _ htb,fun q=>nomatch q⟩
  ·rw [List.getElem?_set_ne (Ne.symm hi)] at e2
   refine (T.R.obj i b o e1 e2).keep KK fun oc e=>hk b oc (fun q=>?_) e
   subst q
   obtain ⟨hi1,e3⟩:=List.getElem?_eq_some_iff.mp e1
   obtain ⟨hj1,e4⟩:=List.getElem?_eq_some_iff.mp ha1
   exact hi ((List.getElem_inj T.R.nd).mp (e3.trans e4.symm))
 have F':ay g env as fr (h'.push ob):=T.F.alter KK hk (fun q=>T.F.off (q ▸ hPas)) (fun x c hc q=>(T.F.offc _ _ hc).1 (q ▸ hPas)) fun _ h=>.inl h
 refine hQ _ _ tk _ c' ctv ⟨⟨[],by simp,by simp⟩,fun b o e _ hb=>hk b o (fun q=>hb (q ▸ hPas)) e⟩ R' F' (by rw [zA,hO]; exact Heap.get?_push_size _ (by rw [← hO]; rfl)) ?_
 obtain ⟨c₂,oc,vs,t,e2,hoc,hd,hv⟩:=hrec
 exact ⟨c₂,oc,vs,t,e2,Heap.get?_push_of_some _ hoc,hd,hv⟩
theorem zz {a:Arg}{frm:List (Option Nat)}{key:KX}{x z:Int}{t:Tok}{f c':Addr}{pm ctv:Value}{h:Heap}{tk:Nat}{m:Str→Option Value}{need:List (Addr × Obj)}{B:Around} (N:aq (c0.sub names) env A) (T:At g env as fr σ s) (lim:g.b.NoLimit) (hroom:B.depth < recursionLimit)
  (hf:fj (c0.sub names) sc=some frm) (hso:oU sc=true) (hgen:sc.isGenerator=false) (hco:sc.isCoroutine=false) (hp:sc.names.lookup a.arg=some .local) (hkey:oZ 10 (c0.sub names) a.arg sc body=some key) (hz:kxV fr x key=some z)
  (ho:s.heap.get? f=some (zA env a body sc pm c' ctv)) (hcd:s.heap.CodeRec (.ref c') (env.qual ++ "<lambda>"))
  (F':Fr g.b env.locals h m) (N':News g.b env.locals h need) (hs:∀ p ∈ newsOf g.b env.locals s.heap,p ∈ need) :
  wpAny (model g.prog g.w) B (PySem.call (.ref f) [.int x t]) (KskEnd g.b env.locals m need z { s with heap:=h,toks:=tk }) (fun _ _=>False) { s with heap:=h,toks:=tk }:=by
 have ext:=d9 F' N' hs T.R.base
 obtain ⟨mL,⟨oL,esL,epL,eL,dL,_⟩,_⟩:=T.F.ns
 have hfL:f ≠ env.locals:=fun q=>by rw [q,eL] at ho; cases ho; cases dL
 have hcd':h.CodeRec (.ref c') (env.qual ++ "<lambda>"):=by
  obtain ⟨c₂,oc,vs,t2,e2,hoc,hd,hv⟩:=hcd
  exact ⟨c₂,oc,vs,t2,e2,ext _ _ (fun q=>by rw [q,eL] at hoc; cases hoc; rw [dL] at hd; cases hd) hoc,hd,hv⟩
 obtain ⟨hk,hnd⟩:=gy hso
 refine wpAny_call (kla_callFunE (s:={ s with heap:=h,toks:=tk }) hroom (ext _ _ hfL ho) rfl hco hgen rfl hcd' ?_)
 have hbind:bindArgs (kla_fn "<lambda>" (env.qual ++ "<lambda>") ⟨[],[a],none,[],[],none,[]⟩ body sc (gL env sc.names []) pm (.ref c') ctv) ⟨[.int x t],[]⟩=pure [(a.arg,.int x t)] :=
  i6 (ns:=[a]) (d:=[]) rfl rfl (by simp) rfl
 rw [hbind]
 refine wpAny_pure (wpAny_newFunctionEnv (s:={ s with heap:=h,toks:=tk }) (dF hf) (fun y hy=>by rw [List.mem_singleton.mp hy]; exact hp) (fun h₁ hns hsb=>⟨((lim).keeps F'.keep).fresh _ hsb,?_⟩) hk)
 have hk₁:∀ (b:Addr) (o:Obj),h.get? b=some o→h₁.get? b=some o:=fun b o e=>hsb.extBut b o (Nat.ne_of_lt (Heap.lt_size e)) (Heap.get?_push_of_some _ e)
 refine kla_codeExpr (yu (fr:=fr) (x:=x) (p:=a.arg) (c:=c0.sub names) 10 body key z _ _ hkey hz ⟨hk,⟨_,t,hns,by simp,hp⟩,fun y i v h1 h2 h3=>?_⟩ fun t2 tk2=>?_)
 ·have hmem:(y,NameKind.free) ∈ sc.names:=av h2
  obtain ⟨cc,hcc⟩:=fK sc.names [] y (gw N T.F hf) (.inl hmem)
  have hce:=dE sc.names [] (fun _ _ e=>nomatch e) y cc hcc
  obtain ⟨k,h4,h5⟩:=jk h1
  obtain ⟨k',h6,h7⟩:=N.get h4
  have hk':k'=.cell ∨ k'=.free:=by
   rcases h7 with q | q
   ·subst q; exact h5
   ·exact .inl q.2
  obtain ⟨c2,cv,e1,⟨oc,e2,e2'⟩,e3⟩:=T.F.cells i y k' h6 hk'
  rw [hce] at e1; cases e1
  obtain ⟨val,rfl,rv⟩:=e3 _ h3
  obtain ⟨tv,rfl⟩:=cg rv
  exact ⟨cc,tv,hcc,oc,hk₁ _ _ (ext _ _ (T.F.offc _ _ hce).2.1 e2),e2'⟩
 ·exact ⟨h₁,tk2,t2,rfl,rfl,F'.kept hk₁,N'.grown hk₁⟩
set_option tactic.hygienic true in
theorem uw {key:KX}{u:V} (e:zC key fr u σ=.ok v σ'):∃ hi ks,u=.rng 0 hi ∧ hi < 60 ∧ σ[1]?=some (.tab false) ∧ aQ (fun (j:Nat)=>kxV fr (j:Int) key) (List.range hi.toNat)=some ks ∧ ks.Nodup ∧ cN ((fL (ks.zip (iG 0 hi))).map (·.2)) (σ.set 1 (.tab true))=.ok v σ':=by
 cases u <;> first | exact ax e | skip
 rename_i lo hi
 obtain ⟨⟨rfl,hh⟩,e1⟩:=eE e
 have key2:∀ {o:Option AO}{q:RE},Ak o q=.ok v σ'→o=some (.tab false) ∧ q=.ok v σ':=fun {o q} e=>by
  cases o with
  | none=>exact ax e
  | some o=>cases o with
   | tab b=>cases b with
    | false=>exact ⟨rfl,e⟩
    | true=>exact ax e
   | _=>exact ax e
 obtain ⟨h1,e2⟩:=key2 e1
 cases hks:aQ (fun (j:Nat)=>kxV fr (j:Int) key) (List.range hi.toNat) with
 | none=>rw [hks] at e2; exact ax e2
 | some ks =>
  rw [hks] at e2
  obtain ⟨h3,e3⟩:=eE e2
  exact ⟨hi,ks,rfl,hh,h1,hks,h3,e3⟩
theorem AZ {a:Arg}{frm:List (Option Nat)}{key:KX}{hi:Int}{ks:List Int}{x:Value}{f c':Addr}{pm ctv:Value}{B:Nat} (N:aq (c0.sub names) env A) (T:At g env as fr σ s) (lim:g.b.NoLimit) (hA:cb g A B) (hh:g.hd=none)
  (hf:fj (c0.sub names) sc=some frm) (hso:oU sc=true) (hgen:sc.isGenerator=false) (hco:sc.isCoroutine=false) (hp:sc.names.lookup a.arg=some .local) (hkey:oZ 10 (c0.sub names) a.arg sc body=some key)
  (hks:aQ (fun (j:Nat)=>kxV fr (j:Int) key) (List.range hi.toNat)=some ks) (hnd:ks.Nodup) (h60:hi < 60) (hr:RepV as s.heap (.rng 0 hi) x) (e:cN ((fL (ks.zip (iG 0 hi))).map (·.2)) σ=.ok v σ')
  (ho:s.heap.get? f=some (zA env a body sc pm c' ctv)) (hcd:s.heap.CodeRec (.ref c') (env.qual ++ "<lambda>")) (hQ:aK g env as fr s v σ' Q) :
  wpAny (model g.prog g.w) A (PySem.call (.builtin "sorted") [x] [(Str.ofString "key",.ref f)]) Q X s:=by
 rw [RepV] at hr
 obtain ⟨ra,t,u,w',rfl,hro,hrb⟩:=hr
 obtain ⟨z1,z2⟩:=jH hrb
 have hz0:((hi - 0).toNat)=hi.toNat:=by rw [Int.sub_zero]
 rw [hz0] at z1
 obtain ⟨m,hF,_⟩:=T.F.fr T.R
 have hlen:ks.length=hi.toNat:=by have:=(cw hks).1; rw [List.length_range] at this; exact this.symm
 have hdep:A.in1.in1.depth < recursionLimit:=by have:=hA.depth; show A.depth < 1000; lia
 refine j8 hF (eQ _ _ _) (hA.none hh) hro z2 z1 (by lia) hlen (fun i t' k hi' hk h tk own F' N'=>?_) fun D h' tk vs out ep F' N' hD hvl hvs ko=>?_
 ·have e0:(0:Int) + (i:Int) * 1=(i:Int):=by lia
  rw [e0]
  refine zz (tk:=tk) N T lim hdep hf hso hgen hco hp hkey ?_ ho hcd F' N' fun p hp=>List.mem_append_left _ hp
  obtain ⟨b,h1,h2⟩:=(cw hks).2 i i (List.getElem?_range hi')
  rw [hk] at h1; cases h1
  exact h2
 ·obtain ⟨ps,hpp,hout,hps⟩:=ko
  have hsd:ps=fL (ks.zip vs):=oD (by rw [List.map_fst_zip (by lia)]; exact hnd) hpp (by simpa using hps)
  refine hQ.newN (tk:=tk) T hF.ns F' rfl N' (fun p hp=>.tail _ hp) (.head _) hD ?_ e
  rw [hout,hsd]
  refine ah.f2.mpr (yb (R:=fun (a:Int × V) (b:Int × Value)=>a.1=b.1 ∧ RepV as s.heap a.2 b.2) (fun _ _ h=>h.2) (wV (fun _ _ h=>h.1) (xo ks ?_)))
  have hacc:ItemsOf (fun i v=>∃ t,v=Value.int (0 + (i:Int) * 1) t) vs.toArray (hi - 0).toNat:=⟨by simpa [hz0] using hvl,fun i x hx=>hvs i x (by simpa using hx)⟩
  simpa using ah.f2.mp (rB (as:=as) (h:=s.heap) hacc)
theorem qC {c:CE}{f:Expr→Option E}{x:Str}{e:Expr}{kw:Option Str}{ps:Arguments}{e':E} (Ψ:Str→Option Str→Arguments→E→Prop) (h:pH c f x e kw (ps,body,sc,lp)=some e')
  (H:∀ ca frm a a' key,c.glob "sorted"=true→c.lam=some ca→oU sc=true→sc.isGenerator=false→sc.isCoroutine=false→fj c sc=some frm→sc.names.lookup a.arg=some .local→f e=some a'→oZ 10 c a.arg sc body=some key→Ψ "sorted" (some "key") ⟨[],[a],none,[],[],none,[]⟩ (.srt a' key)):Ψ x kw ps e':=by
 have g0:=au h
 have g1:=af g0.1
 have g2:=af g1.2
 have g3:=af g2.2
 have g4:=af g3.2
 have g5:=af g4.2
 have g6:=af g5.2
 have g7:=af g6.2
 refine (Option.isSome_iff_exists.mp g7.2).elim fun frm hfr=>(Option.isSome_iff_exists.mp g4.1).elim fun ca hca=>(aU g0.2).elim fun pn h1=>(sT h1.1).elim fun a ha=>(dD (au h1.2).2).elim fun a' k=>k.elim fun key k=>?_
 rw [show kw=_ from eq_of_beq g1.1,show x=_ from eq_of_beq g2.1,show ps=_ from ha.1,← k.2.2]
 have hl:sc.names.lookup pn=some .local:=eq_of_beq (au h1.2).1
 have hk:=k.2.1
 rw [← ha.2] at hl hk
 exact H ca frm a a' key (show c.glob "sorted"=true from (show x=_ from eq_of_beq g2.1) ▸ g3.1) hca g5.1 (aP g6.1) (aP g7.1) hfr hl k.1 hk
theorem xU {x:Str}{e:Expr}{kw:Option Str}{ps:Arguments}{kp fp p:Pos}{e':E} (G:bC g K c0 fa) (IH:bv g c0 call r n) (h:pH (c0.sub names) (aj n (c0.sub names)) x e kw (ps,body,sc,lp)=some e') :
  aN g c0 call r names (.Call (.Name x fp) [e] [⟨kw,.Lambda ps body sc lp,kp⟩] p) e':=by
 refine qC (fun x kw ps e'=>aN g c0 call r names (.Call (.Name x fp) [e] [⟨kw,.Lambda ps body sc lp,kp⟩] p) e') h fun ca frm a a' key g3 hca g5 g6 g7 hfr hpl h1 hkey=>?_
 intro env A X s as fr σ σ' v Q N hA T ev hQ
 refine aB ev fun u τ e3 e4=>?_
 obtain ⟨hi,ks,rfl,h60,htab,hks,hnd,enew⟩:=uw e4
 refine (G.lam ca hca).elim fun _ hlam=>?_
 have lim:=hlam.2.2.1
 have hh:=hlam.2.2.2.2.2
 show wpAny _ A (eval (.Name "sorted" fp) env >>= fun f=>callWith p f [] (backTo p (starEach [e] env)) (backToKw p (keywordEach [⟨some "key",.Lambda ⟨[],[a],none,[],[],none,[]⟩ body sc lp,kp⟩] env))) Q X s
 refine wpAny_bind (cy T N g3 rfl G.sorted ?_)
 refine callWith_kw ?_ (by rw [aW h1]; rfl) (by rw [aW h1]; rfl) rfl rfl
 refine wpAny_items_cons ?_ (aW h1 _ _)
 refine IH names e a' h1 env A X s as fr σ τ _ _ N hA T e3 fun val as' h' tk st R' F' r'=>wpAny_items_nil ?_
 have T':At g env as' fr τ { s with heap:=h',toks:=tk }:=⟨F',R'⟩
 show wpAny _ A (do let v ← (do let v ← eval (.Lambda ⟨[],[a],none,[],[],none,[]⟩ body sc lp) env; standAt p; pure v); return v :: (← holding [v] (evalAll []))) _ X _
 refine wpAny_bind (wpAny_bind (z3 G N T' hca htab hfr fun f h2 tk2 pm c' ctv st2 R2 F2 ho hcd=>wpAny_bind (wpAny_standAt (wpAny_pure (wpAny_bind (wpAny_holding (wpAny_pure (wpAny_pure ?_))))))))
 have T2:At g env as' fr (τ.set 1 (.tab true)) { s with heap:=h2,toks:=tk2 }:=⟨F2,R2⟩
 exact AZ N T2 lim hA hh hfr g5 g6 g7 hpl hkey hks hnd h60 (RepV.keep (T'.keep st2) _ _ r') enew ho hcd (aR (s:=s) (tk:=tk2) hQ (ao st st2 R2 F2) R2 F2)
end
end Mine
namespace Mine
set_option backward.match.sparseCases false
open PySem PyProof.Rows PySem.W
theorem wp {c:CE}{f:Str}{t:Str × Expr}{k:CK} (h:ck1 c f t=k):(k=.setLen t.2 ∧ f="len" ∧ t.1="set" ∧ c.glob "len"=true ∧ c.glob "set"=true) ∨ (k=.revl t.2 ∧ f="list" ∧ t.1="reversed" ∧ c.glob "list"=true ∧ c.glob "reversed"=true) ∨ k=.plain:=by
 unfold ck1 at h
 cases q:(f == ("len":Str) && (t.1 == ("set":Str) && (c.glob f && c.glob t.1))) with
 | true =>
  rw [q] at h
  obtain ⟨q1,q2⟩:=af q; obtain ⟨q2,q3⟩:=af q2; obtain ⟨q3,q4⟩:=af q3
  have e1:=eq_of_beq q1; have e2:=eq_of_beq q2
  rw [e1] at q3; rw [e2] at q4
  exact .inl ⟨h.symm,e1,e2,q3,q4⟩
 | false =>
  rw [q] at h
  cases q:(f == ("list":Str) && (t.1 == ("reversed":Str) && (c.glob f && c.glob t.1))) with
  | true =>
   rw [q] at h
   obtain ⟨q1,q2⟩:=af q; obtain ⟨q2,q3⟩:=af q2; obtain ⟨q3,q4⟩:=af q3
   have e1:=eq_of_beq q1; have e2:=eq_of_beq q2
   rw [e1] at q3; rw [e2] at q4
   exact .inr (.inl ⟨h.symm,e1,e2,q3,q4⟩)
  | false=>rw [q] at h; exact .inr (.inr h.symm)
theorem vQ {c:CE}{f:Str}{a:Expr}{t:Str}{k:CK} (h:ck2 c f a t=k):(k=.isi a t ∧ f="isinstance" ∧ c.glob "isinstance"=true ∧ c.glob t=true ∧ (t == ("__debug__":Str))=false) ∨ k=.plain:=by
 unfold ck2 at h
 cases q:(f == ("isinstance":Str) && (c.glob f && (c.glob t && !(t == ("__debug__":Str))))) with
 | true =>
  rw [q] at h
  obtain ⟨q1,q2⟩:=af q; obtain ⟨q2,q3⟩:=af q2; obtain ⟨q3,q4⟩:=af q3
  have e1:=eq_of_beq q1
  rw [e1] at q2
  exact .inl ⟨h.symm,e1,q2,q3,aP q4⟩
 | false=>rw [q] at h; exact .inr h.symm
noncomputable def xA (c:CE) (f:Str) (args:List Expr):CK→Prop
 | .setLen a=>∃ fp p,args=[.Call (.Name "set" fp) [a] [] p] ∧ f="len" ∧ c.glob "len"=true ∧ c.glob "set"=true
 | .revl a=>∃ fp p,args=[.Call (.Name "reversed" fp) [a] [] p] ∧ f="list" ∧ c.glob "list"=true ∧ c.glob "reversed"=true
 | .isi a t=>∃ tp,args=[a,.Name t tp] ∧ f="isinstance" ∧ c.glob "isinstance"=true ∧ c.glob t=true ∧ (t == ("__debug__":Str))=false
 | .plain=>True
theorem As (c:CE) (f:Str) (args:List Expr):xA c f args (jO c f args):=by
 rcases args with _ | ⟨a,_ | ⟨b,_ | ⟨d,args⟩⟩⟩
 ·exact True.intro
 ·show xA c f [a] (match iy a with | some t=>ck1 c f t | none=>.plain)
  cases q:iy a with
  | none=>exact True.intro
  | some t =>
   obtain ⟨fp,p,rfl⟩:=iU q
   obtain ⟨x,b⟩:=t
   show xA c f _ (ck1 c f (x,b))
   rcases wp (c:=c) (f:=f) (t:=(x,b)) rfl with ⟨h,h1,h2,h3,h4⟩ | ⟨h,h1,h2,h3,h4⟩ | h <;> rw [h]
   ·have h2:x=_:=h2
    subst h2; exact ⟨fp,p,rfl,h1,h3,h4⟩
   ·have h2:x=_:=h2
    subst h2; exact ⟨fp,p,rfl,h1,h3,h4⟩
   ·exact True.intro
 ·show xA c f [a,b] (match dS b with | some x=>ck2 c f a x | none=>.plain)
  cases q:dS b with
  | none=>exact True.intro
  | some x =>
   obtain ⟨p,rfl⟩:=bK q
   show xA c f _ (ck2 c f a x)
   rcases vQ (c:=c) (f:=f) (a:=a) (t:=x) rfl with ⟨h,h1,h2,h3,h4⟩ | h <;> rw [h]
   ·exact ⟨p,rfl,h1,h2,h3,h4⟩
   ·exact True.intro
 ·exact True.intro
section
variable {g:Cfg}{K:Frag}{c0:CE}{fa:Nat→Option Addr}{call:Nat→List V→Sto→RE}{r n:Nat}{names:List (Str × NameKind)}{e':E}
theorem w5 {k:Const}{a:Nat}{p:Pos} (h:vk k=some e'):aN g c0 call r names (.Constant k a p) e':=by
 cases k with
 | none=>exact si h xL
 | bool b=>exact si h xZ
 | int b=>exact si h AP
 | str b=>exact si h AV
 | _=>exact nn h
theorem zk {x:Str}{p:Pos} (G:bC g K c0 fa) (h:yj (c0.sub names) x=some e'):aN g c0 call r names (.Name x p) e':=by
 obtain ⟨h1,h2⟩:=au h
 obtain ⟨hd,hc⟩:=af h1
 cases q:(c0.sub names).loc? x with
 | some i=>rw [q] at h2; exact si h2 (AN q (aP hd) (aP hc))
 | none =>
  rw [q] at h2
  obtain ⟨hg,h3⟩:=au h2
  refine bT h3 fun i hi qx2=>?_; subst qx2
  exact vP G hg (aP hd) hi
theorem zU {l rt:Expr}{op:Operator}{p:Pos} (IH:bv g c0 call r n) (h:AK (aj n (c0.sub names)) l op rt=some e'):aN g c0 call r names (.BinOp l op rt p) e':=by
 unfold AK at h
 cases q:Bv op with
 | true =>
  rw [q] at h
  refine bX h fun a b h1 h2 qx4=>?_; subst qx4
  exact AW IH h1 h2
 | false =>
  rw [q] at h
  have h0:=(au h).1
  refine (aU (au h).2).elim fun a h=>(aU h.2).elim fun b h'=>(gM h.1).elim fun k1 q1=>q1.elim fun p1 q1=>(gM h'.1).elim fun k2 q2=>q2.elim fun p2 q2=>?_
  have h3:=au h'.2
  rw [q1,q2]
  clear q1 q2 h h'
  cases op <;> first | exact ft h0 | skip
  exact si h3.2 (A4 (of_decide_eq_true h3.1))
theorem BO {op:UnaryOp}{x:Expr}{p:Pos} (IH:bv g c0 call r n) (h:cUn (aj n (c0.sub names)) op x=some e'):aN g c0 call r names (.UnaryOp op x p) e':=by
 cases op with
 | Not=>refine bT h fun a h1 qx2=>?_; subst qx2; exact Bi IH h1
 | USub=>refine bT h fun a h1 qx2=>?_; subst qx2; exact An IH h1
 | _=>exact nn h
theorem rU {f:Expr→Option E}{l:Expr}{ops:List CmpOp}{rs:List Expr}{P:List CmpOp→List Expr→E→Prop} (h:zH f l ops rs=some e')
  (H1:∀ op m a b,dB op m=true→f l=some a→f m=some b→P [op] [m] (.cmp op a b)) (H2:∀ o1 o2 m rt a b d,dB o2 rt=true→f l=some a→f m=some b→f rt=some d→P [o1,o2] [m,rt] (.cmp2 o1 o2 a b d)):P ops rs e':=by
 rcases ops with _ | ⟨o1,_ | ⟨o2,_ | ⟨o3,os⟩⟩⟩
 ·exact nn h
 ·rcases rs with _ | ⟨m,_ | ⟨rt,rs⟩⟩
  ·exact nn h
  ·obtain ⟨h0,h⟩:=au h
   refine bX h fun a b h1 h2 qx4=>?_; subst qx4
   exact H1 _ _ _ _ h0 h1 h2
  ·exact nn h
 ·rcases rs with _ | ⟨m,_ | ⟨rt,_ | ⟨r3,rs⟩⟩⟩
  ·exact nn h
  ·exact nn h
  ·obtain ⟨h0,h⟩:=au h
   refine d5 h fun a b d h1 h2 h3 qx6=>?_; subst qx6
   exact H2 _ _ _ _ _ _ _ h0 h1 h2 h3
  ·exact nn h
 ·exact nn h
theorem AQ {l:Expr}{ops:List CmpOp}{rs:List Expr}{p:Pos} (G:bC g K c0 fa) (IH:bv g c0 call r n) (h:zH (aj n (c0.sub names)) l ops rs=some e'):aN g c0 call r names (.Compare l ops rs p) e' :=
 rU (P:=fun ops rs e'=>aN g c0 call r names (.Compare l ops rs p) e') h (fun _ _ _ _ h0 h1 h2=>A8 G IH h0 h1 h2) fun _ _ _ _ _ _ _ h0 h1 h2 h3=>yJ G IH h0 h1 h2 h3
theorem vM {v:Expr}{a b d:Option Expr}{p1 p:Pos} (IH:bv g c0 call r n) (h:vt (aj n (c0.sub names)) v a b d=some e'):aN g c0 call r names (.Subscript v (.Slice a b d p1) p) e':=by
 cases a with
 | some lo=>cases b with
  | some=>exact nn h
  | none=>cases d with
   | some=>exact nn h
   | none=>refine bX h fun x y h1 h2 qx4=>?_; subst qx4; exact zK IH h1 h2
 | none=>cases b with
  | some hi=>cases d with
   | some=>exact nn h
   | none=>refine bX h fun x y h1 h2 qx4=>?_; subst qx4; exact Aw IH h1 h2
  | none=>cases d with
   | some st=>exact nn h
   | none=>exact nn h
theorem Aa {v i:Expr}{p:Pos} (IH:bv g c0 call r n) (h:zW (aj n (c0.sub names)) v i=some e'):aN g c0 call r names (.Subscript v i p) e':=by
 have plain:fT E.sub (aj n (c0.sub names) v) (aj n (c0.sub names) i)=some e'→aN g c0 call r names (.Subscript v i p) e':=fun h=>by
  refine bX h fun x y h1 h2 qx4=>?_; subst qx4; exact AE IH h1 h2
 unfold zW at h
 cases q:vw i <;> rw [q] at h <;> first | exact plain h | skip
 obtain ⟨p1,rfl⟩:=bE q
 exact vM IH h
theorem za {ks:List (Option Expr)}{vs:List Expr}{p:Pos} (G:bC g K c0 fa) (IH:bv g c0 call r n) (h:yh (aj n (c0.sub names)) ks vs=some e'):aN g c0 call r names (.Dict ks vs p) e':=by
 rcases ks with _ | ⟨_ | k,_ | ⟨k2,ks⟩⟩
 ·cases vs with
  | nil=>exact si h (wg G)
  | cons=>exact nn h
 ·exact nn h
 ·exact nn h
 ·rcases vs with _ | ⟨v,_ | ⟨v2,vs⟩⟩
  ·exact nn h
  ·refine bX h fun x y h1 h2 qx4=>?_; subst qx4; exact wk G IH h1 h2
  ·exact nn h
 ·exact nn h
theorem kj {c:CE}{f:Expr→Option E}{x:Str}{args:List Expr}{fp:Pos} (Ψ:Expr→List Expr→E→Prop) (h:nH c f x args=some e')
  (H1:∀ fp fp1 p1 a y,c.glob "len"=true→c.glob "set"=true→c.hnd=false→f a=some y→Ψ (.Name "len" fp) [.Call (.Name "set" fp1) [a] [] p1] (.blt .setLen [y]))
  (H2:∀ fp fp1 p1 a y,c.glob "list"=true→c.glob "reversed"=true→c.hnd=false→f a=some y→Ψ (.Name "list" fp) [.Call (.Name "reversed" fp1) [a] [] p1] (.blt .revl [y]))
  (H3:∀ fp a t tp y ty,c.glob "isinstance"=true→c.glob t=true→pU c t=some ty→(t == ("__debug__":Str))=false→f a=some y→Ψ (.Name "isinstance" fp) [a,.Name t tp] (.isi y ty))
  (H4:∀ x fp args es b,c.glob x=true→(x == ("__debug__":Str))=false→bltName.lookup x=some b→bOk b=true→c.hnd=false→aQ f args=some es→Ψ (.Name x fp) args (.blt b es))
  (H5:∀ x fp args es k,c.glob x=true→(x == ("__debug__":Str))=false→c.fns.lookup x=some k→aQ f args=some es→Ψ (.Name x fp) args (.call k es))
  (H6:∀ x fp args es k,c.glob x=true→(x == ("__debug__":Str))=false→c.tfns.lookup x=some k→c.top=some c.names→aQ f args=some es→Ψ (.Name x fp) args (.tcall k es))
  (H7:∀ x fp args es k,c.glob x=true→(x == ("__debug__":Str))=false→c.clss.lookup x=some k→aQ f args=some es→Ψ (.Name x fp) args (.mk k es)):Ψ (.Name x fp) args e':=by
 have hk:=As c x args
 unfold nH at h
 cases q:jO c x args with
 | setLen a =>
  rw [q] at h hk
  refine (bD (au h).2).elim fun y h1=>hk.elim fun fp1 hk=>hk.elim fun p1 hk=>?_
  rw [hk.1,hk.2.1,← h1.2]
  exact H1 _ _ _ _ _ hk.2.2.1 hk.2.2.2 (aP (au h).1) h1.1
 | revl a =>
  rw [q] at h hk
  refine (bD (au h).2).elim fun y h1=>hk.elim fun fp1 hk=>hk.elim fun p1 hk=>?_
  rw [hk.1,hk.2.1,← h1.2]
  exact H2 _ _ _ _ _ hk.2.2.1 hk.2.2.2 (aP (au h).1) h1.1
 | isi a t =>
  rw [q] at h hk
  refine (dD h).elim fun y h=>h.elim fun ty h=>hk.elim fun tp hk=>?_
  rw [hk.1,hk.2.1,← h.2.2]
  exact H3 _ _ _ _ _ _ hk.2.2.1 hk.2.2.2.1 h.2.1 hk.2.2.2.2 h.1
 | plain =>
  rw [q] at h
  have h0:=af (af (au h).1).2
  refine (aU (au h).2).elim fun es' h=>?_
  have h2:=h.2
  unfold i0 at h2
  cases q1:bltName.lookup x with
  | some b=>rw [q1] at h2; exact si (P:=Ψ _ _) (au h2).2 (H4 _ _ _ _ _ h0.1 (aP h0.2) q1 (af (au h2).1).1 (aP (af (au h2).1).2) h.1)
  | none =>
   rw [q1] at h2
   cases q2:c.fns.lookup x with
   | some k=>rw [q2] at h2; exact si (P:=Ψ _ _) h2 (H5 _ _ _ _ _ h0.1 (aP h0.2) q2 h.1)
   | none =>
    rw [q2] at h2
    cases q3:c.tfns.lookup x with
    | some k=>rw [q3] at h2; exact si (P:=Ψ _ _) (au h2).2 (H6 _ _ _ _ _ h0.1 (aP h0.2) q3 (eq_of_beq (au h2).1) h.1)
    | none =>
    rw [q3] at h2
    refine (bD h2).elim fun k h3=>?_
    rw [← h3.2]
    exact H7 _ _ _ _ _ h0.1 (aP h0.2) h3.1 h.1
set_option tactic.hygienic true in
theorem kb {c:CE}{f:Expr→Option E}{x:Str}{args:List Expr}{k:Keyword} (Ψ:Str→List Expr→Keyword→E→Prop) (h:o7 c f x args k=some e')
  (H1:∀ a y k1 p1 kp,c.glob "max"=true→c.hnd=false→f a=some y→Ψ "max" [a] ⟨some "default",.Constant .none k1 p1,kp⟩ (.maxd y))
  (H2:∀ x a kw ps body sc lp kp e',pH c f x a kw (ps,body,sc,lp)=some e'→Ψ x [a] ⟨kw,.Lambda ps body sc lp,kp⟩ e'):Ψ x args k e':=by
 rcases args with _ | ⟨a,_ | ⟨b,args⟩⟩
 ·exact nn h
 ·obtain ⟨kw,kv,kp⟩:=k
  have h:(match vw kv with
   | .const v=>(match v with | .none=>gd (kw == some ("default":Str) && (x == ("max":Str) && (c.glob x && !c.hnd))) ((f a).map .maxd) | _=>none)
   | .lam t=>pH c f x a kw t
   | _=>none)=some e':=h
  cases q:vw kv <;> rw [q] at h <;> first | exact nn h | skip
  ·rename_i v
   cases v <;> first | exact nn h | skip
   have g:=au h
   have g1:=af g.1
   have g2:=af g1.2
   obtain ⟨k1,p1,e2⟩:=bE q
   refine bT g.2 fun y h4 e4=>?_
   rw [show kw=_ from eq_of_beq g1.1,show x=_ from eq_of_beq g2.1,show kv=_ from e2,← e4]
   exact H1 _ _ _ _ _ (show c.glob "max"=true from (eq_of_beq g2.1) ▸ (af g2.2).1) (aP (af g2.2).2) h4
  ·rename_i t
   rw [show kv=_ from bE q]
   exact H2 _ _ _ _ _ _ _ _ _ h
 ·exact nn h
theorem ki {c:CE}{f:Expr→Option E}{t:Expr × Str × Pos}{args:List Expr}{p:Pos} (Ψ:E→Prop) (h:nS c f t args p=some e')
  (H1:∀ a es m,d0 t.1=true→args.length ≤ 8→(t.2.2.endLine == p.line)=true→f t.1=some a→aQ f args=some es→dO.lookup t.2.1=some m→Ψ (.meth a m es))
  (H2:∀ a es k,d0 t.1=true→args.length ≤ 8→(t.2.2.endLine == p.line)=true→f t.1=some a→aQ f args=some es→c.mths.lookup t.2.1=some k→Ψ (.umeth a k es))
  : Ψ e':=by
 have g:=au h
 have g1:=af g.1
 have g2:=af g1.2
 refine (aU g.2).elim fun a h=>(aU h.2).elim fun es h'=>?_
 have h3:=h'.2
 unfold nt at h3
 cases q:dO.lookup t.2.1 with
 | some m=>rw [q] at h3; exact si (P:=Ψ) h3 (H1 _ _ _ g2.1 (of_decide_eq_true g1.1) g2.2 h.1 h'.1 q)
 | none =>
  rw [q] at h3
  refine (bD h3).elim fun k h7=>?_
  rw [← h7.2]
  exact H2 _ _ _ g2.1 (of_decide_eq_true g1.1) g2.2 h.1 h'.1 h7.1
theorem nu {f:Expr→Option E}{s:Str}{o:Expr}{x:Str}{ap p:Pos}{args:List Expr} (Ψ:Str→List Expr→E→Prop) (h:sG f s (o,x,ap) args p=some e')
  (H:∀ a y,(ap.endLine == p.line)=true→f a=some y→Ψ "join" [a] (.join s y)):Ψ x args e':=by
 rcases args with _ | ⟨a,_ | ⟨b,args⟩⟩
 ·exact nn h
 ·have g:=au h
  have g1:=af g.1
  refine bT g.2 fun y h3 e=>?_
  rw [show x=_ from eq_of_beq g1.1,← e]
  exact H _ _ g1.2 h3
 ·exact nn h
set_option tactic.hygienic true in
theorem ni {c:CE}{f:Expr→Option E}{fn:Expr}{args:List Expr}{ks:List Keyword}{p:Pos} (Ψ:Expr→List Keyword→Prop) (h:sL c f fn args ks p=some e')
  (HN:∀ x fp,nH c f x args=some e'→Ψ (.Name x fp) []) (HK:∀ x fp k,o7 c f x args k=some e'→Ψ (.Name x fp) [k])
  (HM:∀ o x ap,nS c f (o,x,ap) args p=some e'→Ψ (.Attribute o x ap) []) (HJ:∀ s a p1 x ap,sG f s (.Constant (.str s) a p1,x,ap) args p=some e'→Ψ (.Attribute (.Constant (.str s) a p1) x ap) []):Ψ fn ks:=by
 unfold sL at h
 cases q:dS fn with
 | some x =>
  rw [q] at h
  refine (bK q).elim fun fp q=>?_
  rw [q]
  rcases ks with _ | ⟨k,_ | ⟨k2,ks⟩⟩
  ·exact HN _ _ h
  ·exact HK _ _ _ h
  ·exact nn h
 | none =>
  rw [q] at h
  cases ks with
  | cons=>exact nn h
  | nil =>
   cases q:vw fn <;> rw [q] at h <;> first | exact nn h | skip
   rename_i t
   obtain ⟨o,x,ap⟩:=t
   rw [show fn=_ from bE q]
   have h:(match vw o with | .const k=>(match k with | .str s=>sG f s (o,x,ap) args p | _=>none) | _=>nS c f (o,x,ap) args p)=some e':=h
   cases q:vw o <;> rw [q] at h <;> first | exact HM _ _ _ h | skip
   rename_i k
   cases k <;> first | exact nn h | skip
   refine (bE q).elim fun a q=>q.elim fun p1 q=>?_
   rw [q] at h ⊢
   exact HJ _ _ _ _ _ h
theorem xO {fn:Expr}{args:List Expr}{ks:List Keyword}{p:Pos} (G:bC g K c0 fa) (C:ci g K c0 fa call r) (IH:bv g c0 call r n) (h:sL (c0.sub names) (aj n (c0.sub names)) fn args ks p=some e'):aN g c0 call r names (.Call fn args ks p) e' :=
 ni (fun fn ks=>aN g c0 call r names (.Call fn args ks p) e') h
  (fun x fp h=>kj (fun fn args e'=>aN g c0 call r names (.Call fn args [] p) e') h (fun _ _ _ _ _ g1 g2 hh h1=>ua G IH g1 g2 hh h1) (fun _ _ _ _ _ g1 g2 hh h1=>yO G IH g1 g2 hh h1) (fun _ _ _ _ _ _ g1 g2 h2 g3 h1=>Bb G IH g1 g2 h2 g3 h1)
   (fun _ _ _ _ _ hg hd q hk hh h1=>Bl G IH hg hd q hk hh h1) (fun _ _ _ _ _ hg hd q h1=>yK G C.ok IH hg hd q h1)
   (fun _ _ _ _ _ hg hd q ht h1=>wY G C.t IH hg hd q ht h1)
   (fun _ _ _ _ _ hg hd q h1=>BY G C.ok IH hg hd q h1))
  (fun x fp k h=>kb (fun x args k e'=>aN g c0 call r names (.Call (.Name x fp) args [k] p) e') h (fun _ _ _ _ _ hg hh h1=>xJ G IH hg hh h1) fun _ _ _ _ _ _ _ _ _ h=>xU G IH h)
  (fun o x ap h=>ki (fun e'=>aN g c0 call r names (.Call (.Attribute o x ap) args [] p) e') h (fun _ _ _ h2 h1 h0 h5 h6 q=>zo IH h2 h1 h0 h5 h6 q) (fun _ _ _ h2 h1 h0 h5 h6 h7=>xh G C.ok IH h2 h1 h0 h5 h6 h7)
   )
  fun s a p1 x ap h=>nu (fun x args e'=>aN g c0 call r names (.Call (.Attribute (.Constant (.str s) a p1) x ap) args [] p) e') h fun _ _ h2 h3=>yR IH h2 h3
theorem r8 {gens:List Comprehension}{t:Expr × Expr × List Expr} (h:uW gens=some t):gens=[⟨t.1,t.2.1,t.2.2,0⟩]:=by
 rcases gens with _ | ⟨⟨a,b,c,d⟩,_ | ⟨g2,gs⟩⟩
 ·exact nn h
 ·obtain ⟨h0,h⟩:=au h
  have e1:d=0:=eq_of_beq h0
  subst e1
  exact si (P:=fun t=>[(⟨a,b,c,0⟩:Comprehension)]=[⟨t.1,t.2.1,t.2.2,0⟩]) h rfl
 ·exact nn h
theorem nT {elt:Expr}{gens:List Comprehension}{sc:Scope} (Ψ:List Comprehension→E→Prop) (h:v6 (c0.sub names) (aj n) elt gens sc=some e')
  (H:∀ target iter ifs it' tg one cs x' frm,oU sc=true→aj n (c0.sub names) iter=some it'→tgt (c0.sub sc.names) target=some (tg,one)→aQ (aj n (c0.sub sc.names)) ifs=some cs→aj n (c0.sub sc.names) elt=some x'→fj (c0.sub names) sc=some frm→Ψ [⟨target,iter,ifs,0⟩] (.comp tg one it' cs x' frm)):Ψ gens e' :=
 (aU (au h).2).elim fun t h1=>(aU h1.2).elim fun it h2=>(aU h2.2).elim fun tg h3=>(aU h3.2).elim fun cs h4=>(aU h4.2).elim fun x h5=>(bD h5.2).elim fun fr h6=>by
  rw [r8 h1.1,← h6.2]
  exact H _ _ _ _ _ _ _ _ _ (au h).1 h2.1 h3.1 h4.1 h5.1 h6.1
theorem xS {elt:Expr}{gens:List Comprehension}{sc:Scope}{p:Pos} (IH:bv g c0 call r n) (IT:lj g c0 call r n) (h:v6 (c0.sub names) (aj n) elt gens sc=some e'):aN g c0 call r names (.ListComp elt gens sc p) e' :=
 nT (fun gens e'=>aN g c0 call r names (.ListComp elt gens sc p) e') h fun _ _ _ _ _ _ _ _ _ ho q1 q2 q3 q4 q5=>xz IH IT q1 q2 q3 q4 q5 ho
theorem ms (G:bC g K c0 fa) (I:bu g) (C:ci g K c0 fa call r) (IH:bv g c0 call r n) (IT:lj g c0 call r n) (e:Expr) (e':E) (h:aj (n + 1) (c0.sub names) e=some e'):aN g c0 call r names e e':=by
 cases e with
 | Constant k a p=>exact w5 h
 | Name x p=>exact zk G h
 | BoolOp op vs p=>refine bq h fun es h1 h2=>?_; exact tS IH h1 h2
 | BinOp l op rt p=>exact zU IH h
 | UnaryOp op x p=>exact BO IH h
 | Compare l ops rs p=>exact AQ G IH h
 | Subscript v i p=>exact Aa IH h
 | Attribute v x p=>obtain ⟨h0,h⟩:=au h; refine bX h fun a k h1 h2 qx4=>?_; subst qx4; exact ym G I IH h0 h1 h2
 | List es p=>obtain ⟨h0,h⟩:=au h; refine bT h fun a h1 qx2=>?_; subst qx2; exact xR IH h1
 | Tuple es k p=>obtain ⟨h0,h⟩:=au h; refine bT h fun a h1 qx2=>?_; subst qx2; exact AG IH h1
 | Dict ks vs p=>exact za G IH h
 | Call fn args ks p=>exact xO G C IH h
 | ListComp elt gens sc p=>exact xS IH IT h
 | _=>exact nn h
end
end Mine
namespace Mine
open PySem PyProof.Rows PySem.W
section
variable {g:Cfg}{K:Frag}{c0:CE}{fa:Nat→Option Addr}{call:Nat→List V→Sto→RE}{r n:Nat}{names:List (Str × NameKind)}
theorem rG {e:Expr}{e':E} (hE:aN g c0 call r names e e') (hi:∀ (env:Env) (whole:Sem Value),isTrue e env whole=(do let v ← whole; standAt e.pos; holding [v] (truthy v))):kh g c0 call r names e e' :=
 fun env A X s as fr σ σ' v Q N hA T ev hQ=>by
  refine wpAny_isTrue_value (hE env A X s as fr σ σ' (.bool v) _ N hA T ev fun val as' h' tk st R' F' r'=>?_) (hi _ _)
  rw [RepV] at r'; subst r'
  exact wpAny_truthy_bool (hQ as' h' tk st R' F')
theorem xu {l:Expr}{ops:List CmpOp}{rs:List Expr}{p:Pos}{e':E} (G:bC g K c0 fa) (IH:bv g c0 call r n) (h:zH (aj n (c0.sub names)) l ops rs=some e'):kh g c0 call r names (.Compare l ops rs p) e' :=
 rU (P:=fun ops rs e'=>kh g c0 call r names (.Compare l ops rs p) e') h (fun _ _ _ _ h0 h1 h2=>AJ G IH h0 h1 h2) fun _ _ _ _ _ _ _ h0 h1 h2 h3=>xE G IH h0 h1 h2 h3
theorem ze (G:bC g K c0 fa) (I:bu g) (C:ci g K c0 fa call r) (IH:bv g c0 call r n) (IT:lj g c0 call r n) (e:Expr) (e':E) (h:aj (n + 1) (c0.sub names) e=some e'):kh g c0 call r names e e':=by
 have hE:=ms G I C IH IT e e' h
 have hk:=cZ h
 cases e with
 | UnaryOp op x p =>
  cases op with
  | Not=>refine bT h fun a h1 qx2=>?_; subst qx2; exact Bm IT h1
  | _=>exact rG hE fun _ _=>rfl
 | BoolOp op vs p=>refine bq h fun es h1 h2=>?_; exact tL IT h1 h2
 | Compare l ops rs p=>exact xu G IH h
 | _=>first | exact rG hE (fun _ _=>rfl) | exact ft hk
theorem ck (G:bC g K c0 fa) (I:bu g) (C:ci g K c0 fa call r):∀ n,bv g c0 call r n ∧ lj g c0 call r n
 | 0=>⟨fun names e e' h=>nn h,fun names e e' h=>nn h⟩
 | n + 1=>⟨fun names e e' h=>ms G I C (ck G I C n).1 (ck G I C n).2 e e' h,fun names e e' h=>ze G I C (ck G I C n).1 (ck G I C n).2 e e' h⟩
end
end Mine
namespace Mine
open PySem PyProof.Rows PySem.W
noncomputable def gc (as:List Addr) (h:Heap):Fl→Flow→Prop
 | .next,f=>f=.next
 | .brk,f=>f=.brk
 | .cont,f=>f=.cont
 | .ret v,f=>∃ val,f=.ret val ∧ RepV as h v val
noncomputable def fe (g:Cfg) (env:Env) (as:List Addr) (s:Shared) (fl:Fl) (fr':Fra) (σ':Sto) (Q:Flow→Shared→Prop):Prop :=
 ∀ (f:Flow) (as':List Addr) (h':Heap) (tk:Nat),gc as' h' fl f→aC (ownOf env) as s.heap as' h'→Rel g as' σ' h'→ay g env as' fr' h'→Q f { s with heap:=h',toks:=tk }
noncomputable def xm (g:Cfg) (c0:CE) (call:Nat→List V→Sto→RE) (wf r n:Nat):Prop :=
 ∀ (names:List (Str × NameKind)) (st:Stmt) (st':S),bV n (c0.sub names) st=some st' →
 ∀ (env:Env) (A:Around) (X:Value→Shared→Prop) (s:Shared) (as:List Addr) (fr fr':Fra) (σ σ':Sto) (fl:Fl) (Q:Flow→Shared→Prop),
  aq (c0.sub names) env A→cb g A (r + 1)→At g env as fr σ s→evS call wf st' fr σ=.ok fl fr' σ'→fe g env as s fl fr' σ' Q→wpAny (model g.prog g.w) A (exec st env) Q X s
theorem gc.go {as:List Addr}{h:Heap}{fl:Fl}{f:Flow} (hfl:fl=.next ∨ fl=.cont) (hf:gc as h fl f):f=.next ∨ f=.cont:=by
 rcases hfl with rfl | rfl
 ·exact .inl hf
 ·exact .inr hf
set_option backward.match.sparseCases false in
theorem vg {call:Nat→List V→Sto→RE}{wf:Nat}{s:S}{ss:List S}{fr:Fra} {σ:Sto}:evSs call wf (s :: ss) fr σ=(match evS call wf s fr σ with | .ok .next fr σ=>evSs call wf ss fr σ | r=>r):=rfl
theorem gC {Ψ:Fl→Fra→Sto→Prop}{f g:Fl}{a b:Fra}{s t:Sto} (e:RS.ok f a s=.ok g b t) (h:Ψ g b t):Ψ f a s:=by cases e; exact h
theorem nk {r:RS}{k:Fra→Sto→RS}{fr':Fra} {σ':Sto}{fl:Fl}{G:Prop} (Ψ:Fl→Fra→Sto→Prop) (e:wC r k=.ok fl fr' σ') (hΨ:Ψ fl fr' σ') (h2:∀ fl1 fr2 σ2,r=.ok fl1 fr2 σ2→(fl1=.next ∨ fl1=.cont)→k fr2 σ2=.ok fl fr' σ'→G)
  (h3:∀ fr2 σ2,r=.ok .brk fr2 σ2→Ψ .next fr2 σ2→G) (h4:∀ fr2 σ2 w,r=.ok (.ret w) fr2 σ2→Ψ (.ret w) fr2 σ2→G):G:=by
 cases r with
 | ok f fr2 σ2=>cases f with
  | next=>exact h2 _ _ _ rfl (.inl rfl) e
  | cont=>exact h2 _ _ _ rfl (.inr rfl) e
  | brk=>exact h3 _ _ rfl (gC e hΨ)
  | ret w=>exact h4 _ _ _ rfl (gC e hΨ)
 | ex x fr2 σ2=>exact nomatch (show RS.ex x fr2 σ2=_ from e)
 | bad=>exact nomatch (show RS.bad=_ from e)
theorem ud {src:Src}{tg:List Nat}{one:Bool}{body:Fra→Sto→RS}{n i:Nat}{fr fr':Fra} {σ σ':Sto}{fl:Fl}{G:Prop} (Ψ:Fl→Fra→Sto→Prop) (ev:lu tg one body src n i fr σ=.ok fl fr' σ') (hΨ:Ψ fl fr' σ')
  (h1:bc σ i src=some none→Ψ .next fr σ→G)
  (h2:∀ n' v fr1 fl1 fr2 σ2,n' < n→bc σ i src=some (some v)→bW tg one v fr=some fr1→body fr1 σ=.ok fl1 fr2 σ2→(fl1=.next ∨ fl1=.cont)→lu tg one body src n' (i + 1) fr2 σ2=.ok fl fr' σ'→G)
  (h3:∀ v fr1 fr2 σ2,bc σ i src=some (some v)→bW tg one v fr=some fr1→body fr1 σ=.ok .brk fr2 σ2→Ψ .next fr2 σ2→G)
  (h4:∀ v fr1 fr2 σ2 w,bc σ i src=some (some v)→bW tg one v fr=some fr1→body fr1 σ=.ok (.ret w) fr2 σ2→Ψ (.ret w) fr2 σ2→G):G:=by
 cases n with
 | zero=>exact nomatch ev
 | succ n=>exact jW ev (fun q=>nomatch q) (fun o e=>h1 o (gC e hΨ)) fun v o e=>fO e (fun _ q=>nomatch q) fun fr1 hb e=>nk Ψ e hΨ (fun f fr2 σ2 q=>h2 n v fr1 f fr2 σ2 (Nat.lt_succ_self _) o hb q) (fun fr2 σ2=>h3 v fr1 fr2 σ2 o hb) fun fr2 σ2 w=>h4 v fr1 fr2 σ2 w o hb
theorem uk {r:RE}{fr:Fra}{k:V→Sto→RS}{fl:Fl}{fr':Fra} {σ':Sto} (e:r.bindS fr k=.ok fl fr' σ'):∃ u τ,r=.ok u τ ∧ k u τ=.ok fl fr' σ':=by
 cases r with
 | ok u τ=>exact ⟨u,τ,rfl,e⟩
 | ex x τ=>cases e
 | bad=>cases e
theorem bz {r:RE}{fr:Fra}{k:V→Sto→RS}{fl:Fl}{fr':Fra} {σ':Sto}{P:Prop} (e:r.bindS fr k=.ok fl fr' σ') (h:∀ u τ,r=.ok u τ→k u τ=.ok fl fr' σ'→P):P:=let ⟨u,τ,h1,h2⟩:=uk e; h u τ h1 h2
theorem ux {r:RE}{fr:Fra}{k:V→Sto→RS}{fl:Fl}{fr':Fra} {σ':Sto}{b:Bool} (e:r.bindX b fr k=.ok fl fr' σ'):∃ u τ,r=.ok u τ ∧ k u τ=.ok fl fr' σ':=by
 cases r with
 | ok u τ=>exact ⟨u,τ,rfl,e⟩
 | ex x τ=>cases b <;> cases e
 | bad=>cases e
theorem jg {r:RE}{fr:Fra}{k:V→Sto→RS}{fl:Fl}{fr':Fra} {σ':Sto}{P:Prop}{b:Bool} (e:r.bindX b fr k=.ok fl fr' σ') (h:∀ u τ,r=.ok u τ→k u τ=.ok fl fr' σ'→P):P:=let ⟨u,τ,h1,h2⟩:=ux e; h u τ h1 h2
section
variable {g:Cfg}{K:Frag}{c0:CE}{fa:Nat→Option Addr}{call:Nat→List V→Sto→RE}{env:Env}{A:Around}{X:Value→Shared→Prop}{s:Shared}{as:List Addr}{fr fr':Fra} {σ σ':Sto}{wf r n:Nat}
 {names:List (Str × NameKind)}{fl:Fl}{Q:Flow→Shared→Prop}
theorem og {h:Heap} (F:ay g env as fr h):∀ a ∈ ownOf env,∀ o,h.get? a=some o→¬ Imm o:=fun a ha o e hi=>by
 rcases bQ ha with rfl | ⟨x,hx⟩
 ·exact F.notImm _ (.head _) o e hi
 ·obtain ⟨cv,o',e',hd⟩:=(F.offc _ _ hx).2.2
  rw [e] at e'; cases e'; exact hi.2.2 _ hd
theorem dH {as':List Addr}{h':Heap}{tk:Nat} (hQ:fe g env as s fl fr' σ' Q) (x:aC (ownOf env) as s.heap as' h'):fe g env as' { s with heap:=h',toks:=tk } fl fr' σ' Q :=
 fun f as2 h2 tk2 hf st R2 F2=>hQ f as2 h2 tk2 hf (x.trans st R2.nd F2.offs) R2 F2
theorem up {as':List Addr}{h h':Heap} (x:aC [env.locals] as h as' h'):aC (ownOf env) as h as' h':=x.grow (by intro a ha; simp at ha; subst ha; exact .head _)
noncomputable def j5 (g:Cfg) (c0:CE) (call:Nat→List V→Sto→RE) (wf r n:Nat):Prop :=
 ∀ (names:List (Str × NameKind)) (sts:List Stmt) (sts':List S),aQ (bV n (c0.sub names)) sts=some sts' →
 ∀ (env:Env) (A:Around) (X:Value→Shared→Prop) (s:Shared) (as:List Addr) (fr fr':Fra) (σ σ':Sto) (fl:Fl) (Q:Flow→Shared→Prop),
  aq (c0.sub names) env A→cb g A (r + 1)→At g env as fr σ s→evSs call wf sts' fr σ=.ok fl fr' σ'→fe g env as s fl fr' σ' Q→wpAny (model g.prog g.w) A (execs sts env) Q X s
set_option tactic.hygienic true in
theorem eT (IS:xm g c0 call wf r n):j5 g c0 call wf r n:=by
 intro names sts
 induction sts with
 | nil =>
  intro sts' h env A X s as fr fr' σ σ' fl Q N hA T ev hQ
  rw [du] at h; cases h
  cases (show RS.ok .next fr σ=_ from ev)
  exact wpAny_execs_nil (hQ .next as s.heap s.toks rfl (aC.refl _ _ _) T.R T.F)
 | cons st sts ih =>
  intro sts' h env A X s as fr fr' σ σ' fl Q N hA T ev hQ
  refine cn h fun a as' h1 h2 qx4=>?_; subst qx4
  rw [vg] at ev
  refine wpAny_execs_cons ?_
  split at ev
  ·rename_i f1 σ1 he
   refine IS names st a h1 env A X s as fr f1 σ σ1 .next _ N hA T he fun f as1 k1 tk1 hf st1 R1 F1=>?_
   have hf':f=.next:=hf
   subst hf'
   exact ih as' h2 env A X _ as1 f1 fr' σ1 σ' fl Q N hA ⟨F1,R1⟩ ev (dH hQ st1)
  ·rename_i hn
   refine IS names st a h1 env A X s as fr fr' σ σ' fl _ N hA T ev fun f as1 k1 tk1 hf st1 R1 F1=>?_
   have hq:=hQ f as1 k1 tk1 hf st1 R1 F1
   cases fl with
   | next=>exact absurd ev (hn _ _)
   | brk=>have:f=.brk:=hf; subst this; exact hq
   | cont=>have:f=.cont:=hf; subst this; exact hq
   | ret v=>obtain ⟨val,hv,_⟩:=hf; subst hv; exact hq
structure FI (g:Cfg) (env:Env) (fr:Fra) (s:Shared) (as:List Addr) (src:Src) (I:Addr) (i:Nat) (as1:List Addr) (σ:Sto) (h:Heap):Prop where
 st:aC (ownOf env) as s.heap as1 h
 R:Rel g as1 σ h
 F:ay g env as1 fr h
 it:nR src I i as1 h
 offI:I ∉ as1
structure FX (g:Cfg) (env:Env) (s:Shared) (I:Addr):Prop where
 own:I ∉ ownOf env
 Ib:g.b.get? I=none
 In:s.heap.get? I=none
theorem FI.step {src:Src}{I:Addr}{i:Nat}{as1 as2:List Addr}{h h2:Heap} {σ2:Sto}{fr2:Fra} (Z:FX g env s I) (C:FI g env fr s as src I i as1 σ h) (x:aC (ownOf env) as1 h as2 h2) (R2:Rel g as2 σ2 h2) (F2:ay g env as2 fr2 h2) :
  FI g env fr2 s as src I i as2 σ2 h2:=by
 have K2:=C.R.keep x (og C.F)
 refine ⟨C.st.trans x R2.nd F2.offs,R2,F2,C.it.keep K2 fun o e=>x.ext I o e Z.own C.offI,fun q=>?_⟩
 obtain ⟨⟨t,rfl,ht⟩,_⟩:=x
 rcases List.mem_append.mp q with q | q
 ·exact C.offI q
 ·obtain ⟨o,e,_⟩:=C.it.there; rw [ht I q] at e; cases e
theorem FI.next {src:Src}{I:Addr}{i:Nat}{as1:List Addr}{h h2:Heap} (Z:FX g env s I) (C:FI g env fr s as src I i as1 σ h) (k:∀ (b:Addr) (o:Obj),b ≠ I→h.get? b=some o→h2.get? b=some o) :
  aC (ownOf env) as s.heap as1 h2 ∧ Rel g as1 σ h2 ∧ ay g env as1 fr h2:=by
 have hni:∀ o,h.get? I=some o→¬ Imm o:=fun o e=>by obtain ⟨o',e',q⟩:=C.it.there; rw [e] at e'; cases e'; exact q
 obtain ⟨K2,R2⟩:=C.R.other k C.offI Z.Ib hni
 have hL:env.locals ≠ I:=fun q=>Z.own (by rw [← q]; exact .head _)
 have hc:∀ x c,env.cells.lookup x=some c→c ≠ I:=fun x c e q=>Z.own (by rw [← q]; exact gH e)
 have F2:=C.F.alter K2 k hL hc (fun a ha=>.inl ha)
 refine ⟨?_,R2,F2⟩
 have a2:aC (I :: ownOf env) as1 h as1 h2:=⟨⟨[],by simp,by simp⟩,fun b o e hb _=>k b o (by intro q; subst q; simp at hb) e⟩
 have a1:aC (I :: ownOf env) as s.heap as1 h:=C.st.grow (fun a ha=>.tail _ ha)
 exact (a1.trans a2 R2.nd (by intro a ha; rcases List.mem_cons.mp ha with rfl | ha; exact C.offI; exact F2.offs a ha)).shrink (by
  intro a ha; rcases List.mem_cons.mp ha with rfl | ha
  ·exact .inr Z.In
  ·exact .inl ha)
structure LI (g:Cfg) (env:Env) (s:Shared) (as:List Addr) (src:Src) (I:Addr) (target:Expr) (C:Nat→Fra→List Addr→Sto→Heap→Prop):Prop where
 base:∀ {i fr as1 σ h},C i fr as1 σ h→aC (ownOf env) as s.heap as1 h ∧ Rel g as1 σ h ∧ ay g env as1 fr h
 step:∀ {i fr fr2 as1 as2 σ σ2 h h2},C i fr as1 σ h→aC (ownOf env) as1 h as2 h2→Rel g as2 σ2 h2→ay g env as2 fr2 h2→C i fr2 as2 σ2 h2
 done:∀ {i fr as1 σ h tk}{A:Around}{X:Value→Shared→Prop}{Qn:Option Value→Shared→Prop},A.handled=g.hd.map .ref→C i fr as1 σ h→bc σ i src=some none→(∀ h' tk',aC (ownOf env) as s.heap as1 h'→Rel g as1 σ h'→ay g env as1 fr h'→Qn none { s with heap:=h',toks:=tk' })→wpAny (model g.prog g.w) A (pyNext (.ref I)) Qn X { s with heap:=h,toks:=tk }
 next:∀ {i fr as1 σ h tk v}{A:Around}{X:Value→Shared→Prop}{Qn:Option Value→Shared→Prop},C i fr as1 σ h→bc σ i src=some (some v)→(∀ val s',(∀ {Q1:Unit→Shared→Prop}{Y1:Value→Shared→Prop},(∀ h2 tk',C (i + 1) fr as1 σ h2→RepV as1 h2 v val→Q1 () { s with heap:=h2,toks:=tk' })→wpAny (model g.prog g.w) A (letOwnedTupleGo target (.ref I) val) Q1 Y1 s')→Qn (some val) s')→wpAny (model g.prog g.w) A (pyNext (.ref I)) Qn X { s with heap:=h,toks:=tk }
theorem FI.li {src:Src}{I:Addr}{target:Expr} (Z:FX g env s I):LI g env s as src I target (fun i fr as1 σ h=>FI g env fr s as src I i as1 σ h ∧ iF i src) :=
 ⟨fun c=>⟨c.1.st,c.1.R,c.1.F⟩,fun c x R2 F2=>⟨c.1.step Z x R2 F2,c.2⟩,
  fun {i fr as1 σ h tk A X Qn} ha c e hQ=>ru (s:={ s with heap:=h,toks:=tk }) ha c.1.R c.1.it c.1.offI Z.Ib c.2.rng c.2.tup e fun h' tk' kk K' R'=>have q:=c.1.next Z kk; hQ h' tk' q.1 q.2.1 q.2.2,
  fun {i fr as1 σ h tk v A X Qn} c e hQ=>qp (s:={ s with heap:=h,toks:=tk }) c.1.R c.1.it c.1.offI Z.Ib e fun val h1 tk1 kk1 K1 R1 it1 r1=>hQ val _ fun {Q1 Y1} hq=>Bx (s:={ s with heap:=h1,toks:=tk1 }) it1 (have q:=c.1.next Z kk1; hq h1 tk1 ⟨⟨q.1,q.2.1,q.2.2,it1,c.1.offI⟩,.next e⟩ r1)⟩
section
variable {target:Expr}{tg:List Nat}{one:Bool}{src:Src}{I:Addr}{i k:Nat}{as1:List Addr}{h:Heap}{tk:Nat}{v:V}{fr1 fr2:Fra}{C:Nat→Fra→List Addr→Sto→Heap→Prop}{body:List Stmt}{body':List S}{fl1:Fl} {σ2:Sto}{Qn:Option Value→Shared→Prop}
theorem kc {Qb:Shared→Prop}{Y1 Y2:Value→Shared→Prop}
  (L:LI g env s as src I target C) (N:aq (c0.sub names) env A) (hA:cb g A (r + 1)) (ht:tgt (c0.sub names) target=some (tg,one)) (c:C i fr as1 σ h) (e:bc σ i src=some (some v)) (hb:bW tg one v fr=some fr1)
  (hn:∀ v s₁,wpAny (model g.prog g.w) A (letOwnedTupleGo target (.ref I) v) (fun _ s₁=>wpAny (model g.prog g.w) A (assign target env v) (fun _ s₂=>Qb s₂) Y2 s₁) Y1 s₁→Qn (some v) s₁)
  (hq:∀ as4 h4 tk4,C (i + 1) fr1 as4 σ h4→Qb { s with heap:=h4,toks:=tk4 }):wpAny (model g.prog g.w) A (pyNext (.ref I)) Qn X { s with heap:=h,toks:=tk } :=
 L.next c e fun val s' go=>hn _ _ (go fun h1 tk1 c1 r1 =>
  jz (own:=ownOf env) (s:={ s with heap:=h1,toks:=tk1 }) hA.handled ⟨(L.base c1).2.2,(L.base c1).2.1⟩ N (eW _ _) ht r1 hb fun as2 h2' tk2 st3 K3 R3 F3=>hq _ _ _ (L.step c1 st3 R3 F3))
theorem gv {Q4:Flow→Shared→Prop}{Y1 Y2 Y3:Value→Shared→Prop}
  (IL:j5 g c0 call wf r n) (L:LI g env s as src I target C) (N:aq (c0.sub names) env A) (hA:cb g A (r + 1)) (ht:tgt (c0.sub names) target=some (tg,one)) (h2:aQ (bV n (c0.sub names)) body=some body')
  (c:C i fr as1 σ h) (e:bc σ i src=some (some v)) (hb:bW tg one v fr=some fr1) (hc:evSs call wf body' fr1 σ=.ok fl1 fr2 σ2)
  (hn:∀ v s₁,wpAny (model g.prog g.w) A (letOwnedTupleGo target (.ref I) v) (fun _ s₁=>wpAny (model g.prog g.w) A (assign target env v) (fun _ s₂=>wpAny (model g.prog g.w) A (execs body env) Q4 Y3 s₂) Y2 s₁) Y1 s₁→Qn (some v) s₁)
  (hq:∀ f as4 h4 tk4,gc as4 h4 fl1 f→C (i + 1) fr2 as4 σ2 h4→Q4 f { s with heap:=h4,toks:=tk4 }):wpAny (model g.prog g.w) A (pyNext (.ref I)) Qn X { s with heap:=h,toks:=tk } :=
 kc L N hA ht c e hb hn fun as2 h2' tk2 c2 =>
  IL names body body' h2 env A _ { s with heap:=h2',toks:=tk2 } as2 fr1 fr2 σ σ2 fl1 _ N hA ⟨(L.base c2).2.2,(L.base c2).2.1⟩ hc fun f as4 h4 tk4 hf st4 R4 F4=>hq f as4 h4 tk4 hf (L.step c2 st4 R4 F4)
noncomputable def BD (s:Shared) (src:Src) (C:Nat→Fra→List Addr→Sto→Heap→Prop) (tg:List Nat) (one:Bool) (bd:Fra→Sto→RS) (z:RS) (k:Nat) (s':Shared):Prop :=
 ∀ G:Prop,(∀ i fr as1 σ h tk,s'={ s with heap:=h,toks:=tk }→lu tg one bd src k i fr σ=z→C i fr as1 σ h→G)→G
theorem gS (IL:j5 g c0 call wf r n) (L:LI g env s as src I target C) (N:aq (c0.sub names) env A) (hA:cb g A (r + 1)) (ht:tgt (c0.sub names) target=some (tg,one)) (h2:aQ (bV n (c0.sub names)) body=some body')
  (ev:lu tg one (evSs call wf body') src k i fr σ=.ok fl fr' σ') (c:C i fr as1 σ h) (hQ:fe g env as s fl fr' σ' Q) :
  codeAny (model g.prog g.w) A (.forLoop target (.ref I) body [] env) (fun r s'=>match r with | .ok f=>Q f s' | .error e=>cameBackBy (model g.prog g.w) A env X e s') { s with heap:=h,toks:=tk }:=by
 refine nK (BD s src C tg one (evSs call wf body') (.ok fl fr' σ')) (fun k s' hN=>hN _ fun i fr as1 σ h tk qs ev c=>?_) k fun G H=>H _ _ _ _ _ _ rfl ev c
 rw [qs]
 refine ud (fun fl fr' σ'=>fe g env as s fl fr' σ' Q) ev hQ (fun e hQ=>L.done hA.handled c e fun h' tk' st2 R2 F2=>wpAny_execs_nil (hQ .next _ h' tk' rfl st2 R2 F2)) (fun k' v fr1 fl1 fr2 σ2 hk e hb hc hfl run'=>?_) (fun v fr1 fr2 σ2 e hb hc hQ=>?_) (fun v fr1 fr2 σ2 w e hb hc hQ=>?_)
 ·refine gv IL L N hA ht h2 c e hb hc (fun _ _ h=>h) fun f as4 h4 tk4 hf c4=>?_
  rcases gc.go hfl hf with q | q <;> rw [q] <;> exact ⟨k',hk,fun G H=>H _ _ _ _ _ _ rfl run' c4⟩
 ·refine gv IL L N hA ht h2 c e hb hc (fun _ _ h=>h) fun f as4 h4 tk4 hf c4=>?_
  rw [show f=.brk from hf]
  exact hQ .next as4 h4 tk4 rfl (L.base c4).1 (L.base c4).2.1 (L.base c4).2.2
 ·refine gv IL L N hA ht h2 c e hb hc (fun _ _ h=>h) fun f as4 h4 tk4 hf c4=>hf.elim fun val' q=>?_
  rw [q.1]
  exact hQ (.ret val') as4 h4 tk4 ⟨val',rfl,q.2⟩ (L.base c4).1 (L.base c4).2.1 (L.base c4).2.2
end
end
end Mine
namespace Mine
open PySem PyProof.Rows PySem.W
theorem wF {c:CE}{t e:Expr}{y:It} (Ψ:Expr→Expr→It→Prop) (h:(aj 30 c e).map It.e=some y) (H1:∀ t e a,aj 30 c e=some a→Ψ t e (.e a)):Ψ t e y:=by
 refine (bD h).elim fun a h=>?_
 rw [← h.2]
 exact H1 _ _ _ h.1
theorem tJ {c:CE}{t e:Expr}{y:It} (Ψ:Expr→Expr→It→Prop) (h:Bf c t e=some y) (H1:∀ t e a,aj 30 c e=some a→Ψ t e (.e a))
  (H2:∀ ts k tp fp p e a,c.glob "enumerate"=true→c.hnd=false→aj 30 c e=some a→Ψ (.Tuple ts k tp) (.Call (.Name "enumerate" fp) [e] [] p) (.enum a))
  : Ψ t e y:=by
 unfold Bf at h
 cases q:(iy e).bind fun p=>gd (p.1 == ("enumerate":Str) && (c.glob p.1 && (!c.hnd && i8 t))) (some p.2) with
 | some a =>
  rw [q] at h
  refine (bD h).elim fun a' h=>(aU q).elim fun u q=>(iU q.1).elim fun fp q1=>q1.elim fun p q1=>?_
  have g:=au q.2
  have g1:=af g.1
  have g2:=af g1.2
  have g3:=af g2.2
  rw [← h.2,q1,show u.1=_ from eq_of_beq g1.1,show u.2=_ from Option.some.inj g.2]
  have ht:=g3.2
  unfold i8 at ht
  cases qt:vw t <;> rw [qt] at ht <;> first | exact ft ht | skip
  refine (bE qt).elim fun k q=>q.elim fun tp q=>?_
  rw [q]
  exact H2 _ _ _ _ _ _ _ (show c.glob "enumerate"=true from (show u.1=_ from eq_of_beq g1.1) ▸ g2.1) (aP g3.1) h.1
 | none =>
  rw [q] at h
  exact wF Ψ h H1
set_option tactic.hygienic true in
theorem nX {e:Expr}{t:Str × Expr × Expr} (h:mC e=some t):∃ fp p,e=.Call (.Name t.1 fp) [t.2.1,t.2.2] [] p:=by
 unfold mC at h
 cases q:vw e <;> rw [q] at h <;> first | exact nn h | skip
 rename_i u
 obtain ⟨f,as,ks⟩:=u
 rcases as with _ | ⟨a,_ | ⟨b,_ | ⟨d,as⟩⟩⟩ <;> first | exact nn h | skip
 cases ks with
 | cons=>exact nn h
 | nil =>
  refine bT h fun x h3 qx2=>?_; subst qx2
  obtain ⟨p,hp⟩:=bE q
  obtain ⟨fp,h4⟩:=bK h3
  exact ⟨fp,p,by rw [hp]; exact congrArg (fun f=>Expr.Call f [a,b] [] p) h4⟩
theorem qf {c:CE}{t e:Expr}{y:It} (Ψ:Expr→Expr→It→Prop) (h:cIt c t e=some y) (H1:∀ t e a,aj 30 c e=some a→Ψ t e (.e a))
  (H2:∀ ts k tp fp p e a,c.glob "enumerate"=true→c.hnd=false→aj 30 c e=some a→Ψ (.Tuple ts k tp) (.Call (.Name "enumerate" fp) [e] [] p) (.enum a))
  (H3:∀ ts k tp fp p e f a b,c.glob "zip"=true→c.hnd=false→aj 30 c e=some a→aj 30 c f=some b→Ψ (.Tuple ts k tp) (.Call (.Name "zip" fp) [e,f] [] p) (.zip a b))
  : Ψ t e y:=by
 unfold cIt at h
 cases q:(mC e).bind fun p=>gd (p.1 == ("zip":Str) && (c.glob p.1 && (!c.hnd && i8 t))) (some p.2) with
 | some a =>
  rw [q] at h
  refine bX h fun x y' hx hy h=>(aU q).elim fun u q=>(nX q.1).elim fun fp q1=>q1.elim fun p q1=>?_
  have g:=au q.2
  have g1:=af g.1
  have g2:=af g1.2
  have g3:=af g2.2
  rw [← h,q1,show u.1=_ from eq_of_beq g1.1,show u.2=_ from Option.some.inj g.2]
  have ht:=g3.2
  unfold i8 at ht
  cases qt:vw t <;> rw [qt] at ht <;> first | exact ft ht | skip
  refine (bE qt).elim fun k q=>q.elim fun tp q=>?_
  rw [q]
  exact H3 _ _ _ _ _ _ _ _ _ (show c.glob "zip"=true from (show u.1=_ from eq_of_beq g1.1) ▸ g2.1) (aP g3.1) hx hy
 | none =>
  rw [q] at h
  exact tJ Ψ h H1 H2
section
variable {g:Cfg}{K:Frag}{c0:CE}{fa:Nat→Option Addr}{call:Nat→List V→Sto→RE}{env:Env}{A:Around}{X:Value→Shared→Prop}{s:Shared}{as as1:List Addr}{fr fr':Fra} {σ σ':Sto}{wf r n:Nat}
 {names:List (Str × NameKind)}{fl:Fl}{Q:Flow→Shared→Prop}{l i:Nat}{J:Addr}{h h2:Heap}
theorem zc (R:Rel g as σ h):h.objs.size ∉ as:=fun q=>(R.there q).elim fun _ q=>absurd (Heap.lt_size q.1) (Nat.lt_irrefl _)
theorem mI {a:Addr}{v w:V}{x y:Value} (ho:h.get? a=some { cls:=.type "tuple",data:=.seq #[x,y] }) (ha:a ∉ as) (h1:RepV as h v x) (h2:RepV as h w y):RepV as h (.tup [v,w]) (.ref a):=by
 rw [RepV]
 refine ⟨_,_,_,rfl,ho,⟨by exact (by decide:2 ≤ 16777216),ha⟩,?_⟩
 rw [ah]
 refine ⟨_,_,rfl,h1,?_⟩
 rw [ah]
 exact ⟨_,_,rfl,h2,by rw [ah]⟩
structure SX (g:Cfg) (env:Env) (s:Shared) (M:List Addr):Prop where
 own:∀ b ∈ M,b ∉ ownOf env
 Ib:∀ b ∈ M,g.b.get? b=none
 In:∀ b ∈ M,s.heap.get? b=none
structure SI (g:Cfg) (env:Env) (fr:Fra) (s:Shared) (as:List Addr) (M as1:List Addr) (σ:Sto) (h:Heap):Prop where
 st:aC (ownOf env) as s.heap as1 h
 R:Rel g as1 σ h
 F:ay g env as1 fr h
 off:∀ b ∈ M,b ∉ as1
theorem wE {M:List Addr} (T:At g env as fr σ s) (hM:∀ b ∈ M,s.heap.objs.size ≤ b):SX g env s M ∧ ∀ b ∈ M,b ∉ as:=by
 have fresh:∀ b ∈ M,s.heap.get? b=none:=fun b hb=>by
  cases e:s.heap.get? b with
  | none=>rfl
  | some ob=>exact absurd (Heap.lt_size e) (Nat.not_lt.mpr (hM b hb))
 refine ⟨⟨fun b hb q=>?_,fun b hb=>?_,fresh⟩,fun b hb q=>(T.R.there q).elim fun ob e=>nn ((fresh b hb).symm.trans e.1)⟩
 ·rcases bQ q with q | ⟨y,q⟩
  ·exact T.F.there.elim fun ob e=>nn ((fresh b hb).symm.trans (q ▸ e))
  ·obtain ⟨cv,ob,e,_⟩:=(T.F.offc _ _ q).2.2; exact nn ((fresh b hb).symm.trans e)
 ·cases e:g.b.get? b with
  | none=>rfl
  | some ob=>exact nn ((fresh b hb).symm.trans (T.R.base _ _ e))
theorem SI.step {M as2:List Addr} {σ2:Sto}{fr2:Fra} (Z:SX g env s M) (C:SI g env fr s as M as1 σ h) (th:∀ b ∈ M,∃ o,h.get? b=some o) (x:aC (ownOf env) as1 h as2 h2) (R2:Rel g as2 σ2 h2) (F2:ay g env as2 fr2 h2):SI g env fr2 s as M as2 σ2 h2 ∧ ∀ b ∈ M,∀ o,h.get? b=some o→h2.get? b=some o:=by
 have k:∀ b ∈ M,∀ o,h.get? b=some o→h2.get? b=some o:=fun b hb o e=>x.ext b o e (Z.own b hb) (C.off b hb)
 refine ⟨⟨C.st.trans x R2.nd F2.offs,R2,F2,fun b hb q=>?_⟩,k⟩
 obtain ⟨t,ht,hf⟩:=x.pre
 rw [ht] at q
 exact (List.mem_append.mp q).elim (C.off b hb) fun q=>(th b hb).elim fun o e=>nn ((hf _ q).symm.trans e)
theorem SI.other {M L:List Addr} (Z:SX g env s M) (C:SI g env fr s as M as1 σ h) (k:∀ (b:Addr) (o:Obj),b ∉ L→h.get? b=some o→h2.get? b=some o)
  (hL:∀ b ∈ L,(b ∈ M ∧ ∀ o,h.get? b=some o→¬ Imm o)
   ∨ ∃ p:Nat,as1[p]?=some b ∧ σ[p]?=some AO.ztup ∧ ∃ x y,IsPair h2 b x y
   ):bR as1 h as1 h2 ∧ SI g env fr s as M as1 σ h2:=by
 have hT:∀ {p:Nat}{b:Addr}{o:Obj},as1[p]?=some b→σ[p]?=some AO.ztup→h.get? b=some o→o.cls=.type "tuple":=fun h1 h2 e=>by
  obtain ⟨x,y,e'⟩:=C.R.obj _ _ _ h1 h2
  cases Option.some.inj (e'.symm.trans e); rfl
 have K:bR as1 h as1 h2:=.same fun b o e im ht=>k b o (fun q=>(hL b q).elim (fun q=>q.2 o e im) fun ⟨p,q1,q2,_⟩=>ht (List.mem_of_getElem? q1) (hT q1 q2 e)) e
 have F2:ay g env as1 fr h2:=C.F.keep K (own:=L) ⟨⟨[],(List.append_nil _).symm,fun _ q=>nomatch q⟩,fun b o e hb _=>k b o hb e⟩ fun b hb q=>(hL b q).elim (fun q=>Z.own b q.1 hb) fun ⟨p,q1,_⟩=>C.F.offs b hb (List.mem_of_getElem? q1)
 refine ⟨K,⟨⟨C.st.pre,fun b o e h1 h3=>k b o (fun q=>(hL b q).elim (fun q=>nn ((Z.In b q.1).symm.trans e)) fun ⟨p,q1,_⟩=>?_) (C.st.ext b o e h1 h3)⟩,⟨fun b o e=>k b o (fun q=>(hL b q).elim (fun q=>nn ((Z.Ib b q.1).symm.trans e)) fun ⟨p,q1,_⟩=>nn ((C.R.new b (List.mem_of_getElem? q1)).symm.trans e)) (C.R.base b o e),C.R.len,C.R.nd,C.R.new,fun i b o h3 h4=>?_,C.R.hnd.keep K⟩,F2,C.off⟩⟩
 ·obtain ⟨t,ht,hf⟩:=C.st.pre
  have q:=List.mem_of_getElem? q1
  rw [ht] at q
  exact (List.mem_append.mp q).elim h3 fun q=>nn ((hf _ q).symm.trans e)
 ·by_cases q:b ∈ L
  ·refine (hL b q).elim (fun q=>absurd (List.mem_of_getElem? h3) (C.off b q.1)) fun ⟨p,q1,q2,q3⟩=>?_
   have hp:i=p:=(List.getElem?_inj (List.getElem?_eq_some_iff.mp h3).1 C.R.nd).mp (h3.trans q1.symm)
   rw [hp,q2] at h4
   rw [← Option.some.inj h4]
   exact q3
  ·exact (C.R.obj i b o h3 h4).keep K fun ob e=>k b ob q e
theorem Aq {Ψ:Addr→Prop}{a b:Addr} (h1:Ψ a) (h2:Ψ b):∀ x ∈ [a,b],Ψ x:=fun x q=>(List.mem_cons.mp q).elim (fun q=>q ▸ h1) fun q=>List.mem_singleton.mp q ▸ h2
theorem iE {o:Obj}{t:String} (hc:o.cls=.type t) (h:t ≠ "tuple" ∧ t ≠ "range"):¬ Imm o:=fun im=>by
 rcases im.1 with q | q | ⟨_,_,q,_⟩
 ·cases hc.symm.trans q; exact h.1 rfl
 ·cases hc.symm.trans q; exact h.2 rfl
 ·exact nomatch hc.symm.trans q
theorem dG {I a:Addr} (E:h.IsListIter I a i):∀ o,h.get? I=some o→¬ Imm o:=fun o e=>E.elim fun o2 q=>iE (t:="list_iterator") (Option.some.inj (q.1.symm.trans e) ▸ q.2.1) (by decide)
theorem gj (s:Shared) {v:List V}{tk:Nat}{G:Prop}{a:Addr} (R:Rel g as1 σ h) (q:as1[l]?=some a) (e:getL σ l=some v) (k:∀ items n,IsL h a items n→ah as1 h v items.toList→items.size=v.length→G):G :=
 aw (s:={ s with heap:=h,toks:=tk }) R (show RepV as1 h (.ref l) (.ref a) from by rw [RepV]; exact ⟨a,rfl,q⟩) e fun a' items m qa hd ho hr hz hsz=>k items m (Value.ref.inj qa ▸ ho) hr hsz
theorem lz {I a:Addr} (h1:h.IsListIter I a i):∃ o,h.get? I=some o:=h1.elim fun o q=>⟨o,q.1⟩
structure EI (g:Cfg) (env:Env) (fr:Fra) (s:Shared) (as:List Addr) (l:Nat) (J:Addr) (i:Nat) (as1:List Addr) (σ:Sto) (h:Heap):Prop where
 C:SI g env fr s as [J + 1,J] as1 σ h
 it:∃ a old,as1[l]?=some a ∧ IsEnum h (J + 1) J i old ∧ h.IsListIter J a i
theorem EI.li {ts:List Expr}{kk:Nat}{tp:Pos} (Z:SX g env s [J + 1,J]) (hh:g.hd=none):LI g env s as (.enum l) (J + 1) (.Tuple ts kk tp) (fun i fr as1 σ h=>EI g env fr s as l J i as1 σ h):=by
 have m1:J + 1 ∈ [J + 1,J]:=.head _
 have m0:J ∈ [J + 1,J]:=.tail _ (.head _)
 have out:∀ {i fr as1 σ h h2 a old},EI g env fr s as l J i as1 σ h→IsEnum h (J + 1) J i old→h.IsListIter J a i→(∀ (b:Addr) (o:Obj),b ≠ J + 1→b ≠ J→h.get? b=some o→h2.get? b=some o)→bR as1 h as1 h2 ∧ SI g env fr s as [J + 1,J] as1 σ h2:=fun C he hit k =>
  C.C.other (L:=[J + 1,J]) Z (fun b o q e=>k b o (fun z=>q (z ▸ m1)) (fun z=>q (z ▸ m0)) e) (Aq (.inl ⟨m1,fun o e=>iE (t:="enumerate") (Option.some.inj (he.symm.trans e) ▸ rfl) (by decide)⟩) (.inl ⟨m0,dG hit⟩))
 refine ⟨fun c=>⟨c.C.st,c.C.R,c.C.F⟩,fun c x R2 F2=>?_,fun {i fr as1 σ h tk A X Qn} ha C e hq=>?_,fun {i fr as1 σ h tk v A X Qn} C e hn=>?_⟩
 ·refine c.it.elim fun a q=>q.elim fun old q=>?_
  have c2:=c.C.step Z (Aq ⟨_,q.2.1⟩ (lz q.2.2)) x R2 F2
  exact ⟨c2.1,a,old,x.get q.1,c2.2 _ m1 _ q.2.1,q.2.2.at (c2.2 _ m0)⟩
 ·refine C.it.elim fun a q=>q.elim fun old q=>(Option.map_eq_some_iff.mp e).elim fun xs e=>gj s (tk:=tk) C.C.R q.1 e.1 fun items m ho hr hsz=>?_
  exact wpAny_pyNext_enum_end (s:={ s with heap:=h,toks:=tk }) (by rw [ha,hh]; rfl) q.2.1 q.2.2 ho.isList (by rw [Array.getElem?_eq_none_iff,hsz]; exact List.getElem?_eq_none_iff.mp (Option.map_eq_none_iff.mp e.2)) fun h' hs=>have c:=(out C q.2.1 q.2.2 fun b o _ q2 e=>hs b o q2 e).2; hq h' tk c.st c.R c.F
 ·refine C.it.elim fun a q=>q.elim fun old q=>(Option.map_eq_some_iff.mp e).elim fun xs e=>(Option.map_eq_some_iff.mp e.2).elim fun w e2=>gj s (tk:=tk) C.C.R q.1 e.1 fun items m ho hr hsz=>((ah.f2.mp hr).get e2.1).elim fun val p=>?_
  refine wpAny_pyNext_enum_item (s:={ s with heap:=h,toks:=tk }) q.2.1 q.2.2 ho.isList (by rw [← Array.getElem?_toList]; exact p.1) (Nat.succ_ne_self J) fun h' out' hit' htup hs' kk=>hn _ _ fun {Q1 Y1} hq=>?_
  refine wpAny_letOwnedTupleGo_enum out' fun h'' he'' hs''=>?_
  have c:=out (h2:=h'') C q.2.1 q.2.2 fun b o q1 q2 e=>hs''.extBut b o q1 (kk b o q1 q2 e)
  have hT:h.objs.size ≠ J + 1:=fun z=>Nat.lt_irrefl _ (z ▸ Heap.lt_size q.2.1)
  refine hq h'' _ ⟨c.2,a,_,q.1,he'',hit'.extBut hs''.extBut (Nat.ne_of_lt (Nat.lt_succ_self J))⟩ ?_
  rw [← e2.2]
  exact mI (hs''.extBut _ _ hT htup) (zc C.C.R) (by rw [RepV]; exact ⟨_,rfl⟩) (RepV.keep c.1 _ _ p.2)
theorem t6 {β:Type}{a:Addr}{o:Obj}{vs:Array Value}{i:Nat}{x:Value}{k:Value→Sem β}{Q:β→Shared→Prop} (ho:s.heap.get? a=some o) (hd:o.data=.fields vs) (hx:vs[i]?=some x) (h:wpAny (model g.prog g.w) A (k x) Q X s):wpAny (model g.prog g.w) A (field (.ref a) i >>= k) Q X s:=wpAny_bind (wpAny_field ho hd hx h)
theorem kC {z TI TO i1 i2 l1 l2:Addr}{k1:Nat}{xs:Array Value}{Qn:Option Value→Shared→Prop} (hh:A.handled=none) (D:ZipApart z TI TO i1 i2 l1 l2)
  (hz:IsZip s.heap z TI TO .none) (hTI:IsPair s.heap TI (.ref i1) (.ref i2)) (h1:s.heap.IsListIter i1 l1 k1) (hl1:s.heap.IsList l1 xs) (hx:xs[k1]?=none)
  (hQ:∀ h',(∀ c o,c ≠ z→c ≠ i1→s.heap.get? c=some o→h'.get? c=some o)→Qn none { s with heap:=h' }):wpAny (model g.prog g.w) A (pyNext (.ref z)) Qn X s:=by
 have hT:s.TypeIs (.ref z) "zip":=⟨_,hz,rfl⟩
 unfold pyNext
 refine wpAny_bind (wpAny_attempt (wpAny_callSpecial?_slot (name:=Str.ofString "__next__") hT F.slot_zip_next (wpAny_call_entry F.slot_zip_next hT F.entry_zip_next (t6 hz rfl (x:=.bool false) rfl (t6 hz rfl (x:=.ref TI) rfl (wpAny_bind (wpAny_seqItems hTI rfl (wpAny_bind (t6 hz rfl (x:=.none) rfl (wpAny_pure ?_))))))) (F.args_zip_next_1 _))))
 refine wpAny_bind (wpAny_rule (t6 hz rfl (x:=.ref TO) rfl (wpAny_bind (wpAny_setField_rec hz (by simp) fun h₁ hz₁ hs₁=>wpAny_bind ?_))))
 refine wpAny_bind (wpAny_bind (wpAny_onRaise (wpAny_bind (wpAny_nextOf_list_end hh (h1.extBut hs₁.extBut D.i1z) (hl1.extBut hs₁.extBut D.l1z) hx fun h₂ e hs₂ he=>he.elim fun oe he=>?_))))
 have hz₂:=hs₂ _ _ D.i1z.symm hz₁
 have hez:e ≠ z:=fun x=>absurd ((congrArg Obj.cls (Option.some.inj ((x ▸ he.1).symm.trans hz₂))).symm.trans he.2) (show Value.type "zip" ≠ .type "StopIteration" by decide)
 exact wpAny_setField_rec hz₂ (by simp) fun h₃ _ hs₃=>wpAny_bind (wpAny_isInstance (T:="StopIteration") (b:=true) ⟨oe,hs₃.extBut _ _ hez he.1,he.2⟩ isSubtype_stop
  (wpAny_pure (hQ _ fun c o c1 c3 x=>hs₃.extBut _ _ c1 (hs₂ _ _ c3 (hs₁.extBut _ _ c1 x)))))
theorem jn {J c d:Nat} (h:c ≠ d):J + c ≠ J + d:=fun q=>h (Nat.add_left_cancel q)
theorem xa {k p:Nat}{o:Option V} (e:bc σ i (.zip l k p)=some o):σ[p]?=some AO.ztup ∧ ∃ xs ys,getL σ l=some xs ∧ getL σ k=some ys ∧ mq xs[i]? ys[i]?=some o:=by
 refine bq (show (xj σ p).bind _=_ from e) fun u h1 e=>bq e fun xs h2 e=>bq e fun ys h3 e=>⟨?_,xs,ys,h2,h3,e⟩
 unfold xj at h1
 split at h1
 ·assumption
 ·exact nn h1
theorem pR {v w:Option V}{o:V} (e:mq v w=some (some o)):∃ x y,v=some x ∧ w=some y ∧ V.tup [x,y]=o:=by
 cases v with
 | none=>exact nn (Option.some.inj e)
 | some x=>cases w with
  | none=>exact nn e
  | some y=>exact ⟨x,y,rfl,rfl,Option.some.inj (Option.some.inj e)⟩
theorem rg {v w:Option V} (e:mq v w=some none):v=none:=by
 cases v with
 | none=>rfl
 | some x=>cases w with
  | none=>exact nn e
  | some y=>exact nn (Option.some.inj e).symm
theorem zD {Ψ:Addr→Prop}{a b c d:Addr} (h1:Ψ a) (h2:Ψ b) (h3:Ψ c) (h4:Ψ d):∀ x ∈ [a,b,c,d],Ψ x:=fun x q =>
 (List.mem_cons.mp q).elim (fun q=>q ▸ h1) fun q=>(List.mem_cons.mp q).elim (fun q=>q ▸ h2) fun q=>(List.mem_cons.mp q).elim (fun q=>q ▸ h3) fun q=>List.mem_singleton.mp q ▸ h4
structure ZIt (l k p:Nat) (J:Addr) (i:Nat) (as1:List Addr) (h:Heap) (a b:Addr):Prop where
 ea:as1[l]?=some a
 eb:as1[k]?=some b
 ep:as1[p]?=some (J + 3)
 hz:IsZip h (J + 4) (J + 2) (J + 3) .none
 hT:IsPair h (J + 2) (.ref J) (.ref (J + 1))
 h1:h.IsListIter J a i
 h2:h.IsListIter (J + 1) b i
structure ZI (g:Cfg) (env:Env) (fr:Fra) (s:Shared) (as:List Addr) (l k p:Nat) (J:Addr) (i:Nat) (as1:List Addr) (σ:Sto) (h:Heap):Prop where
 C:SI g env fr s as [J + 4,J,J + 1,J + 2] as1 σ h
 it:∃ a b,ZIt l k p J i as1 h a b
theorem qB {a b:Addr} (off:∀ c ∈ [J + 4,J,J + 1,J + 2],c ∉ as1) (ea:a ∈ as1) (eb:b ∈ as1) (na:a ≠ J + 3) (nb:b ≠ J + 3):ZipApart (J + 4) (J + 2) (J + 3) J (J + 1) a b :=
 have oa:∀ {c},c ∈ [J + 4,J,J + 1,J + 2]→a ≠ c:=fun q z=>off _ q (z ▸ ea)
 have ob:∀ {c},c ∈ [J + 4,J,J + 1,J + 2]→b ≠ c:=fun q z=>off _ q (z ▸ eb)
 ⟨jn (by decide),jn (by decide),jn (c:=0) (by decide),jn (by decide),jn (by decide),jn (d:=0) (by decide),jn (by decide),jn (d:=0) (by decide),jn (by decide),jn (c:=0) (by decide),oa (.head _),na,oa (.tail _ (.head _)),oa (.tail _ (.tail _ (.head _))),ob (.head _),nb,ob (.tail _ (.head _)),ob (.tail _ (.tail _ (.head _)))⟩
theorem j6 {a c:Addr}{items:Array Value}{n:Nat}{x y:Value} (la:IsL h a items n) (hp:IsPair h c x y):a ≠ c:=fun q=>absurd (congrArg Obj.cls (Option.some.inj ((q ▸ la).symm.trans hp))) (show Value.type "list" ≠ .type "tuple" by decide)
theorem iZ {f:Value}{a b c:Addr} (hz:IsZip h a b c f):∀ o,h.get? a=some o→¬ Imm o:=fun o e=>iE (t:="zip") (Option.some.inj (hz.symm.trans e) ▸ rfl) (by decide)
theorem ZI.use {k p:Nat}{o:Option V}{tk:Nat}{G:Prop} (C:ZI g env fr s as l k p J i as1 σ h) (e:bc σ i (.zip l k p)=some o)
  (H:∀ a b x y xs ys items n items' n',ZIt l k p J i as1 h a b→σ[p]?=some AO.ztup→IsPair h (J + 3) x y→mq xs[i]? ys[i]?=some o→ZipApart (J + 4) (J + 2) (J + 3) J (J + 1) a b→IsL h a items n→ah as1 h xs items.toList→items.size=xs.length→IsL h b items' n'→ah as1 h ys items'.toList→G):G :=
 C.it.elim fun a I=>I.elim fun b I=>(xa e).elim fun hp q=>q.elim fun xs q=>q.elim fun ys q=>(C.C.R.obj _ _ _ I.ep hp).elim fun x r=>r.elim fun y hTO =>
  gj s (tk:=tk) C.C.R I.ea q.1 fun items m ho hr hsz=>gj s (tk:=tk) C.C.R I.eb q.2.1 fun items' m' ho' hr' hsz' =>
   H a b x y xs ys items m items' m' I hp hTO q.2.2 (qB C.C.off (List.mem_of_getElem? I.ea) (List.mem_of_getElem? I.eb) (j6 ho hTO) (j6 ho' hTO)) ho hr hsz ho' hr'
theorem ZI.li {ts:List Expr}{kk k p:Nat}{tp:Pos} (Z:SX g env s [J + 4,J,J + 1,J + 2]) (hh:g.hd=none):LI g env s as (.zip l k p) (J + 4) (.Tuple ts kk tp) (fun i fr as1 σ h=>ZI g env fr s as l k p J i as1 σ h):=by
 have m4:J + 4 ∈ [J + 4,J,J + 1,J + 2]:=.head _
 have m0:J ∈ [J + 4,J,J + 1,J + 2]:=.tail _ (.head _)
 have m1:J + 1 ∈ [J + 4,J,J + 1,J + 2]:=.tail _ (.tail _ (.head _))
 have m2:J + 2 ∈ [J + 4,J,J + 1,J + 2]:=.tail _ (.tail _ (.tail _ (.head _)))
 refine ⟨fun c=>⟨c.C.st,c.C.R,c.C.F⟩,fun c x R2 F2=>c.it.elim fun a I=>I.elim fun b I=>?_,fun {i fr as1 σ h tk A X Qn} ha C e hq=>C.use (tk:=tk) e fun a b x y xs ys items n items' n' I hp hTO he D ho hr hsz ho' hr'=>?_,fun {i fr as1 σ h tk v A X Qn} C e hn=>C.use (tk:=tk) e fun a b x0 y0 xs ys items n items' n' I hp hTO he D ho hr hsz ho' hr'=>?_⟩
 ·have c2:=c.C.step Z (zD ⟨_,I.hz⟩ (lz I.h1) (lz I.h2) ⟨_,I.hT⟩) x R2 F2
  exact ⟨c2.1,a,b,x.get I.ea,x.get I.eb,x.get I.ep,c2.2 _ m4 _ I.hz,c2.2 _ m2 _ I.hT,I.h1.at (c2.2 _ m0),I.h2.at (c2.2 _ m1)⟩
 ·refine kC (s:={ s with heap:=h,toks:=tk }) (by rw [ha,hh]; rfl) D I.hz I.hT I.h1 ho.isList (by rw [Array.getElem?_eq_none_iff,hsz]; exact List.getElem?_eq_none_iff.mp (rg he)) fun h' kk=>?_
  have c:=(C.C.other (L:=[J + 4,J]) (h2:=h') Z (fun b o q e=>kk b o (fun z=>q (z ▸ .head _)) (fun z=>q (z ▸ .tail _ (.head _))) e) (Aq (.inl ⟨m4,iZ I.hz⟩) (.inl ⟨m0,dG I.h1⟩))).2
  exact hq h' tk c.st c.R c.F
 ·refine (pR he).elim fun v1 q=>q.elim fun v2 q=>((ah.f2.mp hr).get q.1).elim fun x px=>((ah.f2.mp hr').get q.2.1).elim fun y py=>?_
  refine wpAny_pyNext_zip_item (s:={ s with heap:=h,toks:=tk }) D I.hz I.hT hTO I.h1 I.h2 ho.isList ho'.isList (by rw [← Array.getElem?_toList]; exact px.1) (by rw [← Array.getElem?_toList]; exact py.1) fun h' z' p' j1 j2 pr _ kk=>hn _ _ fun {Q1 Y1} hq=>wpAny_letOwnedTupleGo_zip z' fun h'' hz'' hs''=>?_
  have up:∀ (b:Addr) (o:Obj),b ≠ J + 4→h'.get? b=some o→h''.get? b=some o:=hs''.extBut
  have c:=C.C.other (L:=[J + 4,J + 3,J,J + 1]) (h2:=h'') Z (fun b o q e=>up b o (fun z=>q (z ▸ .head _)) (kk b o (fun z=>q (z ▸ .head _)) (fun z=>q (z ▸ .tail _ (.head _))) (fun z=>q (z ▸ .tail _ (.tail _ (.head _)))) (fun z=>q (z ▸ .tail _ (.tail _ (.tail _ (.head _))))) e))
   (zD (.inl ⟨m4,iZ I.hz⟩) (.inr ⟨p,I.ep,hp,x,y,up _ _ D.TOz p'⟩) (.inl ⟨m0,dG I.h1⟩) (.inl ⟨m1,dG I.h2⟩))
  refine hq h'' tk ⟨c.2,a,b,I.ea,I.eb,I.ep,hz'',up _ _ D.TIz (kk _ _ D.TIz D.TITO D.TIi1 D.TIi2 I.hT),j1.at fun o=>up _ o D.i1z,j2.at fun o=>up _ o D.i2z⟩ ?_
  rw [← q.2.2]
  exact mI (up _ _ (fun q=>Nat.lt_irrefl _ (q ▸ Heap.lt_size I.hz)) pr) (zc C.C.R) (RepV.keep c.1 _ _ px.2) (RepV.keep c.1 _ _ py.2)
end
end Mine
namespace Mine
set_option backward.match.sparseCases false
open PySem PyProof.Rows PySem.W
section
variable {g:Cfg}{K:Frag}{c0:CE}{fa:Nat→Option Addr}{call:Nat→List V→Sto→RE}{env:Env}{A:Around}{X:Value→Shared→Prop}{s:Shared}{as:List Addr}{fr fr':Fra} {σ σ':Sto}{wf r n:Nat}
 {names:List (Str × NameKind)}{fl:Fl}{Q:Flow→Shared→Prop}
noncomputable def ei (g:Cfg) (c0:CE) (call:Nat→List V→Sto→RE) (wf r:Nat) (names:List (Str × NameKind)) (st:Stmt) (st':S):Prop :=
 ∀ (env:Env) (A:Around) (X:Value→Shared→Prop) (s:Shared) (as:List Addr) (fr fr':Fra) (σ σ':Sto) (fl:Fl) (Q:Flow→Shared→Prop),
  aq (c0.sub names) env A→cb g A (r + 1)→At g env as fr σ s→evS call wf st' fr σ=.ok fl fr' σ'→fe g env as s fl fr' σ' Q→wpAny (model g.prog g.w) A (exec st env) Q X s
theorem hZ (F:ay g env as fr s.heap):interactive env=false:=by
 unfold interactive; rw [F.kind]; rfl
theorem kL {e:Expr}{line:Nat} (h:∀ a b c d,e ≠ .ListComp a b c d) {e':E}{c:CE} (hc:aj n c e=some e'):swapsWith e none line env=pure false:=by
 have hk:=cZ hc
 cases e <;> first | rfl | exact absurd rfl (h _ _ _ _) | exact ft hk
theorem iu {e:Expr}{line:Nat}{t:Expr} (h:∀ a b c d,e ≠ .ListComp a b c d) {e':E}{c:CE} (hc:aj n c e=some e'):swapsWith e (some t) line env=pure false:=by
 have hk:=cZ hc
 cases e <;> first | rfl | exact absurd rfl (h _ _ _ _) | exact ft hk
theorem fc {e:Expr}{line:Nat}{t:Expr} (ht:∀ x p,t ≠ .Name x p) {e':E}{c:CE} (hc:aj n c e=some e'):swapsWith e (some t) line env=pure false:=by
 by_cases h:∃ a b c d,e=.ListComp a b c d
 ·obtain ⟨a,b,c',d,rfl⟩:=h
  cases t <;> first | rfl | exact absurd rfl (ht _ _)
 ·exact iu (fun a b c d q=>h ⟨a,b,c,d,q⟩) hc
theorem zw {e:Expr}{e':E}{p:Pos} (IH:bv g c0 call r n) (hn:∀ a b c d,e ≠ .ListComp a b c d) (h:aj n (c0.sub names) e=some e'):ei g c0 call wf r names (.Expr e p) (.expr e'):=fun env A X s as fr fr' σ σ' fl Q N hA T ev hQ=>by
 refine jg ev fun u τ e1 e2=>?_
 cases e2
 exact wpAny_Expr_any (IH names e e' h env A X s as fr σ _ u _ N hA T e1 fun val as' h' tk st R' F' r'=>hQ .next as' h' tk rfl (up st) R' F') (hZ T.F) (kL hn h)
theorem AY {e:Expr}{e':E}{p:Pos} (IH:bv g c0 call r n) (h:aj n (c0.sub names) e=some e'):ei g c0 call wf r names (.Return (some e) p) (.ret e'):=fun env A X s as fr fr' σ σ' fl Q N hA T ev hQ=>by
 refine jg ev fun u τ e1 e2=>?_
 cases e2
 exact wpAny_Return_some (IH names e e' h env A X s as fr σ _ u _ N hA T e1 fun val as' h' tk st R' F' r'=>hQ (.ret val) as' h' tk ⟨val,rfl,r'⟩ (up st) R' F')
theorem yn {p:Pos}:ei g c0 call wf r names (.Pass p) .pass:=fun env A X s as fr fr' σ σ' fl Q N hA T ev hQ=>by
 cases (show RS.ok .next fr σ=.ok fl fr' σ' from ev)
 exact wpAny_Pass (hQ .next as s.heap s.toks rfl (aC.refl _ _ _) T.R T.F)
theorem nq {as':List Addr}{h':Heap}{tk:Nat} (hQ:fe g env as s .next fr' σ' Q) (st:aC (ownOf env) as s.heap as' h'):iN g env (ownOf env) as' σ' { s with heap:=h',toks:=tk } fr' (fun _=>Q .next) :=
 fun as2 h2 tk2 st2 K2 R2 F2=>hQ .next as2 h2 tk2 rfl (st.trans st2 R2.nd F2.offs) R2 F2
theorem jv {elt:Expr}{gens:List Comprehension}{sc:Scope}{p:Pos}{u:Value→Sem Unit}:evalThenUse (.ListComp elt gens sc p) env u=(do
  let _ ← comprehension (.ListComp elt gens sc p) sc env (firstIterPos gens p) (newList []) (firstAsync gens) (firstIter gens env) (some u)):=rfl
theorem uv {x:Str}{i:Nat}{xp lp:Pos}{elt target iter:Expr}{ifs:List Expr}{sc:Scope}{it' x':E}{tg:List Nat}{one:Bool}{cs:List E}{frm:List (Option Nat)}{u:V} {τ:Sto} (IH':bv g c0 call r n) (IT':lj g c0 call r n) (hx:(c0.sub names).locW? x=some i) (N:aq (c0.sub names) env A) (hA:cb g A (r + 1)) (T:At g env as fr σ s)
  (ho:oU sc=true) (q1:aj n (c0.sub names) iter=some it') (q2:tgt (c0.sub sc.names) target=some (tg,one)) (q3:aQ (aj n (c0.sub sc.names)) ifs=some cs) (q4:aj n (c0.sub sc.names) elt=some x') (q5:fj (c0.sub names) sc=some frm)
  (e1:evE call (.comp tg one it' cs x' frm) fr σ=.ok u τ) (hQ:fe g env as s .next (fr.set i (some u)) τ Q) :
  wpAny (model g.prog g.w) A (evalThenUse (.ListComp elt [⟨target,iter,ifs,0⟩] sc lp) env (assign (.Name x xp) env)) (fun _ s'=>wpAny (model g.prog g.w) A (pure Flow.next) Q X s') X s:=by
 obtain ⟨u',τ',src,k,ys,σ2,f1,f2,f3,f4,f5⟩:=nU e1
 have hlen:=eM f5
 cases (if_pos hlen).symm.trans f5
 rw [jv]
 refine wpAny_bind (wpAny_mono (lg (use:=some (assign (.Name x xp) env)) (Q:=fun _ s'=>Q .next s') IH' IT' N hA T q1 q2 q3 q4 q5 ho f1 f2 f3 f4 hlen fun as' h' tk C D m st R' F' hl hm hC hCL hcc hCb hCn=>?_) (fun _ s' hq=>wpAny_pure (wpAny_pure hq)) fun _ _ e=>e)
 have rD:RepV (as' ++ [D]) h' (.ref σ2.length) (.ref D):=by rw [RepV]; exact ⟨D,rfl,by rw [← hl]; simp⟩
 refine wpAny_assign_Name (gE (own:=ownOf env) (s:={ s with heap:=h',toks:=tk }) ⟨F',R'⟩ N (eW _ _) hx rD fun as2 h2 tk2 st2 K2 R2 F2=>?_)
 have hCo:C ∉ ownOf env:=fun q=>(bQ q).elim (fun q=>hCL q) fun ⟨y,q⟩=>hcc _ _ q rfl
 have hm2:h2.Ns C m:=hm.at' fun o e=>st2.ext _ o e hCo hC
 refine ⟨m,hm2,fun h3 hs3=>?_⟩
 have kk:∀ (b:Addr) (o:Obj),b ≠ C→h2.get? b=some o→h3.get? b=some o:=fun b o hb e=>by rw [hs3.2 b hb]; exact e
 have hC2:C ∉ as2:=fun q=>by
  obtain ⟨t,ht,hf⟩:=st2.pre
  rw [ht] at q
  rcases List.mem_append.mp q with q | q
  ·exact hC q
  ·obtain ⟨o',es,ep,e',_⟩:=hm
   rw [show h'.get? C=none from hf C q] at e'
   exact nn e'
 obtain ⟨K3,R3⟩:=R2.other kk hC2 hCb (kg hm2)
 have F3:=F2.alter K3 kk (Ne.symm hCL) hcc (fun a ha=>.inl ha)
 have off:∀ a ∈ C :: ownOf env,a ∉ as2:=fun a ha=>(List.mem_cons.mp ha).elim (fun q=>q ▸ hC2) (F3.offs a)
 have a3:aC (C :: ownOf env) as2 h2 as2 h3:=⟨⟨[],(List.append_nil _).symm,fun _ q=>nomatch q⟩,fun b ob e hb _=>kk b ob (fun q=>hb (q ▸ .head _)) e⟩
 exact hQ .next as2 h3 tk2 rfl (((((up st).grow fun a ha=>.tail _ ha).trans (st2.grow fun a ha=>.tail _ ha) R3.nd off).trans a3 R3.nd off).shrink fun a ha=>(List.mem_cons.mp ha).elim (fun q=>.inr (q ▸ hCn)) .inl) R3 F3
theorem A0 {x:Str}{i:Nat}{e:Expr}{e':E}{p xp:Pos} (IH:bv g c0 call r (n + 1)) (IH':bv g c0 call r n) (IT':lj g c0 call r n) (hx:(c0.sub names).locW? x=some i) (h:aj (n + 1) (c0.sub names) e=some e'):ei g c0 call wf r names (.Assign [.Name x xp] e p) (.asg i e') :=
 fun env A X s as fr fr' σ σ' fl Q N hA T ev hQ=>by
 refine jg ev fun u τ e1 e2=>?_
 by_cases hi:i < fr.length
 case neg=>exact nomatch (if_neg hi).symm.trans e2
 have hQ:fe g env as s .next (fr.set i (some u)) τ Q:=gC (Ψ:=fun fl fr' σ'=>fe g env as s fl fr' σ' Q) ((if_pos hi).symm.trans e2) hQ
 have plain:swapsWith e (some (.Name x xp)) p.line env=pure false→wpAny (model g.prog g.w) A (exec (.Assign [.Name x xp] e p) env) Q X s:=fun hs =>
  wpAny_Assign_Name (IH names e e' h env A X s as fr σ _ u _ N hA T e1 fun val as' h' tk st R' F' r'=>gE (own:=ownOf env) (s:={ s with heap:=h',toks:=tk }) ⟨F',R'⟩ N (eW _ _) hx r' (nq hQ (up st))) hs
 by_cases hc:∃ a b c d,e=.ListComp a b c d
 ·obtain ⟨elt,gens,sc,lp,rfl⟩:=hc
  refine (show ∃ b:Bool,swapsWith (.ListComp elt gens sc lp) (some (.Name x xp)) p.line env=pure b from ⟨_,rfl⟩).elim fun b hb=>?_
  cases b with
  | false=>exact plain hb
  | true =>
   rw [exec_Assign_Name_used _ _ _ _ hb]
   exact wpAny_bind (wpAny_standAt (wpAny_bind (nT (names:=names) (fun gens e'=>evE call e' fr σ=.ok u τ→wpAny (model g.prog g.w) A (evalThenUse (.ListComp elt gens sc lp) env (assign (.Name x xp) env)) (fun _ s'=>wpAny (model g.prog g.w) A (pure Flow.next) Q X s') X s) h
    (fun _ _ _ _ _ _ _ _ _ ho q1 q2 q3 q4 q5 e1=>uv IH' IT' hx N hA T ho q1 q2 q3 q4 q5 e1 hQ) e1)))
 ·exact plain (iu (fun a b c d q=>hc ⟨a,b,c,d,q⟩) h)
theorem kP {ts:List Expr}{k:Nat}{tp:Pos}{e:Expr} (h:(∃ x p,e=.Name x p) ∨ (∃ f as ks p,e=.Call f as ks p) ∨ ∃ o i p,e=.Subscript o i p):swappedStores [.Tuple ts k tp] e env=pure none:=by
 rcases h with ⟨_,_,rfl⟩ | ⟨_,_,_,_,rfl⟩ | ⟨_,_,_,rfl⟩ <;> rfl
set_option tactic.hygienic true in
theorem zg {ts:List Expr}{k:Nat}{tp p:Pos}{is:List Nat}{e:Expr}{e':E} (IH:bv g c0 call r n) (hx:bM (c0.sub names) ts=some is) (hn:(∃ x p,e=.Name x p) ∨ (∃ f as ks p,e=.Call f as ks p) ∨ ∃ o i p,e=.Subscript o i p) (h:aj n (c0.sub names) e=some e') :
  ei g c0 call wf r names (.Assign [.Tuple ts k tp] e p) (.asgT is e'):=fun env A X s as fr fr' σ σ' fl Q N hA T ev hQ=>by
 refine bz (fr:=fr) (dP ev) fun u τ e1 e2=>?_
 split at e2
 case h_2=>cases e2
 rename_i f1 hb
 cases e2
 refine Assign_Tuple (IH names e e' h env A X s as fr σ _ u _ N hA T e1 fun val as' h' tk st R' F' r'=>?_) (show swapsWithSole [.Tuple ts k tp] e p.line env=pure false from fc (env:=env) (line:=p.line) (t:=.Tuple ts k tp) (by simp) h) (kP hn)
 exact jz (own:=ownOf env) (s:={ s with heap:=h',toks:=tk }) (target:=.Tuple ts k tp) (tg:=is) (one:=false) hA.handled ⟨F',R'⟩ N (eW _ _) (by show (bM (c0.sub names) ts).map _=_; rw [hx]; rfl) r' hb (nq hQ (up st))
set_option tactic.hygienic true in
theorem xN {o e:Expr}{x:Str}{k:Nat}{op p:Pos}{o' e':E} (G:bC g K c0 fa) (J:bu g) (IH:bv g c0 call r n) (h0:aj n (c0.sub names) o=some o') (hk:c0.attrs.lookup x=some k) (h:aj n (c0.sub names) e=some e') :
  ei g c0 call wf r names (.Assign [.Attribute o x op] e p) (.asgA o' k e'):=fun env A X s as fr fr' σ σ' fl Q N hA T ev hQ=>by
 refine bz (fr:=fr) (dP ev) fun u τ e1 e2=>?_
 refine bz (fr:=fr) e2 fun w τ' e3 e4=>?_
 split at e4
 case h_2=>cases e4
 rename_i σ1 hs
 cases e4
 refine plainObj_wpAny_Assign_Attribute (two IH h h0 N hA T e1 e3 fun x y as' h' tk st R' F' r1 r2=>?_) (fc (by simp) h)
 exact rf G J (T.step (tk:=tk) R' F') r2 r1 hk hs fun as2 h2 tk2 st2 R2 F2=>hQ .next as2 h2 tk2 rfl (up (ao st st2 R2 F2)) R2 F2
set_option tactic.hygienic true in
theorem zq {o i e:Expr}{op p:Pos}{o' i' e':E} (IH:bv g c0 call r n) (h0:aj n (c0.sub names) o=some o') (h1:aj n (c0.sub names) i=some i') (h:aj n (c0.sub names) e=some e') :
  ei g c0 call wf r names (.Assign [.Subscript o i op] e p) (.asgI o' i' e'):=fun env A X s as fr fr' σ σ' fl Q N hA T ev hQ=>by
 refine bz (fr:=fr) (dP ev) fun u τ e1 e2=>?_
 refine bz (fr:=fr) e2 fun w τ' e3 e4=>?_
 refine bz (fr:=fr) e4 fun z τ2 e5 e6=>?_
 split at e6
 case h_2=>cases e6
 rename_i σ1 hs
 cases e6
 refine wpAny_Assign_Subscript (two (Q:=fun v ov s2=>wpAny (model g.prog g.w) A (eval i env) (fun iv s₃=>wpAny (model g.prog g.w) A (setItem ov iv v) (fun _=>Q .next) X s₃) X s2) IH h h0 N hA T e1 e3 fun x y as' h' tk st R' F' r1 r2=>?_) (fc (by simp) h)
 refine IH names i i' h1 env A X _ as' fr τ' _ z _ N hA (T.step (tk:=tk) R' F') e5 fun val as2 h2 tk2 st2 R2 F2 r3=>?_
 have kp:=At.keep (s:={ s with heap:=h',toks:=tk }) ⟨F',R'⟩ st2
 refine qc (s:={ s with heap:=h2,toks:=tk2 }) ⟨F2,R2⟩ hA (RepV.keep kp _ _ r2) r3 (RepV.keep kp _ _ r1) hs fun as3 h3 tk3 st3 R3 F3=>?_
 exact hQ .next as3 h3 tk3 rfl (up (ao (ao st st2 R2 F2) st3 R3 F3)) R3 F3
theorem BW {t:Expr}{b o:List Stmt}{t':E}{b' o':List S}{p:Pos} (IT:lj g c0 call r n) {m:Nat} (IL:j5 g c0 call wf r m) (h0:aj n (c0.sub names) t=some t') (h1:aQ (bV m (c0.sub names)) b=some b') (h2:aQ (bV m (c0.sub names)) o=some o') :
  ei g c0 call wf r names (.If t b o p) (.ifS t' b' o'):=fun env A X s as fr fr' σ σ' fl Q N hA T ev hQ=>by
 refine bz (fr:=fr) ev fun u τ e1 e2=>?_
 split at e2
 ·refine wpAny_If (IT names t t' h0 env A X s as fr σ τ true _ N hA T e1 fun as' h' tk st R' F'=>?_)
  rw [if_pos rfl]
  exact IL names b b' h1 env A X _ as' fr fr' τ σ' fl Q N hA ⟨F',R'⟩ e2 (dH hQ (up st))
 ·refine wpAny_If (IT names t t' h0 env A X s as fr σ τ false _ N hA T e1 fun as' h' tk st R' F'=>?_)
  rw [if_neg Bool.false_ne_true]
  exact IL names o o' h2 env A X _ as' fr fr' τ σ' fl Q N hA ⟨F',R'⟩ e2 (dH hQ (up st))
 ·cases e2
noncomputable def WI (g:Cfg) (call:Nat→List V→Sto→RE) (wf:Nat) (env:Env) (s:Shared) (as:List Addr) (t':E) (b':List S) (fl:Fl) (fr':Fra) (σ':Sto) (k:Nat) (s':Shared):Prop :=
 ∀ G:Prop,(∀ fr1 σ1 as1 h1 tk1,s'={ s with heap:=h1,toks:=tk1 }→cm (evE call t') (evSs call wf b') k fr1 σ1=.ok fl fr' σ'→aC (ownOf env) as s.heap as1 h1→Rel g as1 σ1 h1→ay g env as1 fr1 h1→G)→G
theorem r6 {test:Fra→Sto→RE}{body:Fra→Sto→RS}{k:Nat}{G:Prop} (Ψ:Fl→Fra→Sto→Prop) (e:cm test body k fr σ=.ok fl fr' σ') (hΨ:Ψ fl fr' σ') (H0:∀ τ,test fr σ=.ok (.bool false) τ→Ψ .next fr τ→G)
  (H1:∀ m τ,m < k→test fr σ=.ok (.bool true) τ→wC (body fr τ) (cm test body m)=.ok fl fr' σ'→G):G:=by
 cases k with
 | zero=>exact nomatch (show RS.bad=_ from e)
 | succ k =>
  refine bz (fr:=fr) (show (test fr σ).bindS fr _=_ from e) fun u τ e1 e2=>?_
  cases u with
  | bool b=>cases b with
   | false=>exact H0 τ e1 (gC e2 hΨ)
   | true=>exact H1 k τ (Nat.lt_succ_self _) e1 e2
  | _=>exact nomatch (show RS.bad=_ from e2)
theorem vO {t:Expr}{b:List Stmt}{t':E}{b':List S}{p:Pos} (IT:lj g c0 call r n) {m:Nat} (IL:j5 g c0 call wf r m) (h0:aj n (c0.sub names) t=some t') (h1:aQ (bV m (c0.sub names)) b=some b') :
  ei g c0 call wf r names (.While t b [] p) (.whileS t' b'):=fun env A X s as fr fr' σ σ' fl Q N hA T ev hQ=>by
 refine wpAny_While (codeAny_whileLoop (WI g call wf env s as t' b' fl fr' σ') (fun k s1 I=>I _ fun fr1 σ1 as1 k1 tk1 qs ev st1 R1 F1=>?_) wf fun G H=>H fr σ as s.heap s.toks rfl (dP ev) (aC.refl _ _ _) T.R T.F)
 rw [qs]
 refine r6 (fun fl fr' σ'=>fe g env as s fl fr' σ' Q) ev hQ (fun τ e1 hQ=>IT names t t' h0 env A _ { s with heap:=k1,toks:=tk1 } as1 fr1 σ1 τ false _ N hA ⟨F1,R1⟩ e1 fun as' h' tk st R' F'=>?_) fun j τ hj e1 e2=>IT names t t' h0 env A _ { s with heap:=k1,toks:=tk1 } as1 fr1 σ1 τ true _ N hA ⟨F1,R1⟩ e1 fun as' h' tk st R' F'=>?_
 ·rw [if_neg Bool.false_ne_true]
  exact wpAny_execs_nil (hQ .next as' h' tk rfl (st1.trans (up st) R'.nd F'.offs) R' F')
 ·rw [if_pos rfl]
  have st2:=st1.trans (up st) R'.nd F'.offs
  refine nk (fun fl fr' σ'=>fe g env as s fl fr' σ' Q) e2 hQ (fun f0 f2 σ2 hb hf e2=>?_) (fun f2 σ2 hb hQ=>?_) fun f2 σ2 w hb hQ=>?_
  ·refine IL names b b' h1 env A _ { s with heap:=h',toks:=tk } as' fr1 f2 τ σ2 f0 _ N hA ⟨F',R'⟩ hb fun f as3 h3 tk3 hf3 st3 R3 F3=>?_
   rcases gc.go hf hf3 with q | q <;> rw [q] <;> exact ⟨j,hj,fun G H=>H f2 σ2 as3 h3 tk3 rfl e2 (st2.trans st3 R3.nd F3.offs) R3 F3⟩
  ·refine IL names b b' h1 env A _ { s with heap:=h',toks:=tk } as' fr1 f2 τ σ2 .brk _ N hA ⟨F',R'⟩ hb fun f as3 h3 tk3 hf3 st3 R3 F3=>?_
   rw [show f=.brk from hf3]
   exact hQ .next as3 h3 tk3 rfl (st2.trans st3 R3.nd F3.offs) R3 F3
  ·refine IL names b b' h1 env A _ { s with heap:=h',toks:=tk } as' fr1 f2 τ σ2 (.ret w) _ N hA ⟨F',R'⟩ hb fun f as3 h3 tk3 hf3 st3 R3 F3=>hf3.elim fun val q=>?_
   rw [q.1]
   exact hQ (.ret val) as3 h3 tk3 ⟨val,rfl,q.2⟩ (st2.trans st3 R3.nd F3.offs) R3 F3
theorem Ac {t it:Expr}{b:List Stmt}{it':E}{b':List S}{tg:List Nat}{one:Bool}{p:Pos} (IH:bv g c0 call r n) {m:Nat} (IL:j5 g c0 call wf r m) (ht:tgt (c0.sub names) t=some (tg,one)) (h0:aj n (c0.sub names) it=some it') (h1:aQ (bV m (c0.sub names)) b=some b') :
  ei g c0 call wf r names (.For t it b [] p) (.forS tg one (.e it') b'):=fun env A X s as fr fr' σ σ' fl Q N hA T ev hQ=>by
 refine bz (fr:=fr) ev fun u τ e1 e2=>?_
 refine rp e2 (fun q=>nomatch q) fun src k hs hl ev=>?_
 refine wpAny_For (IH names it it' h0 env A X s as fr σ τ u _ N hA T e1 fun val as1 k1 tk1 st1 R1 F1 r1=>?_) (jR h0)
 have T1:At g env as1 fr τ { s with heap:=k1,toks:=tk1 }:=⟨F1,R1⟩
 refine lx T1 r1 hs hl fun o T2 it0=>?_
 have nn:=T1.notNew
 have Z:FX g env { s with heap:=k1,toks:=tk1 } k1.objs.size:=⟨fun q=>by
  rcases bQ q with q | ⟨y,q⟩
  ·exact nn.1 q
  ·exact T1.cellNew _ _ q rfl,nn.2.2,new_none _⟩
 exact gS (tk:=tk1) IL (FI.li Z) N hA ht h1 ev ⟨⟨bG _ _ _ _,T2.R,T2.F,it0,nn.2.1⟩,.zero⟩ (dH hQ (up st1))
set_option tactic.hygienic true in
theorem xB {ts:List Expr}{kk:Nat}{tp fp p1 p:Pos}{it:Expr}{b:List Stmt}{it':E}{b':List S}{tg:List Nat × Bool}{m:Nat} (G:bC g K c0 fa) (IH:bv g c0 call r 30) (IL:j5 g c0 call wf r m) (hg:(c0.sub names).glob "enumerate"=true) (hh:c0.hnd=false) (ht:tgt (c0.sub names) (.Tuple ts kk tp)=some tg) (h0:aj 30 (c0.sub names) it=some it') (h1:aQ (bV m (c0.sub names)) b=some b') :
  ei g c0 call wf r names (.For (.Tuple ts kk tp) (.Call (.Name "enumerate" fp) [it] [] p1) b [] p) (.forS tg.1 tg.2 (.enum it') b'):=fun env A X s as fr fr' σ σ' fl Q N hA T ev hQ=>by
 refine bz (fr:=fr) (dP ev) fun u τ e1 e2=>?_
 refine lF e2 (fun q=>nomatch q) fun src k hs hl ev=>?_
 refine wpAny_For (lI IH hg rfl G.en ⟨_,.inr rfl⟩ h0 N hA T e1 fun y as1 k1 tk1 st1 R1 F1 r1=>?_) (fun _=>rfl)
 have T1:At g env as1 fr τ { s with heap:=k1,toks:=tk1 }:=⟨F1,R1⟩
 cases u <;> first | exact nn hs | skip
 rename_i l
 cases Option.some.inj (show some (Src.enum l)=some src from hs)
 obtain ⟨m',hm⟩:=hl
 obtain ⟨xs,hx,_⟩:=Option.map_eq_some_iff.mp hm
 refine aw (s:={ s with heap:=k1,toks:=tk1 }) R1 r1 hx fun a items n' qx hd ho hr hz hsz=>?_; subst qx
 refine call_enumerate_list ho.isList fun h' he hit hs' kk'=>wpAny_pyIter_enum he ?_
 have sx:=wE T1 (M:=[k1.objs.size + 1,k1.objs.size]) fun b q=>(List.mem_cons.mp q).elim (fun q=>q ▸ Nat.le_succ _) fun q=>List.mem_singleton.mp q ▸ Nat.le_refl _
 have x0:aC [] as1 k1 as1 h':=aC.of_ext kk'
 exact gS (s:={ s with heap:=k1,toks:=tk1 }) (tk:=tk1) IL (EI.li (l:=l) sx.1 (G.hd hh)) N hA ht h1 ev
  ⟨⟨x0.grow (fun _ q=>nomatch q),R1.ext kk',T1.frame x0,sx.2⟩,a,_,hd,he,hit⟩ (dH hQ (up st1))
theorem pZ {v w:V}{p:Nat}{src:Src} (h:zu v w p=some src):∃ l k,v=.ref l ∧ w=.ref k ∧ src=.zip l k p:=by
 cases v <;> first | exact nn h | skip
 cases w <;> first | exact nn h | exact ⟨_,_,rfl,rfl,(Option.some.inj h).symm⟩
theorem zi {ts:List Expr}{kk:Nat}{tp fp p1 p:Pos}{e f:Expr}{b:List Stmt}{e' f':E}{b':List S}{tg:List Nat × Bool}{m:Nat} (G:bC g K c0 fa) (IH:bv g c0 call r 30) (IL:j5 g c0 call wf r m) (hg:(c0.sub names).glob "zip"=true) (hh:c0.hnd=false) (ht:tgt (c0.sub names) (.Tuple ts kk tp)=some tg) (h0:aj 30 (c0.sub names) e=some e') (h0':aj 30 (c0.sub names) f=some f') (h1:aQ (bV m (c0.sub names)) b=some b') :
  ei g c0 call wf r names (.For (.Tuple ts kk tp) (.Call (.Name "zip" fp) [e,f] [] p1) b [] p) (.forS tg.1 tg.2 (.zip e' f') b'):=fun env A X s as fr fr' σ σ' fl Q N hA T ev hQ=>by
 refine bz (fr:=fr) (dP ev) fun u τ e1 e2=>bz (fr:=fr) e2 fun u' τ' e1' e2=>?_
 refine lF e2 (fun q=>nomatch q) fun src k hs hl ev=>?_
 refine wpAny_For (yp (es':=[e',f']) (us:=[u,u']) (σ':=τ') IH hg rfl G.zp ⟨_,.inr rfl⟩ (by rw [gX,h0,gX,h0']; rfl) N hA T (by rw [b6]; dsimp only; rw [e1,RE.binds_ok,b6]; dsimp only; rw [e1']; simp [b6,RE.binds_ok,REs.binds_ok]) fun ys as1 k1 tk1 st1 R1 F1 r1=>?_) (fun _=>rfl)
 have T1:At g env as1 fr τ' { s with heap:=k1,toks:=tk1 }:=⟨F1,R1⟩
 obtain ⟨x,y,rfl,rx,ry⟩:=ma r1
 obtain ⟨l,l',qu,qu',qs⟩:=pZ hs
 rw [qu] at rx; rw [qu'] at ry; rw [qs] at hl ev
 obtain ⟨m',hm⟩:=hl
 refine bq hm fun xs hx hm=>bT hm fun ys hy _=>?_
 refine aw (s:={ s with heap:=k1,toks:=tk1 }) R1 rx hx fun a items n' qx hd ho hr hz hsz=>?_; subst qx
 refine aw (s:={ s with heap:=k1,toks:=tk1 }) R1 ry hy fun a' items' n2 qx hd' ho' hr' hz' hsz'=>?_; subst qx
 refine call_zip_2 ho.isList ho'.isList fun h' hzp hTI hTO i1 i2 _ kk'=>wpAny_pyIter_zip hzp ?_
 have sx:=wE T1 (M:=[k1.objs.size + 4,k1.objs.size,k1.objs.size + 1,k1.objs.size + 2]) (zD (Nat.le_add_right _ _) (Nat.le_refl _) (Nat.le_add_right _ _) (Nat.le_add_right _ _))
 have s3:=(wE T1 (M:=[k1.objs.size + 3]) fun b q=>List.mem_singleton.mp q ▸ Nat.le_add_right _ _).1.In _ (.head _)
 have x0:aC [] as1 k1 (as1 ++ [k1.objs.size + 3]) h':=gN kk' s3
 exact gS (s:={ s with heap:=k1,toks:=tk1 }) (tk:=tk1) IL (ZI.li (l:=l) sx.1 (G.hd hh)) N hA ht h1 ev
  ⟨⟨x0.grow (fun _ q=>nomatch q),R1.push kk' s3 ⟨_,_,hTO⟩,T1.frame x0,fun b q z=>(List.mem_append.mp z).elim (sx.2 b q) fun z=>zD (Ψ:=(k1.objs.size + 3 ≠ ·)) (jn (by decide)) (jn (d:=0) (by decide)) (jn (by decide)) (jn (by decide)) b q (List.mem_singleton.mp z).symm⟩,a,a',x0.get hd,x0.get hd',by rw [← R1.len]; exact List.getElem?_concat_length ..,hzp,hTI,i1,i2⟩ (dH hQ (up st1))
set_option tactic.hygienic true in
theorem Ah {t e:Expr}{p:Pos}{st':S} (G:bC g K c0 fa) (J:bu g) (C:ci g K c0 fa call r) (h:yP (c0.sub names) t e=some st'):ei g c0 call wf r names (.Assign [t] e p) st':=by
 have IH:=(ck G J C 30).1
 unfold yP at h
 cases q:vw t <;> rw [q] at h <;> first | exact nn h | skip
 ·refine bX h fun i a h1 h2 qx4=>?_; subst qx4
  obtain ⟨xp,rfl⟩:=bE q
  exact A0 (n:=29) IH (ck G J C 29).1 (ck G J C 29).2 h1 (eX h2).1
 ·obtain ⟨h0,h⟩:=au h
  refine bX h fun is a h1 h2 qx4=>?_; subst qx4
  obtain ⟨k,xp,rfl⟩:=bE q
  exact zg IH h1 (pJ (aP h0)) h2
 ·rename_i u
  refine d5 h fun o k a h1 h2 h3 qx6=>?_; subst qx6
  have hv:t=_:=bE q
  subst hv
  exact xN G J IH h1 h2 h3
 ·rename_i u
  refine d5 h fun o k a h1 h2 h3 qx6=>?_; subst qx6
  obtain ⟨xp,rfl⟩:=bE q
  exact zq IH h1 h2 h3
theorem cJ {α:Type}{l:List α}:l.isEmpty=true→l=[]:=List.casesOn l (fun _=>rfl) fun _ _=>ft
theorem qF {m:Nat} (G:bC g K c0 fa) (J:bu g) (C:ci g K c0 fa call r) (IL:j5 g c0 call wf r m) (st:Stmt) (st':S) (h:bV (m + 1) (c0.sub names) st=some st'):ei g c0 call wf r names st st':=by
 have IH:=(ck G J C 30).1
 have IT:=(ck G J C 30).2
 cases st with
 | Expr e p=>obtain ⟨h0,h⟩:=au h; refine bT h fun a h1 qx2=>?_; subst qx2; exact zw IH (mK (aP h0)) (eX h1).1
 | Return v p=>refine bq h fun e qx1 h=>?_; subst qx1; refine bT h fun a h1 qx2=>?_; subst qx2; exact AY IH (eX h1).1
 | Assign ts e p =>
  rcases ts with _ | ⟨t,_ | ⟨t2,ts⟩⟩
  ·exact nn h
  ·exact Ah G J C h
  ·exact nn h
 | If t b o p=>refine d5 h fun x y z h1 h2 h3 qx6=>?_; subst qx6; exact BW IT IL h1 h2 h3
 | While t b o p=>obtain ⟨h0,h⟩:=au h; refine bX h fun x y h1 h2 qx4=>?_; subst qx4; cases cJ h0; exact vO IT IL h1 h2
 | For t it b o p => 
  obtain ⟨h0,h⟩:=au h; refine d5 h fun x y z h1 h2 h3 qx6=>?_; subst qx6; cases cJ h0
  exact qf (fun t it y=>tgt (c0.sub names) t=some x→ei g c0 call wf r names (.For t it b [] p) (.forS x.1 x.2 y z)) h2 (fun t it a h2 h1=>Ac IH IL h1 h2 h3)
   (fun ts k tp fp p1 e a hg hh h2 h1=>xB G IH IL hg hh h1 h2 h3)
   (fun ts k tp fp p1 e f a b hg hh h2 h4 h1=>zi G IH IL hg hh h1 h2 h4 h3)
   h1
 | Raise v cz p =>
  cases v with
  | none=>cases cz <;> exact nn h
  | some v=>cases cz with
   | some=>exact nn h
   | none =>
    refine bq h fun x h0 h=>?_
    obtain ⟨h1,h⟩:=au h
    refine bT h fun a h2 qx2=>?_; subst qx2
    intro env A X s as fr fr' σ σ' fl Q N hA T ev hQ
    cases (show RS.ex a fr σ=RS.ok fl fr' σ' from ev)
 | Pass p=>exact si h yn
 | _=>exact nn h
theorem dh (G:bC g K c0 fa) (J:bu g) (C:ci g K c0 fa call r):∀ n,xm g c0 call wf r n
 | 0=>fun names st st' h=>nn h
 | n + 1=>fun names st st' h=>qF G J C (eT (dh G J C n)) st st' h
end
end Mine
namespace Mine
open PySem PyProof.Rows PySem.W
noncomputable def vr (K:Frag) (c:CE) (fd:FuncData):Bool :=
 fd.globals == mainGlobals && fd.builtins == builtinsNs && fd.closure.isEmpty && codeIn K fd.code fd.qualname && !fd.scope.isCoroutine && !fd.scope.isGenerator && oU fd.scope && fd.scope.names.all (fun p=>!(p.2 == .free)) &&
 fd.params.posonlyargs.isEmpty && fd.params.vararg.isNone && fd.params.kwonlyargs.isEmpty && fd.params.kw_defaults.isEmpty && fd.params.kwarg.isNone && decide ((fd.params.args.map (·.arg)).Nodup) && fd.defaults == .none &&
 (match c.lam with | some a=>fd.code == .ref a | none=>true)
noncomputable def xt (o:Option Obj):Option FuncData:=match o with
 | some o=>(match o.data with | .func fd=>some fd | _=>none)
 | none=>none
noncomputable def pI (b:FuncBody):Option (List Stmt):=match b with | .stmts b=>some b | _=>none
noncomputable def pA (cs:CE→Stmt→Option S) (K:Frag) (c:CE) (a:Addr):Option Fn:=(xt (K.lookup a)).bind fun fd=>gd (vr K c fd) ((pI fd.body).bind fun body =>
 fT (fun ps b=>⟨ps,fd.scope.names.length,b⟩) (aQ (fun x=>(c.sub fd.scope.names).locW? x) (fd.params.args.map (·.arg))) (aQ (cs (c.sub fd.scope.names)) body))
theorem qj {o:Option Obj}{fd:FuncData} (h:xt o=some fd):∃ oc od osl,o=some ⟨oc,od,.func fd,osl⟩:=by
 cases o with
 | none=>exact nn h
 | some o =>
  obtain ⟨a,b,c,d⟩:=o
  cases c <;> first | exact nn h | exact ⟨a,b,d,by rw [← Option.some.inj h]⟩
theorem mr {b:FuncBody}{l:List Stmt} (h:pI b=some l):b=.stmts l:=by
 cases b <;> first | exact nn h | exact congrArg _ (Option.some.inj h)
noncomputable def aH (K:Frag) (c:CE) (a:Addr):Option Fn:=pA (bV 20) K c a
theorem ky:∀ (ps:List Nat) (vs:List V) (fr:Fra),(n0 ps vs fr).length=fr.length
 | [],_,_=>rfl
 | _ :: _,[],_=>rfl
 | p :: ps,v :: vs,fr=>by rw [qv,ky]; simp
theorem kY:∀ (ps:List Nat) (vs:List V) (fr:Fra) (i:Nat) (v:V),(n0 ps vs fr)[i]?=some (some v)→fr[i]?=some (some v) ∨ ∃ j:Nat,ps[j]?=some i ∧ vs[j]?=some v
 | [],_,_,_,_,h=>.inl h
 | _ :: _,[],_,_,_,h=>.inl h
 | p :: ps,v :: vs,fr,i,w,h=>by
  rw [qv] at h
  rcases kY ps vs _ i w h with h | ⟨j,h1,h2⟩
  ·by_cases hp:p=i
   ·subst hp
    by_cases hl:p < fr.length
    ·rw [List.getElem?_set_self hl] at h
     simp only [Option.some.injEq] at h; subst h
     exact .inr ⟨0,rfl,rfl⟩
    ·rw [List.getElem?_eq_none (by simp; lia)] at h; cases h
   ·rw [List.getElem?_set_ne hp] at h; exact .inl h
  ·exact .inr ⟨j + 1,by simpa using h1,by simpa using h2⟩
theorem k6 {kindOf:Str→Option NameKind}{x:Str}{v:Value} (hk:kindOf x=some .local):∀ (binds:List (Str × Value)) (m:Str→Option Value),(binds.map (·.1)).Nodup→((x,v) ∈ binds ∨ (m x=some v ∧ x ∉ binds.map (·.1)))→bindL kindOf binds m x=some v
 | [],m,_,h=>h.elim (fun q=>by cases q) fun q=>q.1
 | (n,w) :: r,m,nd,h=>by
  rw [bindL]
  rw [List.map_cons,List.nodup_cons] at nd
  refine k6 hk r _ nd.2 ?_
  rcases h with h | ⟨h1,h2⟩
  ·rcases List.mem_cons.mp h with q | q
   ·cases q
    refine .inr ⟨?_,nd.1⟩
    rw [if_pos hk]; simp
   ·exact .inl q
  ·rw [List.map_cons,List.mem_cons,not_or] at h2
   refine .inr ⟨?_,h2.2⟩
   split
   ·simp [h2.1,h1]
   ·exact h1
theorem km {kindOf:Str→Option NameKind}{x:Str}{v:Value} (hk:kindOf x ≠ some .local):∀ (binds:List (Str × Value)) (m:Str→Option Value),(binds.map (·.1)).Nodup→((x,v) ∈ binds ∨ (m x=some v ∧ x ∉ binds.map (·.1)))→bindC kindOf binds m x=some v
 | [],m,_,h=>h.elim (fun q=>by cases q) fun q=>q.1
 | (n,w) :: r,m,nd,h=>by
  rw [bindC]
  rw [List.map_cons,List.nodup_cons] at nd
  refine km hk r _ nd.2 ?_
  rcases h with h | ⟨h1,h2⟩
  ·rcases List.mem_cons.mp h with q | q
   ·cases q
    refine .inr ⟨?_,nd.1⟩
    rw [if_neg hk]; simp
   ·exact .inl q
  ·rw [List.map_cons,List.mem_cons,not_or] at h2
   refine .inr ⟨?_,h2.2⟩
   split
   ·exact h1
   ·simp [h2.1,h1]
structure qo (g:Cfg) (cs:CE→Stmt→Option S) (c:CE) (fn:Fn) (A:Around) (as:List Addr) (σ:Sto) (s:Shared) (vs:List V) (n:Nat) (env:Env) (body:List Stmt) (h:Heap):Prop where
 comp:aQ (cs (c.sub env.scope.names)) body=some fn.body
 N:aq (c.sub env.scope.names) env (A.deeper env)
 F:ay g env as (aS fn vs) h
 R:Rel g as σ h
 ext:∀ (b:Addr) (o:Obj),s.heap.get? b=some o→h.get? b=some o
 new:∀ b ∈ ownOf env,s.heap.get? b=none
 fr:env.frame=some env.locals
 room:cb g (A.deeper env) (2 * n + 1)
section
variable {g:Cfg}{K:Frag}{fa:Nat→Option Addr}{P:Nat→Option Fn}{wf:Nat}
theorem je {cs:CE→Stmt→Option S}{c:CE}{a:Addr}{fn:Fn}{vs:List V} {σ:Sto}{n:Nat}{A:Around}{s:Shared}{as:List Addr}{xs:List Value}{R:Result→Shared→Prop} (kin:K.In g.b) (hlim:g.b.NoLimit) (hT:c.top=none ∨ A.frames=some []) (hPk:pA cs K c a=some fn) (hlen:vs.length=fn.ps.length)
  (hA:cb g A (2 * (n + 1))) (R0:Rel g as σ s.heap) (hsz:g.b.objs.size ≤ s.heap.objs.size) (r0:ah as s.heap vs xs)
  (k:∀ (env:Env) (body:List Stmt) (h:Heap) (tk:Nat),qo g cs c fn A as σ s vs n env body h→wpAny (model g.prog g.w) (A.deeper env) (execs body env) (fun f s'=>R (.ok (.ret (match f with | .ret v=>v | _=>.none))) s')
    (fun e s'=>wpAny (model g.prog g.w) (A.deeper env) (leaving env e) (fun _ s''=>R (.error e) s'') (fun e' s''=>R (.error e') s'') s') { s with heap:=h,toks:=tk }) :
  codeAny (model g.prog g.w) A (.call (.ref a) ⟨xs,[]⟩) R s:=by
 refine bq hPk fun fd hK hPk=>?_
 obtain ⟨oc,od,osl,hK⟩:=qj hK
 obtain ⟨hfit,hPk⟩:=au hPk
 refine bq hPk fun body hbody hPk=>?_
 have hbody:=mr hbody
 refine bX hPk fun ps b' hps hb' qx4=>?_; subst qx4
 simp only [vr,Bool.and_eq_true,beq_iff_eq,List.isEmpty_iff,Bool.not_eq_true',List.all_eq_true,decide_eq_true_eq,Option.isNone_iff_eq_none] at hfit
 obtain ⟨⟨⟨⟨⟨⟨⟨⟨⟨⟨⟨⟨⟨⟨⟨f1,f2⟩,f3⟩,f4⟩,f5⟩,f6⟩,f7⟩,f8⟩,f9⟩,f10⟩,f11⟩,f12⟩,f13⟩,f14⟩,f15⟩,f16⟩:=hfit
 obtain ⟨hkind,hnd⟩:=gy f7
 have hpar:fd.params=⟨[],fd.params.args,none,[],[],none,fd.params.defaults⟩:=by
  rcases hq:fd.params with ⟨p1,p2,p3,p4,p5,p6,p7⟩
  rw [hq] at f9 f10 f11 f12 f13
  simp only at f9 f10 f11 f12 f13
  rw [f9,f10,f11,f12,f13]
 have hps':=cw hps
 have hpl:fd.params.args.length=xs.length:=by
  have h1:=(ah.f2.mp r0).length
  have h2:=hps'.1
  rw [List.length_map] at h2
  have h3:vs.length=ps.length:=hlen
  lia
 have hbind:=i6 hpar f15 f14 hpl
 have keep0:=R0.base
 have ho:s.heap.get? a=some ⟨oc,od,.func fd,osl⟩:=R0.base _ _ (kin _ _ hK)
 have hnb:((fd.params.args.map (·.arg)).zip xs).map (·.1)=fd.params.args.map (·.arg):=by
  rw [List.map_fst_zip]; rw [List.length_map]; lia
 have hpk:∀ x ∈ fd.params.args.map (·.arg),fd.scope.names.lookup x=some .local ∨ fd.scope.names.lookup x=some .cell:=fun x hx=>by
  obtain ⟨i,hi,rfl⟩:=List.getElem_of_mem hx
  obtain ⟨j,h1,h2⟩:=hps'.2 i _ (List.getElem?_eq_getElem hi)
  obtain ⟨kk,h3,h4⟩:=gu h2
  have h5:fd.scope.names.lookup ((fd.params.args.map (·.arg))[i])=some kk:=be hnd h3
  rcases h4 with rfl | rfl
  ·exact .inl h5
  ·exact .inr h5
 have hcellsome:∀ x,fd.scope.names.lookup x=some .cell→∃ cc,(cellsFrom (s.heap.objs.size + 1) fd.scope.names []).lookup x=some cc:=fun x hx=>Option.isSome_iff_exists.mp (cellsFrom_some _ _ _ (.inl hx))
 have hdepth:A.depth < recursionLimit:=by have:=hA.depth; show _ < 1000; lia
 refine codeAny_call_cells hdepth ho rfl (hlim.keeps keep0) (codeRec_of (kin.keeps keep0) f4) hbody hbind f3 (fun x hx=>?_) (fun s₁ U=>?_) f5 f6 hkind
 ·have hx':x.1 ∈ fd.params.args.map (·.arg):=(List.of_mem_zip hx).1
  rcases hpk _ hx' with q | q
  ·exact .inl q
  ·exact .inr ⟨q,cellsFrom_some _ _ _ (.inl q)⟩
 obtain ⟨⟨⟨h₁,tk₁,rfl⟩,uns,ukeep,ufresh⟩,ucell,uapart,uabove⟩:=U
 have hE:∀ x,(callEnvC fd s.heap.objs.size a).kindOf x=fd.scope.names.lookup x:=fun x=>rfl
 have K1:bR as s.heap as h₁:=.same fun b o e _ _=>ukeep b o e
 have R1:Rel g as σ h₁:=R0.ext ukeep
 have lkm:∀ x cc,(callEnvC fd s.heap.objs.size a).cells.lookup x=some cc→s.heap.objs.size < cc:=fun x cc e=>uabove x cc (av e)
 have fresh:∀ b:Addr,s.heap.objs.size ≤ b→s.heap.get? b=none:=fun b hb=>by
  cases e:s.heap.get? b with
  | none=>rfl
  | some o=>exact absurd (Heap.lt_size e) (Nat.not_lt.mpr hb)
 have notas:∀ b:Addr,s.heap.objs.size ≤ b→b ∉ as:=fun b hb q=>by
  obtain ⟨o,e,_⟩:=R0.there q; rw [fresh b hb] at e; cases e
 have notb:∀ b:Addr,s.heap.objs.size ≤ b→g.b.get? b=none:=fun b hb=>by
  cases e:g.b.get? b with
  | none=>rfl
  | some o=>have:=R0.base _ _ e; rw [fresh b hb] at this; cases this
 have rvs:=ah.f2.mp (ah.keep K1 _ _ r0)
 have hval:∀ (i:Nat) (x:Str) (kk:NameKind) (w:V),fd.scope.names[i]?=some (x,kk)→(aS ⟨ps,fd.scope.names.length,b'⟩ vs)[i]?=some (some w)→∃ val,(x,val) ∈ (fd.params.args.map (·.arg)).zip xs ∧ RepV as h₁ w val:=fun i x kk w e1 e2=>by
  unfold aS at e2
  rcases kY _ _ _ _ _ e2 with h | ⟨j,h1,h2⟩
  ·exfalso
   rw [List.getElem?_replicate] at h
   split at h <;> simp at h
  ·obtain ⟨val,h3,h4⟩:=rvs.get h2
   have hj:j < (fd.params.args.map (·.arg)).length:=by
    have h1':ps[j]?=some i:=h1
    have h9:=(List.getElem?_eq_some_iff.mp h1').1
    have h8:=hps'.1
    lia
   obtain ⟨i',h5,h6⟩:=hps'.2 j _ (List.getElem?_eq_getElem hj)
   have h1':ps[j]?=some i:=h1
   rw [h1'] at h5; cases h5
   obtain ⟨k2,h7,_⟩:=gu h6
   have h7':fd.scope.names[i]?=some ((fd.params.args.map (·.arg))[j],k2):=h7
   rw [e1] at h7'; cases h7'
   refine ⟨val,?_,h4⟩
   have:((fd.params.args.map (·.arg)).zip xs)[j]?=some ((fd.params.args.map (·.arg))[j],val):=by
    rw [List.getElem?_zip_eq_some]
    exact ⟨List.getElem?_eq_getElem hj,h3⟩
   exact List.mem_of_getElem? this
 have F1:ay g (callEnvC fd s.heap.objs.size a) as (aS ⟨ps,fd.scope.names.length,b'⟩ vs) h₁:=by
  refine ⟨hkind,hsz,f1,f2,?_,hnd,⟨_,uns,fun i x w e1 e2=>?_⟩,fun i x kk e1 e2=>?_,notas _ (Nat.le_refl _),fun x cc e=>⟨notas _ (Nat.le_of_lt (lkm x cc e)),Nat.ne_of_gt (lkm x cc e),⟨_,ucell x cc e⟩⟩,fun x y cc e1 e2=>?_,fun x cc e=>notb _ (Nat.le_of_lt (lkm x cc e))⟩
  ·show (aS _ vs).length=fd.scope.names.length
   unfold aS; rw [ky]; simp
  ·obtain ⟨val,h1,h2⟩:=hval i x _ w e1 e2
   refine ⟨val,k6 ?_ _ _ (by rw [hnb]; exact f14) (.inl h1),h2⟩
   rw [hE]; exact be hnd e1
  ·have hk2:kk=.cell:=by
    rcases e2 with e2 | e2
    ·exact e2
    ·have:=f8 _ (List.mem_of_getElem? e1)
     rw [e2] at this; cases this
   subst hk2
   have hlk:=be hnd e1
   obtain ⟨cc,hcc⟩:=hcellsome x hlk
   refine ⟨cc,_,hcc,ucell x cc hcc,fun w e=>?_⟩
   obtain ⟨val,h1,h2⟩:=hval i x _ w e1 e
   refine ⟨val,km ?_ _ _ (by rw [hnb]; exact f14) (.inl h1),h2⟩
   rw [hE,hlk]; simp
  ·exact name_of_addr uapart (av e1) (av e2)
 have N1:aq (c.sub fd.scope.names) (callEnvC fd s.heap.objs.size a) (A.deeper (callEnvC fd s.heap.objs.size a)):=by
  refine ⟨?_,fun a' ha'=>?_,fun (q:c.top=some fd.scope.names)=>⟨?_,rfl⟩⟩
  ·show F2 _ fd.scope.names fd.scope.names
   generalize fd.scope.names=l
   induction l with
   | nil=>exact .nil
   | cons p r ih=>exact .cons ⟨rfl,.inl rfl⟩ ih
  ·have ha'':c.lam=some a':=ha'
   rw [ha''] at f16
   exact eq_of_beq f16
  ·rcases hT with h | h
   ·rw [h] at q; cases q
   ·show A.frames.map _=_
    rw [h]; rfl
 have hroom:cb g (A.deeper (callEnvC fd s.heap.objs.size a)) (2 * n + 1):=by
  have h1:=hA.units; have h2:=hA.depth
  exact ⟨by rw [units_deeper]; lia,by rw [depth_deeper]; lia,hA.handled⟩
 exact k _ body h₁ tk₁ ⟨hb',N1,F1,R1,ukeep,fun b hb=>by
  rcases bQ hb with q | ⟨x,q⟩
  ·rw [q]; exact fresh _ (Nat.le_refl _)
  ·exact fresh _ (Nat.le_of_lt (lkm x b q)),rfl,hroom⟩
def rQ (fl:Fl) (v:V):Prop:=fl=.ret v ∨ (fl=.next ∧ v=.none)
theorem rz {r:RS}{v:V} {σ':Sto} (e:tt r=.ok v σ'):∃ fl fr',r=.ok fl fr' σ' ∧ rQ fl v:=by
 cases r with
 | ok f fr σ =>
  cases f with
  | next=>cases e; exact ⟨_,_,rfl,.inr ⟨rfl,rfl⟩⟩
  | ret w=>cases e; exact ⟨_,_,rfl,.inl rfl⟩
  | _=>cases e
 | _=>cases e
theorem sF {n k:Nat}{vs:List V} {σ σ':Sto}{v:V} (ev:evFn P wf (n + 1) k vs σ=.ok v σ'):∃ fn fl fr',P k=some fn ∧ vs.length=fn.ps.length ∧ evSs (evFn P wf n) wf fn.body (aS fn vs) σ=.ok fl fr' σ' ∧ rQ fl v :=
 let ⟨fn,h1,h2,h3⟩:=p9 ev fun q=>nomatch q
 let ⟨fl,fr',h4,h5⟩:=rz h3
 ⟨fn,fl,fr',h1,h2,h4,h5⟩
noncomputable def zN:Flow→Value | .ret v=>v | _=>.none
theorem vd {as:List Addr}{h:Heap}{fl:Fl}{v:V}{f:Flow} (hf:gc as h fl f) (hr:rQ fl v):RepV as h v (zN f):=by
 rcases hr with rfl | ⟨rfl,rfl⟩
 ·obtain ⟨val,hv,rv⟩:=hf; subst hv; exact rv
 ·have:f=.next:=hf
  subst this; rw [RepV]; rfl
theorem dg {c:CE}{call:Nat→List V→Sto→RE}{n:Nat} (h:c.top=none ∧ c.tfns=[]):gP g K c call n:=fun f k e=>by rw [h.2] at e; cases e
theorem nF {c:CE}{a:Addr}{fn:Fn}{vs:List V} {σ σ':Sto}{v:V}{fl:Fl}{fr':Fra}{call:Nat→List V→Sto→RE}{n:Nat}{A:Around}{s:Shared}{as:List Addr}{xs:List Value}{R:Result→Shared→Prop} (G:bC g K c fa) (J:bu g) (hlim:g.b.NoLimit) (C:ci g K c fa call (2 * n)) (hPk:aH K c a=some fn) (hlen:vs.length=fn.ps.length)
  (he:evSs call wf fn.body (aS fn vs) σ=.ok fl fr' σ') (hr:rQ fl v) (hT:c.top=none ∨ A.frames=some []) (hA:cb g A (2 * (n + 1))) (R0:Rel g as σ s.heap) (hsz:g.b.objs.size ≤ s.heap.objs.size) (r0:ah as s.heap vs xs)
  (hR:∀ (val:Value) (as':List Addr) (h':Heap) (tk:Nat),aC [] as s.heap as' h'→Rel g as' σ' h'→RepV as' h' v val→R (.ok (.ret val)) { s with heap:=h',toks:=tk }):codeAny (model g.prog g.w) A (.call (.ref a) ⟨xs,[]⟩) R s:=by
 refine je G.kin hlim hT hPk hlen hA R0 hsz r0 fun env body h tk E=>?_
 refine eT (dh G J C 20) _ body fn.body E.comp _ _ _ { s with heap:=h,toks:=tk } as _ fr' σ σ' fl _ E.N E.room ⟨E.F,E.R⟩ he fun f as2 h2 tk2 hf st2 R2 F2=>?_
 have a1:aC (ownOf env) as s.heap as h:=aC.of_ext E.ext
 exact hR (zN f) as2 h2 tk2 ((a1.trans st2 R2.nd F2.offs).shrink fun b hb=>.inr (E.new b hb)) R2 (vd hf hr)
theorem qd (c:Nat→CE) (hT:∀ k a,fa k=some a→(c k).top=none ∧ (c k).tfns=[]) (G:∀ k a,fa k=some a→bC g K (c k) fa) (J:bu g) (hlim:g.b.NoLimit) (hP:∀ k a,fa k=some a→P k=aH K (c k) a) {n:Nat} (C:dX g fa (evFn P wf n) (2 * n)):dX g fa (evFn P wf (n + 1)) (2 * (n + 1)):=by
 intro k a vs σ σ' v hfa ev A s as xs R hA R0 hsz r0 hR
 obtain ⟨fn,fl,fr',hfn,hlen,he,hr⟩:=sF ev
 exact nF (G k a hfa) J hlim ⟨C,dg (hT k a hfa)⟩ ((hP k a hfa).symm.trans hfn) hlen he hr (.inl (hT k a hfa).1) hA R0 hsz r0 hR
theorem gz (c:Nat→CE) (hT:∀ k a,fa k=some a→(c k).top=none ∧ (c k).tfns=[]) (G:∀ k a,fa k=some a→bC g K (c k) fa) (J:bu g) (hlim:g.b.NoLimit) (hP:∀ k a,fa k=some a→P k=aH K (c k) a):∀ n,dX g fa (evFn P wf n) (2 * n)
 | 0=>fun k a vs σ σ' v hfa ev=>nomatch ev
 | n + 1=>qd c hT G J hlim hP (gz c hT G J hlim hP n)
end
end Mine
namespace Mine
open PySem PyProof.Rows PySem.W
section
variable {g:Cfg}{K:Frag}{fa:Nat→Option Addr}{env:Env}{A:Around}{X:Value→Shared→Prop}{s:Shared}{as:List Addr}{fr:Fra} {σ:Sto}{c0:CE}{names:List (Str × NameKind)}
theorem wQ {x:Str}{C:Addr}{np cpos pos p:Pos}{text:Str}{u:Nat}{Q:Flow→Shared→Prop} (G:bC g K c0 fa) (hx:c0.excs.lookup x=some C) (T:At g env as fr σ s) (N:aq (c0.sub names) env A) (hA:A.handled=none) (hg:(c0.sub names).glob x=true) (hd:(x == ("__debug__":Str))=false)
  (hE:∀ h' e t tk,Heap.MadeExcOf s.heap h' e (.ref C) [.str text t]→X (.ref e) { s with heap:=h',toks:=tk }) :
  wpAny (model g.prog g.w) A (exec (.Raise (some (.Call (.Name x np) [.Constant (.str text) u p] [] cpos)) none pos) env) Q X s:=by
 obtain ⟨mg,O⟩:=G.exc.r x C hx
 obtain ⟨bm,Na,nm,q,bs,hdct,sn,sub,ab,col,dd,k0,k1,k2,k3,k5,mN,hC,hn,hni,OT⟩:=O.obj
 refine wpAny_Raise_call_subT (C:=C) (nm:=nm) (q:=q) (N:=Na) (bs:=bs) (hdct:=hdct) (sn:=sn) (sub:=sub) (ab:=ab) (col:=col) (dd:=dd) (k0:=k0) (k1:=k1) (k2:=k2) (k3:=k3) (k5:=k5) F.excBase_ValueError (OT.hasType F.excBase_ValueError.hasBase) hA rfl hni (cy T N hg hd (G.exc.i x C hx) ⟨rfl,?_⟩)
 refine PySem.Calls.evalArgs_plain (PySem.Calls.spliced_cons (wpAny_Constant_str (k:=u) (pos:=p) ?_))
 exact PySem.Calls.spliced_nil ⟨rfl,(by decide:1 ≤ sizeLine),T.R.base _ _ hC,hn.keeps T.R.base,OT.keeps T.R.base,fun h' e hm=>hE h' e _ _ hm⟩
end
end Mine
namespace Mine
open PySem PyProof.Rows PySem.W
inductive w8 (base:Heap) (e:Addr) (h:Heap) (vs:Array Value):Option Value→Prop
 | made (h1:vs[1]?=some .none):w8 base e h vs none
 | tb {f:Value}{T:Addr}{oT:Obj}{ts:Array Value} (h1:vs[1]?=some (.ref T)) (hn:base.get? T=none) (hne:T ≠ e) (hT:h.get? T=some oT) (hd:oT.data=.fields ts) (h3:ts[3]?=some f):w8 base e h vs (some f)
structure Fly (base:Heap) (l:List Env) (e:Addr) (cls:Value) (fl:Option Value) (h:Heap):Prop where
 stays:base.StaysIn h
 new:base.get? e=none
 frames:h.FunFrames base l
 st:∃ oe vs,h.get? e=some oe ∧ oe.dict=none ∧ oe.cls=cls ∧ oe.data=.fields vs ∧ vs[2]?=some .none ∧ w8 base e h vs fl
section
variable {M:Model}{A:Around}{E:Value→Shared→Prop}{s:Shared}{base:Heap}{env:Env}{outer l:List Env}{L e:Addr}{cls:Value}
theorem tD (o:Obj) (f:Array Value→Array Value):(Obj.mapFields f o).dict=o.dict:=by
 obtain ⟨c,d,dt,sl⟩:=o; cases dt <;> rfl
theorem nA {oe:Obj}{vs:Array Value}{head:Value}{hadNext:Bool}{Q:Unit→Shared→Prop} (hfr:A.frames=some (env :: outer)) (hl:s.heap.FunFrames base (env :: outer)) (hf:env.frame=some L)
  (he:s.heap.get? e=some oe) (hkb:base.StaysIn s.heap) (hen:base.get? e=none) (hn0:oe.dict=none) (hd:oe.data=.fields vs) (hsz:1 < vs.size) (h2:vs[2]?=some .none)
  (h:∀ h',Fly base (env :: outer) e oe.cls (some (rawInt L)) h'→s.heap.UpToSlots h'→Q () { s with heap:=h' }) :
  wpAny M A (do let a ← frameOf env; let pl ← entryPlaceOf L hadNext; let b ← EntryCells.newEntry head a .none (rawInt L) .none pl; setField (.ref e) 1 b) Q E s:=by
 have hene:e ∉ (env :: outer).filterMap (·.frame):=fun hm=>by
  obtain ⟨_,o,ho,hnf⟩:=hl.mem hm
  rw [he] at ho; cases ho; exact hnf vs hd
 refine wpAny_bind (wpAny_frameOf_fun hfr hl hf fun h₁ hs₁=>?_)
 refine wpAny_bind (wpAny_entryPlaceOf fun pl hpl=>?_)
 unfold EntryCells.newEntry newFields
 refine wpAny_bind (wpAny_newObj_type ?_ (hpl.sizeOk5 _ _ _ _ _))
 have he₁:h₁.get? e=some oe:=(hs₁.2.1 e hene).trans he
 have kb₁:base.StaysIn h₁:=fun b o hbo=>(hs₁.2.1 b fun hm=>by rw [(hl.mem hm).1] at hbo; cases hbo).trans (hkb b o hbo)
 have he₂:=Heap.get?_push_of_some (h:=h₁) { cls:=.type "traceback",dict:=none,data:=.fields ([head,.ref L,.none,rawInt L,.none] ++ (if pl.isEmpty then List.replicate 6 Value.none else pl)).toArray } he₁
 have hTe:h₁.objs.size ≠ e:=Nat.ne_of_gt (Heap.lt_size he₁)
 have hd₃:=Obj.data_mapFields hd (·.setIfInBounds 1 (Value.ref h₁.objs.size))
 have he₃:=Heap.get?_update_self (Obj.mapFields (·.setIfInBounds 1 (Value.ref h₁.objs.size))) he₂ (Obj.isFreed_of_fields hd₃)
 have noRecord:∀ b o,s.heap.get? b=some o→(∀ vs,o.data ≠ .fields vs)→b ≠ e:=fun b o hb hnf q=>by
  rw [q,he] at hb; cases hb; exact hnf vs hd
 have hT₃:=(Heap.get?_update_other _ (Obj.mapFields (·.setIfInBounds 1 (Value.ref h₁.objs.size))) (Ne.symm hTe)).trans (Heap.get?_push_size h₁ (o:={ cls:=.type "traceback",dict:=none,data:=.fields ([head,.ref L,.none,rawInt L,.none] ++ (if pl.isEmpty then List.replicate 6 Value.none else pl)).toArray }) rfl)
 have keep:∀ b o,b ≠ e→h₁.get? b=some o→((h₁.push { cls:=.type "traceback",dict:=none,data:=.fields ([head,.ref L,.none,rawInt L,.none] ++ (if pl.isEmpty then List.replicate 6 Value.none else pl)).toArray }).update e (Obj.mapFields (·.setIfInBounds 1 (Value.ref h₁.objs.size)))).get? b=some o:=fun b o hbe hb=>by
  rw [Heap.get?_update_other _ _ (Ne.symm hbe)]; exact Heap.get?_push_of_some _ hb
 refine wpAny_setField he₂ hd hsz (h _ ⟨fun b o hbo=>keep b o (fun q=>by rw [q,hen] at hbo; cases hbo) (kb₁ b o hbo),hen,hl.of_keeps fun b o hb hnf=>?_,_,_,he₃,(tD _ _).trans hn0,Obj.cls_mapFields _ _,hd₃,?_,.tb (T:=h₁.objs.size) (by simp [hsz]) kb₁.fresh hTe hT₃ rfl ?_⟩ fun b o hb hnf=>?_)
 ·obtain ⟨sl,hs⟩:=hs₁.2.2 b o hb
  exact ⟨_,keep b _ (noRecord b o hb hnf) hs,rfl⟩
 ·rw [Array.getElem?_setIfInBounds_ne (by decide)]; exact h2
 ·first | (simp; done) | (rcases hpl with rfl | ⟨_,_,_,_,_,_,_,rfl⟩ <;> simp)
 ·obtain ⟨sl,hs⟩:=hs₁.2.2 b o hb
  exact ⟨sl,keep b _ (noRecord b o hb hnf) hs⟩
set_option tactic.hygienic true in
theorem lW {fl:Option Value}{Q:Unit→Shared→Prop} (hfr:A.frames=some (env :: outer)) (hf:env.frame=some L) (F:Fly base (env :: outer) e cls fl s.heap) (hfl:fl=none ∨ fl=some .none ∨ fl=some (rawInt L))
  (h:∀ h',Fly base (env :: outer) e cls (some (rawInt L)) h'→s.heap.UpToSlots h'→Q () { s with heap:=h' }):wpAny M A (noteFrame (.ref e) env) Q E s:=by
 obtain ⟨oe,vs,he,hn0,hc,hd,h2,fa⟩:=F.st
 subst hc
 unfold noteFrame
 simp only [hf]
 cases fa with
 | made h1 =>
  refine wpAny_bind (wpAny_field he hd h1 ?_)
  rw [if_neg (by decide)]
  exact nA hfr F.frames hf he F.stays F.new hn0 hd (Array.getElem?_eq_some_iff.mp h1).1 h2 h
 | tb h1 hn hne hT hdT h3 =>
  rename_i f T oT ts
  refine wpAny_bind (wpAny_field he hd h1 ?_)
  rw [if_pos (show (Value.ref T != Value.none)=true from by simp)]
  refine wpAny_bind (wpAny_field hT hdT h3 ?_)
  rcases hfl with q | q | q
  ·cases q
  ·cases q
   rw [if_neg (show ¬ ((Value.none == rawInt L)=true) from by simp [rawInt])]
   refine wpAny_bind (wpAny_setField hT hdT (Array.getElem?_eq_some_iff.mp h3).1 ?_)
   have other:∀ b,b ≠ T→(s.heap.update T (Obj.mapFields (·.setIfInBounds 3 Value.none))).get? b=s.heap.get? b:=fun b hb=>Heap.get?_update_other _ _ (Ne.symm hb)
   have noRecord:∀ b o,s.heap.get? b=some o→(∀ vs,o.data ≠ .fields vs)→b ≠ T:=fun b o hb hnf q=>by
    rw [q,hT] at hb; cases hb; exact hnf ts hdT
   exact nA (s:={ s with heap:=s.heap.update T (Obj.mapFields (·.setIfInBounds 3 Value.none)) }) hfr (F.frames.of_keeps fun b o hb hnf=>⟨o,(other b (noRecord b o hb hnf)).trans hb,rfl⟩) hf ((other e (Ne.symm hne)).trans he)
    (fun b o hbo=>(other b fun q=>by rw [q,hn] at hbo; cases hbo).trans (F.stays b o hbo)) F.new hn0 hd (Array.getElem?_eq_some_iff.mp h1).1 h2
    fun h' x1 x2=>h h' x1 fun b o hb hnf=>x2 b o ((other b (noRecord b o hb hnf)).trans hb) hnf
  ·cases q
   rw [if_pos (show (rawInt L == rawInt L)=true from by simp)]
   exact wpAny_pure (h _ F (Heap.UpToSlots.refl _))
set_option tactic.hygienic true in
theorem fb {f:Value}{o:Option Addr}{Q:Unit→Shared→Prop} (F:Fly base l e cls (some f) s.heap)
  (h:∀ h',Fly base l e cls (some (o.elim .none fun a=>rawInt a)) h'→s.heap.UpToSlots h'→Q () { s with heap:=h' }):wpAny M A (setFlight (.ref e) o) Q E s:=by
 obtain ⟨oe,vs,he,hn0,hc,hd,h2,fa⟩:=F.st
 cases fa with
 | tb h1 hn hne hT hdT h3 =>
  rename_i T oT ts
  have hsz3:3 < ts.size:=(Array.getElem?_eq_some_iff.mp h3).1
  have other:∀ b,b ≠ T→(s.heap.update T (Obj.mapFields (·.setIfInBounds 3 (o.elim Value.none fun f=>rawInt f)))).get? b=s.heap.get? b:=fun b hb=>Heap.get?_update_other _ _ (Ne.symm hb)
  have noRecord:∀ b o,s.heap.get? b=some o→(∀ vs,o.data ≠ .fields vs)→b ≠ T:=fun b o hb hnf q=>by
   rw [q,hT] at hb; cases hb; exact hnf ts hdT
  unfold setFlight
  refine wpAny_bind (wpAny_field he hd h1 ?_)
  rw [if_pos (show (Value.ref T != Value.none)=true from by simp)]
  refine wpAny_setField hT hdT hsz3 (h _ ⟨fun b o hbo=>(other b fun q=>by rw [q,hn] at hbo; cases hbo).trans (F.stays b o hbo),F.new,F.frames.of_keeps fun b o hb hnf=>⟨o,(other b (noRecord b o hb hnf)).trans hb,rfl⟩,oe,vs,(other e (Ne.symm hne)).trans he,hn0,hc,hd,h2,.tb h1 hn hne (Heap.get?_update_self _ hT (Obj.isFreed_of_fields (Obj.data_mapFields hdT _))) (Obj.data_mapFields hdT _) (by simp [hsz3])⟩ fun b o hb hnf=>⟨o.slots,(other b (noRecord b o hb hnf)).trans hb⟩)
theorem ut {fl:Option Value}{Q:Unit→Shared→Prop} (hfr:A.frames=some (env :: outer)) (hf:env.frame=some L) (F:Fly base (env :: outer) e cls fl s.heap) (hfl:fl=none ∨ fl=some .none ∨ fl=some (rawInt L))
  (h:∀ h',Fly base outer e cls (some .none) h'→s.heap.UpToSlots h'→Q () { s with heap:=h' }):wpAny M A (leaving env (.ref e)) Q E s:=by
 unfold leaving
 refine wpAny_bind (lW hfr hf F hfl fun h₁ F₁ u₁=>?_)
 exact fb (s:={ s with heap:=h₁ }) (o:=none) F₁ fun h₂ F₂ u₂=>h h₂ ⟨F₂.stays,F₂.new,F₂.frames.2.2,F₂.st⟩ (u₁.trans u₂)
set_option tactic.hygienic true in
theorem wv {fl:Option Value} (hf:env.frame=some L) {f:Value} (F:Fly base (env :: outer) e cls (some f) s.heap)
  (h:∀ h',Fly base (env :: outer) e cls (some (rawInt L)) h'→s.heap.UpToSlots h'→E (.ref e) { s with heap:=h' }):cameBackBy M A env E (.ref e) s:=by
 have F0:=F
 obtain ⟨oe,vs,he,hn0,hc,hd,h2,fa⟩:=F.st
 cases fa with
 | tb h1 hn hne hT hdT h3 =>
  rename_i T oT ts
  unfold cameBackBy
  refine wpAny_bind (wpAny_field he hd h1 ?_)
  rw [if_neg (show ¬ ((Value.ref T == Value.none)=true) from by simp)]
  rw [hf]
  exact fb (o:=some L) F0 h
end
end Mine
namespace Mine
open PySem PyProof.Rows PySem.W
noncomputable def Frs (l:List Env):List Addr:=l.filterMap (·.frame)
structure Stk (g:Cfg) (as:List Addr) (l:List Env) (h:Heap):Prop where
 fr:h.FunFrames g.b l
 off:∀ a ∈ Frs l,a ∉ as
 dict:∀ a ∈ Frs l,∀ o,h.get? a=some o→¬ Imm o
structure FrX (g:Cfg) (env:Env) (as:List Addr) (fr:Fra) (B h:Heap):Prop where
 kind:env.scope.kind=.function
 above:g.b.objs.size ≤ env.locals
 glob:env.globals=mainGlobals
 blt:env.builtins=builtinsNs
 len:fr.length=env.scope.names.length
 nd:(env.scope.names.map (·.1)).Nodup
 ns:∃ m,h.Ns env.locals m ∧ ∀ (i:Nat) (x:Str) (v:V),env.scope.names[i]?=some (x,.local)→fr[i]?=some (some v)→∃ val,m x=some val ∧ RepV as B v val
 cells:∀ (i:Nat) (x:Str) (k:NameKind),env.scope.names[i]?=some (x,k)→(k=.cell ∨ k=.free)→∃ c cv,env.cells.lookup x=some c ∧ B.IsCell c cv ∧ (∀ v,fr[i]?=some (some v)→∃ val,cv=some val ∧ RepV as B v val)
 off:env.locals ∉ as
 offc:∀ x c,env.cells.lookup x=some c→c ∉ as ∧ c ≠ env.locals ∧ ∃ cv,B.IsCell c cv
 apart:∀ x y c,env.cells.lookup x=some c→env.cells.lookup y=some c→x=y
 newc:∀ x c,env.cells.lookup x=some c→g.b.get? c=none
structure kS (g:Cfg) (env:Env) (l:List Env) (own as:List Addr) (h:Heap) (C:Addr) (fl:Option Value) (fr':Fra) (σ':Sto) (e:Addr) (as':List Addr) (B h':Heap):Prop where
 pre:∃ t,as'=as ++ t ∧ ∀ a ∈ t,h.get? a=none
 ext:∀ (b:Addr) (o:Obj),h.get? b=some o→b ∉ own→b ∉ as→b ∉ Frs l→B.get? b=some o
 slots:∀ (b:Addr) (o:Obj),h.get? b=some o→b ∈ Frs l→b ∉ own→∃ sl,h'.get? b=some { o with slots:=sl }
 R:Rel g as' σ' B
 F:FrX g env as' fr' B h'
 fly:Fly B l e (.ref C) fl h'
section
variable {g:Cfg}{env:Env}{A:Around}{X:Value→Shared→Prop}{s:Shared}{as own:List Addr}{fr:Fra} {σ:Sto}{c:CE}{l:List Env}
theorem Rel.sub {h B:Heap} (R:Rel g as σ h) (hb:∀ (b:Addr) (o:Obj),h.get? b=some o→(g.b.get? b).isSome ∨ b ∈ as ∨ Imm o→B.get? b=some o):Rel g as σ B :=
 have K:bR as h as B:=.same fun a o e im _=>hb a o e (.inr (.inr im))
 ⟨fun a o e=>hb a o (R.base a o e) (.inl (by rw [e]; rfl)),R.len,R.nd,R.new,fun i a o h1 h2=>(R.obj i a o h1 h2).keep K fun ob e=>hb a ob e (.inr (.inl (List.mem_of_getElem? h1))),R.hnd.keep K⟩
theorem cS {h base:Heap}{l:List Env} (F:h.FunFrames base l) {b:Addr} (hb:b ∈ Frs l):base.get? b=none ∧ ∃ o,h.get? b=some o ∧ ∀ vs,o.data ≠ .fields vs:=F.mem hb
theorem hJ {h base:Heap}:∀ {l:List Env},h.FunFrames base l→∀ S:List Addr,(∀ a ∈ Frs l,a ∈ S)→h.FunFrames (hideAll h S) l
 | [],_,_,_=>trivial
 | env :: l,⟨hk,⟨L,o,hf,_,ho,hd⟩,hr⟩,S,hS=>by
  refine ⟨hk,⟨L,o,hf,hideAll_none _ (hS L ?_),ho,hd⟩,hJ hr S fun a ha=>hS a ?_⟩
  ·unfold Frs; rw [List.filterMap_cons,hf]; exact .head _
  ·unfold Frs at *; rw [List.filterMap_cons,hf]; exact .tail _ ha
theorem iY {B h:Heap} (k:B.StaysIn h) {c:Addr}{cv:Option Value} (x:B.IsCell c cv):h.IsCell c cv:=by
 obtain ⟨o,ho,r⟩:=x
 exact ⟨o,k _ _ ho,r⟩
theorem FrX.rel {B h:Heap} (F:FrX g env as fr B h) (k:B.StaysIn h):ay g env as fr h:=by
 have K:bR as B as h:=.same fun a o e _ _=>k a o e
 obtain ⟨m,hm,hv⟩:=F.ns
 refine ⟨F.kind,F.above,F.glob,F.blt,F.len,F.nd,⟨m,hm,fun i x v h1 h2=>?_⟩,fun i x kk h1 h2=>?_,F.off,fun x c hc=>?_,F.apart,F.newc⟩
 ·obtain ⟨val,e1,e2⟩:=hv i x v h1 h2
  exact ⟨val,e1,RepV.keep K _ _ e2⟩
 ·obtain ⟨c,cv,e1,e2,e3⟩:=F.cells i x kk h1 h2
  exact ⟨c,cv,e1,iY k e2,fun v hv=>by obtain ⟨val,q1,q2⟩:=e3 v hv; exact ⟨val,q1,RepV.keep K _ _ q2⟩⟩
 ·obtain ⟨a,b,cv,d⟩:=F.offc x c hc
  exact ⟨a,b,cv,iY k d⟩
theorem FrX.slots {B h h':Heap} (F:FrX g env as fr B h) (u:h.UpToSlots h'):FrX g env as fr B h':=by
 obtain ⟨m,hm,hv⟩:=F.ns
 exact ⟨F.kind,F.above,F.glob,F.blt,F.len,F.nd,⟨m,u.ns hm,hv⟩,F.cells,F.off,F.offc,F.apart,F.newc⟩
theorem FrX.offs {B h:Heap} (F:FrX g env as fr B h):∀ a ∈ ownOf env,a ∉ as:=fun a ha=>by
 rcases List.mem_cons.mp ha with rfl | ha
 ·exact F.off
 ·obtain ⟨p,hp,e⟩:=List.mem_filterMap.mp ha
  exact (F.offc _ _ e).1
theorem zf {h h':Heap} (F:ay g env as fr h) (S:List Addr) (k:∀ (a:Addr) (o:Obj),h.get? a=some o→h'.get? a=some o) (hi:∀ a ∈ S,∀ o,h.get? a=some o→¬ Imm o) (hc:∀ x c,env.cells.lookup x=some c→c ∉ S):FrX g env as fr (hideAll h S) h':=by
 have K:bR as h as (hideAll h S):=.same fun a o e im _=>hideAll_get _ e fun q=>hi a q o e im
 have cl:∀ {x c cv},env.cells.lookup x=some c→h.IsCell c cv→(hideAll h S).IsCell c cv:=fun hx ⟨o,ho,r⟩=>⟨o,hideAll_get _ ho (hc _ _ hx),r⟩
 obtain ⟨m,hm,hv⟩:=F.ns
 refine ⟨F.kind,F.above,F.glob,F.blt,F.len,F.nd,⟨m,(Heap.UpToSlots.of_keeps k).ns hm,fun i x v h1 h2=>?_⟩,fun i x kk h1 h2=>?_,F.off,fun x c hx=>?_,F.apart,F.newc⟩
 ·obtain ⟨val,e1,e2⟩:=hv i x v h1 h2
  exact ⟨val,e1,RepV.keep K _ _ e2⟩
 ·obtain ⟨c,cv,e1,e2,e3⟩:=F.cells i x kk h1 h2
  exact ⟨c,cv,e1,cl e1 e2,fun v hv=>by obtain ⟨val,q1,q2⟩:=e3 v hv; exact ⟨val,q1,RepV.keep K _ _ q2⟩⟩
 ·obtain ⟨a,b,cv,d⟩:=F.offc x c hx
  exact ⟨a,b,cv,cl hx d⟩
theorem pY {e C:Addr}{args:List Value}{h':Heap} (S:Stk g as l s.heap) (T:At g env as fr σ s) (hc:∀ x c,env.cells.lookup x=some c→c ∉ Frs l) (hm:Heap.MadeExcOf s.heap h' e (.ref C) args):kS g env l own as s.heap C none fr σ e as (hideAll s.heap (Frs l)) h':=by
 have hnew:(hideAll s.heap (Frs l)).get? e=none:=by
  cases q:(hideAll s.heap (Frs l)).get? e with
  | none=>rfl
  | some o=>have:=of_hideAll _ q; rw [hm.new] at this; cases this
 obtain ⟨t,ht,_,_⟩:=hm.there
 refine ⟨⟨[],(List.append_nil _).symm,fun _ h=>nomatch h⟩,fun b o hb _ _ hl=>hideAll_get _ hb hl,fun b o hb _ _=>⟨o.slots,hm.keeps b o hb⟩,T.R.sub fun b o hb hx=>hideAll_get _ hb fun hl=>?_,?_,fun b o q=>hm.keeps b o (of_hideAll _ q),hnew,(hJ S.fr (Frs l) fun _ h=>h).of_keeps fun b o hb _=>⟨o,hm.keeps b o hb,rfl⟩,_,_,ht,rfl,rfl,rfl,rfl,.made rfl⟩
 ·rcases hx with hx | hx | hx
  ·rw [(cS S.fr hl).1] at hx; cases hx
  ·exact S.off b hl hx
  ·exact S.dict b hl o hb hx
 ·exact zf T.F (Frs l) hm.keeps S.dict hc
theorem kS.after {as1 as':List Addr}{h h1 h' B:Heap}{C e:Addr}{fl:Option Value}{fr':Fra} {σ':Sto} (x:aC own as h as1 h1) (ho:own=ownOf env) (off:∀ a ∈ Frs l,a ∉ as) (E:kS g env l own as1 h1 C fl fr' σ' e as' B h'):kS g env l own as h C fl fr' σ' e as' B h':=by
 obtain ⟨⟨t1,rfl,f1⟩,ext⟩:=x
 obtain ⟨t2,q2,f2⟩:=E.pre
 have nd:=E.R.nd
 have offs:=E.F.offs
 rw [← ho] at offs
 have h1of:∀ {b:Addr}{o:Obj},h.get? b=some o→b ∉ t1:=fun e q=>by rw [f1 _ q] at e; cases e
 refine ⟨⟨t1 ++ t2,by rw [q2,List.append_assoc],fun a ha=>?_⟩,fun b o hb n1 n2 n3=>E.ext b o (ext b o hb n1 n2) n1 (fun q=>(List.mem_append.mp q).elim n2 (h1of hb)) n3,fun b o hb n1 n2=>E.slots b o (ext b o hb n2 (off b n1)) n1 n2,E.R,E.F,E.fly⟩
 rcases List.mem_append.mp ha with ha | ha
 ·exact f1 a ha
 ·cases q:h.get? a with
  | none=>rfl
  | some o =>
   have hn:a ∉ as:=fun hq=>by
    rw [q2] at nd
    exact (List.nodup_append.mp nd).2.2 a (List.mem_append_left _ hq) a ha rfl
   have:=ext a o q (fun hq=>offs a hq (by rw [q2]; exact List.mem_append_right _ ha)) hn
   rw [f2 a ha] at this; cases this
theorem kS.fly' {as':List Addr}{h h' h'' B:Heap}{C e:Addr}{fl fl':Option Value}{fr':Fra} {σ':Sto} (E:kS g env l own as h C fl fr' σ' e as' B h') (F':Fly B l e (.ref C) fl' h'') (u:h'.UpToSlots h'') (hs:∀ (b:Addr) (o:Obj),h.get? b=some o→b ∈ Frs l→∀ vs,o.data ≠ .fields vs):kS g env l own as h C fl' fr' σ' e as' B h'':=by
 refine ⟨E.pre,E.ext,fun b o hb n1 n2=>?_,E.R,E.F.slots u,F'⟩
 obtain ⟨sl,hsl⟩:=E.slots b o hb n1 n2
 obtain ⟨sl',h2⟩:=u b _ hsl (hs b o hb n1)
 exact ⟨sl',h2⟩
section
variable {M:Model}{outer:List Env}{L:Addr}{as':List Addr}{h h' B:Heap}{C e:Addr}{fl:Option Value}{fr':Fra} {σ':Sto}{s':Shared}
theorem sh (hfr:A.frames=some (env :: outer)) (hf:env.frame=some L) (hs:∀ (b:Addr) (o:Obj),h.get? b=some o→b ∈ Frs (env :: outer)→∀ vs,o.data ≠ .fields vs) (E:kS g env (env :: outer) own as h C fl fr' σ' e as' B s'.heap) (hfl:fl=none ∨ fl=some .none ∨ fl=some (rawInt L))
  (k:∀ h'',kS g env (env :: outer) own as h C (some (rawInt L)) fr' σ' e as' B h''→X (.ref e) { s' with heap:=h'' }):notedBy M A env X (.ref e) s' :=
 lW hfr hf E.fly hfl fun h'' F u=>k h'' (E.fly' F u hs)
theorem uo (hf:env.frame=some L) (hs:∀ (b:Addr) (o:Obj),h.get? b=some o→b ∈ Frs (env :: outer)→∀ vs,o.data ≠ .fields vs) {f:Value} (E:kS g env (env :: outer) own as h C (some f) fr' σ' e as' B s'.heap)
  (k:∀ h'',kS g env (env :: outer) own as h C (some (rawInt L)) fr' σ' e as' B h''→X (.ref e) { s' with heap:=h'' }):cameBackBy M A env X (.ref e) s' :=
 wv (fl:=none) hf E.fly fun h'' F u=>k h'' (E.fly' F u hs)
structure ph (g:Cfg) (l:List Env) (as:List Addr) (h:Heap) (C:Addr) (σ':Sto) (e:Addr) (as':List Addr) (B h':Heap):Prop where
 pre:∃ t,as'=as ++ t ∧ ∀ a ∈ t,h.get? a=none
 ext:∀ (b:Addr) (o:Obj),h.get? b=some o→b ∉ as→b ∉ Frs l→B.get? b=some o
 slots:∀ (b:Addr) (o:Obj),h.get? b=some o→b ∈ Frs l→∃ sl,h'.get? b=some { o with slots:=sl }
 R:Rel g as' σ' B
 fly:Fly B l e (.ref C) (some .none) h'
theorem sf {l:List Env} (hfr:A.frames=some (env :: l)) (hf:env.frame=some L) (hs:∀ (b:Addr) (o:Obj),h.get? b=some o→b ∈ Frs (env :: l)→∀ vs,o.data ≠ .fields vs) {h0:Heap} (k0:∀ (b:Addr) (o:Obj),h0.get? b=some o→h.get? b=some o) (own0:∀ a ∈ own,h0.get? a=none) (hL:h0.get? L=none)
  (E:kS g env (env :: l) own as h C fl fr' σ' e as' B s'.heap) (hfl:fl=none ∨ fl=some .none ∨ fl=some (rawInt L)) {Q:Unit→Shared→Prop}
  (k:∀ h'',ph g l as h0 C σ' e as' B h''→Q () { s' with heap:=h'' }):wpAny M A (leaving env (.ref e)) Q X s':=by
 have hfrs:∀ b,b ∈ Frs (env :: l) ↔ b=L ∨ b ∈ Frs l:=fun b=>by
  unfold Frs; rw [List.filterMap_cons,hf]; exact List.mem_cons
 have nown:∀ {b:Addr}{o:Obj},h0.get? b=some o→b ∉ own:=fun hb q=>by rw [own0 _ q] at hb; cases hb
 have nL:∀ {b:Addr}{o:Obj},h0.get? b=some o→b ≠ L:=fun hb q=>by rw [q,hL] at hb; cases hb
 refine ut hfr hf E.fly hfl fun h'' F u=>k h'' ⟨?_,fun b o hb n1 n2=>E.ext b o (k0 b o hb) (nown hb) n1 fun q=>((hfrs b).mp q).elim (nL hb) n2,fun b o hb n1=>?_,E.R,F⟩
 ·obtain ⟨t,q,f⟩:=E.pre
  refine ⟨t,q,fun a ha=>?_⟩
  cases z:h0.get? a with
  | none=>rfl
  | some o=>have:=k0 a o z; rw [f a ha] at this; cases this
 ·obtain ⟨sl,h1⟩:=E.slots b o (k0 b o hb) ((hfrs b).mpr (.inr n1)) (nown hb)
  obtain ⟨sl',h2⟩:=u b _ h1 (hs b o (k0 b o hb) ((hfrs b).mpr (.inr n1)))
  exact ⟨sl',h2⟩
theorem ph.here {l:List Env} (S:Stk g as l s.heap) (T:At g env as fr σ s) (hL:env.locals ∈ Frs l) (hc:∀ x c,env.cells.lookup x=some c→c ∉ Frs l) (E:ph g l as s.heap C σ' e as' B h'):kS g env l own as s.heap C (some .none) fr σ' e as' B h':=by
 obtain ⟨t,ht,hf⟩:=E.pre
 have K:bR as s.heap as' B:=⟨fun i a hi=>by rw [ht,List.getElem?_append_left (List.getElem?_eq_some_iff.mp hi).1]; exact hi,fun a o ea im ht=>E.ext a o ea (fun q=>by obtain ⟨ob,e',hn⟩:=T.R.there q; rw [ea] at e'; cases e'; exact ht q (hn im)) fun q=>S.dict a q o ea im,fun a q=>(List.mem_append.mp (ht ▸ q)).imp id fun q o e=>nn ((hf a q).symm.trans e)⟩
 have cl:∀ {x c cv},env.cells.lookup x=some c→s.heap.IsCell c cv→B.IsCell c cv:=fun hx ⟨o,ho,r⟩=>⟨o,E.ext _ _ ho (T.F.offc _ _ hx).1 (hc _ _ hx),r⟩
 have fresh:∀ {a:Addr}{o:Obj},s.heap.get? a=some o→a ∉ as→a ∉ as':=fun ea n q=>by
  rw [ht] at q
  rcases List.mem_append.mp q with q | q
  ·exact n q
  ·rw [hf _ q] at ea; cases ea
 obtain ⟨m,hm,hv⟩:=T.F.ns
 obtain ⟨oL,es,ep,hoL,hdL,rL⟩:=id hm
 obtain ⟨sl,hsl⟩:=E.slots _ _ hoL hL
 refine ⟨E.pre,fun b o hb _ n2 n3=>E.ext b o hb n2 n3,fun b o hb n1 _=>E.slots b o hb n1,E.R,⟨T.F.kind,T.F.above,T.F.glob,T.F.blt,T.F.len,T.F.nd,⟨m,⟨_,es,ep,hsl,hdL,rL⟩,fun i x v h1 h2=>?_⟩,fun i x kk h1 h2=>?_,fresh hoL T.F.off,fun x c hx=>?_,T.F.apart,T.F.newc⟩,E.fly⟩
 ·obtain ⟨val,e1,e2⟩:=hv i x v h1 h2
  exact ⟨val,e1,RepV.keep K _ _ e2⟩
 ·obtain ⟨c,cv,e1,e2,e3⟩:=T.F.cells i x kk h1 h2
  exact ⟨c,cv,e1,cl e1 e2,fun v hv=>by obtain ⟨val,q1,q2⟩:=e3 v hv; exact ⟨val,q1,RepV.keep K _ _ q2⟩⟩
 ·obtain ⟨a,b,cv,d⟩:=T.F.offc x c hx
  obtain ⟨o,ho,r⟩:=id d
  exact ⟨fresh ho a,b,cv,cl hx d⟩
end
end
end Mine
namespace Mine
open PySem PyProof.Rows PySem.W
section
variable {g:Cfg}{K:Frag}{fa:Nat→Option Addr}{env:Env}{A:Around}{X:Value→Shared→Prop}{s:Shared}{as as1 own:List Addr}{fr fr1:Fra} {σ:Sto}{c:CE}{l:List Env}{h h1:Heap}
theorem iP {base:Heap} (k:∀ a ∈ Frs l,∀ o,h.get? a=some o→(∀ vs,o.data ≠ .fields vs)→∃ o',h1.get? a=some o' ∧ ∀ vs,o'.data ≠ .fields vs):h.FunFrames base l→h1.FunFrames base l:=by
 induction l with
 | nil=>exact fun _=>trivial
 | cons e l ih =>
  rintro ⟨hk,⟨L,o,hf,hn,ho,hd⟩,hr⟩
  have hm:∀ a,a ∈ Frs (e :: l) ↔ a=L ∨ a ∈ Frs l:=fun a=>by unfold Frs; rw [List.filterMap_cons,hf]; exact List.mem_cons
  obtain ⟨o',h1,h2⟩:=k L ((hm L).mpr (.inl rfl)) o ho hd
  exact ⟨hk,⟨L,o',hf,hn,h1,h2⟩,ih (fun a ha=>k a ((hm a).mpr (.inr ha))) hr⟩
theorem Stk.step (S:Stk g as l h) (x:aC (ownOf env) as h as1 h1) (F:ay g env as1 fr1 h1) (hc:∀ x c,env.cells.lookup x=some c→c ∉ Frs l):Stk g as1 l h1:=by
 have far:∀ a ∈ Frs l,a ≠ env.locals→a ∉ ownOf env:=fun a ha hne q=>by
  rcases List.mem_cons.mp q with q | q
  ·exact hne q
  ·obtain ⟨p,_,e⟩:=List.mem_filterMap.mp q
   exact hc _ _ e ha
 obtain ⟨m,hm,_⟩:=F.ns
 obtain ⟨oL,es,ep,hoL,hdL,_⟩:=id hm
 refine ⟨iP (fun a ha o ho hd=>?_) S.fr,fun a ha q=>?_,fun a ha o ho=>?_⟩
 ·by_cases e:a=env.locals
  ·exact ⟨oL,by rw [e]; exact hoL,fun vs q=>by rw [hdL] at q; cases q⟩
  ·exact ⟨o,x.ext a o ho (far a ha e) (S.off a ha),hd⟩
 ·obtain ⟨t,rfl,ht⟩:=x.pre
  rcases List.mem_append.mp q with q | q
  ·exact S.off a ha q
  ·obtain ⟨_,o,ho,_⟩:=cS S.fr ha
   rw [ht a q] at ho; cases ho
 ·by_cases e:a=env.locals
  ·subst e; exact F.notImm _ (.head _) o ho
  ·obtain ⟨_,o',ho',_⟩:=cS S.fr ha
   have:=x.ext a o' ho' (far a ha e) (S.off a ha)
   rw [this] at ho; cases ho
   exact S.dict a ha o ho'
structure On (g:Cfg) (env:Env) (A:Around) (as:List Addr) (l:List Env) (h:Heap):Prop where
 hfr:A.frames=some l
 top:∃ outer,l=env :: outer
 hf:env.frame=some env.locals
 hc:∀ x c,env.cells.lookup x=some c→c ∉ Frs l
 S:Stk g as l h
theorem On.step (O:On g env A as l h) (x:aC (ownOf env) as h as1 h1) (F:ay g env as1 fr1 h1):On g env A as1 l h1:=⟨O.hfr,O.top,O.hf,O.hc,O.S.step x F O.hc⟩
def BK (env:Env) (fl:Option Value):Prop:=fl=none ∨ fl=some .none ∨ fl=some (rawInt env.locals)
noncomputable def kA (g:Cfg) (env:Env) (l:List Env) (as:List Addr) (s:Shared) (C:Addr) (fr':Fra) (σ':Sto) (X:Value→Shared→Prop):Prop :=
 ∀ (fl:Option Value) (e:Addr) (as':List Addr) (B h':Heap) (tk:Nat),BK env fl→kS g env l (ownOf env) as s.heap C fl fr' σ' e as' B h'→X (.ref e) { s with heap:=h',toks:=tk }
theorem gt {C:Addr}{fr':Fra} {σ':Sto}{tk:Nat} (hX:kA g env l as s C fr' σ' X) (st:aC (ownOf env) as s.heap as1 h1) (off:∀ a ∈ Frs l,a ∉ as):kA g env l as1 { s with heap:=h1,toks:=tk } C fr' σ' X :=
 fun fl e as' B h' tk' hfl E=>hX fl e as' B h' tk' hfl (E.after st rfl off)
theorem On.mem (O:On g env A as l h):env.locals ∈ Frs l:=by
 obtain ⟨outer,rfl⟩:=O.top
 unfold Frs; rw [List.filterMap_cons,O.hf]; exact .head _
theorem fF {C:Addr} {σ1 σ':Sto}{tk:Nat} (hX:kA g env l as s C fr σ' X) (O:On g env A as l s.heap) (st:aC [env.locals] as s.heap as1 h1) (R1:Rel g as1 σ1 h1) (F1:ay g env as1 fr h1) {e:Addr}{as2:List Addr}{B h2:Heap} (E:ph g l as1 h1 C σ' e as2 B h2):X (.ref e) { s with heap:=h2,toks:=tk } :=
 hX (some .none) e as2 B h2 tk (.inr (.inl rfl)) ((E.here (s:={ s with heap:=h1 }) (own:=ownOf env) (O.step (up st) F1).S ⟨F1,R1⟩ O.mem O.hc).after (up st) rfl O.S.off)
end
noncomputable def iH (g:Cfg) (fa:Nat→Option Addr) (call:Nat→List V→Sto→RE) (n:Nat):Prop :=
 ∀ (k:Nat) (a:Addr) (vs:List V) (σ σ':Sto) (x:Nat),fa k=some a→call k vs σ=.ex x σ' →
 ∀ (A:Around) (s:Shared) (as:List Addr) (xs:List Value) (l:List Env) (R:Result→Shared→Prop),cb g A n→A.frames=some l→Stk g as l s.heap→Rel g as σ s.heap→g.b.objs.size ≤ s.heap.objs.size→ah as s.heap vs xs →
  (∀ (e:Addr) (as':List Addr) (B h':Heap) (tk:Nat),ph g l as s.heap x σ' e as' B h'→R (.error (.ref e)) { s with heap:=h',toks:=tk }) →
  codeAny (model g.prog g.w) A (.call (.ref a) ⟨xs,[]⟩) R s
section
variable {g:Cfg}{K:Frag}{fa:Nat→Option Addr}{c0:CE}{call:Nat→List V→Sto→RE}{wf r n:Nat}{names:List (Str × NameKind)}
noncomputable def jd (g:Cfg) (c0:CE) (call:Nat→List V→Sto→RE) (r:Nat) (names:List (Str × NameKind)) (e:Expr) (e':E):Prop :=
 ∀ (env:Env) (A:Around) (X:Value→Shared→Prop) (s:Shared) (as:List Addr) (fr:Fra) (σ σ':Sto) (x:Nat) (l:List Env) (Q:Value→Shared→Prop),
  aq (c0.sub names) env A→cb g A (r + 1)→On g env A as l s.heap→At g env as fr σ s→evE call e' fr σ=.ex x σ'→kA g env l as s x fr σ' X→wpAny (model g.prog g.w) A (eval e env) Q X s
noncomputable def xl (g:Cfg) (c0:CE) (call:Nat→List V→Sto→RE) (r n:Nat):Prop:=∀ (names:List (Str × NameKind)) (e:Expr) (e':E),aj n (c0.sub names) e=some e'→aO e'=true→ey e=true→jd g c0 call r names e e'
theorem fz {r:REs}{k:List V→Sto→RE}{x:Nat} {σ':Sto}{P:Prop} (e:r.bind k=.ex x σ') (h:∀ u τ,r=.ok u τ→k u τ=.ex x σ'→P):P:=by
 cases r with
 | ok u τ=>exact h u τ rfl e
 | ex x τ=>cases e
 | bad=>cases e
theorem rP {r:RE}{k:V→Sto→RE}{x:Nat} {σ':Sto}{P:Prop} (e:r.bind k=.ex x σ') (h:∀ u τ,r=.ok u τ→k u τ=.ex x σ'→P):P:=by
 cases r with
 | ok u τ=>exact h u τ rfl e
 | ex x τ=>cases e
 | bad=>cases e
theorem vR {f:Str}{fp p:Pos}{k es es'} (G:bC g K c0 fa) (C:iH g fa call r) (IH:bv g c0 call r n) (hg:(c0.sub names).glob f=true) (hd:(f == ("__debug__":Str))=false) (hb:c0.fns.lookup f=some k) (h1:aQ (aj n (c0.sub names)) es=some es') :
  jd g c0 call r names (.Call (.Name f fp) es [] p) (.call k es'):=fun env A X s as fr σ σ' x l Q N hA O T ev hX=>by
 refine fz ev fun us τ e1 e2=>?_
 obtain ⟨a,hv,hfa,hkp⟩:=G.fn f k hb
 refine wpAny_Call_NameR (cy T N hg hd hv ?_)
 refine aV IH (fk G hkp) h1 N hA T e1 fun xs as' h' tk st R' F' r'=>?_
 exact wpAny_call (C k a us τ σ' x hfa e2 A _ as' xs l _ (hA.less (k:=1)) O.hfr (O.step (up st) F').S R' F'.size r' fun e as2 B h2 tk2 E=>fF hX O st R' F' E)
theorem k7 {x:Nat} {σ':Sto}{P:Prop} (h:RE.bad=.ex x σ'):P:=nomatch h
set_option tactic.hygienic true in
theorem tO {u:V} {τ σ':Sto}{q:RE}{x:Nat} (e:tX u τ q=.ex x σ'):∃ l d ents,u=.ref l ∧ τ[l]?=some (.inst d) ∧ τ[d]?=some (.att ents) ∧ q=.ex x σ':=by
 unfold tX at e
 cases u <;> first | exact k7 e | skip
 rename_i l
 dsimp only at e
 cases q1:τ[l]? with
 | none=>rw [q1] at e; exact k7 e
 | some ob =>
  rw [q1] at e
  cases ob <;> first | exact k7 e | skip
  rename_i d
  dsimp only at e
  cases q2:τ[d]? with
  | none=>rw [q2] at e; exact k7 e
  | some ob =>
   rw [q2] at e
   cases ob <;> first | exact k7 e | exact ⟨l,d,_,rfl,q1,q2,e⟩
theorem un {o:Expr}{x:Str}{apos p:Pos}{a es es' f} (G:bC g K c0 fa) (C:iH g fa call r) (IH:bv g c0 call r n) (hb:d0 o=true) (hl:es.length ≤ 8) (hp:(apos.endLine == p.line)=true)
  (h0:aj n (c0.sub names) o=some a) (h1:aQ (aj n (c0.sub names)) es=some es') (hf:c0.mths.lookup x=some f) :
  jd g c0 call r names (.Call (.Attribute o x apos) es [] p) (.umeth a f es'):=fun env A X s as fr σ σ' x' l Q N hA O T ev hX=>by
 refine MethodCall_ (pl:=do return (← importBound o env).getD true) ?_ (jV (jw hb) hl hp h1)
 refine rP ev fun u τ e1 e2=>?_
 obtain ⟨l',d,ents,rfl,hd,he,e2⟩:=tO e2
 refine fz e2 fun us τ' e3 e4=>?_
 refine IH names o a h0 env A X s as fr σ τ _ _ N hA T e1 fun val as' h' tk st R' F' r'=>?_
 have T':At g env as' fr τ { s with heap:=h',toks:=tk }:=⟨F',R'⟩
 obtain ⟨fad,hfa,hpg,hfi,hfn,hkp,hna⟩:=G.mth x f hf
 refine cV (s:={ s with heap:=h',toks:=tk }) R' r' hd fun ad dx qx2 h2 h3 h4=>?_; subst qx2
 obtain ⟨es0,nn,h5,h6,_⟩:=jC (s:={ s with heap:=h',toks:=tk }) R' h3 he
 obtain ⟨m,hF,_⟩:=F'.fr R'
 refine method_inst (L:=env.locals) (h₀:=g.b) (m:=m) (es:=es0) (n:=nn) (ox:=instObj g.C dx) hF G.kin ⟨h4,rfl,rfl,h5⟩ hpg hfi hfn (kq hna h6) ?_
 refine aV (first:=[.ref ad]) IH (fk G hkp) h1 N hA T' e3 fun xs as2 h2' tk2 st2 R2 F2' r2=>?_
 have r3:=RepV.keep (T'.keep st2) _ _ r'
 have st3:=ao st st2 R2 F2'
 exact wpAny_call (C f fad _ τ' σ' x' hfa e4 A _ as2 (.ref ad :: xs) l _ (hA.less (k:=1)) O.hfr (O.step (up st3) F2').S R2 F2'.size (by rw [ah]; exact ⟨_,_,rfl,r3,r2⟩) fun e as3 B h3' tk3 E=>fF hX O st3 R2 F2' E)
set_option tactic.hygienic true in
theorem zZ {f:Str}{fp p:Pos}{k es es'} (G:bC g K c0 fa) (C:iH g fa call r) (IH:bv g c0 call r n) (hg:(c0.sub names).glob f=true) (hd:(f == ("__debug__":Str))=false) (hb:c0.clss.lookup f=some k) (h1:aQ (aj n (c0.sub names)) es=some es') :
  jd g c0 call r names (.Call (.Name f fp) es [] p) (.mk k es'):=fun env A X s as fr σ σ' x' l Q N hA O T ev hX=>by
 refine fz ev fun us τ e1 e2=>?_
 have e3:call k (.ref (τ.length + 1) :: us) (τ ++ [.att []] ++ [.inst τ.length])=.ex x' σ':=by
  rw [List.append_assoc]
  split at e2
  ·cases e2
  ·cases e2
  ·rename_i hq; cases e2; exact hq
  ·cases e2
 refine mX G IH hg hd hb h1 N hA T e1 fun fI xs as' h' tk dx x h2 hfa st R' st3 R3 F3 href hroom=>?_
 exact C k fI _ _ σ' x' hfa e3 _ _ (as' ++ [dx] ++ [x]) (.ref x :: xs) l _ hroom O.hfr (O.step (up (ao st st3 R3 F3)) F3).S R3 F3.size href fun e as4 B h4 tk4 E=>fF hX O (ao st st3 R3 F3) R3 F3 E
end
end Mine
namespace Mine
set_option backward.match.sparseCases false
open PySem PyProof.Rows PySem.W
section
variable {g:Cfg}{K:Frag}{fa:Nat→Option Addr}{c0:CE}{call:Nat→List V→Sto→RE}{wf r n:Nat}{names:List (Str × NameKind)}{e':E}
theorem nc {e:E}{P:Prop}{f:Option E} (h:f=some e) (hc:aO e=true) (q:∀ x,f=some x→aO x=false):P:=tf (hc.symm.trans (q _ h))
theorem A3 {α β:Type}{a:Option α}{b:Option β}{f:α→β→E} (hf:∀ x y,aO (f x y)=false):∀ x,fT f a b=some x→aO x=false:=fun x h=>by refine bX h fun y z _ _ qx4=>?_; subst qx4; exact hf y z
theorem gdI {a:Option E}{b:Bool} (q:∀ x,a=some x→aO x=false):∀ x,gd b a=some x→aO x=false:=fun x h=>q x (au h).2
theorem AA {α:Type}{a:Option α}{f:α→Option E} (q:∀ y x,f y=some x→aO x=false):∀ x,a.bind f=some x→aO x=false:=fun x h=>let ⟨y,_,h2⟩:=aU h; q y x h2
theorem p8 (G:bC g K c0 fa) (C:iH g fa call r) (IH:bv g c0 call r n)
  : xl g c0 call r (n + 1):=by
 intro names e e' h hc hs
 unfold ey at hs
 cases q:vw e <;> rw [q] at hs <;> first | exact ft hs | skip
 obtain ⟨fn,args,ks,p,rfl⟩:∃ fn args ks p,e=.Call fn args ks p:=let ⟨p,h⟩:=bE q; ⟨_,_,_,p,h⟩
 exact ni (fun fn ks=>jd g c0 call r names (.Call fn args ks p) e') h
  (fun x fp h=>kj (fun fn args e'=>aO e'=true→jd g c0 call r names (.Call fn args [] p) e') h (fun _ _ _ _ _ _ _ _ _ q=>ft q) (fun _ _ _ _ _ _ _ _ _ q=>ft q) (fun _ _ _ _ _ _ _ _ _ _ _ q=>ft q) (fun _ _ _ _ _ _ _ _ _ _ _ q=>ft q)
   (fun _ _ _ _ _ hg hd q h1 _=>vR G C IH hg hd q h1)
   (fun _ _ _ _ _ _ _ _ _ _ q=>ft q)
   (fun _ _ _ _ _ hg hd q h1 _=>zZ G C IH hg hd q h1) hc)
  (fun x fp k h=>kb (fun x args k e'=>aO e'=true→jd g c0 call r names (.Call (.Name x fp) args [k] p) e') h (fun _ _ _ _ _ _ _ _ q=>ft q) (fun _ _ _ _ _ _ _ _ _ h q=>nc h q (gdI (AA fun _=>gdI (A3 fun _ _=>rfl)))) hc)
  (fun o x ap h=>ki (fun e'=>aO e'=true→jd g c0 call r names (.Call (.Attribute o x ap) args [] p) e') h (fun _ _ _ _ _ _ _ _ _ q=>ft q) (fun _ _ _ h2 h1 h0 h5 h6 h7 _=>un G C IH h2 h1 h0 h5 h6 h7)
   hc)
  fun s a p1 x ap h=>nu (fun x args e'=>aO e'=true→jd g c0 call r names (.Call (.Attribute (.Constant (.str s) a p1) x ap) args [] p) e') h (fun _ _ _ _ q=>ft q) hc
theorem tI (G:bC g K c0 fa) (I:bu g) (C:ci g K c0 fa call r) (CX:iH g fa call r):∀ n,xl g c0 call r n
 | 0=>fun names e e' h=>nn h
 | n + 1=>p8 G CX (ck G I C n).1
end
end Mine
namespace Mine
set_option backward.match.sparseCases false
open PySem PyProof.Rows PySem.W
noncomputable def eG (g:Cfg) (c0:CE) (call:Nat→List V→Sto→RE) (wf r:Nat) (names:List (Str × NameKind)) (st:Stmt) (st':S):Prop :=
 ∀ (env:Env) (A:Around) (X:Value→Shared→Prop) (s:Shared) (as:List Addr) (fr fr':Fra) (σ σ':Sto) (x:Nat) (l:List Env) (Q:Flow→Shared→Prop),
  aq (c0.sub names) env A→cb g A (r + 1)→On g env A as l s.heap→At g env as fr σ s→evS call wf st' fr σ=.ex x fr' σ'→kA g env l as s x fr' σ' X→wpAny (model g.prog g.w) A (exec st env) Q X s
noncomputable def wX (g:Cfg) (c0:CE) (call:Nat→List V→Sto→RE) (wf r n:Nat):Prop:=∀ (names:List (Str × NameKind)) (st:Stmt) (st':S),bV n (c0.sub names) st=some st'→eG g c0 call wf r names st st'
noncomputable def jS (g:Cfg) (c0:CE) (call:Nat→List V→Sto→RE) (wf r n:Nat):Prop :=
 ∀ (names:List (Str × NameKind)) (sts:List Stmt) (sts':List S),aQ (bV n (c0.sub names)) sts=some sts' →
 ∀ (env:Env) (A:Around) (X:Value→Shared→Prop) (s:Shared) (as:List Addr) (fr fr':Fra) (σ σ':Sto) (x:Nat) (l:List Env) (Q:Flow→Shared→Prop),
  aq (c0.sub names) env A→cb g A (r + 1)→On g env A as l s.heap→At g env as fr σ s→evSs call wf sts' fr σ=.ex x fr' σ'→kA g env l as s x fr' σ' X→wpAny (model g.prog g.w) A (execs sts env) Q X s
theorem pX {src:Src}{tg:List Nat}{one:Bool}{body:Fra→Sto→RS}{n i x:Nat}{fr fr':Fra} {σ σ':Sto}{G:Prop} (Ψ:Fra→Sto→Prop) (ev:lu tg one body src n i fr σ=.ex x fr' σ') (hΨ:Ψ fr' σ')
  (h2:∀ n' v fr1 fl1 fr2 σ2,n' < n→bc σ i src=some (some v)→bW tg one v fr=some fr1→body fr1 σ=.ok fl1 fr2 σ2→(fl1=.next ∨ fl1=.cont)→lu tg one body src n' (i + 1) fr2 σ2=.ex x fr' σ'→G)
  (h3:∀ v fr1 fr2 σ2,bc σ i src=some (some v)→bW tg one v fr=some fr1→body fr1 σ=.ex x fr2 σ2→Ψ fr2 σ2→G):G:=by
 cases n with
 | zero=>exact nomatch ev
 | succ n =>
  refine jW ev (fun q=>nomatch q) (fun _ q=>nomatch q) fun v o e=>fO e (fun _ q=>nomatch q) fun fr1 hb e=>?_
  have h2:=h2 n v fr1
  have h3:=h3 v fr1
  generalize body fr1 σ=r at e h2 h3
  cases r with
  | ok f fr2 σ2=>cases f with
   | next=>exact h2 _ _ _ (Nat.lt_succ_self _) o hb rfl (.inl rfl) e
   | cont=>exact h2 _ _ _ (Nat.lt_succ_self _) o hb rfl (.inr rfl) e
   | brk=>exact nomatch (show RS.ok .next fr2 σ2=_ from e)
   | ret w=>exact nomatch (show RS.ok (.ret w) fr2 σ2=_ from e)
  | ex y fr2 σ2 =>
   have e:RS.ex y fr2 σ2=RS.ex x fr' σ':=e
   cases e
   exact h3 _ _ o hb rfl hΨ
  | bad=>exact nomatch (show RS.bad=_ from e)
section
variable {g:Cfg}{K:Frag}{fa:Nat→Option Addr}{c0:CE}{call:Nat→List V→Sto→RE}{env:Env}{A:Around}{X:Value→Shared→Prop}{s:Shared}{as:List Addr}{fr fr':Fra} {σ σ':Sto}{wf r n x:Nat}{names:List (Str × NameKind)}{l:List Env}
set_option tactic.hygienic true in
theorem hY (IS:xm g c0 call wf r n) (IX:wX g c0 call wf r n):jS g c0 call wf r n:=by
 intro names sts
 induction sts with
 | nil =>
  intro sts' h env A X s as fr fr' σ σ' x l Q N hA O T ev hX
  rw [aQ] at h; cases h
  exact nomatch (show RS.ok .next fr σ=_ from ev)
 | cons st sts ih =>
  intro sts' h env A X s as fr fr' σ σ' x l Q N hA O T ev hX
  refine cn h fun a as' h1 h2 qx4=>?_; subst qx4
  rw [vg] at ev
  refine wpAny_execs_cons ?_
  split at ev
  ·rename_i f1 σ1 he
   refine IS names st a h1 env A X s as fr f1 σ σ1 .next _ N hA T he fun f as1 k1 tk1 hf st1 R1 F1=>?_
   have hf':f=.next:=hf
   subst hf'
   exact ih as' h2 env A X _ as1 f1 fr' σ1 σ' x l Q N hA (O.step st1 F1) ⟨F1,R1⟩ ev (gt hX st1 O.S.off)
  ·exact IX names st a h1 env A X s as fr fr' σ σ' x l _ N hA O T ev hX
theorem i9 {r:RE}{fr:Fra}{k:V→Sto→RS}{x:Nat}{fr':Fra} {σ':Sto}{P:Prop} (e:r.bindS fr k=.ex x fr' σ') (h:∀ u τ,r=.ok u τ→k u τ=.ex x fr' σ'→P):P:=by
 cases r with
 | ok u τ=>exact h u τ rfl e
 | ex x τ=>cases e
 | bad=>cases e
theorem fG {r:RE}{b:Bool}{fr:Fra}{k:V→Sto→RS}{x:Nat}{fr':Fra} {σ':Sto}{P:Prop} (e:r.bindX b fr k=.ex x fr' σ') (hk:∀ u τ,k u τ ≠ .ex x fr' σ') (h:b=true→r=.ex x σ'→fr'=fr→P):P:=by
 cases r with
 | ok u τ=>exact absurd e (hk u τ)
 | ex y τ =>
  cases b with
  | true=>cases e; exact h rfl rfl rfl
  | false=>cases e
 | bad=>cases e
theorem AD {t:Expr}{b o:List Stmt}{t':E}{b' o':List S}{p:Pos} (IT:lj g c0 call r n) {m:Nat} (IL:jS g c0 call wf r m) (h0:aj n (c0.sub names) t=some t') (h1:aQ (bV m (c0.sub names)) b=some b') (h2:aQ (bV m (c0.sub names)) o=some o') :
  eG g c0 call wf r names (.If t b o p) (.ifS t' b' o'):=fun env A X s as fr fr' σ σ' x l Q N hA O T ev hX=>by
 refine i9 (fr:=fr) ev fun u τ e1 e2=>?_
 split at e2
 ·refine wpAny_If (IT names t t' h0 env A X s as fr σ τ true _ N hA T e1 fun as' h' tk st R' F'=>?_)
  rw [if_pos rfl]
  exact IL names b b' h1 env A X _ as' fr fr' τ σ' x l Q N hA (O.step (up st) F') ⟨F',R'⟩ e2 (gt hX (up st) O.S.off)
 ·refine wpAny_If (IT names t t' h0 env A X s as fr σ τ false _ N hA T e1 fun as' h' tk st R' F'=>?_)
  rw [if_neg Bool.false_ne_true]
  exact IL names o o' h2 env A X _ as' fr fr' τ σ' x l Q N hA (O.step (up st) F') ⟨F',R'⟩ e2 (gt hX (up st) O.S.off)
 ·cases e2
theorem xb {e:Expr}{e':E}{p:Pos} (IX:xl g c0 call r n) (hn:∀ a b c d,e ≠ .ListComp a b c d) (h:aj n (c0.sub names) e=some e') (hs:aO e'=true→ey e=true):eG g c0 call wf r names (.Expr e p) (.expr e'):=fun env A X s as fr fr' σ σ' x l Q N hA O T ev hX =>
 fG (show (evE call e' fr σ).bindX (aO e') fr (fun _ σ=>.ok .next fr σ)=_ from ev) (fun _ _ q=>nomatch q) fun hc e1 hf=>by
  subst hf
  exact wpAny_Expr_any (IX names e e' h hc (hs hc) env A X s as fr' σ σ' x l _ N hA O T e1 hX) (hZ T.F) (kL hn h)
theorem yE {e:Expr}{e':E}{p:Pos} (IX:xl g c0 call r n) (h:aj n (c0.sub names) e=some e') (hs:aO e'=true→ey e=true):eG g c0 call wf r names (.Return (some e) p) (.ret e'):=fun env A X s as fr fr' σ σ' x l Q N hA O T ev hX =>
 fG (show (evE call e' fr σ).bindX (aO e') fr (fun v σ=>.ok (.ret v) fr σ)=_ from ev) (fun _ _ q=>nomatch q) fun hc e1 hf=>by
  subst hf
  exact wpAny_Return_some (IX names e e' h hc (hs hc) env A X s as fr' σ σ' x l _ N hA O T e1 hX)
theorem yw {y:Str}{i:Nat}{e:Expr}{e':E}{p xp:Pos} (IX:xl g c0 call r n) (h:aj n (c0.sub names) e=some e') (hs:aO e'=true→ey e=true):eG g c0 call wf r names (.Assign [.Name y xp] e p) (.asg i e'):=fun env A X s as fr fr' σ σ' x l Q N hA O T ev hX =>
 fG (show (evE call e' fr σ).bindX (aO e') fr (fun v σ=>if i < fr.length then .ok .next (fr.set i (some v)) σ else .bad)=_ from ev) (fun _ _ q=>by split at q <;> exact nomatch q) fun hc e1 hf=>by
  subst hf
  refine wpAny_Assign_Name (IX names e e' h hc (hs hc) env A X s as fr' σ σ' x l _ N hA O T e1 hX) (iu (fun a b c d q=>?_) h)
  subst q
  exact ft (hs hc)
theorem uh {y:Str}{np cpos pos p:Pos}{text:Str}{u k:Nat} (G:bC g K c0 fa) (hh:c0.hnd=false) (hx:c0.excs.lookup y=some k) (hg:(c0.sub names).glob y=true) (hd:(y == ("__debug__":Str))=false) :
  eG g c0 call wf r names (.Raise (some (.Call (.Name y np) [.Constant (.str text) u p] [] cpos)) none pos) (.raise k):=fun env A X s as fr fr' σ σ' x l Q N hA O T ev hX=>by
 cases (show RS.ex k fr σ=RS.ex x fr' σ' from ev)
 exact wQ G hx T N (hA.none (G.hd hh)) hg hd fun h' e t tk hm=>hX none e as _ h' tk (.inl rfl) (pY O.S T O.hc hm)
theorem oE {target:Expr}{body:List Stmt}{body':List S}{tg:List Nat}{one:Bool}{src:Src}{I:Addr}{i k:Nat}{as1:List Addr}{h:Heap}{tk:Nat}{Q:Flow→Shared→Prop}{C:Nat→Fra→List Addr→Sto→Heap→Prop}
  (IL:j5 g c0 call wf r n) (IX:jS g c0 call wf r n) (L:LI g env s as src I target C) (N:aq (c0.sub names) env A) (hA:cb g A (r + 1)) (O:On g env A as l s.heap) (ht:tgt (c0.sub names) target=some (tg,one)) (h2:aQ (bV n (c0.sub names)) body=some body')
  (ev:lu tg one (evSs call wf body') src k i fr σ=.ex x fr' σ') (c:C i fr as1 σ h) (hX:kA g env l as s x fr' σ' X) :
  codeAny (model g.prog g.w) A (.forLoop target (.ref I) body [] env) (fun r s'=>match r with | .ok f=>Q f s' | .error e=>cameBackBy (model g.prog g.w) A env X e s') { s with heap:=h,toks:=tk }:=by
 obtain ⟨outer,hl⟩:=O.top
 refine nK (BD s src C tg one (evSs call wf body') (.ex x fr' σ')) (fun k s' hN=>hN _ fun i fr as1 σ h tk qs ev c=>?_) k fun G H=>H _ _ _ _ _ _ rfl ev c
 rw [qs]
 refine pX (fun fr' σ'=>kA g env l as s x fr' σ' X) ev hX (fun k' v fr1 fl1 fr2 σ2 hk e hb hc hfl run'=>?_) (fun v fr1 fr2 σ2 e hb hc hX=>?_)
 ·refine gv IL L N hA ht h2 c e hb hc (fun _ _ h=>h) fun f as4 h4 tk4 hf c4=>?_
  rcases gc.go hfl hf with q | q <;> rw [q] <;> exact ⟨k',hk,fun G H=>H _ _ _ _ _ _ rfl run' c4⟩
 ·refine kc L N hA ht c e hb (fun _ _ h=>h) fun as4 h4 tk4 c4=>?_
  have C4:=L.base c4
  have O4:=O.step C4.1 C4.2.2
  have nf:∀ (b:Addr) (o:Obj),h4.get? b=some o→b ∈ Frs l→∀ vs,o.data ≠ .fields vs:=fun b o hb hm=>by
   obtain ⟨_,o',ho',hn⟩:=cS O4.S.fr hm
   rw [hb] at ho'; cases ho'; exact hn
  refine IX names body body' h2 env A _ { s with heap:=h4,toks:=tk4 } as4 _ _ _ _ x l _ N hA O4 ⟨C4.2.2,C4.2.1⟩ hc fun fl e as5 B h5 tk5 hfl E=>?_
  subst hl
  refine sh (s':={ s with heap:=h5,toks:=tk5 }) O.hfr O.hf nf E hfl fun h6 E6=>?_
  exact uo (s':={ s with heap:=h6,toks:=tk5 }) O.hf nf E6 fun h7 E7=>hX _ e as5 B h7 tk5 (.inr (.inr rfl)) (E7.after C4.1 rfl O.S.off)
theorem xH {t it:Expr}{b:List Stmt}{it':E}{b':List S}{tg:List Nat}{one:Bool}{p:Pos} (IH:bv g c0 call r n) {m:Nat} (IL:j5 g c0 call wf r m) (IX:jS g c0 call wf r m) (ht:tgt (c0.sub names) t=some (tg,one)) (h0:aj n (c0.sub names) it=some it') (h1:aQ (bV m (c0.sub names)) b=some b') :
  eG g c0 call wf r names (.For t it b [] p) (.forS tg one (.e it') b'):=fun env A X s as fr fr' σ σ' x l Q N hA O T ev hX=>by
 refine i9 (fr:=fr) ev fun u τ e1 e2=>?_
 refine rp e2 (fun q=>nomatch q) fun src k hs hl ev=>?_
 refine wpAny_For (IH names it it' h0 env A X s as fr σ τ u _ N hA T e1 fun val as1 k1 tk1 st1 R1 F1 r1=>?_) (jR h0)
 have T1:At g env as1 fr τ { s with heap:=k1,toks:=tk1 }:=⟨F1,R1⟩
 refine lx T1 r1 hs hl fun o T2 it0=>?_
 have nn:=T1.notNew
 have Z:FX g env { s with heap:=k1,toks:=tk1 } k1.objs.size:=⟨fun q=>by
  rcases bQ q with q | ⟨y,q⟩
  ·exact nn.1 q
  ·exact T1.cellNew _ _ q rfl,nn.2.2,new_none _⟩
 exact oE (tk:=tk1) IL IX (FI.li Z) N hA (O.step (up st1) F1) ht h1 ev ⟨⟨bG _ _ _ _,T2.R,T2.F,it0,nn.2.1⟩,.zero⟩ (gt hX (up st1) O.S.off)
set_option tactic.hygienic true in
theorem oO {e:Expr}{y:Str} (h:qg e=some y):∃ np text u p cpos,e=.Call (.Name y np) [.Constant (.str text) u p] [] cpos:=by
 unfold qg at h
 cases q:vw e <;> rw [q] at h <;> first | exact nn h | skip
 obtain ⟨a,h1,h2⟩:=nW h
 obtain ⟨h3,h4⟩:=au h2
 obtain ⟨cpos,hp⟩:=bE q
 obtain ⟨np,h5⟩:=bK h4
 unfold vf at h3
 cases q2:vw a <;> rw [q2] at h3 <;> first | exact ft h3 | skip
 rename_i k
 cases k <;> first | exact ft h3 | skip
 obtain ⟨u,p,h6⟩:=bE q2
 rw [h1,h5,h6] at hp
 exact ⟨np,_,u,p,cpos,hp⟩
end
end Mine
namespace Mine
open PySem PyProof.Rows PySem.W
section
variable {g:Cfg}{K:Frag}{fa:Nat→Option Addr}{c0:CE}{call:Nat→List V→Sto→RE}{wf r n:Nat}{names:List (Str × NameKind)}
theorem xF {t e:Expr}{p:Pos}{st':S} (IX:xl g c0 call r 30) (h:yP (c0.sub names) t e=some st'):eG g c0 call wf r names (.Assign [t] e p) st':=by
 unfold yP at h
 cases q:vw t <;> rw [q] at h <;> first | exact nn h | skip
 ·refine bX h fun i a h1 h2 qx4=>?_; subst qx4
  obtain ⟨xp,rfl⟩:=bE q
  exact yw IX (eX h2).1 (eX h2).2
 ·obtain ⟨h0,h⟩:=au h
  refine bX h fun is a h1 h2 qx4=>?_; subst qx4
  exact fun env A X s as fr fr' σ σ' x l Q N hA O T ev hX=>fg ev
 ·refine d5 h fun o k a h1 h2 h3 qx6=>?_; subst qx6
  exact fun env A X s as fr fr' σ σ' x l Q N hA O T ev hX=>fg ev
 ·refine d5 h fun o k a h1 h2 h3 qx6=>?_; subst qx6
  exact fun env A X s as fr fr' σ σ' x l Q N hA O T ev hX=>fg ev
theorem ou {m:Nat} (G:bC g K c0 fa) (J:bu g) (C:ci g K c0 fa call r) (CX:iH g fa call r) (IL:j5 g c0 call wf r m) (IXL:jS g c0 call wf r m):wX g c0 call wf r (m + 1):=by
 intro names st st' h
 have IH:=(ck G J C 30).1
 have IT:=(ck G J C 30).2
 have IX:=tI G J C CX 30
 cases st with
 | Expr e p=>obtain ⟨h0,h⟩:=au h; refine bT h fun a h1 qx2=>?_; subst qx2; exact xb IX (mK (aP h0)) (eX h1).1 (eX h1).2
 | Return v p=>refine bq h fun e qx1 h=>?_; subst qx1; refine bT h fun a h1 qx2=>?_; subst qx2; exact yE IX (eX h1).1 (eX h1).2
 | Assign ts e p =>
  rcases ts with _ | ⟨t,_ | ⟨t2,ts⟩⟩
  ·exact nn h
  ·exact xF IX h
  ·exact nn h
 | If t b o p=>refine d5 h fun x y z h1 h2 h3 qx6=>?_; subst qx6; exact AD IT IXL h1 h2 h3
 | While t b o p =>
  obtain ⟨h0,h⟩:=au h; refine bX h fun x y h1 h2 qx4=>?_; subst qx4
  exact fun env A X s as fr fr' σ σ' x l Q N hA O T ev hX=>fg ev
 | For t it b o p => 
  obtain ⟨h0,h⟩:=au h; refine d5 h fun x y z h1 h2 h3 qx6=>?_; subst qx6; cases cJ h0
  exact qf (fun t it y=>tgt (c0.sub names) t=some x→eG g c0 call wf r names (.For t it b [] p) (.forS x.1 x.2 y z)) h2 (fun t it a h2 h1=>xH IH IL IXL h1 h2 h3)
   (fun ts k tp fp p1 e a hg hh h2 h1=>fun env A X s as fr fr' σ σ' x l Q N hA O T ev hX=>fg ev)
   (fun ts k tp fp p1 e f a b hg hh h2 h3 h1=>fun env A X s as fr fr' σ σ' x l Q N hA O T ev hX=>fg ev)
   h1
 | Raise v cz p =>
  cases v with
  | none=>cases cz <;> exact nn h
  | some v=>cases cz with
   | some=>exact nn h
   | none =>
    refine bq h fun x h0 h=>?_
    obtain ⟨h1,h⟩:=au h
    obtain ⟨h1,h3⟩:=af h1
    obtain ⟨h3,h4⟩:=af h3
    refine bT h fun a h2 qx2=>?_; subst qx2
    obtain ⟨np,text,u,p,cpos,rfl⟩:=oO h0
    exact uh G (aP h4) h2 h1 (aP h3)
 | Pass p =>
  intro env A X s as fr fr' σ σ' x l Q N hA O T ev hX
  cases Option.some.inj h
  cases (show RS.ok .next fr σ=.ex x fr' σ' from ev)
 | _=>exact nn h
theorem il (G:bC g K c0 fa) (J:bu g) (C:ci g K c0 fa call r) (CX:iH g fa call r):∀ n,wX g c0 call wf r n
 | 0=>fun names st st' h=>nn h
 | n + 1=>ou G J C CX (eT (dh G J C n)) (hY (dh G J C n) (il G J C CX n))
end
section
variable {g:Cfg}{K:Frag}{fa:Nat→Option Addr}{P:Nat→Option Fn}{wf:Nat}
theorem vT {n k x:Nat}{vs:List V} {σ σ':Sto} (ev:evFn P wf (n + 1) k vs σ=.ex x σ'):∃ fn fr',P k=some fn ∧ vs.length=fn.ps.length ∧ evSs (evFn P wf n) wf fn.body (aS fn vs) σ=.ex x fr' σ':=by
 obtain ⟨fn,h1,h2,h3⟩:=p9 ev fun q=>nomatch q
 refine ⟨fn,?_⟩
 cases q:evSs (evFn P wf n) wf fn.body (aS fn vs) σ with
 | ok f fr σ=>rw [q] at h3; cases f <;> cases h3
 | ex y fr σ=>rw [q] at h3; cases h3; exact ⟨fr,h1,h2,rfl⟩
 | bad=>rw [q] at h3; cases h3
theorem mV {cs:CE→Stmt→Option S}{c:CE}{fn:Fn}{A:Around}{as:List Addr} {σ:Sto}{s:Shared}{vs:List V}{n:Nat}{env:Env}{body:List Stmt}{h:Heap}{l:List Env} (E:qo g cs c fn A as σ s vs n env body h) (hfr:A.frames=some l) (S:Stk g as l s.heap):On g env (A.deeper env) as (env :: l) h:=by
 have hm:∀ a,a ∈ Frs (env :: l) ↔ a=env.locals ∨ a ∈ Frs l:=fun a=>by unfold Frs; rw [List.filterMap_cons,E.fr]; exact List.mem_cons
 obtain ⟨m,hm',_⟩:=E.F.ns
 obtain ⟨oL,es,ep,hoL,hdL,_⟩:=id hm'
 have old:∀ a ∈ Frs l,∃ o,s.heap.get? a=some o:=fun a ha=>let ⟨_,o,ho,_⟩:=cS S.fr ha; ⟨o,ho⟩
 have fresh:∀ a ∈ ownOf env,a ∉ Frs l:=fun a ha q=>by obtain ⟨o,ho⟩:=old a q; rw [E.new a ha] at ho; cases ho
 refine ⟨?_,⟨l,rfl⟩,E.fr,fun x c hx q=>?_,⟨⟨?_,⟨env.locals,oL,E.fr,?_,hoL,fun vs q=>by rw [hdL] at q; cases q⟩,S.fr.of_keeps fun b o hb _=>⟨o,E.ext b o hb,rfl⟩⟩,fun a ha=>?_,fun a ha o ho=>?_⟩⟩
 ·show (A.frames.map (env :: ·))=_
  rw [hfr]; rfl
 ·rcases (hm c).mp q with q | q
  ·exact (E.F.offc x c hx).2.1 q
  ·exact fresh c (gH hx) q
 ·rw [E.F.kind]; exact fun q=>nomatch q
 ·cases q:g.b.get? env.locals with
  | none=>rfl
  | some o=>exact absurd (Heap.lt_size q) (Nat.not_lt.mpr E.F.above)
 ·rcases (hm a).mp ha with q | q
  ·rw [q]; exact E.F.off
  ·exact S.off a q
 ·rcases (hm a).mp ha with q | q
  ·rw [q] at ho; exact E.F.notImm _ (.head _) o ho
  ·obtain ⟨o',ho'⟩:=old a q
   have:=E.ext a o' ho'
   rw [ho] at this; cases this
   exact S.dict a q o ho'
theorem oF (c:Nat→CE) (hT:∀ k a,fa k=some a→(c k).top=none ∧ (c k).tfns=[]) (G:∀ k a,fa k=some a→bC g K (c k) fa) (J:bu g) (hlim:g.b.NoLimit) (hP:∀ k a,fa k=some a→P k=aH K (c k) a) {n:Nat} (C:dX g fa (evFn P wf n) (2 * n)) (CX:iH g fa (evFn P wf n) (2 * n)):iH g fa (evFn P wf (n + 1)) (2 * (n + 1)):=by
 intro k a vs σ σ' x hfa ev A s as xs l R hA hfr S R0 hsz r0 hR
 obtain ⟨fn,fr',hfn,hlen,he⟩:=vT ev
 have Gk:=G k a hfa
 refine je Gk.kin hlim (.inl (hT k a hfa).1) ((hP k a hfa).symm.trans hfn) hlen hA R0 hsz r0 fun env body h tk E=>?_
 have O:=mV E hfr S
 have nf:∀ (b:Addr) (o:Obj),h.get? b=some o→b ∈ Frs (env :: l)→∀ vs,o.data ≠ .fields vs:=fun b o hb hm=>by
  obtain ⟨_,o',ho',hn⟩:=cS O.S.fr hm
  rw [hb] at ho'; cases ho'; exact hn
 refine hY (dh Gk J ⟨C,dg (hT k a hfa)⟩ 20) (il Gk J ⟨C,dg (hT k a hfa)⟩ CX 20) _ body fn.body E.comp _ _ _ { s with heap:=h,toks:=tk } as _ fr' σ σ' x _ _ E.N E.room O ⟨E.F,E.R⟩ he fun fl e as2 B h2 tk2 hfl XE=>?_
 exact sf (s':={ s with heap:=h2,toks:=tk2 }) O.hfr E.fr nf E.ext E.new (E.new _ (.head _)) XE hfl fun h3 XC=>hR e as2 B h3 tk2 XC
theorem kO (c:Nat→CE) (hT:∀ k a,fa k=some a→(c k).top=none ∧ (c k).tfns=[]) (G:∀ k a,fa k=some a→bC g K (c k) fa) (J:bu g) (hlim:g.b.NoLimit) (hP:∀ k a,fa k=some a→P k=aH K (c k) a):∀ n,iH g fa (evFn P wf n) (2 * n)
 | 0=>fun k a vs σ σ' x hfa ev=>nomatch ev
 | n + 1=>oF c hT G J hlim hP (gz c hT G J hlim hP n) (kO c hT G J hlim hP n)
end
end Mine
namespace Mine
open PySem PyProof.Rows PySem.W
section
variable {prog:Program}{w:World}{A:Around}{E:Value→Shared→Prop}{s:Shared}{K:Frag}{e D P:Addr}{ox:Obj}
theorem r9 {ds:List Nat}{Q:Bool→Shared→Prop} (X:K.In s.heap) (ho:s.heap.get? e=some ox) (hc:ox.cls=.ref D) (hk:lH K P ds=true) (hD:D ∈ ds) (h:Q true s):wpAny (model prog w) A (excMatches (.ref e) (.ref P)) Q E s:=by
 obtain ⟨k0,hk⟩:=af hk
 obtain ⟨k1,hk⟩:=af hk
 obtain ⟨k2,hk⟩:=af hk
 obtain ⟨k3,k4⟩:=af hk
 have k5:=eq_of_beq (List.all_eq_true.mp k4 D hD)
 have L1:Looks (model prog w) s.heap (isInstance (.ref P) (.type "tuple")) false:=(looks_typeIn X (eq_of_beq k1)).andThen (looks_subIn X (eq_of_beq k2))
 have L2:Looks (model prog w) s.heap (isType (.ref P)) true:=fR X k0
 have L3:Looks (model prog w) s.heap (isSubtype (.ref P) (.type "BaseException")) true:=looks_subIn X (eq_of_beq k3)
 have L4:Looks (model prog w) s.heap (typeOf (.ref e)) (.ref D):=hc ▸ (Looks.ld ho).andThen .now
 have L5:Looks (model prog w) s.heap (isSubtype (.ref D) (.ref P)) true:=looks_subIn X k5
 obtain ⟨hh,g,d,t,os⟩:=s
 unfold excMatches
 refine wpAny_bind (L1.at ?_)
 rw [if_neg Bool.false_ne_true]
 refine wpAny_bind (wpAny_pure ?_)
 unfold isExcClass
 simp only [List.forIn_cons,List.forIn_nil]
 refine wpAny_bind (wpAny_bind (wpAny_bind (wpAny_bind (L2.at ?_))))
 rw [if_pos rfl]
 refine L3.at ?_
 simp only [Bool.not_true,Bool.false_eq_true,if_false]
 refine wpAny_pure (wpAny_pure (wpAny_bind (L4.at (wpAny_bind (wpAny_bind (wpAny_bind (L5.at ?_)))))))
 rw [if_pos rfl]
 exact wpAny_pure (wpAny_pure (wpAny_pure h))
end
section
variable {g:Cfg}{K:Frag}{fa:Nat→Option Addr}{c0:CE}{call callH:Nat→List V→Sto→RE}{env:Env}{A:Around}{X:Value→Shared→Prop}{s:Shared}{as:List Addr}{fr fr':Fra} {σ σ':Sto}{wf r x:Nat}{names:List (Str × NameKind)}{l:List Env}
theorem zd {n:Str}{i:Nat}{pos:Pos}{Q:Unit→Shared→Prop} (T:At g env as fr σ s) (N:aq (c0.sub names) env A) (hl:names.lookup n=some .local) (hi:(c0.sub names).locW? n=some i) (hQ:iN g env (ownOf env) as σ s (fr.set i none) Q) :
  wpAny (model g.prog g.w) A (do bindName env n .none; unbindBehindTheSuite env n pos) Q X s:=by
 obtain ⟨k,h1,h2⟩:=gu hi
 obtain ⟨k',h3,h4⟩:=N.get h1
 have hkl:k=.local:=by
  obtain ⟨j,j1,j2⟩:=bp hl
  unfold CE.locW? at hi
  rw [show (c0.sub names).names.lookup n=some .local from hl] at hi
  have:names.findIdx? (fun p=>p.1 == n)=some i:=hi
  rw [j1] at this; cases this
  have h1:names[i]?=some (n,k):=h1
  rw [j2] at h1; cases h1; rfl
 subst hkl
 have hk:k'=.local:=by
  rcases h4 with h4 | h4
  ·exact h4.symm
  ·cases h4.1
 subst hk
 obtain ⟨m,hm,hv⟩:=T.F.ns
 refine wpAny_nameGoes_keeps (be T.F.nd h3) hm (by rw [T.F.kind]; rfl) fun h' v hns hs=>?_
 have kk:∀ (b:Addr) (o:Obj),b ≠ env.locals→s.heap.get? b=some o→h'.get? b=some o:=fun b o hb e=>by rw [hs.2 b hb]; exact e
 have hLb:g.b.get? env.locals=none:=by
  cases e:g.b.get? env.locals with
  | none=>rfl
  | some o=>exact absurd (Heap.lt_size e) (Nat.not_lt.mpr T.F.above)
 obtain ⟨KK,R'⟩:=T.R.other kk T.F.off hLb (fun o e=>T.F.notImm _ (.head _) o e)
 refine hQ as h' _ ⟨⟨[],by simp,by simp⟩,fun b o e hb _=>kk b o (fun q=>hb (by rw [q]; exact .head _)) e⟩ KK R' ?_
 refine ⟨T.F.kind,T.F.above,T.F.glob,T.F.blt,by rw [List.length_set]; exact T.F.len,T.F.nd,⟨_,hns,fun j y w e1 e2=>?_⟩,fun j y kd e1 e2=>?_,T.F.off,fun y c' hc'=>⟨(T.F.offc _ _ hc').1,(T.F.offc _ _ hc').2.1,?_⟩,T.F.apart,T.F.newc⟩
 ·have hij:i ≠ j:=fun q=>by
   subst q
   by_cases hlt:i < fr.length
   ·rw [List.getElem?_set_self hlt] at e2; cases e2
   ·rw [List.getElem?_eq_none (by rw [List.length_set]; exact Nat.le_of_not_lt hlt)] at e2; cases e2
  rw [List.getElem?_set_ne hij] at e2
  obtain ⟨val,q1,q2⟩:=hv j y w e1 e2
  have hy:y ≠ n:=fun q=>by subst q; exact hij (gO T.F.nd h3 e1)
  exact ⟨val,by rw [if_neg hy]; exact q1,RepV.keep KK _ _ q2⟩
 ·obtain ⟨cc,cv,q1,⟨o,q2,q2'⟩,q3⟩:=T.F.cells j y kd e1 e2
  have hij:i ≠ j:=fun q=>by subst q; rw [h3] at e1; cases e1; rcases e2 with e2 | e2 <;> cases e2
  refine ⟨cc,cv,q1,⟨o,kk _ _ (T.F.offc _ _ q1).2.1 q2,q2'⟩,fun w e=>?_⟩
  rw [List.getElem?_set_ne hij] at e
  obtain ⟨val',q4,q5⟩:=q3 w e
  exact ⟨val',q4,RepV.keep KK _ _ q5⟩
 ·obtain ⟨cv,o,e,e'⟩:=(T.F.offc _ _ hc').2.2
  exact ⟨cv,o,kk _ _ (T.F.offc _ _ hc').2.1 e,e'⟩
theorem kS.stk {as':List Addr}{h h' B:Heap}{C e:Addr}{fl:Option Value}{fr':Fra} {σ':Sto} (S:Stk g as l h) (E:kS g env l (ownOf env) as h C fl fr' σ' e as' B h') (hc:∀ x c,env.cells.lookup x=some c→c ∉ Frs l):Stk g as' l h':=by
 have F:=E.F.rel E.fly.stays
 refine ⟨iP (fun a ha o ho hd=>?_) S.fr,fun a ha q=>?_,fun a ha o ho=>?_⟩
 ·obtain ⟨_,o',ho',hd'⟩:=cS E.fly.frames ha
  exact ⟨o',ho',hd'⟩
 ·obtain ⟨t,rfl,ht⟩:=E.pre
  rcases List.mem_append.mp q with q | q
  ·exact S.off a ha q
  ·obtain ⟨_,o,ho,_⟩:=cS S.fr ha
   rw [ht a q] at ho; cases ho
 ·obtain ⟨_,o',ho',_⟩:=cS S.fr ha
  by_cases hown:a ∈ ownOf env
  ·rcases bQ hown with q | ⟨x,q⟩
   ·rw [q] at ho; exact F.notImm _ (.head _) o ho
   ·exact absurd ha (hc x a q)
  ·obtain ⟨sl,hsl⟩:=E.slots a o' ho' ha hown
   rw [hsl] at ho; cases ho
   exact fun im=>S.dict a ha o' ho' im
noncomputable def Cfg.with (g:Cfg) (a:Addr):Cfg:={ g with hd:=some a }
theorem ay.with {h:Heap}{a:Addr} (F:ay g env as fr h):ay (g.with a) env as fr h:=⟨F.kind,F.above,F.glob,F.blt,F.len,F.nd,F.ns,F.cells,F.off,F.offc,F.apart,F.newc⟩
theorem ay.out {h:Heap}{a:Addr} (F:ay (g.with a) env as fr h):ay g env as fr h:=⟨F.kind,F.above,F.glob,F.blt,F.len,F.nd,F.ns,F.cells,F.off,F.offc,F.apart,F.newc⟩
theorem Rel.with {h:Heap}{a:Addr} (R:Rel g as σ h) (H:Hnd (some a) h):Rel (g.with a) as σ h:=⟨R.base,R.len,R.nd,R.new,fun i b o h1 h2=>R.obj i b o h1 h2,H⟩
theorem Rel.out {h:Heap}{a:Addr} (R:Rel (g.with a) as σ h) (hh:g.hd=none):Rel g as σ h:=⟨R.base,R.len,R.nd,R.new,fun i b o h1 h2=>R.obj i b o h1 h2,fun b q=>by rw [hh] at q; cases q⟩
theorem bC.with {a:Addr}{c:CE} (G:bC g K c fa) (h1:c.hnd=true) (h2:c.lam=none):bC (g.with a) K c fa :=
 ⟨⟨G.sys.1⟩,G.kin,G.const,G.fn,G.cls,G.clsO,G.blt,G.typ,G.set,G.rev,
 G.en,
 G.zp,
 G.sorted,(fun q=>by rw [h1] at q; cases q),⟨G.exc.k,G.exc.i,G.exc.r,G.exc.o,G.exc.v,G.exc.w,G.exc.p⟩,G.isi,G.att,G.hasD,G.setA,(fun x q=>by rw [h2] at q; cases q),G.mth⟩
def cF (l:List Env) (own:List Addr) (h h':Heap):Prop:=∀ (b:Addr) (o:Obj),h.get? b=some o→b ∈ Frs l→b ∉ own→∃ sl,h'.get? b=some { o with slots:=sl }
theorem cF.of_step {own as':List Addr}{h h':Heap} (st:aC own as h as' h') (off:∀ a ∈ Frs l,a ∉ as):cF l own h h':=fun b o hb hm ho=>⟨o.slots,st.ext b o hb ho (off b hm)⟩
theorem cF.trans {own:List Addr}{h h' h2:Heap} (x:cF l own h h') (y:cF l own h' h2):cF l own h h2:=fun b o hb hm ho =>
 let ⟨_,h1⟩:=x b o hb hm ho
 let ⟨sl,h3⟩:=y b _ h1 hm ho
 ⟨sl,h3⟩
noncomputable def lZ (g:Cfg) (env:Env) (l:List Env) (as:List Addr) (s:Shared) (fl:Fl) (fr':Fra) (σ':Sto) (Q:Flow→Shared→Prop):Prop :=
 ∀ (f:Flow) (as':List Addr) (h':Heap) (tk:Nat),gc as' h' fl f→aC (ownOf env ++ Frs l) as s.heap as' h'→Rel g as' σ' h'→ay g env as' fr' h'→Stk g as' l h'→cF l (ownOf env) s.heap h'→Q f { s with heap:=h',toks:=tk }
theorem oQ {as as':List Addr}{h h':Heap}{fl:Fl}{f:Flow} (k:bR as h as' h') (hf:gc as h fl f):gc as' h' fl f:=by
 cases fl with
 | ret v=>obtain ⟨val,e,r⟩:=hf; exact ⟨val,e,RepV.keep k _ _ r⟩
 | _=>exact hf
theorem yi {b h:List Stmt}{h0:Stmt}{b' h':List S}{n pn:Str}{i:Nat}{P:Addr}{pp hp pos:Pos}{fr1 fr2:Fra} {σ1 σ2:Sto}{fl:Fl}{Q:Flow→Shared→Prop} (G:bC g K c0 fa) (hh:g.hd=none) (IX:jS g c0 call wf r 20) (HL:∀ a,j5 (g.with a) c0.hand callH wf r 20)
  (hpe:c0.pe=some (pn,P)) (hg:(c0.sub names).glob pn=true) (hd:(pn == ("__debug__":Str))=false) (hl:names.lookup n=some .local) (hi:(c0.sub names).locW? n=some i)
  (h1:aQ (bV 20 (c0.sub names)) b=some b') (h2:aQ (bV 20 (c0.hand.sub names)) (h0 :: h)=some h') (N:aq (c0.sub names) env A) (hA:cb g A (r + 1)) (O:On g env A as l s.heap) (T:At g env as fr σ s)
  (e1:evSs call wf b' fr σ=.ex x fr1 σ1) (hx:x ∈ c0.excs.map (·.2)) (e2:evSs callH wf h' (fr1.set i (some (.exc x))) σ1=.ok fl fr2 σ2) (hQ:lZ g env l as s fl (fr2.set i none) σ2 Q) :
  wpAny (model g.prog g.w) A (exec (.Try b [.ExceptHandler (some (.Name pn pp)) (some n) (h0 :: h) hp] [] [] pos) env) Q X s:=by
 obtain ⟨hPV,hcat⟩:=G.exc.p pn P hpe
 refine wpAny_Try_except (IX names b b' h1 env A _ s as fr fr1 σ σ1 x l _ N hA O T e1 fun fl0 e as1 B h1' tk1 hfl E=>?_)
 have nf:∀ (b:Addr) (o:Obj),s.heap.get? b=some o→b ∈ Frs l→∀ vs,o.data ≠ .fields vs:=fun b o hb hm=>by
  obtain ⟨_,o',ho',hn⟩:=cS O.S.fr hm
  rw [hb] at ho'; cases ho'; exact hn
 have at_:∀ {fl:Option Value}{h':Heap},kS g env l (ownOf env) as s.heap x fl fr1 σ1 e as1 B h'→∀ tk,At g env as1 fr1 σ1 { s with heap:=h',toks:=tk }:=fun E tk=>⟨E.F.rel E.fly.stays,E.R.ext E.fly.stays⟩
 obtain ⟨outer,hlo⟩:=O.top
 have hfr:=O.hfr
 have fly:=E.fly
 rw [hlo] at hfr fly
 refine lW (s:={ s with heap:=h1',toks:=tk1 }) hfr O.hf fly hfl fun h2' F2 u2=>?_
 rw [← hlo] at F2
 have E2:=E.fly' F2 u2 nf
 refine fb (s:={ s with heap:=h2',toks:=tk1 }) (o:=none) F2 fun h3' F3 u3=>?_
 have E3:=E2.fly' F3 u3 nf
 have T3:=at_ E3 tk1
 obtain ⟨oe,vs,he,hn0,hc,hdt,hv2,_⟩:=F3.st
 have Nm:aq (c0.sub names) env (A.mark (some (.ref e))):=⟨N.f2,N.code,N.top⟩
 refine wpAny_handleBy_cons (codeAny_handlers_test (cy T3 Nm hg hd hPV ?_)) (fun q=>nomatch q)
 refine r9 (s:={ s with heap:=h3',toks:=tk1 }) (G.kin.keeps T3.R.base) he hc hcat hx ?_
 show codeAny _ _ (.handlers (.ref e) [.ExceptHandler none (some n) (h0 :: h) hp] env) _ _
 refine codeAny_handlers_suite_as (fb (s:={ s with heap:=h3',toks:=tk1 }) (o:=none) F3 fun h4 F4 u4=>?_)
 have E4:=E3.fly' F4 u4 nf
 have T4:=at_ E4 tk1
 obtain ⟨oe,vs,he,hn0,hc,hdt,hv2,_⟩:=F4.st
 have st4:aC (ownOf env ++ Frs l) as s.heap as1 h4:=⟨E4.pre,fun b o hb h1 h2=>F4.stays b o (E4.ext b o hb (fun q=>h1 (List.mem_append_left _ q)) h2 fun q=>h1 (List.mem_append_right _ q))⟩
 have O4:On g env A as1 l h4:=⟨O.hfr,O.top,O.hf,O.hc,E4.stk O.S O.hc⟩
 refine gE (own:=ownOf env) (s:={ s with heap:=h4,toks:=tk1 }) T4 Nm (eW _ _) hi (v:=.exc x) (by rw [RepV]; exact ⟨e,oe,vs,rfl,he,hn0,hc,hdt⟩) fun as5 h5 tk5 st5 K5 R5 F5=>?_
 have H5:Hnd (some e) h5:=fun a q=>by
  cases q
  exact ⟨oe,x,vs,K5.ref he (l8 hc hdt) (fun q=>nomatch hc.symm.trans q),hc,hdt,hv2⟩
 have O5:=O4.step st5 F5
 refine HL e names (h0 :: h) h' h2 env _ _ { s with heap:=h5,toks:=tk5 } as5 _ fr2 σ1 σ2 fl _ ⟨N.f2,(fun a q=>nomatch q),fun q=>nomatch q⟩ ⟨hA.units,hA.depth,rfl⟩ ⟨F5.with,R5.with H5⟩ e2 fun f as6 h6 tk6 hf st6 R6 F6=>?_
 have R6':=R6.out hh
 have O6:=O5.step st6 F6.out
 refine zd (s:={ s with heap:=h6,toks:=tk6 }) ⟨F6.out,R6'⟩ N hl hi fun as7 h7 tk7 st7 K7 R7 F7=>?_
 have O7:=O6.step st7 F7
 have off:∀ {as':List Addr}{fr':Fra}{h':Heap},ay g env as' fr' h'→On g env A as' l h'→∀ a ∈ ownOf env ++ Frs l,a ∉ as':=fun F O a ha=>(List.mem_append.mp ha).elim (F.offs a) (O.S.off a)
 have gr:∀ {as as':List Addr}{h h':Heap},aC (ownOf env) as h as' h'→aC (ownOf env ++ Frs l) as h as' h':=fun st=>st.grow fun a ha=>List.mem_append_left _ ha
 exact hQ f as7 h7 tk7 (oQ K7 hf) (((st4.trans (gr st5) R5.nd (off F5 O5)).trans (gr st6) R6'.nd (off F6.out O6)).trans (gr st7) R7.nd (off F7 O7)) R7 F7 O7.S (((cF.trans E4.slots (.of_step st5 O4.S.off)).trans (.of_step st6 O5.S.off)).trans (.of_step st7 O6.S.off))
end
end Mine
namespace Mine
open PySem PyProof.Rows PySem.W
inductive xW (c:CE) (a:S):Stmt→Prop
 | plain {st:Stmt} (h:bV 20 c st=some a) (h0:jA a=none):xW c a st
 | try {b:List Stmt}{pn n:Str}{pp hp p:Pos}{s0:Stmt}{hb:List Stmt}{b' h':List S}{i:Nat}{P:Addr} (q2:c.pe=some (pn,P)) (q4:c.glob pn=true) (q5:(pn == ("__debug__":Str))=false) (q6:c.names.lookup n=some .local) (q7:aQ (bV 20 c) b=some b') (q8:c.locW? n=some i) (q9:aQ (bV 20 c.hand) (s0 :: hb)=some h') (h0:jA a=some (b',c.excs.map (·.2),i,h')) :
  xW c a (.Try b [.ExceptHandler (some (.Name pn pp)) (some n) (s0 :: hb) hp] [] [] p)
theorem zj {c:CE}{st:Stmt}{a:S} (h:((bV 20 c st).bind fun a=>gd (jA a).isNone (some a))=some a):xW c a st:=by
 refine bq h fun b h1 h2=>?_
 obtain ⟨h2,h3⟩:=au h2
 cases Option.some.inj h3
 exact .plain h1 (Option.isNone_iff_eq_none.mp h2)
theorem BS {c:CE}{b:List Stmt}{hs:List ExceptHandler}{p:Pos}{a:S} (h1:A7 c b hs=some a):xW c a (.Try b hs [] [] p):=by
 rcases hs with _ | ⟨⟨t,nm,hb,hp⟩,_ | ⟨h3,hs⟩⟩
 ·exact nn h1
 ·cases t with
  | none=>exact nn h1
  | some t=>cases nm with
   | none=>exact nn h1
   | some nm=>cases hb with
    | nil=>exact nn h1
    | cons s0 hb =>
     refine bq h1 fun pn q1 h1=>?_
     refine bq h1 fun pp q2 h1=>?_
     obtain ⟨q3,h1⟩:=au h1
     obtain ⟨q3,q4⟩:=af q3
     obtain ⟨q4,q5⟩:=af q4
     obtain ⟨q5,q6⟩:=af q5
     refine d5 h1 fun b' i h' q7 q8 q9 qx6=>?_; subst qx6
     obtain ⟨np,rfl⟩:=bK q1
     obtain ⟨p1,P⟩:=pp
     have e1:pn=p1:=eq_of_beq q3
     subst e1
     exact .try q2 q4 (aP q5) (eq_of_beq q6) q7 q8 q9 rfl
 ·cases t <;> cases nm <;> cases hb <;> exact nn h1
theorem wD {c:CE}{st:Stmt}{a:S} (h:mH c st=some a):xW c a st:=by
 cases st with
 | Try b hs o fin p =>
  obtain ⟨h0,h1⟩:=au (show gd (o.isEmpty && fin.isEmpty) (A7 c b hs)=some a from h)
  obtain ⟨ho,hfin⟩:=af h0
  cases cJ ho; cases cJ hfin
  exact BS h1
 | _=>exact zj h
section
variable {g:Cfg}{K:Frag}{fa:Nat→Option Addr}{c0:CE}{call callH:Nat→List V→Sto→RE}{env:Env}{A:Around}{X:Value→Shared→Prop}{s:Shared}{as as1:List Addr}{fr fr1 fr':Fra} {σ σ1 σ':Sto}{wf r x:Nat}{names:List (Str × NameKind)}{l:List Env}{fl:Fl}{Q:Flow→Shared→Prop}{h1:Heap}
theorem qh (F:ay g env as fr h1) (S:Stk g as l h1):∀ a ∈ ownOf env ++ Frs l,a ∉ as:=fun a ha=>(List.mem_append.mp ha).elim (F.offs a) (S.off a)
theorem ue {tk:Nat} (hQ:lZ g env l as s fl fr' σ' Q) (x:aC (ownOf env ++ Frs l) as s.heap as1 h1) (sl:cF l (ownOf env) s.heap h1):lZ g env l as1 { s with heap:=h1,toks:=tk } fl fr' σ' Q :=
 fun f as2 h2 tk2 hf st R2 F2 S2 L2=>hQ f as2 h2 tk2 hf (x.trans st R2.nd (qh F2 S2)) R2 F2 S2 (sl.trans L2)
noncomputable def Bu (g:Cfg) (c0:CE) (call callH:Nat→List V→Sto→RE) (wf r:Nat) (names:List (Str × NameKind)) (sts:List Stmt):Prop :=
 ∀ (sts':List S),aQ (mH (c0.sub names)) sts=some sts' →
 ∀ (env:Env) (A:Around) (X:Value→Shared→Prop) (s:Shared) (as:List Addr) (fr fr':Fra) (σ σ':Sto) (fl:Fl) (l:List Env) (Q:Flow→Shared→Prop),
  aq (c0.sub names) env A→cb g A (r + 1)→On g env A as l s.heap→At g env as fr σ s→evT call callH wf sts' fr σ=.ok fl fr' σ'→lZ g env l as s fl fr' σ' Q→wpAny (model g.prog g.w) A (execs sts env) Q X s
set_option backward.match.sparseCases false in
noncomputable def zJ (f:Fl) (r:RS) (fr:Fra) (σ:Sto):RS:=match f with | .next=>r | f=>.ok f fr σ
set_option backward.match.sparseCases false in
theorem rC {a:S}{ss:List S}{G:Prop} (h0:jA a=none) (ev:evT call callH wf (a :: ss) fr σ=.ok fl fr' σ') (k:∀ f0 fr1 σ1,evS call wf a fr σ=.ok f0 fr1 σ1→zJ f0 (evT call callH wf ss fr1 σ1) fr1 σ1=.ok fl fr' σ'→G):G:=by
 have e:(match jA a with
  | some t=>(match evSs call wf t.1 fr σ with
   | .ok f fr σ=>(match f with | .next=>evT call callH wf ss fr σ | f=>.ok f fr σ)
   | .ex x fr σ=>if t.2.1.contains x ∧ t.2.2.1 < fr.length then (match evSs callH wf t.2.2.2 (fr.set t.2.2.1 (some (.exc x))) σ with
    | .ok f fr σ=>(match f with | .next=>evT call callH wf ss (fr.set t.2.2.1 none) σ | f=>.ok f (fr.set t.2.2.1 none) σ)
    | _=>.bad) else .bad
   | .bad=>.bad)
  | none=>(match evS call wf a fr σ with
   | .ok f fr σ=>(match f with | .next=>evT call callH wf ss fr σ | f=>.ok f fr σ)
   | _=>.bad))=.ok fl fr' σ':=ev
 rw [h0] at e
 have e:(match evS call wf a fr σ with
   | .ok f fr σ=>(match f with | .next=>evT call callH wf ss fr σ | f=>.ok f fr σ)
   | _=>.bad)=.ok fl fr' σ':=e
 generalize evS call wf a fr σ=r at e k
 cases r with
 | ok f fr σ=>exact k _ _ _ rfl e
 | ex x fr σ=>exact nomatch (show RS.bad=_ from e)
 | bad=>exact nomatch (show RS.bad=_ from e)
set_option backward.match.sparseCases false in
theorem wJ {a:S}{ss:List S}{t:List S × List Nat × Nat × List S}{G:Prop} (h0:jA a=some t) (ev:evT call callH wf (a :: ss) fr σ=.ok fl fr' σ') (k:∀ f0 fr1 σ1,evSs call wf t.1 fr σ=.ok f0 fr1 σ1→zJ f0 (evT call callH wf ss fr1 σ1) fr1 σ1=.ok fl fr' σ'→G)
  (kx:∀ x fr1 σ1 f0 fr2 σ2,evSs call wf t.1 fr σ=.ex x fr1 σ1→t.2.1.contains x=true→evSs callH wf t.2.2.2 (fr1.set t.2.2.1 (some (.exc x))) σ1=.ok f0 fr2 σ2→zJ f0 (evT call callH wf ss (fr2.set t.2.2.1 none) σ2) (fr2.set t.2.2.1 none) σ2=.ok fl fr' σ'→G):G:=by
 have e:(match jA a with
  | some t=>(match evSs call wf t.1 fr σ with
   | .ok f fr σ=>(match f with | .next=>evT call callH wf ss fr σ | f=>.ok f fr σ)
   | .ex x fr σ=>if t.2.1.contains x ∧ t.2.2.1 < fr.length then (match evSs callH wf t.2.2.2 (fr.set t.2.2.1 (some (.exc x))) σ with
    | .ok f fr σ=>(match f with | .next=>evT call callH wf ss (fr.set t.2.2.1 none) σ | f=>.ok f (fr.set t.2.2.1 none) σ)
    | _=>.bad) else .bad
   | .bad=>.bad)
  | none=>(match evS call wf a fr σ with
   | .ok f fr σ=>(match f with | .next=>evT call callH wf ss fr σ | f=>.ok f fr σ)
   | _=>.bad))=.ok fl fr' σ':=ev
 rw [h0] at e
 have e:(match evSs call wf t.1 fr σ with
   | .ok f fr σ=>(match f with | .next=>evT call callH wf ss fr σ | f=>.ok f fr σ)
   | .ex x fr σ=>if t.2.1.contains x ∧ t.2.2.1 < fr.length then (match evSs callH wf t.2.2.2 (fr.set t.2.2.1 (some (.exc x))) σ with
    | .ok f fr σ=>(match f with | .next=>evT call callH wf ss (fr.set t.2.2.1 none) σ | f=>.ok f (fr.set t.2.2.1 none) σ)
    | _=>.bad) else .bad
   | .bad=>.bad)=.ok fl fr' σ':=e
 generalize evSs call wf t.1 fr σ=r at e k kx
 cases r with
 | ok f fr σ=>exact k _ _ _ rfl e
 | ex x fr1 σ1 =>
  by_cases hx:t.2.1.contains x ∧ t.2.2.1 < fr1.length
  ·have e:=(if_pos hx).symm.trans e
   have kx:=kx x fr1 σ1
   generalize evSs callH wf t.2.2.2 (fr1.set t.2.2.1 (some (.exc x))) σ1=r at e kx
   cases r with
   | ok f fr σ=>exact kx _ _ _ rfl hx.1 rfl e
   | ex x fr σ=>exact nomatch (show RS.bad=_ from e)
   | bad=>exact nomatch (show RS.bad=_ from e)
  ·exact nomatch (if_neg hx).symm.trans e
 | bad=>exact nomatch (show RS.bad=_ from e)
theorem lO {sts:List Stmt}{sts':List S}{f0:Fl}{f:Flow}{tk:Nat} (ih:Bu g c0 call callH wf r names sts) (h2:aQ (mH (c0.sub names)) sts=some sts') (N:aq (c0.sub names) env A) (hA:cb g A (r + 1)) (O:On g env A as l s.heap)
  (e:zJ f0 (evT call callH wf sts' fr1 σ1) fr1 σ1=RS.ok fl fr' σ') (hQ:lZ g env l as s fl fr' σ' Q) (hf:gc as1 h1 f0 f) (st:aC (ownOf env ++ Frs l) as s.heap as1 h1) (R1:Rel g as1 σ1 h1) (F1:ay g env as1 fr1 h1) (S1:Stk g as1 l h1) (L1:cF l (ownOf env) s.heap h1) :
  (match (generalizing:=false) f with | .next=>wpAny (model g.prog g.w) A (execs sts env) Q X { s with heap:=h1,toks:=tk } | f=>Q f { s with heap:=h1,toks:=tk }):=by
 cases f0 with
 | next =>
  have:f=.next:=hf
  subst this
  exact ih sts' h2 env A X { s with heap:=h1,toks:=tk } as1 fr1 fr' σ1 σ' fl l Q N hA ⟨O.hfr,O.top,O.hf,O.hc,S1⟩ ⟨F1,R1⟩ e (ue hQ st L1)
 | brk=>cases (show f=.brk from hf); exact gC (Ψ:=fun fl fr' σ'=>lZ g env l as s fl fr' σ' Q) (show RS.ok .brk fr1 σ1=RS.ok fl fr' σ' from e) hQ _ as1 h1 tk rfl st R1 F1 S1 L1
 | cont=>cases (show f=.cont from hf); exact gC (Ψ:=fun fl fr' σ'=>lZ g env l as s fl fr' σ' Q) (show RS.ok .cont fr1 σ1=RS.ok fl fr' σ' from e) hQ _ as1 h1 tk rfl st R1 F1 S1 L1
 | ret v =>
  cases (show RS.ok (.ret v) fr1 σ1=RS.ok fl fr' σ' from e)
  have hf':=hf
  obtain ⟨val,hv,_⟩:=hf
  subst hv
  exact hQ _ as1 h1 tk hf' st R1 F1 S1 L1
set_option backward.match.sparseCases false in
theorem BI (G:bC g K c0 fa) (hh:g.hd=none) (IS:xm g c0 call wf r 20) (IX:jS g c0 call wf r 20) (HL:∀ a,j5 (g.with a) c0.hand callH wf r 20) (sts:List Stmt):Bu g c0 call callH wf r names sts:=by
 induction sts with
 | nil =>
  intro sts' h env A X s as fr fr' σ σ' fl l Q N hA O T ev hQ
  rw [aQ] at h; cases h
  cases ev
  exact wpAny_execs_nil (hQ .next as s.heap s.toks rfl (aC.refl _ _ _) T.R T.F O.S (.of_step (aC.refl _ as _) O.S.off))
 | cons st sts ih =>
  intro sts' h env A X s as fr fr' σ σ' fl l Q N hA O T ev hQ
  refine cn h fun a as' h1 h2 qx4=>?_; subst qx4
  refine wpAny_execs_cons ?_
  have gr:∀ {as as':List Addr}{h h':Heap},aC (ownOf env) as h as' h'→aC (ownOf env ++ Frs l) as h as' h':=fun st=>st.grow fun a ha=>List.mem_append_left _ ha
  cases wD h1 with
  | plain h1 h0 =>
   exact rC h0 ev fun f0 fr1 σ1 q ev=>IS names st a h1 env A X s as fr fr1 σ σ1 f0 _ N hA T q fun f as1 k1 tk1 hf st1 R1 F1=>lO ih h2 N hA O ev hQ hf (gr st1) R1 F1 (O.step st1 F1).S (.of_step st1 O.S.off)
  | «try» q2 q4 q5 q6 q7 q8 q9 h0 =>
   refine wJ h0 ev (fun f0 fr1 σ1 q ev=>?_) fun x fr1 σ1 f0 fr2 σ2 q hx q' ev=>yi G hh IX HL q2 q4 q5 q6 q8 q7 q9 N hA O T q (List.contains_iff_mem.mp hx) q' fun f as1 k1 tk1 hf st1 R1 F1 S1 L1=>lO ih h2 N hA O ev hQ hf st1 R1 F1 S1 L1
   refine wpAny_Try_except (eT IS names _ _ q7 env A _ s as fr fr1 σ σ1 f0 _ N hA T q fun f as1 k1 tk1 hf st1 R1 F1=>?_)
   have k:=lO (tk:=tk1) (X:=X) ih h2 N hA O ev hQ hf (gr st1) R1 F1 (O.step st1 F1).S (.of_step st1 O.S.off)
   cases f with
   | next=>exact wpAny_execs_nil k
   | _=>exact k
end
section
variable {g:Cfg}{K:Frag}{fa:Nat→Option Addr}{call callH:Nat→List V→Sto→RE}{wf n:Nat}
noncomputable def mJ (K:Frag) (c:CE) (a:Addr):Option Fn:=pA mH K c a
theorem Ay {c:CE}{a:Addr}{fn:Fn}{vs:List V} {σ σ':Sto}{A:Around}{s:Shared}{as:List Addr}{xs:List Value}{fl:Fl}{fr':Fra}{v:V}{l:List Env}{R:Result→Shared→Prop} (G:bC g K c fa) (hh:g.hd=none) (hT:c.top=none) (hlim:g.b.NoLimit) (IS:xm g c call wf (2 * n) 20) (IX:jS g c call wf (2 * n) 20) (HL:∀ a,j5 (g.with a) c.hand callH wf (2 * n) 20)
  (hfn:mJ K c a=some fn) (hlen:vs.length=fn.ps.length) (he:evT call callH wf fn.body (aS fn vs) σ=.ok fl fr' σ') (hr:rQ fl v) (hA:cb g A (2 * (n + 1))) (hfr:A.frames=some l) (S:Stk g as l s.heap) (R0:Rel g as σ s.heap) (hsz:g.b.objs.size ≤ s.heap.objs.size) (r0:ah as s.heap vs xs)
  (hR:∀ (val:Value) (as':List Addr) (h':Heap) (tk:Nat),aC (Frs l) as s.heap as' h'→Rel g as' σ' h'→Stk g as' l h'→cF l [] s.heap h'→RepV as' h' v val→R (.ok (.ret val)) { s with heap:=h',toks:=tk }):codeAny (model g.prog g.w) A (.call (.ref a) ⟨xs,[]⟩) R s:=by
 refine je G.kin hlim (.inl hT) hfn hlen hA R0 hsz r0 fun env body h tk E=>?_
 have O:=mV E hfr S
 have hm:∀ a,a ∈ Frs (env :: l) ↔ a=env.locals ∨ a ∈ Frs l:=fun a=>by unfold Frs; rw [List.filterMap_cons,E.fr]; exact List.mem_cons
 refine BI G hh IS IX HL body fn.body E.comp _ _ _ { s with heap:=h,toks:=tk } as _ fr' σ σ' fl _ _ E.N E.room O ⟨E.F,E.R⟩ he fun f as2 h2 tk2 hf st2 R2 F2 S2 L2=>?_
 have a1:aC (ownOf env ++ Frs (env :: l)) as s.heap as h:=aC.of_ext E.ext
 refine hR (zN f) as2 h2 tk2 ((a1.trans st2 R2.nd (qh F2 S2)).shrink fun b hb=>?_) R2 ⟨S2.fr.2.2,fun a ha=>S2.off a ((hm a).mpr (.inr ha)),fun a ha=>S2.dict a ((hm a).mpr (.inr ha))⟩ (fun b o hb hl _=>L2 b o (E.ext b o hb) ((hm b).mpr (.inr hl)) fun q=>by rw [E.new b q] at hb; cases hb) (vd hf hr)
 rcases List.mem_append.mp hb with hb | hb
 ·exact .inr (E.new b hb)
 ·rcases (hm b).mp hb with q | q
  ·rw [q]; exact .inr (E.new _ (.head _))
  ·exact .inl q
end
end Mine
namespace Mine
open PySem PyProof.Rows PySem.W
section
variable {g:Cfg}{K:Frag}{fa:Nat→Option Addr}{P T:Nat→Option Fn}{wf n:Nat}{env:Env}{A:Around}{as as':List Addr}{fr:Fra} {σ:Sto}{h h':Heap}
theorem ay.slot (F:ay g env as fr h) (R:Rel g as σ h) (st:aC [env.locals] as h as' h') (sl:∀ o,h.get? env.locals=some o→∃ s,h'.get? env.locals=some { o with slots:=s }):ay g env as' fr h':=by
 have K:bR as h as' h':=R.keep st F.notImm
 have cl:∀ {x c cv},env.cells.lookup x=some c→h.IsCell c cv→h'.IsCell c cv:=fun hx ⟨o,ho,r⟩=>⟨o,st.ext _ _ ho (fun q=>(F.offc _ _ hx).2.1 (List.mem_singleton.mp q)) (F.offc _ _ hx).1,r⟩
 have fresh:∀ {a:Addr}{o:Obj},h.get? a=some o→a ∉ as→a ∉ as':=fun ea n q=>by
  obtain ⟨t,ht,hf⟩:=st.pre
  rw [ht] at q
  rcases List.mem_append.mp q with q | q
  ·exact n q
  ·rw [hf _ q] at ea; cases ea
 obtain ⟨m,hm,hv⟩:=F.ns
 obtain ⟨oL,es,ep,hoL,hdL,rL⟩:=id hm
 obtain ⟨sl,hsl⟩:=sl _ hoL
 refine ⟨F.kind,F.above,F.glob,F.blt,F.len,F.nd,⟨m,⟨_,es,ep,hsl,hdL,rL⟩,fun i x v h1 h2=>?_⟩,fun i x kk h1 h2=>?_,fresh hoL F.off,fun x c hx=>?_,F.apart,F.newc⟩
 ·obtain ⟨val,e1,e2⟩:=hv i x v h1 h2
  exact ⟨val,e1,RepV.keep K _ _ e2⟩
 ·obtain ⟨c,cv,e1,e2,e3⟩:=F.cells i x kk h1 h2
  exact ⟨c,cv,e1,cl e1 e2,fun v hv=>by obtain ⟨val,q1,q2⟩:=e3 v hv; exact ⟨val,q1,RepV.keep K _ _ q2⟩⟩
 ·obtain ⟨a,b,cv,d⟩:=F.offc x c hx
  obtain ⟨o,ho,r⟩:=id d
  exact ⟨fresh ho a,b,cv,cl hx d⟩
theorem wI (hf:env.frame=some env.locals) (F:ay g env as fr h):Stk g as [env] h:=by
 have hm:∀ a,a ∈ Frs [env]→a=env.locals:=fun a ha=>by unfold Frs at ha; rw [List.filterMap_cons,hf] at ha; exact List.mem_singleton.mp ha
 obtain ⟨m,hm',_⟩:=F.ns
 obtain ⟨oL,es,ep,hoL,hdL,_⟩:=id hm'
 refine ⟨⟨(by rw [F.kind]; exact fun q=>nomatch q),⟨env.locals,oL,hf,?_,hoL,fun vs q=>by rw [hdL] at q; cases q⟩,trivial⟩,fun a ha=>by rw [hm a ha]; exact F.off,fun a ha o ho=>F.notImm a (by rw [hm a ha]; exact .head _) o ho⟩
 cases q:g.b.get? env.locals with
 | none=>rfl
 | some o=>exact absurd (Heap.lt_size q) (Nat.not_lt.mpr F.above)
set_option tactic.hygienic true in
theorem tE {cT cB:CE} (hU:∀ f k,cT.tfns.lookup f=some k→∃ a fn,GV g f (.ref a) ∧ keepIn K (.ref a)=true ∧ T k=some fn ∧ mJ K cB a=some fn) (GB:bC g K cB fa) (hh:g.hd=none) (hT:cB.top=none) (hlim:g.b.NoLimit)
  (IS:xm g cB (evFn P wf n) wf (2 * n) 20) (IX:jS g cB (evFn P wf n) wf (2 * n) 20) (HL:∀ a,j5 (g.with a) cB.hand (evFn P wf n) wf (2 * n) 20):gP g K cT (ba P T wf n) (2 * (n + 1)):=by
 intro f k hk
 obtain ⟨a,fn,h1,h2,h3,h4⟩:=hU f k hk
 refine ⟨a,h1,h2,fun us σ σ' v ev A s as xs env fr R hA hfr hf T0 r0 hR=>?_⟩
 unfold ba at ev
 rw [h3] at ev
 dsimp only at ev
 split at ev
 case isFalse=>cases ev
 rename_i hlen
 obtain ⟨fl,fr',he,hr⟩:=rz (qX ev)
 have hm:∀ a,a ∈ Frs [env] ↔ a=env.locals:=fun a=>by unfold Frs; rw [List.filterMap_cons,hf]; exact List.mem_singleton
 refine Ay (l:=[env]) GB hh hT hlim IS IX HL h4 hlen he hr hA hfr (wI hf T0.F) T0.R T0.F.size r0 fun val as' h' tk st R' S' L' rv=>?_
 have st':aC [env.locals] as s.heap as' h':=st.grow fun a ha=>by rw [(hm a).mp ha]; exact .head _
 exact hR val as' h' tk st' R' (T0.F.slot T0.R st' fun o ho=>L' _ o ho ((hm _).mpr rfl) fun q=>nomatch q) rv
theorem t7 (C:dX g fa (evFn P wf n) (2 * n)) (hT:∀ k a,fa k=some a→T k=none):dX g fa (ba P T wf n) (2 * (n + 1)):=fun k a vs σ σ' v hfa ev A s as xs R hA R0 hsz r0 hR=>by
 unfold ba at ev
 rw [hT k a hfa] at ev
 exact C k a vs σ σ' v hfa ev A s as xs R (cb.less (k:=2) hA) R0 hsz r0 hR
end
end Mine
namespace Mine
open PySem PyProof.Rows PySem.W
noncomputable def dZ (K:Frag) (x:Str):Bool:=nsIn K mainGlobals x == some none
noncomputable def vN {α:Type} (o:Option α) (f:α→Bool):Bool:=match o with | some a=>f a | none=>false
theorem dQ {α:Type}{o:Option α}{f:α→Bool} (h:vN o f=true):∃ a,o=some a ∧ f a=true:=Option.casesOn (motive:=fun o=>vN o f=true→∃ a,o=some a ∧ f a=true) o (fun h=>nomatch h) (fun a h=>⟨a,rfl,h⟩) h
noncomputable def wZ (v:Option Value) (i:Int):Bool:=match v with | some (.int j _)=>i == j | _=>false
set_option tactic.hygienic true in
theorem sj {v:Option Value}{i:Int} (h:wZ v i=true):∃ t,v=some (.int i t):=by
 unfold wZ at h
 split at h
 ·rename_i j t; exact ⟨t,by rw [eq_of_beq h]⟩
 ·exact ft h
noncomputable def o5 (K:Frag) (c:CE) (C:Addr) (at':List (Nat × Str)) (fa:Nat→Option Addr):Bool :=
 c.consts.all (fun p=>vN (nsIn K mainGlobals p.1) fun v=>wZ v p.2) &&
 (c.fns.all (fun p=>vN (fa p.2) fun a=>nsIn K mainGlobals p.1 == some (some (.ref a)) && keepIn K (.ref a)) &&
 (c.clss.all (fun p=>vN (fa p.2) fun fI=>nsIn K mainGlobals p.1 == some (some (.ref C)) && (keepIn K (.ref C) && (makesIn K C && (findIn K (.ref C) "__init__" == some (some (.ref fI)) && (isFn K (.ref fI) && isIn K (.ref C) C))))) &&
 (bltName.all (fun p=>dZ K p.1) && (tyName.all (fun p=>dZ K p.1) && (dZ K "set" && (dZ K "reversed" && (dZ K "sorted" && (dZ K "isinstance" &&
 (dZ K "enumerate" && (dZ K "zip" &&
 (c.attrs.all (fun p=>at'.lookup p.2 == some p.1 && (plainGet K C p.1 && (vN (findIn K (.ref C) p.1) (fun at'=>noGet K at') && (takerIn K C p.1 == some none && (hasDictIn K C && (findIn K (.ref C) "__setattr__" == some (some (.builtin "object.__setattr__")) && plainOver K C)))))) &&
 c.mths.all (fun p=>vN (fa p.2) fun a=>plainGet K C p.1 && (findIn K (.ref C) p.1 == some (some (.ref a)) && (isFn K (.ref a) && (keepIn K (.ref a) && at'.all (fun q=>!(q.2 == p.1)))))))))))))))
 ))
theorem eB {at':List (Nat × Str)}{x:Str} (h:at'.all (fun q=>!(q.2 == x))=true):∀ k,at'.lookup k ≠ some x:=fun k e=>by
 have:=List.all_eq_true.mp h _ (av e)
 simp at this
theorem mY:∀ p ∈ bltName,bootBuiltins p.1=some (mA p.2) ∧ p.1 ≠ "__name__":=by
 intro p hp
 simp only [bltName,List.mem_cons,List.not_mem_nil,or_false] at hp
 rcases hp with rfl | rfl | rfl | rfl | rfl | rfl | rfl | rfl <;> exact ⟨by kernel_rfl,by decide⟩
theorem o8:∀ p ∈ tyName,(∀ y,s8 p.2=some y→bootBuiltins p.1=some y) ∧ p.1 ≠ "__name__":=by
 intro p hp
 simp only [tyName,List.mem_cons,List.not_mem_nil,or_false] at hp
 rcases hp with rfl | rfl | rfl | rfl <;> exact ⟨fun y h=>by cases h; kernel_rfl,by decide⟩
noncomputable def xk (K:Frag) (c:CE):Bool :=
 c.excs.all (fun p=>yL K p.2 && (nsIn K mainGlobals p.1 == some (some (.ref p.2)) && (excIn K p.2 AS "ValueError.__new__" && (kitOne K (.ref p.2) (.type "ValueError") == some true && c.excs.all (fun q=>kitOne K (.ref q.2) (.ref p.2) == some (q.2 == p.2)))))) &&
 (dZ K "ValueError" && (match c.pe with | none=>true | some t=>nsIn K mainGlobals t.1 == some (some (.ref t.2)) && lH K t.2 (c.excs.map (·.2))))
theorem jP {g:Cfg}{K:Frag}{c:CE}{mg mb:Str→Option Value}{p:Program}{loose:List Str} (KX:K.In g.b) (T:TopRead p loose mg mb g.b) (chk:xk K c=true):wW g K c:=by
 obtain ⟨k1,chk⟩:=af chk
 obtain ⟨k2,k3⟩:=af chk
 have gl:∀ (x:Str) (v:Value),nsIn K mainGlobals x=some (some v)→GV g x v:=fun x v h=>⟨mg,mb,T.g,T.b,.inl (mg_of KX T.g h)⟩
 have all:∀ q ∈ c.excs,yL K q.2=true ∧ nsIn K mainGlobals q.1=some (some (.ref q.2)) ∧ excIn K q.2 AS "ValueError.__new__"=true ∧ kitOne K (.ref q.2) (.type "ValueError")=some true ∧ ∀ r ∈ c.excs,kitOne K (.ref r.2) (.ref q.2)=some (r.2 == q.2):=fun q hq=>by
  obtain ⟨a,h⟩:=af (List.all_eq_true.mp k1 q hq)
  obtain ⟨b,h⟩:=af h
  obtain ⟨d,h⟩:=af h
  obtain ⟨e,h⟩:=af h
  exact ⟨a,eq_of_beq b,d,eq_of_beq e,fun r hr=>eq_of_beq (List.all_eq_true.mp h r hr)⟩
 have mem:∀ {D},D ∈ c.excs.map (·.2)→∃ q ∈ c.excs,q.2=D:=fun h=>List.mem_map.mp h
 refine ⟨fun D hD=>?_,fun x C h=>gl _ _ (all _ (av h)).2.1,fun x C h=>⟨mg,own_of_in KX T (all _ (av h)).2.1 (all _ (av h)).2.2.1⟩,fun C hC D hD=>?_,?_,fun D hD=>?_,fun x P h=>?_⟩
 ·obtain ⟨q,hq,rfl⟩:=mem hD; exact (all q hq).1
 ·obtain ⟨q,hq,rfl⟩:=mem hC; obtain ⟨r,hr,rfl⟩:=mem hD; exact (all q hq).2.2.2.2 r hr
 ·exact ⟨mg,mb,T.g,T.b,.inr ⟨ns_none_of KX T.g (eq_of_beq k2),by rw [T.builtins _ (by decide)]; kernel_rfl⟩⟩
 ·obtain ⟨q,hq,rfl⟩:=mem hD; exact (all q hq).2.2.2.1
 ·rw [h] at k3
  obtain ⟨a,b⟩:=af k3
  exact ⟨gl _ _ (eq_of_beq a),b⟩
theorem l5 {g:Cfg}{K:Frag}{c:CE}{fa:Nat→Option Addr}{mg mb:Str→Option Value} (KX:K.In g.b) (Tg:g.b.Ns mainGlobals mg) (Tb:g.b.Ns builtinsNs mb) (hb:∀ x:Str,x ≠ "__name__"→mb x=bootBuiltins x) (chk:o5 K c g.C g.at' fa=true) (hh:g.hd=none)
  (hE:wW g K c)
  (hLam:∀ a,c.lam=some a→∃ mg,g.b.Ns mainGlobals mg ∧ CodeHd g.b a g.tab ∧ g.b.NoLimit ∧ g.b.BuiltinsAt mg g.tab ∧ mainGlobals ≠ g.tab ∧ g.hd=none):bC g K c fa:=by
 have c1:=af chk
 have c2:=af c1.2
 have c3:=af c2.2
 have c4:=af c3.2
 have c5:=af c4.2
 have c6:=af c5.2
 have c7:=af c6.2
 have c8:=af c7.2
 have c9:=af c8.2
 have c9e:=af c9.2
 have c9z:=af c9e.2
 have c10:=af c9z.2
 clear chk
 have bl:∀ (x:Str) (v:Value),dZ K x=true→bootBuiltins x=some v→x ≠ "__name__"→GV g x v:=fun x v h1 h2 h3 =>
  ⟨mg,mb,Tg,Tb,.inr ⟨ns_none_of KX Tg (eq_of_beq h1),by rw [hb x h3,h2]⟩⟩
 have gl:∀ (x:Str) (v:Value),nsIn K mainGlobals x=some (some v)→GV g x v:=fun x v h=>⟨mg,mb,Tg,Tb,.inl (mg_of KX Tg h)⟩
 have ga:∀ {x:Str}{k:Nat},c.attrs.lookup x=some k→_:=fun h=>af (List.all_eq_true.mp c10.1 _ (av h))
 refine ⟨⟨Nat.lt_trans (by decide) Tg.lt⟩,KX,fun x i h=>?_,fun x k h=>?_,fun x k h=>?_,fun x k h=>?_,fun x b h=>?_,fun x t y h hy=>?_,bl _ _ c6.1 (by kernel_rfl) (by decide),bl _ _ c7.1 (by kernel_rfl) (by decide),
  bl _ _ c9e.1 (by kernel_rfl) (by decide),bl _ _ c9z.1 (by kernel_rfl) (by decide),
  bl _ _ c8.1 (by kernel_rfl) (by decide),fun _=>hh,
  hE,
  bl _ _ c9.1 (by kernel_rfl) (by decide),fun x k h=>?_,fun x k h=>?_,fun x k h=>?_,hLam,fun x f h=>?_⟩
 ·exact (dQ (List.all_eq_true.mp c1.1 _ (av h))).elim fun v hv=>(sj hv.2).elim fun t ht=>⟨t,gl _ _ (hv.1.trans (congrArg some ht))⟩
 ·exact (dQ (List.all_eq_true.mp c2.1 _ (av h))).elim fun a ha=>⟨a,gl _ _ (eq_of_beq (af ha.2).1),ha.1,(af ha.2).2⟩
 ·refine (dQ (List.all_eq_true.mp c3.1 _ (av h))).elim fun a ha=>?_
  have q1:=af ha.2
  have q2:=af q1.2
  have q3:=af q2.2
  have q4:=af q3.2
  exact ⟨a,gl _ _ (eq_of_beq q1.1),ha.1,q2.1,q3.1,eq_of_beq q4.1,(af q4.2).1⟩
 ·exact (dQ (List.all_eq_true.mp c3.1 _ (av h))).elim fun a ha=>(af (af (af (af (af ha.2).2).2).2).2).2
 ·have hm:=av h
  exact bl _ _ (List.all_eq_true.mp c4.1 _ hm) (mY _ hm).1 (mY _ hm).2
 ·have hm:=av h
  exact bl _ _ (List.all_eq_true.mp c5.1 _ hm) ((o8 _ hm).1 y hy) (o8 _ hm).2
 ·have q1:=ga h
  have q2:=af q1.2
  have q3:=af q2.2
  exact ⟨eq_of_beq q1.1,q2.1,(dQ q3.1).elim fun at2 hq=>⟨at2,hq.1,hq.2,eq_of_beq (af q3.2).1⟩⟩
 ·exact (af (af (af (af (ga h).2).2).2).2).1
 ·have q:=af (af (af (af (af (ga h).2).2).2).2).2
  exact ⟨eq_of_beq q.1,q.2⟩
 ·refine (dQ (List.all_eq_true.mp c10.2 _ (av h))).elim fun a ha=>?_
  have q1:=af ha.2
  have q2:=af q1.2
  have q3:=af q2.2
  exact ⟨a,ha.1,q1.1,eq_of_beq q2.1,q3.1,(af q3.2).1,eB (af q3.2).2⟩
theorem qy {g:Cfg} (h:(g.at'.map (·.2)).Nodup) (h':(g.at'.map (·.1)).Nodup):bu g:=fun k k' x e1 e2=>by
 have m1:=av e1
 have m2:=av e2
 obtain ⟨i,hi,e3⟩:=List.getElem_of_mem m1
 obtain ⟨j,hj,e4⟩:=List.getElem_of_mem m2
 have:i=j:=by
  apply (List.getElem_inj h (h₀:=by simpa using hi) (h₁:=by simpa using hj)).mp
  simp [e3,e4]
 subst this
 rw [e3] at e4; cases e4; rfl
end Mine
namespace Mine
open PySem PyProof.Rows PySem.W
noncomputable def Pof (K:Frag) (c:Nat→CE) (fa:Nat→Option Addr) (k:Nat):Option Fn:=(fa k).bind fun a=>aH K (c k) a
theorem s7 {as:List Addr}{h:Heap}:∀ {vs:List Value}{is:List Int},IntsAre vs is→ah as h (is.map V.int) vs:=by
 intro vs is hi
 induction hi with
 | nil=>rw [List.map_nil,ah]
 | cons n t _ ih=>rw [List.map_cons,ah]; exact ⟨_,_,rfl,by rw [RepV]; exact ⟨t,rfl⟩,ih⟩
theorem tM {xs:Array Value}{n:Nat}{es:Array DictEntry}{k:Nat}{P:Prop} (h:Data.seq xs n=.dict es k):P:=nomatch h
theorem s9 {xs:Array Value}{es:Array DictEntry}{k:Nat}{P:Prop} (h:Data.fields xs=.dict es k):P:=nomatch h
theorem wL {xs ys:Array Value}{n:Nat}{P:Prop} (h:Data.seq xs n=.fields ys):P:=nomatch h
theorem zV {prog:Program}{w:World}{K:Frag}{c:Nat→CE}{C:Addr}{at':List (Nat × Str)}{fa:Nat→Option Addr}{mg mb:Str→Option Value}{s₁:Shared}{scr a ca P:Addr}{vs:List Value}{is:List Int}{wf n lawI:Nat} {σ':Sto}
  (KX:K.In s₁.heap) (Tg:s₁.heap.Ns mainGlobals mg) (Tb:s₁.heap.Ns builtinsNs mb) (hb:∀ x:Str,x ≠ "__name__"→mb x=bootBuiltins x) (lim:s₁.heap.NoLimit)
  (hl:s₁.heap.get? scr=some { cls:=.type "list",data:=.seq vs.toArray }) (hi:IntsAre vs is) (hlen:is.length ≤ 63)
  (hT:TabsAt [(ca,P)] s₁.heap) (hB:∃ bm ob,mg "__builtins__"=some (.ref bm) ∧ bm ≠ builtinsNs ∧ s₁.heap.get? bm=some ob ∧ ob.cls=.type "module" ∧ ob.dict=some builtinsNs ∧ ob.data=.plain)
  (hK:K.all (fun p=>!(p.2.cls == .type "list") && !(p.1 == P))=true) (chk:∀ k,o5 K (c k) C at' fa=true) (hat:(at'.map (·.2)).Nodup) (hat':(at'.map (·.1)).Nodup) (hA1:callerA.units + 20 * (2 * (n + 2)) + 60 ≤ 9900) (hA2:callerA.depth + 4 * (2 * (n + 2)) + 20 ≤ 1000)
  (hl0:∀ k x,(c k).lam=some x→x=ca)
  {p:Program}{loose:List Str} (TR:TopRead p loose mg mb s₁.heap) (chkX:∀ k,xk K (c k)=true) (hct:∀ k a,fa k=some a→(c k).top=none ∧ (c k).tfns=[]) {fh:Nat→Option Addr}{fnL:Fn}{frL:Fra}
  {cB cT:CE}{T:Nat→Option Fn} (hfh:∀ k a,fh k=some a→fa k=some a ∧ c k=cB.hand) (chkH:o5 K cB.hand C at' fh=true) (chkB:o5 K cB C at' fa=true) (chkXB:xk K cB=true) (hB0:cB.top=none ∧ cB.tfns=[]) (hBl:cB.lam=none) (chkT:o5 K cT C at' fa=true) (chkXT:xk K cT=true) (hTl:cT.lam=none)
  (hU:∀ f k,cT.tfns.lookup f=some k→∃ a fn,nsIn K mainGlobals f=some (some (.ref a)) ∧ keepIn K (.ref a)=true ∧ T k=some fn ∧ mJ K cB a=some fn) (htn:∀ k a,fa k=some a→T k=none)
  (hfn:aH K cT a=some fnL) (hps:1=fnL.ps.length)
  (ev:evSs (ba (Pof K c fa) T wf n) wf fnL.body (aS fnL [.ref 0]) [.frz (is.map V.int),.tab false]=.ok (.ret (.bool true)) frL σ')
  (h0:σ'[0]?=some (.frz (is.map V.int))) (h1:∃ b,σ'[1]?=some (.tab b))
  {R:Result→Shared→Prop} (hR:∀ h' tk,(∀ (b:Addr) (o:Obj),(ghostOf s₁.heap [(ca,P)]).get? b=some o→h'.get? b=some o)→GrownAll [(ca,P)] h'→R (.ok (.ret (.bool true))) { s₁ with heap:=h',toks:=tk }) :
  codeAny (model prog w) callerA (.call (.ref a) ⟨[.ref scr],[]⟩) R s₁:=by
 have lk:∀ {α β:Type} [BEq α] [LawfulBEq α] {l:List (α × β)}{x:α}{y:β},l.lookup x=some y→(x,y) ∈ l:=fun e=>av e
 have hPo:s₁.heap.get? P=some (tabObj #[]):=(hT (ca,P) (.head _)).2
 have hCo:CodeHd s₁.heap ca P:=(hT (ca,P) (.head _)).1
 have nsne:∀ (b:Addr) (m:Str→Option Value),s₁.heap.Ns b m→b ≠ scr ∧ b ≠ P:=fun b m H=>H.elim fun o H=>H.elim fun es H=>H.elim fun ep H=>⟨fun q=>tM ((congrArg Obj.data (Option.some.inj (hl.symm.trans (q ▸ H.1)))).trans H.2.1),fun q=>s9 ((congrArg Obj.data (Option.some.inj (hPo.symm.trans (q ▸ H.1)))).trans H.2.1)⟩
 have hide:∀ (b:Addr) (o:Obj),b ≠ scr ∧ b ≠ P→s₁.heap.get? b=some o→(hideAll s₁.heap [scr,P]).get? b=some o:=fun b o hb e=>hideAll_get [scr,P] e (by simpa using hb)
 have hsP:scr ≠ P:=fun q=>wL (congrArg Obj.data (Option.some.inj (hl.symm.trans (q ▸ hPo))))
 let g:Cfg:={ prog:=prog,w:=w,b:=hideAll s₁.heap [scr,P],C:=C,at':=at',scr:={ cls:=.type "list",data:=.seq vs.toArray },tab:=P }
 have KX':K.In g.b:=fun b o e=>by
  have e1:=KX b o e
  have h2:=List.all_eq_true.mp hK _ (lk e)
  have h3:=af h2
  refine hide b o ⟨fun q=>tf ((beq_iff_eq.mpr (congrArg Obj.cls (Option.some.inj (hl.symm.trans (q ▸ e1)))).symm).symm.trans (aP h3.1)),fun q=>tf ((beq_iff_eq.mpr q).symm.trans (aP h3.2))⟩ e1
 have Tg':g.b.Ns mainGlobals mg:=Tg.at' fun o e=>hide _ o (nsne _ _ Tg) e
 have Tb':g.b.Ns builtinsNs mb:=Tb.at' fun o e=>hide _ o (nsne _ _ Tb) e
 have lim':g.b.NoLimit:=lim.at fun o e=>hide _ o (by obtain ⟨m,hm,_⟩:=lim; exact nsne _ _ hm) e
 have C':CodeHd g.b ca P:=by
  have hc:ca ≠ scr ∧ ca ≠ P:=(hCo.tab hPo).1.elim fun o q=>q.elim fun vs q=>⟨fun z=>absurd ((congrArg Obj.cls (Option.some.inj (hl.symm.trans (z ▸ q.1)))).trans q.2.1) (show Value.type "list" ≠ .type "code" by decide),fun z=>absurd ((congrArg Obj.cls (Option.some.inj (hPo.symm.trans (z ▸ q.1)))).trans q.2.1) (show Value.none ≠ .type "code" by decide)⟩
  have he:(hideAll s₁.heap [scr,P]).get? ca=s₁.heap.get? ca:=(hCo.tab hPo).1.elim fun o q=>q.elim fun vs q=>(hide _ _ hc q.1).trans q.1.symm
  unfold CodeHd
  rw [show g.b.get? ca=_ from he]
  exact hCo
 have B':g.b.BuiltinsAt mg P:=by
  refine hB.elim fun bm H=>H.elim fun ob H=>?_
  have b3:=H.2.2.1
  have b4:=H.2.2.2.1
  have hP:bm ≠ P:=fun q=>nomatch (congrArg Obj.cls (Option.some.inj (hPo.symm.trans (q ▸ b3)))).trans b4
  have hm:bm ≠ mainGlobals:=fun q=>Tg.elim fun o G=>G.elim fun es G=>G.elim fun ep G=>nomatch (G.2.1.symm.trans (congrArg Obj.data (Option.some.inj (G.1.symm.trans (q ▸ b3))))).trans H.2.2.2.2.2
  exact ⟨bm,ob,H.1,H.2.1,hm,hP,hide _ _ ⟨fun q=>absurd ((congrArg Obj.cls (Option.some.inj (hl.symm.trans (q ▸ b3)))).trans b4) (show Value.type "list" ≠ .type "module" by decide),hP⟩ b3,b4,H.2.2.2.2.1,H.2.2.2.2.2⟩
 have TR':TopRead p loose mg mb g.b:=⟨Tg',Tb',lim',hb,TR.free⟩
 have G:∀ k (a:Addr),fa k=some a→bC g K (c k) fa:=fun k _ _=>l5 KX' Tg' Tb' hb (chk k) rfl
  (jP KX' TR' (chkX k))
  fun x h=>by
  rw [hl0 k x h]
  exact ⟨mg,Tg',C',lim',B',(nsne _ _ Tg).2,rfl⟩
 have J:bu g:=qy hat hat'
 have hP:∀ k a',fa k=some a'→Pof K c fa k=aH K (c k) a':=fun k a' h=>by unfold Pof; rw [h]; rfl
 have CA:=gz (P:=Pof K c fa) (wf:=wf) c hct G J lim' hP n
 have CXA:=kO (P:=Pof K c fa) (wf:=wf) c hct G J lim' hP n
 have gx:∀ {c':CE},o5 K c' C at' fa=true→xk K c'=true→c'.lam=none→bC g K c' fa:=fun h1 h2 h3=>l5 KX' Tg' Tb' hb h1 rfl (jP KX' TR' h2) fun x h=>by rw [h3] at h; cases h
 have GB:=gx chkB chkXB hBl
 have CB:ci g K cB fa (evFn (Pof K c fa) wf n) (2 * n):=⟨CA,dg hB0⟩
 have IS:=dh (wf:=wf) GB J CB 20
 have GH:∀ e,bC (g.with e) K cB.hand fh:=fun e=>(l5 (fa:=fh) (c:=cB.hand) KX' Tg' Tb' hb chkH rfl (jP KX' TR' chkXB) fun x h=>nomatch h).with rfl rfl
 have HL:∀ e,j5 (g.with e) cB.hand (evFn (Pof K c fa) wf n) wf (2 * n) 20:=fun e=>eT (dh (GH e) J ⟨gz (g:=g.with e) (fa:=fh) (P:=Pof K c fa) (wf:=wf) c (fun k a' h=>hct k a' (hfh k a' h).1) (fun k a' h=>by rw [(hfh k a' h).2]; exact GH e) J lim' (fun k a' h=>hP k a' (hfh k a' h).1) n,dg ⟨rfl,rfl⟩⟩ 20)
 have TC:gP g K cT (ba (Pof K c fa) T wf n) (2 * (n + 1)):=tE (fun f k hk=>let ⟨a,fn,h1,h2⟩:=hU f k hk; ⟨a,fn,⟨mg,mb,Tg',Tb',.inl (mg_of KX' Tg' h1)⟩,h2⟩) GB rfl hB0.1 lim' IS (hY IS (il GB J CB CXA 20)) HL
 have R0:Rel g [scr,P] [.frz (is.map V.int),.tab false] s₁.heap:=by
  refine ⟨fun b o e=>of_hideAll [scr,P] e,rfl,by simpa using hsP,fun b hb=>?_,fun i b o e1 e2=>?_,fun a q=>nomatch q⟩
  ·exact hideAll_none [scr,P] hb
  ·rcases i with _ | _ | i
   ·simp at e1 e2; subst e1; subst e2
    exact ⟨vs.toArray,0,hl,rfl,by simpa using s7 hi,by simp; lia⟩
   ·simp at e1 e2; subst e1; subst e2
    exact ⟨rfl,#[],hPo,fun _=>rfl⟩
   ·simp at e1
 refine nF (n:=n + 1) (vs:=[.ref 0]) (v:=.bool true) (gx chkT chkXT hTl) J lim' ⟨t7 CA htn,TC⟩ hfn hps ev (.inl rfl) (.inr rfl) ⟨hA1,hA2,rfl⟩ R0 (by rw [hideAll_size]; exact Nat.le_refl _) (xs:=[.ref scr]) (by rw [ah]; exact ⟨_,_,rfl,by rw [RepV]; exact ⟨scr,rfl,rfl⟩,by rw [ah]⟩) fun val as' h' tk st R' r'=>?_
 rw [RepV] at r'; subst r'
 refine hR h' tk (fun b o e=>?_) ⟨?_,trivial⟩
 ·have e':s₁.heap.get? b=some o:=of_hideAll [P] e
  have hbP:b ≠ P:=fun q=>by
   subst q
   have:=hideAll_none (h:=s₁.heap) [b] (List.mem_singleton.mpr rfl)
   have e2:(hideAll s₁.heap [b]).get? b=some o:=e
   rw [this] at e2; cases e2
  by_cases hbs:b=scr
  ·subst hbs
   obtain ⟨items,nn',q1,q2,_⟩:=R'.obj 0 b _ (st.get rfl) h0
   rw [hl] at e'; cases e'
   exact q1
  ·exact R'.base b o (hide b o ⟨hbs,hbP⟩ e')
 ·obtain ⟨b,h1⟩:=h1
  obtain ⟨_,ps,q,_⟩:=R'.obj 1 P _ (st.get rfl) h1
  exact ⟨ps,q⟩
theorem oK:WShape.has [] (WData.bool true) .bool=true:=by first | rfl | decide +kernel | simp [WShape.has]
theorem qe:same (WData.bool true) (WData.bool true)=true:=by first | rfl | decide +kernel | simp [same]
theorem law_post (l:OpenLaw) (a b:List WData):l.row.toRowW.claim.post a (.bool true) b=true:=by
 show (WShape.has [] (WData.bool true) .bool && (WTm.eq .res (.lit (.bool true))).holds [] { args:=a,res:=some (.bool true),after:=b })=true
 rw [oK]
 simp only [WTm.holds,WTm.value,qe]
 rfl
theorem list_obj {P:Params}{h:Heap}{l:Addr}{vs:List Value}{ds:List PyData} (w:Well P h (.ref l) (ofPy (.list ds))) (hL:h.IsList l vs.toArray):h.get? l=some { cls:=.type "list",data:=.seq vs.toArray }:=by
 unfold ofPy at w
 cases w with
 | list ho _ =>
  obtain ⟨o,ho',hc,n,hd⟩:=hL
  rw [ho] at ho'; cases ho'; cases hd
  exact ho
end Mine
set_option linter.unusedSimpArgs false
namespace Mine
open PySem
section
variable {P:Nat→Option Fn}{call:Nat→List V→Sto→RE}{wf n:Nat}{fr fr':Fra} {σ σ1 σ':Sto}{ss:List S}{a t:E}{v:V}{r:RS}
end
section
variable {test:Fra→Sto→RE}{body:Fra→Sto→RS}{n:Nat}{fr fr2:Fra} {σ σ1 σ2:Sto}{r:RS}
end
end Mine
namespace Mine
abbrev Way:=Nat × Nat × Nat
noncomputable def upd {α:Type} (f:Nat→α) (e:Nat) (x:α):Nat→α:=fun v=>if v=e then x else f v
theorem a5 {α:Type}{f:Nat→α}{e:Nat}{x:α}:upd f e x e=x:=if_pos rfl
theorem bY {α:Type}{f:Nat→α}{e v:Nat}{x:α} (h:v ≠ e):upd f e x v=f v:=if_neg h
structure St where
 S:Nat→Int
 B:Nat→Nat
 last:Option Nat
 T:Nat→Nat
 W:Nat→Nat
noncomputable def bf (num div:Int) (S:Nat→Int) (w:Way):Int:=S w.1 + div * w.2.2 - num
noncomputable def w1 (num div:Int) (t:Nat) (st:St) (w:Way):St :=
 if st.S w.2.1 < bf num div st.S w then ⟨upd st.S w.2.1 (bf num div st.S w),upd st.B w.2.1 w.1,some w.2.1,upd st.T w.2.1 t,upd st.W w.2.1 w.2.2⟩ else st
def cM (num div:Int) (S:Nat→Int) (w:Way):Prop:=bf num div S w ≤ S w.2.1
def Cyc (B:Nat→Nat):List Nat→Prop
 | []=>False
 | v :: r=>(v :: r).map B=r ++ [v]
noncomputable def cU (f:Nat→Int) (c:List Nat):Int:=(c.map f).sum
theorem aZ {f:Nat→Int}{v:Nat}{c:List Nat}:cU f (v :: c)=f v + cU f c:=by unfold cU; rw [List.map_cons,List.sum_cons]
theorem dJ {f:Nat→Int}:∀ {c d:List Nat},cU f (c ++ d)=cU f c + cU f d
 | [],d=>by unfold cU; simp
 | v :: c,d=>by rw [List.cons_append,aZ,aZ,dJ]; lia
theorem ti {f:Nat→Int}{B:Nat→Nat}{c:List Nat}:cU (fun v=>f (B v)) c=cU f (c.map B):=by unfold cU; rw [List.map_map]; rfl
theorem tn {f:Nat→Int}{B:Nat→Nat}:∀ {c:List Nat},Cyc B c→cU (fun v=>f (B v)) c=cU f c
 | v :: r,h=>by
  have h:(v :: r).map B=r ++ [v]:=h
  rw [ti,h,dJ,aZ,aZ]; unfold cU; simp; lia
theorem pS {f g:Nat→Int}:∀ {c:List Nat},(∀ v ∈ c,f v ≤ g v)→cU f c ≤ cU g c
 | [],_=>Int.le_refl _
 | v :: c,h=>by
  rw [aZ,aZ]
  have h1:=h v (.head _)
  have h2:=pS (c:=c) fun w hw=>h w (.tail _ hw)
  lia
theorem qq {f g:Nat→Int}:∀ {c:List Nat},(∀ v ∈ c,f v ≤ g v)→(∃ v ∈ c,f v < g v)→cU f c < cU g c
 | [],_,h=>by obtain ⟨_,h,_⟩:=h; cases h
 | v :: c,h,⟨w,hw,hlt⟩=>by
  rw [aZ,aZ]
  have h1:=h v (.head _)
  rcases List.mem_cons.mp hw with rfl | hw
  ·have h2:=pS (c:=c) fun w hw=>h w (.tail _ hw)
   lia
  ·have h2:=qq (c:=c) (fun w hw=>h w (.tail _ hw)) ⟨w,hw,hlt⟩
   lia
theorem mv {f g:Nat→Int}:∀ {c:List Nat},cU (fun v=>f v + g v) c=cU f c + cU g c
 | []=>rfl
 | v :: c=>by rw [aZ,aZ,aZ,mv]; lia
theorem y6 {B B':Nat→Nat}:∀ {c:List Nat},(∀ v ∈ c,B v=B' v)→Cyc B c→Cyc B' c
 | v :: r,h,hc=>by
  show (v :: r).map B'=r ++ [v]
  rw [← List.map_congr_left h]; exact hc
structure Inv (ws:List Way) (num div:Int) (t i:Nat) (st:St):Prop where
 A:∀ v,1 ≤ st.T v→(st.B v,v,st.W v) ∈ ws ∧ st.S v ≤ bf num div st.S (st.B v,v,st.W v)
 le:∀ v,st.T v ≤ t
 ch:∀ v,2 ≤ st.T v→st.T v ≤ st.T (st.B v) + 1
 s1:∀ w ∈ ws,st.T w.1 + 2 ≤ t→cM num div st.S w
 s2:∀ j w,ws[j]?=some w→j < i→st.T w.1 + 1 ≤ t→cM num div st.S w
 D:∀ c:List Nat,(∀ v ∈ c,1 ≤ st.T v)→Cyc st.B c→0 < cU (fun v=>div * st.W v - num) c
 lN:st.last=none→∀ v,st.T v + 1 ≤ t
 lS:∀ e,st.last=some e→st.T e=t
theorem jm {num div:Int}{S:Nat→Int}{e:Nat}{x:Int}{w:Way} (h:S e ≤ x):bf num div S w ≤ bf num div (upd S e x) w:=by
 unfold bf
 by_cases hb:w.1=e
 ·rw [hb,a5]; lia
 ·rw [bY hb]; exact Int.le_refl _
theorem pw {ws:List Way}{num div:Int}{t i:Nat}{st:St}{w:Way} (ht:1 ≤ t) (I:Inv ws num div t i st) (hw:ws[i]?=some w):Inv ws num div t (i + 1) (w1 num div t st w):=by
 have hmem:=List.mem_of_getElem? hw
 obtain ⟨b,e,d⟩:=w
 unfold w1
 by_cases hlt:st.S e < bf num div st.S (b,e,d)
 ·rw [if_pos hlt]
  have mono:∀ v,st.S v ≤ upd st.S e (bf num div st.S (b,e,d)) v:=fun v=>by
   by_cases hv:v=e
   ·rw [hv,a5]; exact Int.le_of_lt hlt
   ·rw [bY hv]; exact Int.le_refl _
  have wm:∀ u,bf num div st.S u ≤ bf num div (upd st.S e (bf num div st.S (b,e,d))) u:=fun u=>jm (Int.le_of_lt hlt)
  have hb:t ≤ st.T b + 1:=by
   refine Nat.not_lt.mp fun hn=>absurd hlt (Int.not_lt.mpr (I.s1 _ hmem hn))
  have Tm:∀ v,st.T v ≤ upd st.T e t v:=fun v=>by
   by_cases hv:v=e
   ·rw [hv,a5]; exact I.le _
   ·rw [bY hv]; exact Nat.le_refl _
  have keep:∀ u:Way,upd st.T e t u.1 + 1 ≤ t→cM num div st.S u→cM num div (upd st.S e (bf num div st.S (b,e,d))) u:=fun u hu hs=>by
   have hne:u.1 ≠ e:=fun q=>by rw [q,a5] at hu; exact Nat.not_succ_le_self _ hu
   unfold cM bf at hs ⊢
   rw [bY hne]
   exact Int.le_trans hs (mono _)
  refine ⟨fun v hv=>?_,fun v=>?_,fun v hv=>?_,fun u hu h2=>?_,fun j u hu hj h2=>?_,fun c hc hy=>?_,(fun q=>nomatch q),fun q hq=>?_⟩
  ·show (upd st.B e b v,v,upd st.W e d v) ∈ ws ∧ upd st.S e (bf num div st.S (b,e,d)) v ≤ bf num div (upd st.S e (bf num div st.S (b,e,d))) (upd st.B e b v,v,upd st.W e d v)
   by_cases he:v=e
   ·rw [he,a5,a5,a5]
    exact ⟨hmem,wm _⟩
   ·rw [bY he,bY he,bY he]
    have hv':1 ≤ st.T v:=by
     have:1 ≤ upd st.T e t v:=hv
     rw [bY he] at this; exact this
    have:=I.A v hv'
    exact ⟨this.1,Int.le_trans this.2 (wm _)⟩
  ·show upd st.T e t v ≤ t
   by_cases he:v=e
   ·rw [he,a5]; exact Nat.le_refl _
   ·rw [bY he]; exact I.le v
  ·show upd st.T e t v ≤ upd st.T e t (upd st.B e b v) + 1
   by_cases he:v=e
   ·rw [he,a5,a5]
    exact Nat.le_trans hb (Nat.add_le_add_right (Tm b) 1)
   ·have hv':2 ≤ st.T v:=by
     have:2 ≤ upd st.T e t v:=hv
     rw [bY he] at this; exact this
    rw [bY he,bY he]
    exact Nat.le_trans (I.ch v hv') (Nat.add_le_add_right (Tm (st.B v)) 1)
  ·have h2':upd st.T e t u.1 + 2 ≤ t:=h2
   exact keep u (Nat.le_of_succ_le h2') (I.s1 u hu (Nat.le_trans (Nat.add_le_add_right (Tm u.1) 2) h2'))
  ·have h2':upd st.T e t u.1 + 1 ≤ t:=h2
   by_cases hji:j=i
   ·rw [hji,hw] at hu
    rw [← Option.some.inj hu] at h2' ⊢
    have hne:b ≠ e:=fun q=>by
     have h3:upd st.T e t b + 1 ≤ t:=h2'
     rw [q,a5] at h3; exact Nat.not_succ_le_self _ h3
    show bf num div (upd st.S e (bf num div st.S (b,e,d))) (b,e,d) ≤ upd st.S e (bf num div st.S (b,e,d)) e
    rw [a5]; unfold bf
    rw [bY hne]; exact Int.le_refl _
   ·exact keep u h2' (I.s2 j u hu (Nat.lt_of_le_of_ne (Nat.le_of_lt_succ hj) hji) (Nat.le_trans (Nat.add_le_add_right (Tm u.1) 1) h2'))
  ·have hc':∀ v ∈ c,v ≠ e→1 ≤ st.T v:=fun v hv he=>by
    have:1 ≤ upd st.T e t v:=hc v hv
    rw [bY he] at this; exact this
   show 0 < cU (fun v=>div * (upd st.W e d v:Nat) - num) c
   by_cases hec:e ∈ c
   ·have key:cU st.S c < cU (fun v=>st.S (upd st.B e b v) + (div * (upd st.W e d v:Nat) - num)) c:=by
     have hlt':st.S e < st.S b + (div * (d:Int) - num):=Int.lt_of_lt_of_le hlt (Int.le_of_eq (Int.add_sub_assoc _ _ _))
     refine qq (fun v hv=>?_) ⟨e,hec,?_⟩
     ·by_cases he:v=e
      ·rw [he,a5,a5]; exact Int.le_of_lt hlt'
      ·rw [bY he,bY he]
       exact Int.le_trans (I.A v (hc' v hv he)).2 (Int.le_of_eq (Int.add_sub_assoc _ _ _))
     ·rw [a5,a5]; exact hlt'
    rw [mv,tn (f:=st.S) hy] at key
    lia
   ·have hne:∀ v ∈ c,v ≠ e:=fun v hv q=>hec (q ▸ hv)
    have e1:cU (fun v=>div * (upd st.W e d v:Nat) - num) c=cU (fun v=>div * (st.W v:Nat) - num) c:=by
     unfold cU
     exact congrArg List.sum (List.map_congr_left fun v hv=>by rw [bY (hne v hv)])
    rw [e1]
    exact I.D c (fun v hv=>hc' v hv (hne v hv)) (y6 (fun v hv=>bY (hne v hv)) hy)
  ·cases hq; exact a5
 ·rw [if_neg hlt]
  refine ⟨I.A,I.le,I.ch,I.s1,fun j u hu hj h2=>?_,I.D,I.lN,I.lS⟩
  by_cases hji:j=i
  ·rw [hji,hw] at hu
   rw [← Option.some.inj hu]
   exact Int.not_lt.mp hlt
  ·exact I.s2 j u hu (Nat.lt_of_le_of_ne (Nat.le_of_lt_succ hj) hji) h2
end Mine
namespace Mine
theorem rb {ws:List Way}{num div:Int}{B W:Nat→Nat}:Inv ws num div 1 0 ⟨fun _=>0,B,none,fun _=>0,W⟩:=by
 refine ⟨fun v h=>absurd (show 1 ≤ 0 from h) (by decide),fun v=>Nat.zero_le _,fun v h=>absurd (show 2 ≤ 0 from h) (by decide),fun w _ h=>absurd (show 0 + 2 ≤ 1 from h) (by decide),fun j w _ h=>absurd h (Nat.not_lt_zero _),fun c hc hy=>?_,fun _ v=>Nat.le_refl _,fun e h=>nomatch h⟩
 cases c with
 | nil=>exact hy.elim
 | cons v c=>exact absurd (show 1 ≤ 0 from hc v (.head _)) (by decide)
theorem tT {ws:List Way}{num div:Int}{t:Nat}{st:St} (I:Inv ws num div t ws.length st):Inv ws num div (t + 1) 0 { st with last:=none }:=by
 refine ⟨I.A,fun v=>Nat.le_succ_of_le (I.le v),I.ch,fun w hw h=>?_,fun j w _ h=>absurd h (Nat.not_lt_zero _),I.D,fun _ v=>Nat.succ_le_succ (I.le v),fun e h=>nomatch h⟩
 obtain ⟨j,hj,rfl⟩:=List.getElem_of_mem hw
 have h:st.T (ws[j]).1 + 2 ≤ t + 1:=h
 exact I.s2 j _ (List.getElem?_eq_getElem hj) hj (by lia)
theorem tz {ws:List Way}{num div:Int}{t:Nat}{st:St} (I:Inv ws num div t ws.length st) (h:st.last=none):∀ w ∈ ws,cM num div st.S w:=fun w hw=>by
 obtain ⟨j,hj,rfl⟩:=List.getElem_of_mem hw
 exact I.s2 j _ (List.getElem?_eq_getElem hj) hj (I.lN h _)
noncomputable def iter (B:Nat→Nat):Nat→Nat→Nat
 | 0,v=>v
 | n + 1,v=>B (iter B n v)
theorem bA {B:Nat→Nat}{v:Nat} (a:Nat):∀ b,iter B (a + b) v=iter B b (iter B a v)
 | 0=>rfl
 | b + 1=>by show B (iter B (a + b) v)=B (iter B b (iter B a v)); rw [bA a b]
theorem dl:∀ (m:Nat) (l:List Nat),l.Nodup→(∀ x ∈ l,x < m)→l.length ≤ m
 | 0,[],_,_=>Nat.le_refl _
 | 0,x :: _,_,h=>absurd (h x (.head _)) (Nat.not_lt_zero _)
 | m + 1,l,nd,h=>by
  by_cases hm:m ∈ l
  ·have h1:=dl m (l.erase m) (nd.erase m) fun x hx=>by
    have h2:=(nd.mem_erase_iff.mp hx)
    have:=h x h2.2
    have:=h2.1
    lia
   rw [List.length_erase_of_mem hm] at h1
   lia
  ·have:=dl m l nd fun x hx=>by
    have h1:=h x hx
    have:x ≠ m:=fun q=>hm (q ▸ hx)
    lia
   lia
theorem vo {m:Nat}{f:Nat→Nat} (h:∀ j,j ≤ m→f j < m):∃ i j,i < j ∧ j ≤ m ∧ f i=f j:=by
 apply Classical.byContradiction
 intro hn
 have nd:((List.range (m + 1)).map f).Nodup:=by
  rw [List.Nodup,List.pairwise_iff_getElem]
  intro i j hi hj hij e
  simp only [List.length_map,List.length_range] at hi hj
  simp only [List.getElem_map,List.getElem_range] at e
  exact hn ⟨i,j,hij,by lia,e⟩
 have:=dl m _ nd fun x hx=>by
  obtain ⟨j,hj,rfl⟩:=List.mem_map.mp hx
  exact h j (by have:=List.mem_range.mp hj; lia)
 rw [List.length_map,List.length_range] at this
 lia
theorem Bg {P:Nat→Prop} (h:∃ n,P n):∃ n,P n ∧ ∀ k,k < n→¬ P k:=by
 apply Classical.byContradiction
 intro hn
 obtain ⟨n,hp⟩:=h
 have:∀ n,¬ P n:=fun n=>Nat.strongRecOn n fun n ih hp=>hn ⟨n,hp,ih⟩
 exact this n hp
theorem u5 {B:Nat→Nat}{e i p:Nat} (e1:iter B i e=iter B (i + p) e) {n:Nat} (hn:i ≤ n):iter B (n + p) e=iter B n e:=by
 obtain ⟨k,rfl⟩:=Nat.exists_eq_add_of_le hn
 rw [Nat.add_right_comm,bA,← e1,← bA]
theorem xr {B T:Nat→Nat}{e i p m:Nat} (e1:iter B i e=iter B (i + p) e) (hp:1 ≤ p) (hj:i + p ≤ m) (hT:∀ j,j ≤ m→1 ≤ T (iter B j e)) (k:Nat):1 ≤ T (iter B k e):=by
 induction k using Nat.strongRecOn with
 | _ k ih =>
  by_cases hk:k ≤ m
  ·exact hT k hk
  ·have h1:p ≤ k ∧ i ≤ k - p ∧ k - p < k:=by clear e1 hT ih; lia
   have:=u5 e1 h1.2.1
   rw [Nat.sub_add_cancel h1.1] at this
   rw [this]
   exact ih _ h1.2.2
theorem lV {ws:List Way}{num div:Int}{m:Nat}{st:St}{e:Nat} (hm:∀ w ∈ ws,w.2.1 < m) (I:Inv ws num div (m + 1) ws.length st) (hl:st.last=some e) :
  ∃ q,1 ≤ q ∧ q ≤ m ∧ iter st.B q (iter st.B m e)=iter st.B m e ∧ (∀ k,1 ≤ k→k < q→iter st.B k (iter st.B m e) ≠ iter st.B m e) ∧ ∀ k,1 ≤ st.T (iter st.B k e):=by
 have hT:∀ j,j ≤ m→m + 1 ≤ st.T (iter st.B j e) + j:=by
  intro j
  induction j with
  | zero=>intro _; show m + 1 ≤ st.T e + 0; rw [I.lS e hl]; exact Nat.le_refl _
  | succ j ih =>
   intro hj
   have h1:=ih (Nat.le_of_lt hj)
   have h2:=I.ch _ (Nat.le_of_add_le_add_right (b:=j) (Nat.le_trans (by rw [Nat.add_comm 2]; exact Nat.succ_le_succ hj) h1))
   show m + 1 ≤ st.T (st.B (iter st.B j e)) + (j + 1)
   rw [Nat.add_comm j 1,← Nat.add_assoc]
   exact Nat.le_trans h1 (Nat.add_le_add_right h2 _)
 have hT1:∀ j,j ≤ m→1 ≤ st.T (iter st.B j e):=fun j hj=>Nat.le_of_add_le_add_right (b:=j) (Nat.le_trans (by rw [Nat.add_comm]; exact Nat.succ_le_succ hj) (hT j hj))
 obtain ⟨i,j,hij,hj,e1⟩:=vo (f:=fun j=>iter st.B j e) fun j hj=>hm _ (I.A _ (hT1 j hj)).1
 obtain ⟨p,rfl⟩:=Nat.exists_eq_add_of_lt hij
 have e1:iter st.B i e=iter st.B (i + (p + 1)) e:=e1
 have p0:iter st.B (p + 1) (iter st.B m e)=iter st.B m e:=by rw [← bA]; exact u5 e1 (Nat.le_trans (Nat.le_of_lt hij) hj)
 obtain ⟨q,⟨q1,q2⟩,q3⟩:=Bg (P:=fun q=>1 ≤ q ∧ iter st.B q (iter st.B m e)=iter st.B m e) ⟨p + 1,Nat.succ_pos _,p0⟩
 refine ⟨q,q1,Nat.le_of_not_lt fun hn=>q3 (p + 1) (Nat.lt_of_le_of_lt (Nat.le_trans (Nat.le_add_left _ i) hj) hn) ⟨Nat.succ_pos _,p0⟩,q2,fun k k1 k2 q=>q3 k k2 ⟨k1,q⟩,xr e1 (Nat.succ_pos _) hj hT1⟩
noncomputable def backs (B:Nat→Nat) (u:Nat) (q:Nat):List Nat:=(List.range q).map fun k=>iter B k u
theorem aT {B:Nat→Nat}{u q:Nat}:(backs B u q).length=q:=by unfold backs; rw [List.length_map,List.length_range]
theorem eF {B:Nat→Nat}{u q k:Nat} (h:k < q):(backs B u q)[k]?=some (iter B k u):=by unfold backs; rw [List.getElem?_map,List.getElem?_range h]; rfl
theorem fy {B:Nat→Nat}{u q:Nat}:backs B u (q + 1)=backs B u q ++ [iter B q u]:=by unfold backs; rw [List.range_succ,List.map_append]; rfl
theorem o9 {B:Nat→Nat}{u q:Nat} (hq:1 ≤ q) (h:iter B q u=u):Cyc B (backs B u q):=by
 obtain ⟨n,rfl⟩:∃ n,q=n + 1:=⟨q - 1,by lia⟩
 have e1:backs B u (n + 1)=u :: (List.range n).map fun k=>iter B (k + 1) u:=by
  unfold backs; rw [List.range_succ_eq_map,List.map_cons,List.map_map]; rfl
 rw [e1]
 show (u :: (List.range n).map fun k=>iter B (k + 1) u).map B=((List.range n).map fun k=>iter B (k + 1) u) ++ [u]
 rw [← e1]
 unfold backs
 rw [List.map_map,List.range_succ,List.map_append]
 refine congr (congrArg _ ?_) ?_
 ·rfl
 ·show [B (iter B n u)]=[u]
  exact congrArg (fun x=>[x]) h
theorem lG {B:Nat→Nat}{u q:Nat} (h:iter B q u=u) (hk:∀ k,1 ≤ k→k < q→iter B k u ≠ u):(backs B u q).Nodup:=by
 unfold backs
 rw [List.Nodup,List.pairwise_iff_getElem]
 intro i j hi hj hij e
 simp only [List.length_map,List.length_range] at hi hj
 simp only [List.getElem_map,List.getElem_range] at e
 -- go on from j to q: from i the same number of steps
 have a1:iter B (q - j) (iter B j u)=u:=by rw [← bA,show j + (q - j)=q by lia]; exact h
 rw [← e,← bA] at a1
 exact hk (i + (q - j)) (by lia) (by lia) a1
end Mine
namespace Mine
set_option backward.match.sparseCases false
open PySem
noncomputable def xcs:List Nat:=[37,49,61,73,85,97]
noncomputable def xc (k:Nat):Nat:=xcs.getD k 0
theorem cps {A:Prop} (h:∀ G:Prop,(A→G)→G):A:=h A id
section
variable {call:Nat→List V→Sto→RE}{wf:Nat}{fr fr1 fr2 fr':Fra} {σ σ1 σ2 σ3 σ4 σ':Sto}{a b c t:E}{es:List E}{v w x y z:V}{vs:List V}{i:Nat}{p q:Bool}
theorem cY:evE call .none fr σ=.ok .none σ:=rfl
theorem d3:evE call (.bool p) fr σ=.ok (.bool p) σ:=rfl
theorem ai {n:Int}:evE call (.int n) fr σ=.ok (.int n) σ:=rfl
theorem xD {s:Str}:evE call (.str s) fr σ=.ok (.str s) σ:=rfl
theorem sY {m n:Nat}:evE call (.pow m n) fr σ=.ok (.int ((m:Int) ^ n)) σ:=rfl
theorem ac (h:fr[i]?=some (some v)):evE call (.loc i) fr σ=.ok v σ:=by
 show (match fr[i]? with | some (some v)=>RE.ok v σ | _=>.bad)=_; rw [h]
theorem sW {n:Int} (h:evE call a fr σ=.ok (.int n) σ1):evE call (.neg a) fr σ=.ok (.int (-n)) σ1:=by
 show (evE call a fr σ).bind _=_; rw [h]; rfl
theorem xy (h:evE call a fr σ=.ok (.bool p) σ1):evE call (.not a) fr σ=.ok (.bool (!p)) σ1:=by
 show (evE call a fr σ).bind _=_; rw [h]; rfl
theorem vA (h:evE call a fr σ=.ok (.bool false) σ1):evE call (.not a) fr σ=.ok (.bool true) σ1:=xy h
theorem dc (h:evE call a fr σ=.ok (.bool true) σ1):evE call (.not a) fr σ=.ok (.bool false) σ1:=xy h
theorem dC {r:RE} (h:evE call a fr σ=.ok (.bool true) σ1) (h2:evE call b fr σ1=r):evE call (.and a b) fr σ=r:=by
 show (evE call a fr σ).bind _=_; rw [h]; exact h2
theorem vW (h:evE call a fr σ=.ok (.bool false) σ1):evE call (.and a b) fr σ=.ok (.bool false) σ1:=by
 show (evE call a fr σ).bind _=_; rw [h]; rfl
theorem d6 {r:RE} (h:evE call a fr σ=.ok (.bool false) σ1) (h2:evE call b fr σ1=r):evE call (.or a b) fr σ=r:=by
 show (evE call a fr σ).bind _=_; rw [h]; exact h2
theorem zn (h:evE call a fr σ=.ok (.bool true) σ1):evE call (.or a b) fr σ=.ok (.bool true) σ1:=by
 show (evE call a fr σ).bind _=_; rw [h]; rfl
theorem tw (h:evE call a fr σ=.ok (.bool p) σ) (h2:p=true→evE call b fr σ=.ok (.bool q) σ):evE call (.and a b) fr σ=.ok (.bool (p && q)) σ:=by
 cases p with
 | false=>exact vW h
 | true=>exact dC h (h2 rfl)
theorem Af (h:evE call a fr σ=.ok (.bool p) σ) (h2:p=false→evE call b fr σ=.ok (.bool q) σ):evE call (.or a b) fr σ=.ok (.bool (p || q)) σ:=by
 cases p with
 | true=>exact zn h
 | false=>exact d6 h (h2 rfl)
theorem ar {op:Operator}{r:RE} (h1:evE call a fr σ=.ok x σ1) (h2:evE call b fr σ1=.ok y σ2) (h3:oi op x y σ2=r):evE call (.bin op a b) fr σ=r:=by
 show (evE call a fr σ).bind _=_; rw [h1]; show (evE call b fr σ1).bind _=_; rw [h2]; exact h3
theorem aE {op:CmpOp} (h1:evE call a fr σ=.ok x σ1) (h2:evE call b fr σ1=.ok y σ2) (h3:gq op x y σ2=some p):evE call (.cmp op a b) fr σ=.ok (.bool p) σ2:=by
 show (evE call a fr σ).bind _=_; rw [h1]; show (evE call b fr σ1).bind _=_; rw [h2]; show dY σ2 (gq op x y σ2)=_; rw [h3]; rfl
theorem yD {o1 o2:CmpOp} (h1:evE call a fr σ=.ok x σ) (h2:evE call b fr σ=.ok y σ) (h3:gq o1 x y σ=some p) (h4:p=true→evE call c fr σ=.ok z σ) (h5:p=true→gq o2 y z σ=some q):evE call (.cmp2 o1 o2 a b c) fr σ=.ok (.bool (p && q)) σ:=by
 show (evE call a fr σ).bind _=_; rw [h1]; show (evE call b fr σ).bind _=_; rw [h2]
 show (match gq o1 x y σ with | some true=>(evE call c fr σ).bind fun z σ=>dY σ (gq o2 y z σ) | some false=>.ok (.bool false) σ | none=>.bad)=_
 rw [h3]
 cases p with
 | false=>rfl
 | true=>show (evE call c fr σ).bind _=_; rw [h4 rfl]; show dY σ (gq o2 y z σ)=_; rw [h5 rfl]; rfl
theorem aD (h1:evE call a fr σ=.ok x σ1) (h2:evE call b fr σ1=.ok y σ2) (h3:lm x y σ2=some v):evE call (.sub a b) fr σ=.ok v σ2:=by
 show (evE call a fr σ).bind _=_
 rw [h1]; show (evE call b fr σ1).bind _=_; rw [h2]; show bS σ2 (lm x y σ2)=_; rw [h3]; rfl
theorem vJ {l k:Nat}{xs:List V}{r:RE} (h1:evE call a fr σ=.ok (.ref l) σ1) (h2:evE call b fr σ1=.ok (.int k) σ2) (h3:getL σ2 l=some xs) (h4:cN (xs.drop k) σ2=r):evE call (.slo a b) fr σ=r:=by
 show (evE call a fr σ).bind _=_; rw [h1]; show (evE call b fr σ1).bind _=_; rw [h2]
 show (match getL σ2 l with | some xs=>if (0:Int) ≤ (k:Int) then cN (xs.drop (k:Int).toNat) σ2 else .bad | none=>.bad)=_
 rw [h3]; show (if (0:Int) ≤ (k:Int) then cN (xs.drop (k:Int).toNat) σ2 else .bad)=_
 rw [if_pos (Int.natCast_nonneg k)]; exact h4
theorem we {l k:Nat}{xs:List V}{r:RE} (h1:evE call a fr σ=.ok (.ref l) σ1) (h2:evE call b fr σ1=.ok (.int k) σ2) (h3:getL σ2 l=some xs) (h4:cN (xs.take k) σ2=r):evE call (.shi a b) fr σ=r:=by
 show (evE call a fr σ).bind _=_; rw [h1]; show (evE call b fr σ1).bind _=_; rw [h2]
 show (match getL σ2 l with | some xs=>if (0:Int) ≤ (k:Int) then cN (xs.take (k:Int).toNat) σ2 else .bad | none=>.bad)=_
 rw [h3]; show (if (0:Int) ≤ (k:Int) then cN (xs.take (k:Int).toNat) σ2 else .bad)=_
 rw [if_pos (Int.natCast_nonneg k)]; exact h4
theorem cD {k:Nat} (h1:evE call a fr σ=.ok x σ1) (h2:jr x k σ1=some v):evE call (.attr a k) fr σ=.ok v σ1:=by
 show (evE call a fr σ).bind _=_; rw [h1]; show bS σ1 (jr x k σ1)=_; rw [h2]; rfl
theorem bg {r:RE} (h:b6 call es fr σ=.ok vs σ1) (h2:cN vs σ1=r):evE call (.list es) fr σ=r:=by
 show (b6 call es fr σ).bind _=_; rw [h]; exact h2
theorem fX (h:b6 call es fr σ=.ok vs σ1) (h2:vs.length ≤ 1000):evE call (.tup es) fr σ=.ok (.tup vs) σ1:=by
 show (b6 call es fr σ).bind _=_; rw [h]; exact if_pos h2
theorem w6:evE call .dict0 fr σ=.ok (.ref σ.length) (σ ++ [.dT []]):=rfl
theorem wj {k:Int} (h1:evE call a fr σ=.ok (.int k) σ1) (h2:evE call b fr σ1=.ok v σ2):evE call (.dict1 a b) fr σ=.ok (.ref σ2.length) (σ2 ++ [.dI [(k,v)]]):=by
 show (evE call a fr σ).bind _=_; rw [h1]; show (evE call b fr σ1).bind _=_; rw [h2]; rfl
theorem aF {k:Nat}{r:RE} (h:b6 call es fr σ=.ok vs σ1) (h2:call k vs σ1=r):evE call (.call k es) fr σ=r:=by
 show (b6 call es fr σ).bind _=_; rw [h]; exact h2
theorem BC {k:Nat} (h:b6 call es fr σ=.ok vs σ1) (h2:call k (.ref (σ1.length + 1) :: vs) (σ1 ++ [.att [],.inst σ1.length])=.ok .none σ2):evE call (.mk k es) fr σ=.ok (.ref (σ1.length + 1)) σ2:=by
 show (b6 call es fr σ).bind _=_; rw [h]
 show (match call k (.ref (σ1.length + 1) :: vs) (σ1 ++ [.att [],.inst σ1.length]) with | .ok .none σ'=>RE.ok (.ref (σ1.length + 1)) σ' | .ok _ _=>.bad | .ex x σ'=>.ex x σ' | .bad=>.bad)=_
 rw [h2]
theorem de {m:MN}{l:Nat}{xs xs2:List V}{r:RE} (h:evE call a fr σ=.ok (.ref l) σ1) (hl:getL σ1 l=some xs) (h2:b6 call es fr σ1=.ok vs σ2) (hl2:getL σ2 l=some xs2) (h3:dW m l xs2 vs σ2=r):evE call (.meth a m es) fr σ=r:=by
 show (evE call a fr σ).bind _=_; rw [h]
 show (match getL σ1 l with | some _=>(b6 call es fr σ1).bind _ | none=>.bad)=_
 rw [hl]; show (b6 call es fr σ1).bind _=_; rw [h2]
 show (match getL σ2 l with | some xs=>dW m l xs vs σ2 | none=>.bad)=_
 rw [hl2]; exact h3
theorem bP {k l d:Nat}{ents:List (Nat × V)}{r:RE} (h:evE call a fr σ=.ok (.ref l) σ1) (h1:σ1[l]?=some (.inst d)) (h2:σ1[d]?=some (.att ents)) (h3:b6 call es fr σ1=.ok vs σ2) (h4:call k (.ref l :: vs) σ2=r):evE call (.umeth a k es) fr σ=r:=by
 show (evE call a fr σ).bind _=_; rw [h]
 show (match σ1[l]? with | some o=>(match o with | .inst d=>(match σ1[d]? with | some o=>(match o with | .att _=>(b6 call es fr σ1).bind _ | _=>.bad) | none=>.bad) | _=>.bad) | none=>.bad)=_
 rw [h1]; show (match σ1[d]? with | some o=>(match o with | .att _=>(b6 call es fr σ1).bind _ | _=>.bad) | none=>.bad)=_
 rw [h2]; show (b6 call es fr σ1).bind _=_; rw [h3]; exact h4
theorem a6 {n:BN}{r:RE} (h:b6 call es fr σ=.ok vs σ1) (h2:gA n vs σ1=r):evE call (.blt n es) fr σ=r:=by
 show (b6 call es fr σ).bind _=_; rw [h]; exact h2
theorem zy {l:Nat}{is:List Int} (h:evE call a fr σ=.ok (.ref l) σ1) (h2:(getL σ1 l).bind aA=some is) (h3:v=match gV is with | some i=>V.int i | none=>V.none):evE call (.maxd a) fr σ=.ok v σ1:=by
 show (evE call a fr σ).bind _=_; rw [h]
 show (match (getL σ1 l).bind aA with | some []=>RE.ok .none σ1 | some is=>bS σ1 ((gV is).map V.int) | none=>.bad)=_
 rw [h2,h3]
 cases is <;> rfl
theorem gK {ty:Ty} (h:evE call a fr σ=.ok x σ1) (h2:vI ty x σ1=some p):evE call (.isi a ty) fr σ=.ok (.bool p) σ1:=by
 show (evE call a fr σ).bind _=_; rw [h]; show dY σ1 (vI ty x σ1)=_; rw [h2]; rfl
theorem AC {key:KX}{r:RE} (h:evE call a fr σ=.ok x σ1) (h2:zC key fr x σ1=r):evE call (.srt a key) fr σ=r:=by
 show (evE call a fr σ).bind _=_; rw [h]; exact h2
theorem ae:b6 call [] fr σ=.ok [] σ:=rfl
theorem aa (h:evE call a fr σ=.ok v σ1) (h2:b6 call es fr σ1=.ok vs σ2):b6 call (a :: es) fr σ=.ok (v :: vs) σ2:=by
 show (evE call a fr σ).binds _=_; rw [h]; show (b6 call es fr σ1).binds _=_; rw [h2]; rfl
variable {ss bs os:List S}{r:RS}
theorem aY:evSs call wf [] fr σ=.ok .next fr σ:=rfl
theorem a4 {s:S} (h:evS call wf s fr σ=.ok .next fr1 σ1) (h2:evSs call wf ss fr1 σ1=r):evSs call wf (s :: ss) fr σ=r:=by
 show (match evS call wf s fr σ with | .ok .next fr σ=>evSs call wf ss fr σ | r=>r)=_; rw [h]; exact h2
theorem i5 {s:S} (h:evS call wf s fr σ=.ok (.ret v) fr1 σ1):evSs call wf (s :: ss) fr σ=.ok (.ret v) fr1 σ1:=by
 show (match evS call wf s fr σ with | .ok .next fr σ=>evSs call wf ss fr σ | r=>r)=_; rw [h]
theorem bi (h:evE call a fr σ=.ok v σ1) (h2:evSs call wf ss fr σ1=r):evSs call wf (.expr a :: ss) fr σ=r :=
 a4 (by show (evE call a fr σ).bindX _ fr _=_; rw [h]; rfl) h2
theorem al (h:evE call a fr σ=.ok v σ1) (hi:i < fr.length) (h2:evSs call wf ss (fr.set i (some v)) σ1=r):evSs call wf (.asg i a :: ss) fr σ=r :=
 a4 (by show (evE call a fr σ).bindX _ fr _=_; rw [h]; exact if_pos hi) h2
theorem ro {is:List Nat} (h:evE call a fr σ=.ok v σ1) (hb:bW is false v fr=some fr1) (h2:evSs call wf ss fr1 σ1=r):evSs call wf (.asgT is a :: ss) fr σ=r :=
 a4 (di (by show (evE call a fr σ).bindS fr _=_; rw [h]; show (match bW is false v fr with | some fr=>RS.ok .next fr σ1 | none=>.bad)=_; rw [hb])) h2
theorem qM {k:Nat} (h:evE call a fr σ=.ok v σ1) (h1:evE call b fr σ1=.ok w σ2) (hs:dk w k v σ2=some σ3) (h2:evSs call wf ss fr σ3=r):evSs call wf (.asgA b k a :: ss) fr σ=r :=
 a4 (di (by
  show (evE call a fr σ).bindS fr _=_; rw [h]; show (evE call b fr σ1).bindS fr _=_; rw [h1]
  show (match dk w k v σ2 with | some σ=>RS.ok .next fr σ | none=>.bad)=_; rw [hs])) h2
theorem jj (h:evE call a fr σ=.ok v σ1) (h1:evE call b fr σ1=.ok w σ2) (h0:evE call c fr σ2=.ok x σ3) (hs:dw w x v σ3=some σ4) (h2:evSs call wf ss fr σ4=r):evSs call wf (.asgI b c a :: ss) fr σ=r :=
 a4 (di (by
  show (evE call a fr σ).bindS fr _=_; rw [h]; show (evE call b fr σ1).bindS fr _=_; rw [h1]; show (evE call c fr σ2).bindS fr _=_; rw [h0]
  show (match dw w x v σ3 with | some σ=>RS.ok .next fr σ | none=>.bad)=_; rw [hs])) h2
theorem aL (h:evE call a fr σ=.ok v σ1):evSs call wf (.ret a :: ss) fr σ=.ok (.ret v) fr σ1 :=
 i5 (by show (evE call a fr σ).bindX _ fr _=_; rw [h]; rfl)
theorem A9 (h:evE call t fr σ=.ok (.bool true) σ1):evS call wf (.ifS t bs os) fr σ=evSs call wf bs fr σ1:=by
 show (evE call t fr σ).bindS fr _=_; rw [h]; rfl
theorem BP (h:evE call t fr σ=.ok (.bool false) σ1):evS call wf (.ifS t bs os) fr σ=evSs call wf os fr σ1:=by
 show (evE call t fr σ).bindS fr _=_; rw [h]; rfl
theorem d4 (h:evE call t fr σ=.ok (.bool true) σ1) (h1:evSs call wf bs fr σ1=.ok .next fr1 σ2) (h2:evSs call wf ss fr1 σ2=r):evSs call wf (.ifS t bs os :: ss) fr σ=r:=a4 ((A9 h).trans h1) h2
theorem pN (h:evE call t fr σ=.ok (.bool false) σ1) (h1:evSs call wf os fr σ1=.ok .next fr1 σ2) (h2:evSs call wf ss fr1 σ2=r):evSs call wf (.ifS t bs os :: ss) fr σ=r:=a4 ((BP h).trans h1) h2
theorem aG (h:evE call t fr σ=.ok (.bool false) σ1) (h2:evSs call wf ss fr σ1=r):evSs call wf (.ifS t bs [] :: ss) fr σ=r:=pN h aY h2
theorem cP (h:evE call t fr σ=.ok (.bool true) σ1) (h1:evSs call wf bs fr σ1=.ok (.ret v) fr1 σ2):evSs call wf (.ifS t bs os :: ss) fr σ=.ok (.ret v) fr1 σ2:=i5 ((A9 h).trans h1)
end
section
variable {P:Nat→Option Fn}{wf n:Nat}{fr':Fra} {σ σ':Sto}{v:V}
theorem bh {k:Nat}{fn:Fn}{vs:List V} (hP:P k=some fn) (hl:vs.length=fn.ps.length) (h:evSs (evFn P wf n) wf fn.body (aS fn vs) σ=.ok (.ret v) fr' σ'):evFn P wf (n + 1) k vs σ=.ok v σ':=(iD hP hl).trans (congrArg tt h)
theorem u1 {k:Nat}{fn:Fn}{vs:List V} (hP:P k=some fn) (hl:vs.length=fn.ps.length) (h:evSs (evFn P wf n) wf fn.body (aS fn vs) σ=.ok .next fr' σ'):evFn P wf (n + 1) k vs σ=.ok .none σ':=(iD hP hl).trans (congrArg tt h)
end
end Mine
namespace Mine
set_option backward.match.sparseCases false
open PySem
theorem ap {σ τ:Sto}{l:Nat}{o:AO} (h:σ[l]?=some o):(σ ++ τ)[l]?=some o:=by
 rw [List.getElem?_append_left (List.getElem?_eq_some_iff.mp h).1]; exact h
theorem am {σ τ:Sto}{o:AO}:(σ ++ o :: τ)[σ.length]?=some o:=by rw [List.getElem?_append_right (Nat.le_refl _),Nat.sub_self]; rfl
theorem ag {σ:Sto}{l:Nat}{xs:List V} (h:σ[l]?=some (.lst xs)):getL σ l=some xs:=by unfold getL; rw [h]
theorem ak {xs:List V} {σ:Sto} (h:xs.length ≤ 16777216):cN xs σ=.ok (.ref σ.length) (σ ++ [.lst xs]):=if_pos h
theorem jy {fr:Fra}{v:Option V}{i j:Nat} (h:j ≠ i):(fr.set i v)[j]?=fr[j]?:=List.getElem?_set_ne (Ne.symm h)
theorem kJ:∀ (l:List (Nat × V)) (fr:Fra),(l.foldl (fun f p=>f.set p.1 (some p.2)) fr).length=fr.length
 | [],_=>rfl
 | p :: l,fr=>by rw [List.foldl_cons,kJ l,List.length_set]
theorem j9:∀ (l:List (Nat × V)) (fr:Fra) (j:Nat),j ∉ l.map (·.1)→(l.foldl (fun f p=>f.set p.1 (some p.2)) fr)[j]?=fr[j]?
 | [],_,_,_=>rfl
 | p :: l,fr,j,h=>by
  rw [List.map_cons,List.mem_cons,not_or] at h
  rw [List.foldl_cons,j9 l _ j h.2,jy h.1]
theorem fm:∀ (l:List (Nat × V)) (f1 f2:Fra),f1.length=f2.length→(∀ j,j ∉ l.map (·.1)→f1[j]?=f2[j]?)→l.foldl (fun f p=>f.set p.1 (some p.2)) f1=l.foldl (fun f p=>f.set p.1 (some p.2)) f2
 | [],f1,f2,_,h=>List.ext_getElem? fun j=>h j (nomatch ·)
 | p :: l,f1,f2,hl,h=>by
  rw [List.foldl_cons,List.foldl_cons]
  refine fm l _ _ (by rw [List.length_set,List.length_set]; exact hl) fun j hj=>?_
  by_cases hp:j=p.1
  ·subst hp
   rw [List.getElem?_set,List.getElem?_set,if_pos rfl,if_pos rfl,hl]
  ·rw [jy hp,jy hp]
   exact h j (by rw [List.map_cons,List.mem_cons,not_or]; exact ⟨hp,hj⟩)
theorem l3 {tg:List Nat}{one:Bool}{v:V}{fr fr1:Fra} (h:bW tg one v fr=some fr1):fr1.length=fr.length ∧ ∀ j,j ∉ tg→fr1[j]?=fr[j]?:=by
 cases one with
 | true =>
  rcases tg with _ | ⟨i,_ | ⟨j,tg⟩⟩
  ·exact nomatch (show none=some fr1 from h)
  ·by_cases hi:i < fr.length
   ·rw [← Option.some.inj ((if_pos hi).symm.trans (show (if i < fr.length then some (fr.set i (some v)) else none)=some fr1 from h))]
    exact ⟨List.length_set,fun j hj=>jy fun q=>hj (by rw [q]; exact .head _)⟩
   ·exact nomatch (if_neg hi).symm.trans (show (if i < fr.length then some (fr.set i (some v)) else none)=some fr1 from h)
  ·exact nomatch (show none=some fr1 from h)
 | false =>
  cases v with
  | tup vs =>
   by_cases hc:vs.length=tg.length ∧ tg.all (· < fr.length)
   ·rw [← Option.some.inj ((if_pos hc).symm.trans h)]
    exact ⟨kJ _ _,fun j hj=>j9 _ _ j (by rw [List.map_fst_zip (Nat.le_of_eq hc.1.symm)]; exact hj)⟩
   ·exact nomatch (if_neg hc).symm.trans h
  | _=>exact nomatch (show none=some fr1 from h)
theorem oW {tg:List Nat}{one:Bool}{v:V}{fr fr1:Fra} (h:fr1.length=fr.length ∧ ∀ j,j ∉ tg→fr1[j]?=fr[j]?):bW tg one v fr1=bW tg one v fr:=by
 cases one with
 | true =>
  rcases tg with _ | ⟨i,_ | ⟨j,tg⟩⟩
  ·rfl
  ·show (if i < fr1.length then some (fr1.set i (some v)) else none)=if i < fr.length then some (fr.set i (some v)) else none
   rw [h.1,show fr1.set i (some v)=fr.set i (some v) from fm [(i,v)] fr1 fr h.1 h.2]
  ·rfl
 | false =>
  cases v with
  | tup vs =>
   show (if vs.length=tg.length ∧ tg.all (· < fr1.length) then _ else none)=if vs.length=tg.length ∧ tg.all (· < fr.length) then _ else none
   rw [h.1]
   by_cases hc:vs.length=tg.length ∧ tg.all (· < fr.length)
   ·rw [if_pos hc,if_pos hc,fm _ _ _ h.1 (by rw [List.map_fst_zip (Nat.le_of_eq hc.1.symm)]; exact h.2)]
   ·rw [if_neg hc,if_neg hc]
  | _=>rfl
theorem lQ {tg:List Nat}{one:Bool}{v v':V}{fr fr1:Fra} (h:bW tg one v fr=some fr1):bW tg one v' fr1=bW tg one v' fr:=oW (l3 h)
section
variable {call:Nat→List V→Sto→RE}{wf:Nat}{fr fr1:Fra} {σ σ1:Sto}{tg:List Nat}{one:Bool}{cond elt:Fra→Sto→RE} {α:Type}
theorem nY {v y:V}{p:Bool}{acc:List V} (h1:bW tg one v fr=some fr1) (h2:cond fr1 σ=.ok (.bool p) σ) (h3:p=true→elt fr1 σ=.ok y σ):lX tg one cond elt v fr σ acc=some (fr1,(if p then acc ++ [y] else acc),σ):=by
 unfold lX
 rw [h1]
 show (cond fr1 σ).opt _=_
 rw [h2]
 cases p with
 | false=>rfl
 | true=>show (elt fr1 σ).opt _=_; rw [h3 rfl]; rfl
inductive sm (tg:List Nat) (one:Bool) (cond elt:Fra→Sto→RE) (fr:Fra) (σ:Sto) (v:V) (p:Bool) (y:V):Prop
 | mk (fr1:Fra) (h1:bW tg one v fr=some fr1) (h2:cond fr1 σ=.ok (.bool p) σ) (h3:p=true→elt fr1 σ=.ok y σ):sm tg one cond elt fr σ v p y
theorem rA {p:α→Bool}{f:α→V}{a:α}{ws:List α}{acc:List V}:(if p a then acc ++ [f a] else acc) ++ (ws.filter p).map f=acc ++ ((a :: ws).filter p).map f:=by
 rw [List.filter_cons]
 cases p a with
 | true=>simp
 | false=>rfl
theorem oA {src:Src}{n i:Nat}{acc:List V} (h:bc σ i src=some none):eh tg one cond elt src (n + 1) i fr σ acc=.ok acc σ:=by
 show oP (bc σ i src) _ _ _=_; rw [h]; rfl
theorem n8 {src:Src}{n i:Nat}{v:V}{acc acc':List V} {σ':Sto} (h:bc σ i src=some (some v)) (hf:lX tg one cond elt v fr σ acc=some (fr1,acc',σ')):eh tg one cond elt src (n + 1) i fr σ acc=eh tg one cond elt src n (i + 1) fr1 σ' acc':=by
 show oP (bc σ i src) _ _ _=_; rw [h]; show lq (lX tg one cond elt v fr σ acc) _ _=_; rw [hf]; rfl
theorem ye {src:Src}{g:α→V}{xs:List α}{i:Nat} (hs:bc σ i src=some (xs[i]?.map g)) (hd:xs.drop i=[]):bc σ i src=some none:=by rw [hs,List.getElem?_eq_none_iff.mpr (List.drop_eq_nil_iff.mp hd)]; rfl
theorem v8 {src:Src}{g:α→V}{xs ws:List α}{a:α}{i:Nat} (hs:bc σ i src=some (xs[i]?.map g)) (hd:xs.drop i=a :: ws):bc σ i src=some (some (g a)):=by
 have:=congrArg (fun l=>l[0]?) hd
 rw [List.getElem?_drop,Nat.add_zero] at this
 rw [hs,this]; rfl
theorem oH {src:Src}{xs:List α}{g:α→V}{p:α→Bool}{f:α→V}{fr0:Fra} (hs:∀ i,bc σ i src=some (xs[i]?.map g)):∀ (ws:List α) (n i:Nat) (fr:Fra) (acc:List V),xs.drop i=ws→ws.length < n→(∀ v,bW tg one v fr=bW tg one v fr0) →
  (∀ a ∈ ws,sm tg one cond elt fr0 σ (g a) (p a) (f a))→eh tg one cond elt src n i fr σ acc=.ok (acc ++ (ws.filter p).map f) σ:=by
 intro ws
 induction ws with
 | nil =>
  intro n i fr acc hd hn _ _
  cases n with
  | zero=>exact absurd hn (Nat.not_lt_zero _)
  | succ n=>rw [oA (ye (hs i) hd)]; exact congrArg (fun l=>REs.ok l σ) (List.append_nil _).symm
 | cons a ws ih =>
  intro n i fr acc hd hn hfr h
  cases n with
  | zero=>exact absurd hn (Nat.not_lt_zero _)
  | succ n =>
   obtain ⟨fr1,h1,h2,h3⟩:=h a (.head _)
   rw [n8 (v8 (hs i) hd) (nY ((hfr _).trans h1) h2 h3),ih n (i + 1) fr1 _ (by rw [← List.drop_drop,hd]; rfl) (Nat.lt_of_succ_lt_succ hn) (fun v=>lQ h1) fun b hb=>h b (.tail _ hb),rA]
variable {it el:E}{cs:List E}{frm:List (Option Nat)}{g:α→V}{p:α→Bool}{f:α→V}{ws:List α}{r:RE}
theorem pL {v:V}{src:Src} (hv:iI v=some src) (hk:my σ1 src=some ws.length) (hs:∀ i,bc σ1 i src=some (ws[i]?.map g)) (h:evE call it fr σ=.ok v σ1) (hp:∀ a ∈ ws,sm tg one (dU (ln call cs)) (evE call el) (ee fr frm) σ1 (g a) (p a) (f a)) (hn:cN ((ws.filter p).map f) σ1=r) :
  evE call (.comp tg one it cs el frm) fr σ=r:=by
 show (evE call it fr σ).bind _=_; rw [h]
 show REs.bind (lq (iI v) _ _) _=_
 rw [hv]
 show REs.bind (lq (my σ1 src) _ _) _=_
 rw [hk]
 show (eh tg one (dU (ln call cs)) (evE call el) src (ws.length + 1) 0 (ee fr frm) σ1 []).bind _=_
 rw [oH hs ws _ 0 _ [] rfl (Nat.lt_succ_self _) (fun _=>rfl) hp]
 exact hn
theorem u0 {l:Nat}{ws:List α}{g:α→V} (h:getL σ l=some (ws.map g)):my σ (.live l)=some ws.length:=by show (getL σ l).map _=_; rw [h]; exact congrArg some (List.length_map g)
theorem pz {l:Nat}{ws:List α}{g:α→V} (h:getL σ l=some (ws.map g)) (i:Nat):bc σ i (.live l)=some (ws[i]?.map g):=by show (getL σ l).map _=_; rw [h]; exact congrArg some List.getElem?_map
theorem Am {vs:List V}{ws:List α}{g:α→V} (h:vs=ws.map g):my σ (.tup vs)=some ws.length:=by rw [h]; exact congrArg some (List.length_map g)
theorem yZ {vs:List V}{ws:List α}{g:α→V} (h:vs=ws.map g) (i:Nat):bc σ i (.tup vs)=some (ws[i]?.map g):=by rw [h]; exact congrArg some List.getElem?_map
theorem AL {lo hi:Int}{ws:List α}{g:α→V} (h:iG lo hi=ws.map g):my σ (.rng lo hi)=some ws.length:=by
 have:=congrArg List.length h
 rw [List.length_map] at this
 rw [← this]; unfold iG; rw [List.length_map,List.length_range]; rfl
theorem zv {lo hi:Int}{ws:List α}{g:α→V} (h:iG lo hi=ws.map g) (i:Nat):bc σ i (.rng lo hi)=some (ws[i]?.map g):=by show some (iG lo hi)[i]?=_; rw [h]; exact congrArg some List.getElem?_map
theorem eI {l:Nat} (h:evE call it fr σ=.ok (.ref l) σ1) (hl:getL σ1 l=some (ws.map g)) (hp:∀ a ∈ ws,sm tg one (dU (ln call cs)) (evE call el) (ee fr frm) σ1 (g a) (p a) (f a)) (hn:cN ((ws.filter p).map f) σ1=r) :
  evE call (.comp tg one it cs el frm) fr σ=r:=pL rfl (u0 hl) (pz hl) h hp hn
theorem wc {vs:List V} (h:evE call it fr σ=.ok (.tup vs) σ1) (hw:vs=ws.map g) (hp:∀ a ∈ ws,sm tg one (dU (ln call cs)) (evE call el) (ee fr frm) σ1 (g a) (p a) (f a)) (hn:cN ((ws.filter p).map f) σ1=r) :
  evE call (.comp tg one it cs el frm) fr σ=r:=pL rfl (Am hw) (yZ hw) h hp hn
theorem uc:dU (ln call []) fr σ=.ok (.bool true) σ:=rfl
theorem oJ {c:E}{q:Bool} (h:evE call c fr σ=.ok (.bool q) σ):dU (ln call [c]) fr σ=.ok (.bool q) σ:=by
 show (evE call c fr σ).bind _=_; rw [h]
 cases q <;> rfl
end
section
variable {call:Nat→List V→Sto→RE}{wf:Nat}{fr:Fra} {σ σ1:Sto}{tg:List Nat}{one:Bool}{body:Fra→Sto→RS} {α:Type}{g:α→V}
inductive Nxt (r:RS) (I:Fra→Sto→Prop):Prop
 | mk (fr:Fra) (σ:Sto) (e:r=.ok .next fr σ) (i:I fr σ):Nxt r I
inductive Bck (r:RS) (Rt:V→Sto→Prop):Prop
 | mk (w:V) (fr:Fra) (σ:Sto) (e:r=.ok (.ret w) fr σ) (i:Rt w σ):Bck r Rt
inductive m6 (tg:List Nat) (one:Bool) (body:Fra→Sto→RS) (v:V) (fr:Fra) (σ:Sto) (I:Fra→Sto→Prop) (Rt:V→Sto→Prop):Prop
 | mk (fr1:Fra) (h:bW tg one v fr=some fr1) (o:Nxt (body fr1 σ) I ∨ Bck (body fr1 σ) Rt):m6 tg one body v fr σ I Rt
def nr (r:RS) (I:Fra→Sto→Prop) (Rt:V→Sto→Prop):Prop:=Nxt r I ∨ Bck r Rt
theorem mU {src:Src}{ws:List α} (I:Nat→Fra→Sto→Prop) (Rt:V→Sto→Prop) (hI:∀ i fr σ,I i fr σ→bc σ i src=some (ws[i]?.map g)) (step:∀ i a fr σ,ws[i]?=some a→I i fr σ→m6 tg one body (g a) fr σ (I (i + 1)) Rt) :
  ∀ (n i:Nat) (fr:Fra) (σ:Sto),ws.length < i + n→i ≤ ws.length→I i fr σ→nr (lu tg one body src n i fr σ) (I ws.length) Rt:=by
 intro n
 induction n with
 | zero=>exact fun i fr σ hn hi _=>absurd hn (Nat.not_lt.mpr hi)
 | succ n ih =>
  intro i fr σ hn hi h0
  show nr (oP (bc σ i src) _ _ _) _ _
  rw [hI i fr σ h0]
  cases ha:ws[i]? with
  | none =>
   have:=List.getElem?_eq_none_iff.mp ha
   rw [Nat.le_antisymm hi this] at h0
   exact .inl ⟨fr,σ,rfl,h0⟩
  | some a =>
   obtain ⟨fr1,h1,h2⟩:=step i a fr σ ha h0
   show nr (lq (bW tg one (g a) fr) _ _) _ _
   rw [h1]
   show nr (wC (body fr1 σ) _) _ _
   rcases h2 with ⟨fr2,σ2,h2,h3⟩ | ⟨w,fr2,σ2,h2,h3⟩
   ·rw [h2]; exact ih (i + 1) fr2 σ2 (by lia) (List.getElem?_eq_some_iff.mp ha).1 h3
   ·rw [h2]; exact .inr ⟨w,fr2,σ2,rfl,h3⟩
variable {it:E}{bs:List S}{ws:List α}
theorem xI {v:V}{src:Src}{k:Nat} (hv:iI v=some src) (hk:my σ1 src=some k) (h:evE call it fr σ=.ok v σ1):evS call wf (.forS tg one (.e it) bs) fr σ=lu tg one (evSs call wf bs) src (k + 1) 0 fr σ1:=by
 show (evE call it fr σ).bindS fr _=_; rw [h]
 show lq (iI v) _ _=_
 rw [hv]
 show lq (my σ1 src) _ _=_
 rw [hk]; rfl
theorem uN {v:V}{src:Src} (I:Nat→Fra→Sto→Prop) (Rt:V→Sto→Prop) (hv:iI v=some src) (hk:my σ1 src=some ws.length) (hI:∀ i fr σ,I i fr σ→bc σ i src=some (ws[i]?.map g)) (h:evE call it fr σ=.ok v σ1)
  (step:∀ i a fr σ,ws[i]?=some a→I i fr σ→m6 tg one (evSs call wf bs) (g a) fr σ (I (i + 1)) Rt) (h0:I 0 fr σ1):nr (evS call wf (.forS tg one (.e it) bs) fr σ) (I ws.length) Rt:=by
 rw [xI hv hk h]
 exact mU I Rt hI step _ 0 fr σ1 (by lia) (Nat.zero_le _) h0
theorem kE {l:Nat} (I:Nat→Fra→Sto→Prop) (Rt:V→Sto→Prop) (h:evE call it fr σ=.ok (.ref l) σ1) (hI:∀ i fr σ,I i fr σ→getL σ l=some (ws.map g))
  (step:∀ i a fr σ,ws[i]?=some a→I i fr σ→m6 tg one (evSs call wf bs) (g a) fr σ (I (i + 1)) Rt) (h0:I 0 fr σ1):nr (evS call wf (.forS tg one (.e it) bs) fr σ) (I ws.length) Rt :=
 uN I Rt rfl (u0 (hI 0 fr σ1 h0)) (fun i fr σ h=>pz (hI i fr σ h) i) h step h0
theorem kK {lo hi:Int} (I:Nat→Fra→Sto→Prop) (Rt:V→Sto→Prop) (h:evE call it fr σ=.ok (.rng lo hi) σ1) (hw:iG lo hi=ws.map g)
  (step:∀ i a fr σ,ws[i]?=some a→I i fr σ→m6 tg one (evSs call wf bs) (g a) fr σ (I (i + 1)) Rt) (h0:I 0 fr σ1):nr (evS call wf (.forS tg one (.e it) bs) fr σ) (I ws.length) Rt :=
 uN I Rt rfl (AL hw) (fun i _ _ _=>zv hw i) h step h0
theorem nr.next {r:RS}{I:Fra→Sto→Prop} (h:nr r I (fun _ _=>False)):Nxt r I:=h.elim id fun ⟨_,_,_,_,q⟩=>q.elim
inductive uj {β:Type} (r:RS) (F:β→Fra) (S:β→Sto) (J:β→Prop):Prop
 | mk (b:β) (e:r=.ok .next (F b) (S b)) (j:J b):uj r F S J
inductive ge {β:Type} (tg:List Nat) (one:Bool) (body:Fra→Sto→RS) (v:V) (fr:Fra) (σ:Sto) (F:β→Fra) (S:β→Sto) (J:β→Prop):Prop
 | mk (fr1:Fra) (h:bW tg one v fr=some fr1) (b:β) (e:body fr1 σ=.ok .next (F b) (S b)) (j:J b):ge tg one body v fr σ F S J
section
variable {β:Type}{F:Nat→β→Fra}{S:Nat→β→Sto}{J:Nat→β→Prop}
inductive InF (F:β→Fra) (S:β→Sto) (J:β→Prop):Fra→Sto→Prop
 | mk (b:β) (j:J b):InF F S J (F b) (S b)
theorem uj.of {r:RS}{F:β→Fra}{S:β→Sto}{J:β→Prop} (h:nr r (InF F S J) (fun _ _=>False)):uj r F S J:=by
 obtain ⟨fr,σ,e,b,j⟩:=h.next
 exact ⟨b,e,j⟩
theorem ge.to {v:V}{fr:Fra} {σ:Sto}{F:β→Fra}{S:β→Sto}{J:β→Prop}{Rt:V→Sto→Prop} (h:ge tg one body v fr σ F S J):m6 tg one body v fr σ (InF F S J) Rt:=by
 obtain ⟨fr1,h1,b,e,j⟩:=h
 exact ⟨fr1,h1,.inl ⟨_,_,e,⟨b,j⟩⟩⟩
theorem sg {lo hi:Int} (b0:β) (h:evE call it (F 0 b0) σ=.ok (.rng lo hi) (S 0 b0)) (hw:iG lo hi=ws.map g) (step:∀ i a b,ws[i]?=some a→J i b→ge tg one (evSs call wf bs) (g a) (F i b) (S i b) (F (i + 1)) (S (i + 1)) (J (i + 1))) (h0:J 0 b0) :
  uj (evS call wf (.forS tg one (.e it) bs) (F 0 b0) σ) (F ws.length) (S ws.length) (J ws.length) :=
 .of (kK (fun i=>InF (F i) (S i) (J i)) _ h hw (fun i a _ _ ha ⟨b,j⟩=>(step i a b ha j).to) ⟨b0,h0⟩)
theorem w3 {l:Nat} (b0:β) (h:evE call it (F 0 b0) σ=.ok (.ref l) (S 0 b0)) (hl:∀ i b,J i b→getL (S i b) l=some (ws.map g)) (step:∀ i a b,ws[i]?=some a→J i b→ge tg one (evSs call wf bs) (g a) (F i b) (S i b) (F (i + 1)) (S (i + 1)) (J (i + 1))) (h0:J 0 b0) :
  uj (evS call wf (.forS tg one (.e it) bs) (F 0 b0) σ) (F ws.length) (S ws.length) (J ws.length) :=
 .of (kE (fun i=>InF (F i) (S i) (J i)) _ h (fun i _ _ ⟨b,j⟩=>hl i b j) (fun i a _ _ ha ⟨b,j⟩=>(step i a b ha j).to) ⟨b0,h0⟩)
end
theorem ii {test:Fra→Sto→RE}{n:Nat}{fr2:Fra} {σ2:Sto}{r:RS} (h1:test fr σ=.ok (.bool true) σ1) (h2:body fr σ1=.ok .next fr2 σ2) (h3:cm test body n fr2 σ2=r):cm test body (n + 1) fr σ=r:=by
 show (test fr σ).bindS fr _=_; rw [h1]; show wC (body fr σ1) _=_; rw [h2]; exact h3
theorem mE {test:Fra→Sto→RE}{n:Nat} (h1:test fr σ=.ok (.bool false) σ1):cm test body (n + 1) fr σ=.ok .next fr σ1:=by
 show (test fr σ).bindS fr _=_; rw [h1]; rfl
theorem u9 {test:Fra→Sto→RE}{n:Nat}{fr2:Fra} {σ2:Sto}{w:V} (h1:test fr σ=.ok (.bool true) σ1) (h2:body fr σ1=.ok (.ret w) fr2 σ2):cm test body (n + 1) fr σ=.ok (.ret w) fr2 σ2:=by
 show (test fr σ).bindS fr _=_; rw [h1]; show wC (body fr σ1) _=_; rw [h2]; rfl
end
end Mine
namespace Mine
open PySem
noncomputable def cR:Fn:={ ps:=[0,1,2],size:=6,body:=[S.ret (((E.loc 0).isi Ty.int).and (((E.loc 0).isi Ty.bool).not.and (E.cmp2 .LtE .LtE (E.loc 1) (E.loc 0) (E.loc 2))))] }
noncomputable def rI:Fn:={ ps:=[0,1],size:=4,body:=[S.ifS (E.call 8 [E.loc 1,E.int 0,E.bin .Sub ((E.loc 0).attr 0) (E.int 1)]).not [S.raise (xc 1)] []] }
noncomputable def rr:Fn:={ ps:=[0,1,2],size:=4,body :=
 [S.expr ((E.loc 0).umeth 12 [E.loc 1]),S.expr ((E.loc 0).umeth 12 [E.loc 2]),
  S.ret (E.comp [1] true ((E.loc 0).attr 1) [(E.cmp .Eq ((E.loc 1).sub (E.int 0)) (E.loc 2)).and (E.cmp .Eq ((E.loc 1).sub (E.int 1)) (E.loc 3))] ((E.loc 1).sub (E.int 2)) [none,none,some 1,some 2]).maxd] }
noncomputable def wayV (w:Way):V:=.tup [.int w.1,.int w.2.1,.int w.2.2]
structure a9 (σ:Sto) (l:Nat) (m:Nat) (ws:List Way):Prop where
 at':∃ d lw,σ[l]?=some (.inst d) ∧ σ[d]?=some (.att [(0,.int m),(1,.ref lw)]) ∧ σ[lw]?=some (.lst (ws.map wayV))
theorem a9.app {σ τ:Sto}{l m:Nat}{ws:List Way} (h:a9 σ l m ws):a9 (σ ++ τ) l m ws :=
 let ⟨d,lw,a,b,c⟩:=h.at'; ⟨d,lw,ap a,ap b,ap c⟩
section
variable {P:Nat→Option Fn}{wf n:Nat} {σ:Sto}
theorem lL (hP:P 8=some cR) (x lo hi:Int):evFn P wf (n + 1) 8 [.int x,.int lo,.int hi] σ=.ok (.bool (decide (lo ≤ x) && decide (x ≤ hi))) σ :=
 bh hP rfl (aL (dC (gK (ac rfl) rfl) (dC (vA (gK (ac rfl) rfl)) (yD (ac rfl) (ac rfl) rfl (fun _=>ac rfl) fun _=>rfl))))
theorem i7 (hP:P 8=some cR) {x lo hi:Int} (h1:lo ≤ x) (h2:x ≤ hi):evFn P wf (n + 1) 8 [.int x,.int lo,.int hi] σ=.ok (.bool true) σ:=by
 rw [lL hP,decide_eq_true h1,decide_eq_true h2]; rfl
theorem b9 {l m d lw:Nat} (a:σ[l]?=some (.inst d)) (b:σ[d]?=some (.att [(0,.int m),(1,.ref lw)])):jr (.ref l) 0 σ=some (.int m):=by
 unfold jr; dsimp only; rw [a]; dsimp only; rw [b]; rfl
theorem cK {l m d lw:Nat} (a:σ[l]?=some (.inst d)) (b:σ[d]?=some (.att [(0,.int m),(1,.ref lw)])):jr (.ref l) 1 σ=some (.ref lw):=by
 unfold jr; dsimp only; rw [a]; dsimp only; rw [b]; rfl
theorem mi (h8:P 8=some cR) (h12:P 12=some rI) {l m x:Nat}{ws:List Way} (w:a9 σ l m ws) (hx:x < m):evFn P wf (n + 2) 12 [.ref l,.int x] σ=.ok .none σ:=by
 obtain ⟨d,lw,a,b,c⟩:=w.at'
 exact u1 h12 rfl (aG (dc (aF (aa (ac rfl) (aa ai (aa (ar (cD (ac rfl) (b9 a b)) ai rfl) ae))) (i7 h8 (Int.natCast_nonneg x) (by lia)))) aY)
theorem bN:∀ l:List Nat,aA (l.map fun (d:Nat)=>V.int d)=some (l.map fun (d:Nat)=>(d:Int))
 | []=>rfl
 | x :: l=>by
  have:=bN l
  unfold aA at this ⊢
  rw [List.map_cons,gX,this]; rfl
noncomputable def aX (ws:List Way) (a b:Nat):List Nat:=(ws.filter fun w=>w.1 == a && w.2.1 == b).map (·.2.2)
theorem dn (x y:Nat):((x:Int) == (y:Int))=(x == y):=by
 rw [Bool.eq_iff_iff,beq_iff_eq,beq_iff_eq]; lia
theorem tK (h8:P 8=some cR) (h12:P 12=some rI) (h13:P 13=some rr) {l m x y:Nat}{ws:List Way} (w:a9 σ l m ws) (hx:x < m) (hy:y < m) (hz:ws.length ≤ 60) :
  evFn P wf (n + 3) 13 [.ref l,.int x,.int y] σ=.ok (match gV ((aX ws x y).map fun (d:Nat)=>(d:Int)) with | some i=>V.int i | none=>V.none) (σ ++ [.lst ((aX ws x y).map fun (d:Nat)=>V.int d)]):=by
 obtain ⟨d,lw,a,b,c⟩:=w.at'
 have hn:=fun (z:Nat) (hz:z < m)=>mi (wf:=wf) (n:=n) h8 h12 w hz
 have e1:(aX ws x y).map (fun (d:Nat)=>V.int d)=(ws.filter fun w=>w.1 == x && w.2.1 == y).map fun w=>V.int w.2.2:=by unfold aX; rw [List.map_map]; rfl
 refine bh h13 rfl (bi (bP (ac rfl) a b (aa (ac rfl) ae) (hn x hx)) (bi (bP (ac rfl) a b (aa (ac rfl) ae) (hn y hy)) (aL (zy (l:=σ.length) (is:=(aX ws x y).map fun (d:Nat)=>(d:Int)) ?_ ?_ rfl))))
 ·rw [e1]
  refine eI (ws:=ws) (g:=wayV) (p:=fun w=>w.1 == x && w.2.1 == y) (f:=fun w=>.int w.2.2) (cD (ac rfl) (cK a b)) (ag c) (fun w hw=>⟨_,rfl,oJ ?_,fun _=>aD (ac rfl) ai rfl⟩) (ak ?_)
  ·exact tw (aE (aD (ac rfl) ai rfl) (ac rfl) (congrArg some (dn w.1 x))) fun _=>aE (aD (ac rfl) ai rfl) (ac rfl) (congrArg some (dn w.2.1 y))
  ·rw [List.length_map]; exact Nat.le_trans (List.length_filter_le _ _) (Nat.le_trans hz (by decide))
 ·rw [ag am]; exact bN _
end
end Mine
namespace Mine
open PySem
noncomputable def l7:List S:=[S.asg 2 (E.bin .Mod (E.loc 0) (E.loc 1)),S.asg 0 (E.loc 1),S.asg 1 (E.loc 2)]
noncomputable def jT:Fn:={ ps:=[0,1],size:=3,body:=[S.whileS (E.cmp .NotEq (E.loc 1) (E.int 0)) l7,S.ret (E.loc 0)] }
noncomputable def lY:Fn:={ ps:=[0,1],size:=4,body:=[S.asg 2 (E.call 0 [E.loc 0,E.loc 1]),S.ret (E.tup [E.bin .FloorDiv (E.loc 0) (E.loc 2),E.bin .FloorDiv (E.loc 1) (E.loc 2)])] }
theorem zm (x y:Nat):Int.fmod (x:Int) (y:Int)=((x % y:Nat):Int):=by
 rw [Int.fmod_eq_emod_of_nonneg _ (Int.natCast_nonneg y)]; rfl
theorem AT (x y:Nat):Int.fdiv (x:Int) (y:Int)=((x / y:Nat):Int):=by
 rw [Int.fdiv_eq_ediv_of_nonneg _ (Int.natCast_nonneg y)]; rfl
theorem g8 {x y:Nat} {σ:Sto} (h:y ≠ 0):oi .Mod (.int x) (.int y) σ=.ok (.int (x % y:Nat)) σ:=by
 show (if (y:Int)=0 then RE.bad else .ok (.int (Int.fmod x y)) σ)=_
 rw [if_neg (by lia),zm]
theorem n6 {x y:Nat} {σ:Sto} (h:y ≠ 0) (h':y < 10 ^ 100):oi .FloorDiv (.int x) (.int y) σ=.ok (.int (x / y:Nat)) σ:=by
 show (if (y:Int) ≠ 0 ∧ (y:Int).natAbs < 10 ^ 100 then RE.ok (.int (Int.fdiv x y)) σ else .bad)=_
 rw [if_pos ⟨by lia,h'⟩,AT]
section
variable {P:Nat→Option Fn}{wf n:Nat} {σ:Sto}
theorem yI {call:Nat→List V→Sto→RE}{te:E} (ht:∀ (x y:Nat) (z:Option V),evE call te [some (.int x),some (.int y),z] σ=.ok (.bool (!(y == 0))) σ):∀ (y f x:Nat) (z:Option V),y < f→∃ z',cm (evE call te) (evSs call wf l7) f [some (.int x),some (.int y),z] σ=.ok .next [some (.int (Nat.gcd x y)),some (.int 0),z'] σ:=by
 intro y
 induction y using Nat.strongRecOn with
 | _ y ih =>
  intro f x z hf
  obtain ⟨f,rfl⟩:∃ k,f=k + 1:=⟨f - 1,by lia⟩
  by_cases hy:y=0
  ·subst hy
   refine ⟨z,?_⟩
   rw [Nat.gcd_zero_right]
   exact mE (ht x 0 z)
  ·obtain ⟨z',hz⟩:=ih (x % y) (Nat.mod_lt _ (Nat.pos_of_ne_zero hy)) f y (some (.int (x % y:Nat))) (by have:=Nat.mod_lt x (Nat.pos_of_ne_zero hy); lia)
   refine ⟨z',?_⟩
   have e:Nat.gcd x y=Nat.gcd y (x % y):=by rw [Nat.gcd_comm x y,Nat.gcd_rec y x,Nat.gcd_comm]
   rw [e]
   refine ii ((ht x y z).trans ?_) (al (ar (ac rfl) (ac rfl) (g8 hy)) (by decide:2 < 3) (al (ac rfl) (by decide:0 < 3) (al (ac rfl) (by decide:1 < 3) aY))) hz
   rw [show (y == 0)=false from beq_eq_false_iff_ne.mpr hy]; rfl
theorem so (h0:P 0=some jT) {x y:Nat} (hw:y < wf):evFn P wf (n + 1) 0 [.int x,.int y] σ=.ok (.int (Nat.gcd x y)) σ:=by
 obtain ⟨z,hz⟩:=yI (call:=evFn P wf n) (σ:=σ) (te:=E.cmp .NotEq (E.loc 1) (E.int 0)) (fun x y z=>aE (ac rfl) ai (congrArg (fun b=>some (!b)) (dn y 0))) y wf x none hw
 exact bh h0 rfl (a4 (show evS (evFn P wf n) wf (S.whileS _ l7) _ σ=_ from di hz) (aL (ac rfl)))
theorem rc (h0:P 0=some jT) (h1:P 1=some lY) {x y:Nat} (hy:1 ≤ y) (hw:y < wf) (hb:y < 10 ^ 100):evFn P wf (n + 2) 1 [.int x,.int y] σ=.ok (.tup [.int (x / Nat.gcd x y:Nat),.int (y / Nat.gcd x y:Nat)]) σ:=by
 have hg:Nat.gcd x y ≠ 0:=Nat.ne_of_gt (Nat.gcd_pos_of_pos_right _ hy)
 have hgb:Nat.gcd x y < 10 ^ 100:=Nat.lt_of_le_of_lt (Nat.gcd_le_right _ hy) hb
 exact bh h1 rfl (al (aF (aa (ac rfl) (aa (ac rfl) ae)) (so h0 hw)) (by decide:2 < 4) (aL (fX (aa (ar (ac rfl) (ac rfl) (n6 hg hgb)) (aa (ar (ac rfl) (ac rfl) (n6 hg hgb)) ae)) (by decide:2 ≤ 1000))))
end
end Mine
namespace Mine
open PySem
section
variable {σ:Sto}{l:Nat}{xs:List V}
theorem dp (h:σ[l]?=some (.lst xs)):gA .len [.ref l] σ=.ok (.int xs.length) σ:=by
 show bS σ ((s5 (.ref l) σ).map V.int)=_
 unfold s5; dsimp only; rw [h]; rfl
theorem a7 {k:Nat}{v:V} (h:σ[l]?=some (.lst xs)) (hv:xs[k]?=some v):lm (.ref l) (.int k) σ=some v:=by
 unfold lm; dsimp only; rw [h]; show oh xs k=_; unfold oh; rw [if_pos (Int.natCast_nonneg k)]; exact hv
theorem l9 {v:V} (h:σ[l]?=some (.lst xs)) (hv:xs.getLast?=some v):lm (.ref l) (.int (-1)) σ=some v:=by
 have hl:1 ≤ xs.length:=by
  cases xs with
  | nil=>cases hv
  | cons a xs=>exact Nat.succ_le_succ (Nat.zero_le _)
 unfold lm; dsimp only; rw [h]; show oh xs (-1)=_; unfold oh
 rw [if_neg (by decide),if_pos (by lia),show ((-1:Int) + (xs.length:Int)).toNat=xs.length - 1 by lia,← List.getLast?_eq_getElem?]
 exact hv
theorem cE (k:Nat):iG 0 (k:Int)=(List.range k).map fun (i:Nat)=>V.int i:=by
 unfold iG
 rw [show ((k:Int) - 0).toNat=k by lia]
 exact List.map_congr_left fun i _=>by rw [Int.zero_add]
theorem b8 {k i v:Nat} (h:(List.range k)[i]?=some v):i < k ∧ i=v:=by
 obtain ⟨h1,h2⟩:=List.getElem?_eq_some_iff.mp h
 rw [List.getElem_range] at h2; rw [List.length_range] at h1
 exact ⟨h1,h2⟩
theorem b5 {k:Nat} (h:k ≤ 1000000):gA .range [.int k] σ=.ok (.rng 0 k) σ:=if_pos ⟨by decide,by decide,by lia,by lia⟩
theorem kF:∀ (is acc:List Int),is.Nodup→(∀ x ∈ is,x ∉ acc)→is.foldl (fun acc v=>if acc.any (· == v) then acc else acc ++ [v]) acc=acc ++ is
 | [],acc,_,_=>by rw [List.foldl_nil,List.append_nil]
 | x :: is,acc,nd,h=>by
  have nd':=List.nodup_cons.mp nd
  have hx:acc.any (· == x)=false:=by
   rw [List.any_eq_false]
   intro y hy q
   exact h x (.head _) (eq_of_beq q ▸ hy)
  rw [List.foldl_cons,hx]
  show is.foldl _ (acc ++ [x])=_
  rw [kF is (acc ++ [x]) nd'.2 fun y hy q=>?_,List.append_assoc]; rfl
  rcases List.mem_append.mp q with q | q
  ·exact h y (.tail _ hy) q
  ·rw [List.mem_singleton.mp q] at hy; exact nd'.1 hy
theorem lD {is:List Int} (h:is.Nodup):jN is=is:=by
 unfold jN; rw [kF is [] h (fun _ _ q=>nomatch q),List.nil_append]
theorem vC {r:List Nat} (h:σ[l]?=some (.lst (r.map fun (v:Nat)=>V.int v))) (nd:r.Nodup) (hz:r.length ≤ 1000):gA .setLen [.ref l] σ=.ok (.int r.length) σ:=by
 show (match (getL σ l).bind aA with | some is=>if is.length ≤ 1000 then RE.ok (.int (jN is).length) σ else .bad | none=>.bad)=_
 rw [ag h]
 show (match aA (r.map fun (v:Nat)=>V.int v) with | some is=>if is.length ≤ 1000 then RE.ok (.int (jN is).length) σ else .bad | none=>.bad)=_
 rw [bN]
 show (if (r.map fun (d:Nat)=>(d:Int)).length ≤ 1000 then RE.ok (.int (jN (r.map fun (d:Nat)=>(d:Int))).length) σ else .bad)=_
 rw [List.length_map,if_pos hz,lD (List.Pairwise.map _ (fun a b (hab:a ≠ b) q=>hab (by lia)) nd),List.length_map]
end
noncomputable def best (ws:List Way) (a b:Nat):Nat:=(aX ws a b).foldl max 0
theorem m7:∀ (l:List Nat) (a:Nat),(l.map fun (d:Nat)=>(d:Int)).foldl (fun a b=>if a < b then b else a) (a:Int)=((l.foldl max a:Nat):Int)
 | [],a=>rfl
 | x :: l,a=>by
  rw [List.map_cons,List.foldl_cons,List.foldl_cons,← m7 l (max a x)]
  congr 1
  show (if (a:Int) < (x:Int) then (x:Int) else (a:Int))=((max a x:Nat):Int)
  split <;> lia
theorem nM {ws:List Way}{a b:Nat} (h:aX ws a b ≠ []):gV ((aX ws a b).map fun (d:Nat)=>(d:Int))=some ((best ws a b:Nat):Int):=by
 unfold best
 cases q:aX ws a b with
 | nil=>exact absurd q h
 | cons x l =>
  show some ((l.map fun (d:Nat)=>(d:Int)).foldl (fun a b=>if a < b then b else a) (x:Int))=_
  rw [m7,List.foldl_cons,Nat.zero_max]
structure bZ (ws:List Way) (m:Nat) (r:List Nat):Prop where
 ne:r ≠ []
 nd:r.Nodup
 lt:∀ v ∈ r,v < m
 way:∀ i,i < r.length→aX ws (r.getD i 0) (r.getD ((i + 1) % r.length) 0) ≠ []
noncomputable def rtot (ws:List Way) (r:List Nat):Nat→Nat
 | 0=>0
 | k + 1=>rtot ws r k + best ws (r.getD k 0) (r.getD ((k + 1) % r.length) 0)
noncomputable def xw:E:=(E.loc 0).umeth 13 [(E.loc 1).sub (E.loc 4),(E.loc 1).sub (E.bin .Mod (E.bin .Add (E.loc 4) (E.int 1)) (E.blt .len [E.loc 1]))]
noncomputable def wA:List S:=[S.asg 5 xw,S.ifS (E.cmp .Is (E.loc 5) E.none) [S.raise (xc 4)] [],S.asg 3 (E.bin .Add (E.loc 3) (E.loc 5))]
noncomputable def yr:Fn:={ ps:=[0,1],size:=11,body :=
 [S.forS [2] true (It.e (E.loc 1)) [S.expr ((E.loc 0).umeth 12 [E.loc 2])],
  S.ifS ((E.cmp .Eq (E.blt .len [E.loc 1]) (E.int 0)).or (E.cmp .Lt (E.blt .setLen [E.loc 1]) (E.blt .len [E.loc 1]))) [S.raise (xc 4)] [],
  S.asg 3 (E.int 0),S.forS [4] true (It.e (E.blt .range [E.blt .len [E.loc 1]])) wA,
  S.ret (E.call 1 [E.loc 3,E.blt .len [E.loc 1]])] }
noncomputable def mj (l lr:Nat) (x2 x3 x4 x5:Option V):Fra:=[some (.ref l),some (.ref lr),x2,x3,x4,x5,none,none,none,none,none]
noncomputable def natsV (r:List Nat):List V:=r.map fun (v:Nat)=>V.int v
theorem cW {r:List Nat}{k:Nat} (h:k < r.length):(natsV r)[k]?=some (V.int (r.getD k 0:Nat)):=by
 unfold natsV; rw [List.getElem?_map,List.getElem?_eq_getElem h,List.getD_eq_getElem?_getD,List.getElem?_eq_getElem h]; rfl
theorem aI {r:List Nat}:(natsV r).length=r.length:=by unfold natsV; rw [List.length_map]
structure Defs1 (P:Nat→Option Fn):Prop where
 h0:P 0=some jT
 h1:P 1=some lY
 h2:P 2=some yr
 h8:P 8=some cR
 h12:P 12=some rI
 h13:P 13=some rr
section
variable {P:Nat→Option Fn}{wf n:Nat} {σ:Sto}
variable {l m lr i:Nat}{ws:List Way}{r:List Nat}{x2 x3 x4 x5:Option V}
theorem oG (H:Defs1 P) (w:a9 σ l m ws) (hz:ws.length ≤ 60) (hr:σ[lr]?=some (.lst (natsV r))) (lt:∀ v ∈ r,v < m) (hi:i < r.length) :
  evE (evFn P wf (n + 3)) xw (mj l lr x2 x3 (some (.int i)) x5) σ=.ok (match gV ((aX ws (r.getD i 0) (r.getD ((i + 1) % r.length) 0)).map fun (d:Nat)=>(d:Int)) with | some i=>V.int i | none=>V.none) (σ ++ [.lst ((aX ws (r.getD i 0) (r.getD ((i + 1) % r.length) 0)).map fun (d:Nat)=>V.int d)]):=by
 obtain ⟨d,lw,a,b,c⟩:=w.at'
 have hi2:(i + 1) % r.length < r.length:=Nat.mod_lt _ (Nat.lt_of_le_of_lt (Nat.zero_le _) hi)
 have mem:∀ k,k < r.length→r.getD k 0 < m:=fun k hk=>lt _ (by rw [List.getD_eq_getElem?_getD,List.getElem?_eq_getElem hk]; exact List.getElem_mem hk)
 refine bP (ac rfl) a b (aa (aD (ac rfl) (ac rfl) (a7 hr (cW hi))) (aa (aD (ac rfl) (ar (ar (ac rfl) ai rfl) (a6 (aa (ac rfl) ae) (dp hr)) ?_) (a7 hr (cW hi2))) ae)) (tK H.h8 H.h12 H.h13 w (mem i hi) (mem _ hi2) hz)
 rw [aI]
 exact g8 (x:=i + 1) (by lia)
theorem pV (H:Defs1 P) (w:a9 σ l m ws) (hz:ws.length ≤ 60) (hr:σ[lr]?=some (.lst (natsV r))) (lt:∀ v ∈ r,v < m) (hi:i < r.length) (hw:aX ws (r.getD i 0) (r.getD ((i + 1) % r.length) 0) ≠ []) {z:Option V × Option V × Sto} :
  ge [4] true (evSs (evFn P wf (n + 3)) wf wA) (.int i) (mj l lr x2 (some (.int (rtot ws r i:Nat))) z.1 z.2.1) (σ ++ z.2.2) (fun z:Option V × Option V × Sto=>mj l lr x2 (some (.int (rtot ws r (i + 1):Nat))) z.1 z.2.1) (fun z=>σ ++ z.2.2) (fun _=>True):=by
 have hd:=oG (P:=P) (wf:=wf) (n:=n) (σ:=σ ++ z.2.2) (x2:=x2) (x3:=some (.int (rtot ws r i:Nat))) (x5:=z.2.1) H w.app hz (ap hr) lt hi
 rw [nM hw,List.append_assoc] at hd
 exact ⟨_,rfl,(some (.int i),_,_),al hd (by decide:5 < 11) (aG (aE (ac rfl) cY rfl) (al (ar (ac rfl) (ac rfl) rfl) (by decide:3 < 11) aY)),trivial⟩
theorem sZ (H:Defs1 P) (w:a9 σ l m ws) (hr:σ[lr]?=some (.lst (natsV r))) (lt:∀ v ∈ r,v < m):∃ x2,evS (evFn P wf (n + 3)) wf (S.forS [2] true (It.e (E.loc 1)) [S.expr ((E.loc 0).umeth 12 [E.loc 2])]) (mj l lr none none none none) σ=.ok .next (mj l lr x2 none none none) σ:=by
 obtain ⟨d,lw,a,b,c⟩:=w.at'
 obtain ⟨x2,e1,_⟩:=w3 (call:=evFn P wf (n + 3)) (wf:=wf) (tg:=[2]) (one:=true) (ws:=r) (g:=fun (v:Nat)=>V.int v) (it:=E.loc 1) (bs:=[S.expr ((E.loc 0).umeth 12 [E.loc 2])]) (σ:=σ)
  (F:=fun _ (x2:Option V)=>mj l lr x2 none none none) (S:=fun _ _=>σ) (J:=fun _ _=>True) none (ac rfl) (fun _ _ _=>ag hr)
  (fun i v x2 hv _=>⟨_,rfl,_,bi (bP (ac rfl) a b (aa (ac rfl) ae) (mi H.h8 H.h12 w (lt v (List.mem_of_getElem? hv)))) aY,trivial⟩) trivial
 exact ⟨x2,e1⟩
theorem tF (H:Defs1 P) (w:a9 σ l m ws) (hz:ws.length ≤ 60) (hr:σ[lr]?=some (.lst (natsV r))) (lt:∀ v ∈ r,v < m) (ne:r ≠ []) (way:∀ i,i < r.length→aX ws (r.getD i 0) (r.getD ((i + 1) % r.length) 0) ≠ []) {k:Nat} (hs:gA .setLen [.ref lr] σ=.ok (.int k) σ) (hk:r.length ≤ k) (hl:r.length ≤ 13) (hw:r.length < wf) :
  ∃ τ,evFn P wf (n + 4) 2 [.ref l,.ref lr] σ=.ok (.tup [.int (rtot ws r r.length / Nat.gcd (rtot ws r r.length) r.length:Nat),.int (r.length / Nat.gcd (rtot ws r r.length) r.length:Nat)]) (σ ++ τ):=by
 have hpos:1 ≤ r.length:=List.length_pos_iff.mpr ne
 obtain ⟨x2,e1⟩:=sZ (wf:=wf) (n:=n) H w hr lt
 obtain ⟨x,e2,_⟩:=sg (call:=evFn P wf (n + 3)) (wf:=wf) (tg:=[4]) (one:=true) (ws:=List.range r.length) (g:=fun (v:Nat)=>V.int v) (it:=E.blt .range [E.blt .len [E.loc 1]]) (bs:=wA)
  (F:=fun i (x:Option V × Option V × Sto)=>mj l lr x2 (some (.int (rtot ws r i:Nat))) x.1 x.2.1) (S:=fun _ x=>σ ++ x.2.2) (J:=fun _ _=>True) (σ:=σ ++ []) (none,none,[])
  (a6 (aa (a6 (aa (ac rfl) ae) (dp (ap hr))) ae) (b5 (by rw [aI]; lia))) (by rw [aI]; exact cE _)
  (fun i v x hv _=>by
   obtain ⟨hi,hvi⟩:=b8 hv
   subst hvi
   exact pV H w hz hr lt hi (way i hi)) trivial
 rw [List.append_nil] at e2
 refine ⟨x.2.2,bh H.h2 rfl (a4 e1 (aG (d6 (aE (p:=false) (a6 (aa (ac rfl) ae) (dp hr)) ai ?_) (aE (p:=false) (a6 (aa (ac rfl) ae) hs) (a6 (aa (ac rfl) ae) (dp hr)) ?_)) (al ai (by decide:3 < 11) (a4 e2 (aL (aF (aa (ac rfl) (aa (a6 (aa (ac rfl) ae) (dp (ap hr))) ae)) ?_))))))⟩
 ·rw [aI]; exact congrArg some (show ((r.length:Int) == 0)=false by simp; exact ne)
 ·rw [aI]; exact congrArg some (decide_eq_false (by lia))
 ·rw [aI,List.length_range]; exact rc H.h0 H.h1 hpos hw (Nat.lt_of_le_of_lt hl (by decide))
theorem vV (H:Defs1 P) (w:a9 σ l m ws) (hz:ws.length ≤ 60) (hr:σ[lr]?=some (.lst (natsV r))) (R:bZ ws m r) (hm:m ≤ 12) (hl:r.length ≤ 12) (hw:13 ≤ wf) :
  ∃ τ,evFn P wf (n + 4) 2 [.ref l,.ref lr] σ=.ok (.tup [.int (rtot ws r r.length / Nat.gcd (rtot ws r r.length) r.length:Nat),.int (r.length / Nat.gcd (rtot ws r r.length) r.length:Nat)]) (σ ++ τ) :=
 tF H w hz hr R.lt R.ne R.way (vC hr R.nd (by lia)) (Nat.le_refl _) (by lia) (by lia)
end
end Mine
namespace Mine
open PySem
theorem nB:∀ (l:List Int) (a:Int),(l.foldl (fun a b=>if b < a then b else a) a=a ∨ l.foldl (fun a b=>if b < a then b else a) a ∈ l) ∧ l.foldl (fun a b=>if b < a then b else a) a ≤ a ∧ ∀ x ∈ l,l.foldl (fun a b=>if b < a then b else a) a ≤ x
 | [],a=>⟨.inl rfl,Int.le_refl _,fun _ h=>nomatch h⟩
 | x :: l,a=>by
  rw [List.foldl_cons]
  obtain ⟨h1,h2,h3⟩:=nB l (if x < a then x else a)
  have h4:(if x < a then x else a) ≤ a ∧ (if x < a then x else a) ≤ x ∧ ((if x < a then x else a)=a ∨ (if x < a then x else a)=x):=by split <;> lia
  refine ⟨?_,by lia,fun y hy=>?_⟩
  ·rcases h1 with h1 | h1
   ·rw [h1]
    rcases h4.2.2 with q | q
    ·exact .inl q
    ·exact .inr (by rw [q]; exact .head _)
   ·exact .inr (.tail _ h1)
  ·rcases List.mem_cons.mp hy with rfl | hy
   ·lia
   ·exact h3 y hy
theorem m3 {is:List Int} (h:is ≠ []):∃ mn,tm is=some mn ∧ mn ∈ is ∧ ∀ x ∈ is,mn ≤ x:=by
 cases is with
 | nil=>exact absurd rfl h
 | cons x l =>
  obtain ⟨h1,h2,h3⟩:=nB l x
  refine ⟨_,rfl,?_,fun y hy=>?_⟩
  ·rcases h1 with h1 | h1
   ·rw [h1]; exact .head _
   ·exact .tail _ h1
  ·rcases List.mem_cons.mp hy with rfl | hy
   ·exact h2
   ·exact h3 y hy
noncomputable def g9:Fn:={ ps:=[0],size:=3,body:=[S.asg 1 ((E.loc 0).meth .index [E.blt .min [E.loc 0]]),S.ret (E.bin .Add ((E.loc 0).slo (E.loc 1)) ((E.loc 0).shi (E.loc 1)))] }
noncomputable def pq:S:=S.whileS (E.cmp .NotEq ((E.loc 0).sub ((E.loc 4).sub (E.int 1).neg)) (E.loc 1)) [S.expr ((E.loc 4).meth .append [(E.loc 0).sub ((E.loc 4).sub (E.int 1).neg)])]
noncomputable def dj:Fn:={ ps:=[0,1,2],size:=9,body :=
 [S.forS [3] true (It.e (E.blt .range [E.loc 2])) [S.asg 1 ((E.loc 0).sub (E.loc 1))],S.asg 4 (E.list [E.loc 1]),pq,S.ret (E.call 3 [E.blt .revl [E.loc 4]])] }
theorem jl {σ:Sto}{l k:Nat}{xs ys:List V} (h1:σ[l]?=some (.lst xs)) (h2:σ[k]?=some (.lst ys)) (hz:xs.length + ys.length ≤ 16777216):oi .Add (.ref l) (.ref k) σ=.ok (.ref σ.length) (σ ++ [.lst (xs ++ ys)]):=by
 show (match getL σ l with | some xs=>(match getL σ k with | some ys=>cN (xs ++ ys) σ | none=>.bad) | none=>.bad)=_
 rw [ag h1]
 show (match getL σ k with | some ys=>cN (xs ++ ys) σ | none=>.bad)=_
 rw [ag h2]
 exact ak (by rw [List.length_append]; exact hz)
theorem ap3 {σ:Sto}{a b c:AO}:σ ++ [a] ++ [b] ++ [c]=σ ++ [a,b,c]:=by rw [List.append_assoc,List.append_assoc]; rfl
theorem sr {σ:Sto}{a b:AO}:(σ ++ [a] ++ [b])[σ.length + 1]?=some b:=by
 have:=am (σ:=σ ++ [a]) (o:=b) (τ:=[])
 rwa [List.length_append] at this
theorem d7 {σ:Sto}{o o':AO} {τ:Sto}:(σ ++ o :: τ).set σ.length o'=σ ++ o' :: τ:=by
 rw [List.set_append_right _ _ (Nat.le_refl _),Nat.sub_self]; rfl
theorem ml {σ:Sto}{l:Nat}{xs:List V}{v:V} (h:xs.length < 16777216):dW .append l xs [v] σ=.ok .none (dq σ l (xs ++ [v])):=if_pos h
theorem AM {σ:Sto}{l:Nat}{xs:List V} (h:σ[l]?=some (.lst xs)) (hz:xs.length ≤ 16777216):gA .revl [.ref l] σ=.ok (.ref σ.length) (σ ++ [.lst xs.reverse]):=by
 show (match getL σ l with | some xs=>cN xs.reverse σ | none=>.bad)=_
 rw [ag h]
 exact ak (by rw [List.length_reverse]; exact hz)
section
variable {P:Nat→Option Fn}{wf n:Nat} {σ:Sto}
theorem kl (h3:P 3=some g9) {l:Nat}{r:List Nat} (hr:σ[l]?=some (.lst (natsV r))) (ne:r ≠ []) (hlt:∀ v ∈ r,v < 12) (hl:r.length ≤ 12) :
  ∃ k,k < r.length ∧ (∀ x ∈ r,r.getD k 0 ≤ x) ∧ evFn P wf (n + 1) 3 [.ref l] σ=.ok (.ref (σ.length + 2)) (σ ++ [.lst (natsV (r.drop k)),.lst (natsV (r.take k)),.lst (natsV (r.drop k ++ r.take k))]):=by
 have hi:(getL σ l).bind aA=some (r.map fun (d:Nat)=>(d:Int)):=by rw [ag hr]; exact bN r
 obtain ⟨mn,h1,h2,h4⟩:=m3 (is:=r.map fun (d:Nat)=>(d:Int)) (by simpa using ne)
 have hk:(r.map fun (d:Nat)=>(d:Int)).idxOf mn < r.length:=by have:=List.idxOf_lt_length_of_mem h2; rwa [List.length_map] at this
 have hmn:((r.getD ((r.map fun (d:Nat)=>(d:Int)).idxOf mn) 0:Nat):Int)=mn:=by
  have e1:(r.map fun (d:Nat)=>(d:Int))[(r.map fun (d:Nat)=>(d:Int)).idxOf mn]'(by rw [List.length_map]; exact hk)=mn:=List.getElem_idxOf _
  rw [List.getElem_map] at e1
  rw [List.getD_eq_getElem?_getD,List.getElem?_eq_getElem hk]; exact e1
 refine ⟨(r.map fun (d:Nat)=>(d:Int)).idxOf mn,hk,fun x hx=>?_,?_⟩
 ·have:=h4 (x:Int) (List.mem_map.mpr ⟨x,hx,rfl⟩)
  lia
 ·have emin:gA .min [.ref l] σ=.ok (.int mn) σ:=by
   show bS σ ((((getL σ l).bind aA).bind tm).map V.int)=_
   rw [hi]; show bS σ ((tm _).map V.int)=_; rw [h1]; rfl
  have eidx:dW .index l (natsV r) [.int mn] σ=.ok (.int ((r.map fun (d:Nat)=>(d:Int)).idxOf mn:Nat)) σ:=by
   show (match aA (natsV r) with | some is=>if tU mn is then RE.ok (.int (is.idxOf mn)) σ else .bad | none=>.bad)=_
   have:aA (natsV r)=some (r.map fun (d:Nat)=>(d:Int)):=bN r
   rw [this]
   exact if_pos ⟨h2,by rw [List.length_map]; lia,fun j hj=>by
    obtain ⟨x,hx,rfl⟩:=List.mem_map.mp hj
    have:=hlt x hx
    lia⟩
  refine bh h3 rfl (al (de (ac rfl) (ag hr) (aa (a6 (aa (ac rfl) ae) emin) ae) (ag hr) eidx) (by decide:1 < 3) (aL (ar (vJ (ac rfl) (ac rfl) (ag hr) (ak ?_)) (we (ac rfl) (ac rfl) (ag (ap hr)) (ak ?_)) ?_)))
  ·rw [List.length_drop,aI]; lia
  ·rw [List.length_take,aI]; lia
  ·have e1:(natsV r).drop ((r.map fun (d:Nat)=>(d:Int)).idxOf mn)=natsV (r.drop ((r.map fun (d:Nat)=>(d:Int)).idxOf mn)):=by unfold natsV; rw [List.map_drop]
   have e2:(natsV r).take ((r.map fun (d:Nat)=>(d:Int)).idxOf mn)=natsV (r.take ((r.map fun (d:Nat)=>(d:Int)).idxOf mn)):=by unfold natsV; rw [List.map_take]
   rw [e1,e2]
   generalize (r.map fun (d:Nat)=>(d:Int)).idxOf mn=k
   rw [List.length_append]
   refine (jl (ap am) (sr (σ:=σ)) ?_).trans ?_
   ·rw [aI,aI,List.length_drop,List.length_take]; lia
   ·rw [ap3,show natsV (r.drop k ++ r.take k)=natsV (r.drop k) ++ natsV (r.take k) from List.map_append]
    show RE.ok (.ref (σ ++ [_] ++ [_]).length) _=_
    rw [List.length_append,List.length_append]; rfl
end
end Mine
namespace Mine
open PySem
theorem pB {m v:Nat}{B:Nat→Nat} (h:v < m):(natsV ((List.range m).map B))[v]?=some (V.int (B v:Nat)):=by
 unfold natsV; rw [List.getElem?_map,List.getElem?_map,List.getElem?_range h]; rfl
theorem iR {B:Nat→Nat}{u k:Nat}:(natsV (backs B u (k + 1))).getLast?=some (V.int (iter B k u:Nat)):=by
 unfold natsV; rw [fy,List.map_append,List.map_cons,List.map_nil,List.getLast?_concat]
theorem ne_int {x y:Nat} {σ:Sto} (h:x ≠ y):gq .NotEq (.int x) (.int y) σ=some true:=congrArg some (show ((x:Int) != (y:Int))=true by simp; lia)
theorem gB {x:Nat} {σ:Sto}:gq .NotEq (.int x) (.int x) σ=some false:=congrArg some (show ((x:Int) != (x:Int))=false by simp)
section
variable {P:Nat→Option Fn}{wf n:Nat} {σ:Sto}
theorem rJ {call:Nat→List V→Sto→RE}{B:Nat→Nat}{lb m u q:Nat}{x2 x3:Option V}{rest:Fra} (hb:σ[lb]?=some (.lst (natsV ((List.range m).map B)))) (hlt:∀ k,iter B k u < m) (hq:iter B q u=u) (hmin:∀ k,1 ≤ k→k < q→iter B k u ≠ u) (hz:q ≤ 1000) :
  ∀ (d k f:Nat),k + 1 + d=q→d < f→cm (evE call (E.cmp .NotEq ((E.loc 0).sub ((E.loc 4).sub (E.int 1).neg)) (E.loc 1))) (evSs call wf [S.expr ((E.loc 4).meth .append [(E.loc 0).sub ((E.loc 4).sub (E.int 1).neg)])]) f
   (some (.ref lb) :: some (.int u) :: x2 :: x3 :: some (.ref σ.length) :: rest) (σ ++ [.lst (natsV (backs B u (k + 1)))])=.ok .next (some (.ref lb) :: some (.int u) :: x2 :: x3 :: some (.ref σ.length) :: rest) (σ ++ [.lst (natsV (backs B u q))]):=by
 intro d
 have look:∀ k,evE call ((E.loc 0).sub ((E.loc 4).sub (E.int 1).neg)) (some (.ref lb) :: some (.int u) :: x2 :: x3 :: some (.ref σ.length) :: rest) (σ ++ [.lst (natsV (backs B u (k + 1)))])=.ok (.int (iter B (k + 1) u:Nat)) (σ ++ [.lst (natsV (backs B u (k + 1)))]):=fun k =>
  aD (ac rfl) (aD (ac rfl) (sW ai) (l9 am iR)) (a7 (ap hb) (pB (hlt k)))
 induction d with
 | zero =>
  intro k f hk hf
  obtain ⟨f,rfl⟩:∃ g,f=g + 1:=⟨f - 1,by lia⟩
  have hk:k + 1=q:=by lia
  rw [← hk]
  refine mE (aE (look k) (ac rfl) ?_)
  rw [hk,hq]; exact gB
 | succ d ih =>
  intro k f hk hf
  obtain ⟨f,rfl⟩:∃ g,f=g + 1:=⟨f - 1,by lia⟩
  refine ii (aE (look k) (ac rfl) (ne_int (hmin (k + 1) (by lia) (by lia)))) (bi (de (ac rfl) (ag am) (aa (look k) ae) (ag am) (ml ?_)) aY) ?_
  ·rw [aI,aT]; lia
  ·have e1:dq (σ ++ [.lst (natsV (backs B u (k + 1)))]) σ.length (natsV (backs B u (k + 1)) ++ [V.int (iter B (k + 1) u:Nat)])=σ ++ [.lst (natsV (backs B u (k + 1 + 1)))]:=by
    unfold dq
    rw [d7,fy (q:=k + 1)]
    unfold natsV
    rw [List.map_append]; rfl
   rw [e1]
   exact ih (k + 1) f (by lia) (by lia)
theorem iJ (h3:P 3=some g9) (h4:P 4=some dj) {B:Nat→Nat}{lb m e q:Nat} (hb:σ[lb]?=some (.lst (natsV ((List.range m).map B)))) (hlt:∀ k,iter B k e < m) (hm:m ≤ 12)
  (q1:1 ≤ q) (q2:q ≤ m) (hq:iter B q (iter B m e)=iter B m e) (hmin:∀ k,1 ≤ k→k < q→iter B k (iter B m e) ≠ iter B m e) (hw:13 ≤ wf) :
  ∃ k τ lr,k < q ∧ σ.length ≤ lr ∧ evFn P wf (n + 2) 4 [.ref lb,.int e,.int m] σ=.ok (.ref lr) (σ ++ τ) ∧ (σ ++ τ)[lr]?=some (.lst (natsV ((backs B (iter B m e) q).reverse.drop k ++ (backs B (iter B m e) q).reverse.take k))) ∧
   ∀ x ∈ (backs B (iter B m e) q).reverse,(backs B (iter B m e) q).reverse.getD k 0 ≤ x:=by
 obtain ⟨x3,e1,_⟩:=sg (call:=evFn P wf (n + 1)) (wf:=wf) (tg:=[3]) (one:=true) (ws:=List.range m) (g:=fun (v:Nat)=>V.int v) (it:=E.blt .range [E.loc 2]) (bs:=[S.asg 1 ((E.loc 0).sub (E.loc 1))]) (σ:=σ)
  (F:=fun i (x3:Option V)=>[some (.ref lb),some (.int (iter B i e:Nat)),some (.int m),x3,none,none,none,none,none]) (S:=fun _ _=>σ) (J:=fun _ _=>True) none (a6 (aa (ac rfl) ae) (b5 (by lia))) (cE m)
  (fun i v x3 hv _=>⟨_,rfl,_,al (aD (ac rfl) (ac rfl) (a7 hb (pB (hlt i)))) (by decide:1 < 9) aY,trivial⟩) trivial
 rw [List.length_range] at e1
 have hlt':∀ k,iter B k (iter B m e) < m:=fun k=>by rw [← bA]; exact hlt _
 obtain ⟨k,k1,k2,k3⟩:=kl (wf:=wf) (n:=n) (σ:=σ ++ [.lst (natsV (backs B (iter B m e) q))] ++ [.lst (natsV (backs B (iter B m e) q)).reverse]) h3 (l:=(σ ++ [AO.lst (natsV (backs B (iter B m e) q))]).length) (r:=(backs B (iter B m e) q).reverse) (by rw [am]; unfold natsV; rw [List.map_reverse])
  (by
   intro q
   have:=congrArg List.length q
   rw [List.length_reverse,aT] at this
   simp at this; lia)
  (fun v hv=>by
   obtain ⟨j,hj,rfl⟩:=List.mem_map.mp (List.mem_reverse.mp hv)
   have:=hlt' j
   lia) (by rw [List.length_reverse,aT]; lia)
 have e5:∀ (a b c d f:AO),RE.ok (V.ref ((σ ++ [a] ++ [b]).length + 2)) (σ ++ [a] ++ [b] ++ [c,d,f])=RE.ok (V.ref (σ.length + 4)) (σ ++ [a,b,c,d,f]):=fun a b c d f=>by
  rw [List.length_append,List.length_append,List.append_assoc,List.append_assoc]; rfl
 rw [e5] at k3
 refine ⟨k,_,σ.length + 4,by rwa [List.length_reverse,aT] at k1,Nat.le_add_right _ _,bh h4 rfl (a4 e1 (al (bg (aa (ac rfl) ae) (ak (by decide:1 ≤ 16777216))) (by decide:4 < 9) (a4 (fr1:=[some (.ref lb),some (.int (iter B m e:Nat)),some (.int m),x3,some (.ref σ.length),none,none,none,none]) (σ1:=σ ++ [.lst (natsV (backs B (iter B m e) q))]) ?_ (aL (aF (aa (a6 (aa (ac rfl) ae) (AM am ?_)) ae) k3))))),?_,k2⟩
 ·exact di <| rJ (σ:=σ) hb hlt' hq hmin (by lia) (q - 1) 0 wf (by lia) (by lia)
 ·rw [aI,aT]; lia
 ·rw [List.getElem?_append_right (by lia),show σ.length + 4 - σ.length=4 by lia]; rfl
end
end Mine
namespace Mine
theorem nP {f:Nat→Int}:∀ {c:List Nat},cU f c.reverse=cU f c
 | []=>rfl
 | v :: c=>by
  rw [List.reverse_cons,dJ,nP (c:=c),aZ,aZ]
  show cU f c + (f v + 0)=_
  lia
theorem mR {f:Nat→Int}{c:List Nat} (k:Nat):cU f (c.drop k ++ c.take k)=cU f c:=by
 have:=dJ (f:=f) (c:=c.take k) (d:=c.drop k)
 rw [List.take_append_drop] at this
 rw [dJ]; lia
theorem ef {l:List Nat}{i:Nat} (h:i < l.length):l.getD i 0=l[i]:=by rw [List.getD_eq_getElem?_getD,List.getElem?_eq_getElem h]; rfl
theorem ng {l:List Nat}{i:Nat} (h:i < l.length):l.getD i 0 ∈ l:=by rw [ef h]; exact List.getElem_mem h
theorem cr {α:Type}{R:List α}{k:Nat}:(R.drop k ++ R.take k).Perm R:=List.perm_append_comm.trans (by rw [List.take_append_drop])
theorem sI {k i q:Nat} (hk:k < q) (hi:i < q) (h:¬ i < q - k):(k + i) % q=i - (q - k):=by
 rw [show k + i=(i - (q - k)) + q by lia,Nat.add_mod_right,Nat.mod_eq_of_lt (Nat.lt_of_le_of_lt (Nat.sub_le _ _) hi)]
set_option tactic.hygienic true in
theorem fN {R:List Nat}{k i:Nat} (hk:k < R.length) (hi:i < R.length):(R.drop k ++ R.take k).getD i 0=R.getD ((k + i) % R.length) 0:=by
 rw [ef (by rw [cr.length_eq]; exact hi),ef (Nat.mod_lt _ (Nat.zero_lt_of_lt hk)),List.getElem_append]
 split
 ·rename_i h
  rw [List.length_drop] at h
  rw [List.getElem_drop]
  congr 1
  rw [Nat.mod_eq_of_lt (Nat.add_comm i k ▸ Nat.add_lt_of_lt_sub h)]
 ·rename_i h
  rw [List.length_drop] at h
  rw [List.getElem_take]
  congr 1
  rw [List.length_drop,sI hk hi h]
theorem wS {B:Nat→Nat}{u q s:Nat} (hs:s < q):(backs B u q).reverse.getD s 0=iter B (q - 1 - s) u:=by
 have hl:(backs B u q).reverse.length=q:=by rw [List.length_reverse,aT]
 rw [ef (by rw [hl]; exact hs),List.getElem_reverse]
 unfold backs
 rw [List.getElem_map,List.getElem_range,List.length_map,List.length_range]
theorem lP {ws:List Way}{a b d:Nat} (h:(a,b,d) ∈ ws):aX ws a b ≠ [] ∧ d ≤ best ws a b:=by
 have hm:d ∈ aX ws a b:=List.mem_map.mpr ⟨(a,b,d),List.mem_filter.mpr ⟨h,by simp⟩,rfl⟩
 refine ⟨fun q=>(by rw [q] at hm; cases hm),?_⟩
 have key:∀ (l:List Nat) (x:Nat),x ≤ l.foldl max x ∧ ∀ y ∈ l,y ≤ l.foldl max x:=by
  intro l
  induction l with
  | nil=>intro x; exact ⟨Nat.le_refl _,fun _ h=>nomatch h⟩
  | cons z l ih =>
   intro x
   obtain ⟨h1,h2⟩:=ih (max x z)
   rw [List.foldl_cons]
   refine ⟨by lia,fun y hy=>?_⟩
   rcases List.mem_cons.mp hy with rfl | hy
   ·lia
   ·exact h2 y hy
 exact (key _ 0).2 d hm
theorem qU {B:Nat→Nat}{u q s:Nat} (hq:iter B q u=u) (hs:s < q):iter B (q - 1 - (s + 1) % q + 1) u=iter B (q - 1 - s) u:=by
 by_cases hs1:s + 1=q
 ·rw [hs1,Nat.mod_self,Nat.sub_zero,Nat.sub_add_cancel (Nat.zero_lt_of_lt hs),hq,← hs1,Nat.add_sub_cancel,Nat.sub_self]; rfl
 ·have h:s + 1 < q:=Nat.lt_of_le_of_ne hs hs1
  rw [Nat.mod_eq_of_lt h,show q - 1 - (s + 1) + 1=q - 1 - s by clear hq hs1; lia]
theorem wl {r:List Nat} (q1:1 ≤ r.length):((List.range r.length).map fun i=>r.getD ((i + 1) % r.length) 0)=r.drop 1 ++ r.take 1:=by
 match r with
 | [x]=>show [[x].getD ((0 + 1) % 1) 0]=[x]; rw [Nat.mod_self]; rfl
 | x :: y :: r =>
  apply List.ext_getElem
  ·rw [List.length_map,List.length_range,cr.length_eq]
  ·intro i h1 h2
   rw [List.length_map,List.length_range] at h1
   rw [List.getElem_map,List.getElem_range,← ef h2,fN (Nat.succ_lt_succ (Nat.zero_lt_succ _)) h1,Nat.add_comm 1 i]
theorem tZ {div num:Nat}{W:Nat→Nat} (c:List Nat):cU (fun v=>(div:Int) * (W v:Nat) - (num:Int)) c=(div:Int) * cU (fun v=>((W v:Nat):Int)) c - (num:Int) * c.length:=by
 induction c with
 | nil=>show (0:Int)=(div:Int) * 0 - (num:Int) * 0; rw [Int.mul_zero,Int.mul_zero]; rfl
 | cons v c ih=>rw [aZ,aZ,ih,List.length_cons,Int.mul_add,Int.natCast_succ,Int.mul_add,Int.mul_one]; clear ih; lia
theorem uI {ws:List Way}{num div m u q k:Nat}{B W:Nat→Nat}{r:List Nat} (hr:r=(backs B u q).reverse.drop k ++ (backs B u q).reverse.take k) (q1:1 ≤ q) (hk:k < q) (hq:iter B q u=u) (hmin:∀ k,1 ≤ k→k < q→iter B k u ≠ u)
  (hway:∀ j,(B (iter B j u),iter B j u,W (iter B j u)) ∈ ws) (hlt:∀ j,iter B j u < m) (hpos:0 < cU (fun v=>(div:Int) * (W v:Nat) - (num:Int)) (backs B u q)) :
  bZ ws m r ∧ r.length=q ∧ num * q < div * rtot ws r q:=by
 have hRl:(backs B u q).reverse.length=q:=by rw [List.length_reverse,aT]
 have hl:r.length=q:=by rw [hr,cr.length_eq,hRl]
 have get:∀ i,i < q→r.getD i 0=iter B (q - 1 - (k + i) % q) u:=fun i hi=>by
  rw [hr,fN (by rw [hRl]; exact hk) (by rw [hRl]; exact hi),hRl,wS (Nat.mod_lt _ q1)]
 have back:∀ i,i < q→B (r.getD ((i + 1) % q) 0)=r.getD i 0:=fun i hi=>by
  rw [get _ (Nat.mod_lt _ q1),get i hi]
  show iter B (q - 1 - (k + (i + 1) % q) % q + 1) u=_
  have e1:(k + (i + 1) % q) % q=((k + i) % q + 1) % q:=by rw [Nat.add_mod_mod,Nat.mod_add_mod,Nat.add_assoc]
  rw [e1]
  exact qU hq (Nat.mod_lt _ q1)
 have way:∀ i,i < q→(r.getD i 0,r.getD ((i + 1) % q) 0,W (r.getD ((i + 1) % q) 0)) ∈ ws:=fun i hi=>by
  rw [← back i hi,get _ (Nat.mod_lt _ q1)]
  exact hway _
 have hnd:r.Nodup:=by
  rw [hr]
  exact (cr.trans (List.reverse_perm _)).nodup_iff.mpr (lG hq hmin)
 refine ⟨⟨fun e=>?_,hnd,fun v hv=>?_,fun i hi=>?_⟩,hl,?_⟩
 ·rw [e] at hl; rw [← hl] at q1; exact absurd q1 (by decide)
 ·obtain ⟨i,hi,rfl⟩:=List.getElem_of_mem hv
  rw [← ef hi,get i (hl ▸ hi)]
  exact hlt _
 ·rw [hl] at hi ⊢
  exact (lP (way i hi)).1
 ·-- the sum
  have tot:∀ j,j ≤ q→cU (fun v=>((W v:Nat):Int)) ((List.range j).map fun i=>r.getD ((i + 1) % q) 0) ≤ ((rtot ws r j:Nat):Int):=by
   intro j
   induction j with
   | zero=>intro _; exact Int.le_refl _
   | succ j ih =>
    intro hj
    have h1:=ih (Nat.le_of_lt hj)
    have h2:=(lP (way j hj)).2
    rw [List.range_succ,List.map_append,dJ]
    show _ + (((W (r.getD ((j + 1) % q) 0):Nat):Int) + 0) ≤ ((rtot ws r j + best ws (r.getD j 0) (r.getD ((j + 1) % r.length) 0):Nat):Int)
    rw [hl,Int.add_zero,Int.natCast_add]
    exact Int.add_le_add h1 (Int.ofNat_le.mpr h2)
  have t:=tot q (Nat.le_refl _)
  subst hl
  rw [wl q1,mR] at t
  have e2:cU (fun v=>(div:Int) * (W v:Nat) - (num:Int)) (backs B u r.length)=cU (fun v=>(div:Int) * (W v:Nat) - (num:Int)) r:=by
   have:cU (fun v=>(div:Int) * (W v:Nat) - (num:Int)) r=cU (fun v=>(div:Int) * (W v:Nat) - (num:Int)) ((backs B u r.length).reverse.drop k ++ (backs B u r.length).reverse.take k):=congrArg _ hr
   rw [this,mR,nP]
  rw [e2,tZ] at hpos
  have h4:(div:Int) * cU (fun v=>((W v:Nat):Int)) r ≤ (div:Int) * ((rtot ws r r.length:Nat):Int):=Int.mul_le_mul_of_nonneg_left t (Int.natCast_nonneg _)
  have h5:((num * r.length:Nat):Int) < ((div * rtot ws r r.length:Nat):Int):=by rw [Int.natCast_mul,Int.natCast_mul]; exact Int.lt_of_lt_of_le (Int.lt_of_sub_pos hpos) h4
  exact Int.ofNat_lt.mp h5
end Mine
namespace Mine
open PySem
noncomputable def gR:List S :=
 [S.asg 10 (E.bin .Sub (E.bin .Add ((E.loc 3).sub (E.loc 7)) (E.bin .Mult (E.loc 2) (E.loc 9))) (E.loc 1)),
  S.ifS (E.cmp .Lt ((E.loc 3).sub (E.loc 8)) (E.loc 10)) [S.asgI (E.loc 3) (E.loc 8) (E.loc 10),S.asgI (E.loc 4) (E.loc 8) (E.loc 7),S.asg 6 (E.loc 8)] []]
noncomputable def eJ:List S:=[S.asg 6 E.none,S.forS [7,8,9] false (It.e ((E.loc 0).attr 1)) gR,S.ifS (E.cmp .Is (E.loc 6) E.none) [S.ret (E.tup [E.none,E.loc 3])] []]
noncomputable def dz:Fn:={ ps:=[0,1,2],size:=14,body :=
 [S.ifS ((E.cmp .Lt (E.loc 1) (E.int 0)).or (E.cmp .Lt (E.loc 2) (E.int 1))) [S.raise (xc 5)] [],
  S.asg 3 (E.bin .Mult (E.list [E.int 0]) ((E.loc 0).attr 0)),S.asg 4 (E.bin .Mult (E.list [E.int 0]) ((E.loc 0).attr 0)),
  S.forS [5] true (It.e (E.blt .range [E.bin .Add ((E.loc 0).attr 0) (E.int 1)])) eJ,
  S.ret (E.tup [E.call 4 [E.loc 4,E.loc 6,(E.loc 0).attr 0],E.none])] }
noncomputable def intsV (m:Nat) (S:Nat→Int):List V:=(List.range m).map fun v=>V.int (S v)
theorem bx {m:Nat}{S:Nat→Int}:(intsV m S).length=m:=by unfold intsV; rw [List.length_map,List.length_range]
theorem bI {m v:Nat}{S:Nat→Int} (h:v < m):(intsV m S)[v]?=some (V.int (S v)):=by unfold intsV; rw [List.getElem?_map,List.getElem?_range h]; rfl
theorem pM {α:Type}{m e:Nat}{f:Nat→α}{x:α}:((List.range m).map f).set e x=(List.range m).map (upd f e x):=by
 apply List.ext_getElem
 ·rw [List.length_set,List.length_map,List.length_map]
 ·intro i h1 h2
  rw [List.getElem_set,List.getElem_map,List.getElem_map,List.getElem_range]
  unfold upd
  by_cases h:e=i
  ·rw [if_pos h,if_pos h.symm]
  ·rw [if_neg h,if_neg (Ne.symm h)]
theorem qw {m e:Nat}{S:Nat→Int}{x:Int}:(intsV m S).set e (V.int x)=intsV m (upd S e x):=by
 unfold intsV
 rw [pM]
 refine List.map_congr_left fun v _=>?_
 unfold upd; split <;> rfl
theorem qI {m e x:Nat}{B:Nat→Nat}:(natsV ((List.range m).map B)).set e (V.int x)=natsV ((List.range m).map (upd B e x)):=by
 unfold natsV
 rw [List.map_map,List.map_map,pM]
 refine List.map_congr_left fun v _=>?_
 show upd _ e _ v=V.int ((upd B e x v:Nat):Int)
 unfold upd; split <;> rfl
theorem pE {σ:Sto}{l k:Nat}{xs:List V}{v:V} (h:σ[l]?=some (.lst xs)) (hk:k < xs.length):dw (.ref l) (.int k) v σ=some (dq σ l (xs.set k v)):=by
 unfold dw; dsimp only; rw [h]; show (if _ then _ else _)=_; rw [if_pos ⟨Int.natCast_nonneg k,Int.ofNat_lt.mpr hk⟩]; rfl
noncomputable def bL (σ:Sto) (m:Nat) (S:Nat→Int) (B:Nat→Nat):Sto:=σ ++ [.lst [.int 0],.lst (intsV m S),.lst [.int 0],.lst (natsV ((List.range m).map B))]
section
variable {σ:Sto}{m:Nat}{S:Nat→Int}{B:Nat→Nat}
theorem k9:(bL σ m S B)[σ.length + 1]?=some (.lst (intsV m S)):=by unfold bL; rw [List.getElem?_append_right (by lia),show σ.length + 1 - σ.length=1 by lia]; rfl
theorem uU:(bL σ m S B)[σ.length + 3]?=some (.lst (natsV ((List.range m).map B))):=by unfold bL; rw [List.getElem?_append_right (by lia),show σ.length + 3 - σ.length=3 by lia]; rfl
theorem sC {e:Nat}{x:Int}:dq (bL σ m S B) (σ.length + 1) ((intsV m S).set e (V.int x))=bL σ m (upd S e x) B:=by
 unfold dq bL
 rw [qw,List.set_append_right _ _ (by lia),show σ.length + 1 - σ.length=1 by lia]; rfl
theorem sa {e x:Nat}:dq (bL σ m S B) (σ.length + 3) ((natsV ((List.range m).map B)).set e (V.int x))=bL σ m S (upd B e x):=by
 unfold dq bL
 rw [qI,List.set_append_right _ _ (by lia),show σ.length + 3 - σ.length=3 by lia]; rfl
end
noncomputable def oY:Option Nat→V
 | none=>.none
 | some e=>.int e
section
variable {P:Nat→Option Fn}{wf n:Nat} {σ:Sto}{l m num div:Nat}{ws:List Way}
noncomputable def eV (σ:Sto) (l num div:Nat) (x5 x6 x7 x8 x9 x10:Option V):Fra:=[some (.ref l),some (.int num),some (.int div),some (.ref (σ.length + 1)),some (.ref (σ.length + 3)),x5,x6,x7,x8,x9,x10,none,none,none]
theorem pt {call:Nat→List V→Sto→RE}{t i:Nat}{w:Way}{st:St}{x5 x7 x8 x9 x10:Option V} (ht:1 ≤ t) (hd:∀ w ∈ ws,fW (div:Int) (w.2.2:Int)) (hm:∀ w ∈ ws,w.1 < m ∧ w.2.1 < m) (I:Inv ws num div t i st) (hw:ws[i]?=some w) :
  m6 [7,8,9] false (evSs call wf gR) (wayV w) (eV σ l num div x5 (some (oY st.last)) x7 x8 x9 x10) (bL σ m st.S st.B)
   (fun fr σ'=>∃ (st':St) (x7 x8 x9 x10:Option V),Inv ws num div t (i + 1) st' ∧ fr=eV σ l num div x5 (some (oY st'.last)) x7 x8 x9 x10 ∧ σ'=bL σ m st'.S st'.B ∧ ((∀ v,st.B v < m)→∀ v,st'.B v < m)) (fun _ _=>False):=by
 obtain ⟨b,e,d⟩:=w
 have hmem:=List.mem_of_getElem? hw
 obtain ⟨hb,he⟩:b < m ∧ e < m:=hm _ hmem
 have I':=pw ht I hw
 have mul:∀ σ:Sto,oi .Mult (.int div) (.int d) σ=.ok (.int ((div:Int) * d)) σ:=fun σ=>if_pos (hd _ hmem)
 have look:evE call (E.bin .Sub (E.bin .Add ((E.loc 3).sub (E.loc 7)) (E.bin .Mult (E.loc 2) (E.loc 9))) (E.loc 1)) (eV σ l num div x5 (some (oY st.last)) (some (.int b)) (some (.int e)) (some (.int d)) x10) (bL σ m st.S st.B)=.ok (.int (bf num div st.S (b,e,d))) (bL σ m st.S st.B) :=
  ar (ar (aD (ac rfl) (ac rfl) (a7 k9 (bI hb))) (ar (ac rfl) (ac rfl) (mul _)) rfl) (ac rfl) rfl
 refine ⟨eV σ l num div x5 (some (oY st.last)) (some (.int b)) (some (.int e)) (some (.int d)) x10,rfl,.inl ?_⟩
 unfold w1 at I'
 by_cases hlt:st.S e < bf num div st.S (b,e,d)
 ·rw [if_pos hlt] at I'
  refine ⟨_,_,al look (by decide:10 < 14) (d4 (aE (aD (ac rfl) (ac rfl) (a7 k9 (bI he))) (ac rfl) (congrArg some (decide_eq_true hlt)))
   (jj (ac rfl) (ac rfl) (ac rfl) (pE k9 (by rw [bx]; exact he)) (jj (ac rfl) (ac rfl) (ac rfl) (by rw [sC]; exact pE uU (by rw [aI,List.length_map,List.length_range]; exact he)) (al (ac rfl) (by decide:6 < 14) aY))) aY),_,_,_,_,_,I',rfl,?_,fun hB v=>?_⟩
  ·rw [sa]
  ·show upd st.B e b v < m
   unfold upd; split
   ·exact hb
   ·exact hB v
 ·rw [if_neg hlt] at I'
  exact ⟨_,_,al look (by decide:10 < 14) (aG (aE (aD (ac rfl) (ac rfl) (a7 k9 (bI he))) (ac rfl) (congrArg some (decide_eq_false hlt))) aY),_,_,_,_,_,I',rfl,rfl,fun hB=>hB⟩
end
end Mine
namespace Mine
open PySem
theorem nr.turn {tg:List Nat}{one:Bool}{body:Fra→Sto→RS}{v:V}{fr fr1:Fra} {σ:Sto}{I J:Fra→Sto→Prop}{Rt:V→Sto→Prop} (h:bW tg one v fr=some fr1) (d:nr (body fr1 σ) I Rt) (hIJ:∀ fr σ,I fr σ→J fr σ):m6 tg one body v fr σ J Rt :=
 ⟨fr1,h,d.elim (fun ⟨f,s,e,i⟩=>.inl ⟨f,s,e,hIJ _ _ i⟩) fun ⟨w,f,s,e,i⟩=>.inr ⟨w,f,s,e,i⟩⟩
inductive lJ (σ:Sto) (m num div:Nat) (ws:List Way):V→Sto→Prop
 | mk (S:Nat→Int) (B:Nat→Nat) (hs:∀ w ∈ ws,cM num div S w):lJ σ m num div ws (.tup [.none,.ref (σ.length + 1)]) (bL σ m S B)
inductive rl (σ:Sto) (l m num div:Nat) (ws:List Way) (t:Nat) (x5:Option V):Fra→Sto→Prop
 | mk (st:St) (e:Nat) (x7 x8 x9 x10:Option V) (I:Inv ws num div t ws.length st) (hl:st.last=some e) (hB:∀ v,st.B v < m):rl σ l m num div ws t x5 (eV σ l num div x5 (some (.int e)) x7 x8 x9 x10) (bL σ m st.S st.B)
inductive uR (σ:Sto) (l m num div:Nat) (ws:List Way) (t:Nat) (x5:Option V) (i:Nat):Fra→Sto→Prop
 | mk (st:St) (x7 x8 x9 x10:Option V) (I:Inv ws num div t i st) (hB:∀ v,st.B v < m):uR σ l m num div ws t x5 i (eV σ l num div x5 (some (oY st.last)) x7 x8 x9 x10) (bL σ m st.S st.B)
section
variable {P:Nat→Option Fn}{wf n:Nat} {σ:Sto}{l m num div:Nat}{ws:List Way}
theorem pT {call:Nat→List V→Sto→RE}{t:Nat}{st:St}{x5 x6 x7 x8 x9 x10:Option V} (W:a9 σ l m ws) (ht:1 ≤ t) (hd:∀ w ∈ ws,fW (div:Int) (w.2.2:Int)) (hm:∀ w ∈ ws,w.1 < m ∧ w.2.1 < m) (I:Inv ws num div t 0 { st with last:=none }) (hB:∀ v,st.B v < m) :
  nr (evSs call wf eJ (eV σ l num div x5 x6 x7 x8 x9 x10) (bL σ m st.S st.B)) (rl σ l m num div ws t x5) (lJ σ m num div ws):=by
 obtain ⟨dd,lw,a,b,c⟩:=W.at'
 have lp:=kE (call:=call) (wf:=wf) (tg:=[7,8,9]) (one:=false) (ws:=ws) (g:=wayV) (it:=(E.loc 0).attr 1) (bs:=gR) (fr:=eV σ l num div x5 (some .none) x7 x8 x9 x10) (σ:=bL σ m st.S st.B)
  (uR σ l m num div ws t x5) (fun _ _=>False)
  (cD (ac rfl) (cK (ap a) (ap b))) (by rintro i _ _ ⟨st,_,_,_,_,_,_⟩; exact ag (ap c))
  (by
   rintro i w _ _ hw ⟨st,y7,y8,y9,y10,I,hB⟩
   obtain ⟨fr1,h1,h2 | ⟨_,_,_,_,q⟩⟩:=pt (call:=call) (wf:=wf) (σ:=σ) (l:=l) (x5:=x5) (x7:=y7) (x8:=y8) (x9:=y9) (x10:=y10) ht hd hm I hw
   ·obtain ⟨fr2,σ2,h2,st',z7,z8,z9,z10,I',rfl,rfl,hB'⟩:=h2
    exact ⟨fr1,h1,.inl ⟨_,_,h2,st',z7,z8,z9,z10,I',hB' hB⟩⟩
   ·exact q.elim) ⟨{ st with last:=none },x7,x8,x9,x10,I,hB⟩
 obtain ⟨fr1,σ1,e1,st1,y7,y8,y9,y10,I1,hB1⟩:=lp.next
 have e0:∀ r,evSs call wf [S.ifS (E.cmp .Is (E.loc 6) E.none) [S.ret (E.tup [E.none,E.loc 3])] []] (eV σ l num div x5 (some (oY st1.last)) y7 y8 y9 y10) (bL σ m st1.S st1.B)=r→evSs call wf eJ (eV σ l num div x5 x6 x7 x8 x9 x10) (bL σ m st.S st.B)=r :=
  fun r h=>al cY (by decide:6 < 14) (a4 e1 h)
 cases hl:st1.last with
 | none =>
  refine .inr ⟨_,_,_,e0 _ (cP (aE (p:=true) (ac rfl) cY (by rw [hl]; rfl)) (aL (fX (aa cY (aa (ac rfl) ae)) (by decide:2 ≤ 1000)))),⟨_,_,tz I1 hl⟩⟩
 | some e =>
  refine .inl ⟨eV σ l num div x5 (some (.int e)) y7 y8 y9 y10,_,e0 _ (aG (aE (p:=false) (ac rfl) cY (by rw [hl]; rfl)) (by rw [hl]; rfl)),⟨st1,e,y7,y8,y9,y10,I1,hl,hB1⟩⟩
inductive ig (σ:Sto) (m num div:Nat) (ws:List Way):V→Sto→Prop
 | none (ls:Nat) (S:Nat→Int) (τ:Sto) (h:(σ ++ τ)[ls]?=some (.lst (intsV m S))) (hs:∀ w ∈ ws,cM num div S w) (hf:σ.length ≤ ls):ig σ m num div ws (.tup [.none,.ref ls]) (σ ++ τ)
 | ring (lr:Nat) (r:List Nat) (τ:Sto) (h:(σ ++ τ)[lr]?=some (.lst (natsV r))) (R:bZ ws m r) (hlt:num * r.length < div * rtot ws r r.length) (hmin:∀ x ∈ r,r.getD 0 0 ≤ x) (hf:σ.length ≤ lr):ig σ m num div ws (.tup [.ref lr,.none]) (σ ++ τ)
inductive yB (σ:Sto) (l m num div:Nat) (ws:List Way) (i:Nat):Fra→Sto→Prop
 | mk (st:St) (x5 x6 x7 x8 x9 x10:Option V) (I:Inv ws num div (i + 1) 0 { st with last:=none }) (hB:∀ v,st.B v < m) (hI:1 ≤ i→Inv ws num div i ws.length st ∧ ∃ e,st.last=some e ∧ x6=some (.int e)):yB σ l m num div ws i (eV σ l num div x5 x6 x7 x8 x9 x10) (bL σ m st.S st.B)
theorem iw (h3:P 3=some g9) (h4:P 4=some dj) (h5:P 5=some dz) (W:a9 σ l m ws) (m1:1 ≤ m) (m2:m ≤ 12) (d1:1 ≤ div) (hd:∀ w ∈ ws,fW (div:Int) (w.2.2:Int)) (hm:∀ w ∈ ws,w.1 < m ∧ w.2.1 < m) (hw:13 ≤ wf) :
  ∃ v σ',evFn P wf (n + 3) 5 [.ref l,.int num,.int div] σ=.ok v σ' ∧ ig σ m num div ws v σ':=by
 obtain ⟨dd,lw,a,b,c⟩:=W.at'
 have rep:∀ σ':Sto,oi .Mult (.ref σ'.length) (.int m) (σ' ++ [.lst [.int 0]])=.ok (.ref (σ'.length + 1)) (σ' ++ [.lst [.int 0]] ++ [.lst (List.replicate m (.int 0))]):=fun σ'=>by
  show zF (getL (σ' ++ [.lst [.int 0]]) σ'.length) m (σ' ++ [.lst [.int 0]])=_
  rw [ag am]
  show (if (-1000000:Int) ≤ (m:Int) then cN (List.replicate (m:Int).toNat (V.int 0)) (σ' ++ [.lst [.int 0]]) else .bad)=_
  rw [if_pos (by lia),ak (by rw [List.length_replicate]; lia),List.length_append]; rfl
 have z1:List.replicate m (V.int 0)=intsV m (fun _=>0):=by
  unfold intsV
  apply List.ext_getElem
  ·rw [List.length_replicate,List.length_map,List.length_range]
  ·intro i h1 h2; rw [List.getElem_replicate,List.getElem_map]
 have z2:List.replicate m (V.int 0)=natsV ((List.range m).map fun _=>0):=by
  rw [z1]; unfold intsV natsV; rw [List.map_map]; rfl
 have lp:=kK (call:=evFn P wf (n + 2)) (wf:=wf) (tg:=[5]) (one:=true) (ws:=List.range (m + 1)) (g:=fun (v:Nat)=>V.int v) (it:=E.blt .range [E.bin .Add ((E.loc 0).attr 0) (E.int 1)]) (bs:=eJ) (fr:=eV σ l num div none none none none none none) (σ:=bL σ m (fun _=>0) (fun _=>0))
  (yB σ l m num div ws) (lJ σ m num div ws)
  (a6 (aa (ar (cD (ac rfl) (b9 (ap a) (ap b))) ai rfl) ae) (b5 (k:=m + 1) (by lia))) (cE (m + 1))
  (by
   rintro i v _ _ hv ⟨st,x5,x6,x7,x8,x9,x10,I,hB,_⟩
   refine nr.turn rfl (pT (x5:=some (.int v)) W (Nat.succ_le_succ (Nat.zero_le _)) hd hm I hB) ?_
   rintro _ _ ⟨st',e,y7,y8,y9,y10,I',hl,hB'⟩
   exact ⟨st',_,_,y7,y8,y9,y10,tT I',hB',fun _=>⟨I',e,hl,rfl⟩⟩)
  ⟨⟨fun _=>0,fun _=>0,none,fun _=>0,fun _=>0⟩,none,none,none,none,none,none,rb,fun _=>m1,fun h=>absurd h (by decide)⟩
 have e0:∀ r,evSs (evFn P wf (n + 2)) wf [S.forS [5] true (It.e (E.blt .range [E.bin .Add ((E.loc 0).attr 0) (E.int 1)])) eJ,S.ret (E.tup [E.call 4 [E.loc 4,E.loc 6,(E.loc 0).attr 0],E.none])] (eV σ l num div none none none none none none) (bL σ m (fun _=>0) (fun _=>0))=r →
   evSs (evFn P wf (n + 2)) wf dz.body (aS dz [.ref l,.int num,.int div]) σ=r:=fun r h=>by
  refine aG (d6 (aE (p:=false) (ac rfl) ai (congrArg some (decide_eq_false (by lia)))) (aE (p:=false) (ac rfl) ai (congrArg some (decide_eq_false (by lia))))) (al (ar (bg (aa ai ae) (ak (by decide:1 ≤ 16777216))) (cD (ac rfl) (b9 (ap a) (ap b))) (rep σ)) (by decide:3 < 14)
   (al (ar (bg (aa ai ae) (ak (by decide:1 ≤ 16777216))) (cD (ac rfl) (b9 (ap (ap (ap a))) (ap (ap (ap b))))) (rep _)) (by decide:4 < 14) ?_))
  have e3:(σ ++ [AO.lst [V.int 0]] ++ [AO.lst (List.replicate m (V.int 0))] ++ [AO.lst [V.int 0]] ++ [AO.lst (List.replicate m (V.int 0))])=bL σ m (fun _=>0) (fun _=>0):=by
   unfold bL; rw [← z1,← z2,List.append_assoc,List.append_assoc,List.append_assoc]; rfl
  rw [e3]
  have e4:(σ ++ [AO.lst [V.int 0]] ++ [AO.lst (List.replicate m (V.int 0))]).length + 1=σ.length + 3:=by rw [List.length_append,List.length_append]; rfl
  rw [e4]
  exact h
 refine cps fun G0 k0=>?_
 rcases lp with ⟨fr,σ1,e1,st,x5,x6,x7,x8,x9,x10,_,hB,hI⟩ | ⟨v,fr,σ1,e1,S,B,hs⟩
 ·rw [List.length_range] at hI
  obtain ⟨I,e,hl,rfl⟩:=hI (Nat.succ_le_succ (Nat.zero_le _))
  obtain ⟨q,q1,q2,q3,q4,q5⟩:=lV (fun w hw=>(hm w hw).2) I hl
  have hway:∀ k,(st.B (iter st.B k e),iter st.B k e,st.W (iter st.B k e)) ∈ ws:=fun k=>(I.A _ (q5 k)).1
  have hlt:∀ k,iter st.B k e < m:=fun k=>(hm _ (hway k)).2
  obtain ⟨k,τ,lr,k1,kf,k2,k3,k4⟩:=iJ (wf:=wf) (n:=n) (σ:=bL σ m st.S st.B) h3 h4 uU hlt m2 q1 q2 q3 q4 hw
  obtain ⟨R,R1,R2⟩:=uI (ws:=ws) (num:=num) (div:=div) (m:=m) (W:=st.W) rfl q1 k1 q3 q4 (fun j=>by rw [← bA]; exact hway _) (fun j=>by rw [← bA]; exact hlt _) (I.D _ (fun v hv=>by
   obtain ⟨j,_,rfl⟩:=List.mem_map.mp hv
   rw [← bA]; exact q5 _) (o9 q1 q3))
  refine k0 ⟨_,_,bh h5 rfl (e0 _ (a4 e1 (aL (fX (aa (aF (aa (ac rfl) (aa (ac rfl) (aa (cD (ac rfl) (b9 (ap a) (ap b))) ae))) k2) (aa cY ae)) (by decide:2 ≤ 1000))))),?_⟩
  have ea:bL σ m st.S st.B ++ τ=σ ++ ([.lst [.int 0],.lst (intsV m st.S),.lst [.int 0],.lst (natsV ((List.range m).map st.B))] ++ τ):=by unfold bL; rw [List.append_assoc]
  rw [ea] at k3 ⊢
  refine .ring lr _ _ k3 R (by rw [R1]; exact R2) (fun x hx=>?_) (Nat.le_trans (List.Sublist.length_le (List.sublist_append_left _ _)) kf)
  have hq:(backs st.B (iter st.B m e) q).reverse.length=q:=by rw [List.length_reverse,aT]
  rw [fN (by rw [hq]; exact k1) (by rw [hq]; exact q1),Nat.add_zero,Nat.mod_eq_of_lt (by rw [hq]; exact k1)]
  refine k4 x ?_
  rcases List.mem_append.mp hx with h | h
  ·exact List.mem_of_mem_drop h
  ·exact List.mem_of_mem_take h
 ·exact k0 ⟨_,_,bh h5 rfl (e0 _ (i5 e1)),.none _ S _ k9 hs (Nat.le_add_right _ _)⟩
end
end Mine
namespace Mine
open PySem
theorem eS {ws:List Way}{m:Nat}{r:List Nat} (R:bZ ws m r):r.length ≤ m:=dl m r R.nd R.lt
theorem cp {ws:List Way}{m:Nat}{r:List Nat} (R:bZ ws m r):1 ≤ r.length:=Nat.pos_of_ne_zero fun e=>R.ne (List.length_eq_zero_iff.mp e)
theorem uF {ws:List Way}{m:Nat}{r:List Nat} (R:bZ ws m r) {k:Nat} (hk:k < r.length):bZ ws m (r.drop k ++ r.take k):=by
 have hl:(r.drop k ++ r.take k).length=r.length:=cr.length_eq
 have p:(r.drop k ++ r.take k).Perm r:=List.perm_append_comm.trans (by rw [List.take_append_drop])
 refine ⟨fun q=>?_,p.nodup_iff.mpr R.nd,fun v hv=>R.lt v (p.mem_iff.mp hv),fun i hi=>?_⟩
 ·rw [q] at hl; have:r.length=0:=hl.symm
  lia
 ·rw [hl] at hi ⊢
  rw [fN hk hi,fN hk (Nat.mod_lt _ (by lia)),Nat.add_mod_mod,← Nat.add_assoc,← Nat.mod_add_mod (k + i)]
  exact R.way _ (Nat.mod_lt _ (by lia))
noncomputable def ll (ws:List Way) (a:Nat):List Nat:=(ws.filter fun w=>w.1 == a).map (·.2.1)
noncomputable def nx (ws:List Way) (a:Nat):Nat:=(ll ws a).headD 0
def uM (ws:List Way) (m:Nat):Prop:=∀ a,a < m→∃ w ∈ ws,w.1=a
section
variable {ws:List Way}{m:Nat}
theorem lE (hO:uM ws m) {a:Nat} (h:a < m):(ll ws a)[0]?=some (nx ws a) ∧ ∃ d,(a,nx ws a,d) ∈ ws:=by
 obtain ⟨w,hw,rfl⟩:=hO a h
 unfold nx
 cases q:ll ws w.1 with
 | nil =>
  have:w.2.1 ∈ ll ws w.1:=List.mem_map.mpr ⟨w,List.mem_filter.mpr ⟨hw,by simp⟩,rfl⟩
  rw [q] at this; cases this
 | cons x l =>
  refine ⟨rfl,?_⟩
  have:x ∈ ll ws w.1:=by rw [q]; exact .head _
  obtain ⟨u,hu,rfl⟩:=List.mem_map.mp this
  obtain ⟨hu,he⟩:=List.mem_filter.mp hu
  have he:u.1=w.1:=by simpa using he
  exact ⟨u.2.2,by rw [← he]; exact hu⟩
theorem zQ (hO:uM ws m) (hm:∀ w ∈ ws,w.1 < m ∧ w.2.1 < m) {a:Nat} (h:a < m):nx ws a < m:=let ⟨_,d,hd⟩:=lE hO h; (hm _ hd).2
theorem jx (hO:uM ws m) (hm:∀ w ∈ ws,w.1 < m ∧ w.2.1 < m) {a:Nat} (h:a < m):∀ k,iter (nx ws) k a < m
 | 0=>h
 | k + 1=>zQ hO hm (jx hO hm h k)
theorem mu {B:Nat→Nat}{u q i:Nat} (h:i < q):(backs B u q).getD i 0=iter B i u:=by rw [List.getD_eq_getElem?_getD,eF h]; rfl
theorem sK (hO:uM ws m) (hm:∀ w ∈ ws,w.1 < m ∧ w.2.1 < m) {u q:Nat} (hu:u < m) (q1:1 ≤ q) (hq:iter (nx ws) q u=u) (nd:(backs (nx ws) u q).Nodup):bZ ws m (backs (nx ws) u q):=by
 refine ⟨fun e=>?_,nd,fun v hv=>?_,fun i hi=>?_⟩
 ·have:=congrArg List.length e
  rw [aT] at this
  simp at this; lia
 ·obtain ⟨j,_,rfl⟩:=List.mem_map.mp hv
  exact jx hO hm hu j
 ·rw [aT] at hi ⊢
  have e:(backs (nx ws) u q).getD ((i + 1) % q) 0=nx ws (iter (nx ws) i u):=by
   rw [mu (Nat.mod_lt _ q1)]
   by_cases h:i + 1=q
   ·rw [h,Nat.mod_self]
    show u=iter (nx ws) (i + 1) u
    rw [h,hq]
   ·rw [Nat.mod_eq_of_lt (by lia)]; rfl
  rw [e,mu hi]
  obtain ⟨_,d,hd⟩:=lE hO (jx hO hm hu i)
  exact (lP hd).1
end
noncomputable def sd:List S :=
 [S.asg 2 ((E.comp [1] true ((E.loc 0).attr 1) [E.cmp .Eq ((E.loc 1).sub (E.int 0)) ((E.loc 2).sub (E.int 1).neg)] ((E.loc 1).sub (E.int 1)) [none,none,some 1]).sub (E.int 0)),
  S.ifS (E.cmp .In (E.loc 2) (E.loc 1)) [S.ret (E.call 3 [(E.loc 1).slo ((E.loc 1).meth .index [E.loc 2])])] [],
  S.expr ((E.loc 1).meth .append [E.loc 2])]
noncomputable def jE:Fn:={ ps:=[0],size:=4,body:=[S.asg 1 (E.list [E.int 0]),S.whileS (E.bool true) sd] }
theorem pa {x:Nat}{r:List Nat}:((x:Int) ∈ r.map fun (d:Nat)=>(d:Int)) ↔ x ∈ r:=by
 rw [List.mem_map]
 exact ⟨fun ⟨y,hy,e⟩=>by rwa [← Int.ofNat.inj e],fun h=>⟨x,h,rfl⟩⟩
theorem vz {σ:Sto}{l x:Nat}{r:List Nat} (h:σ[l]?=some (.lst (natsV r))):gq .In (.int x) (.ref l) σ=some (decide (x ∈ r)):=by
 show inV σ (.int x) (.ref l)=_
 unfold inV; dsimp only; rw [h]; show (aA _).map _=_
 have:aA (natsV r)=some (r.map fun (d:Nat)=>(d:Int)):=bN r
 rw [this]
 show some (decide ((x:Int) ∈ _))=_
 exact congrArg some (decide_eq_decide.mpr pa)
theorem zR {σ:Sto}{l x:Nat}{r:List Nat} (hx:x ∈ r) (hl:r.length ≤ 1000) (hlt:∀ v ∈ r,v < 1000):∃ k,r[k]?=some x ∧ dW .index l (natsV r) [.int x] σ=.ok (.int (k:Nat)) σ:=by
 have hx':(x:Int) ∈ r.map fun (d:Nat)=>(d:Int):=pa.mpr hx
 have hk:(r.map fun (d:Nat)=>(d:Int)).idxOf (x:Int) < (r.map fun (d:Nat)=>(d:Int)).length:=List.idxOf_lt_length_of_mem hx'
 refine ⟨(r.map fun (d:Nat)=>(d:Int)).idxOf (x:Int),?_,?_⟩
 ·have e1:(r.map fun (d:Nat)=>(d:Int))[(r.map fun (d:Nat)=>(d:Int)).idxOf (x:Int)]=(x:Int):=List.getElem_idxOf _
  rw [List.getElem_map] at e1
  rw [List.getElem?_eq_getElem (by rwa [List.length_map] at hk)]
  exact congrArg some (Int.ofNat.inj e1)
 ·show (match aA (natsV r) with | some is=>if tU (x:Int) is then RE.ok (.int (is.idxOf (x:Int))) σ else .bad | none=>.bad)=_
  have:aA (natsV r)=some (r.map fun (d:Nat)=>(d:Int)):=bN r
  rw [this]
  exact if_pos ⟨hx',by rw [List.length_map]; exact hl,fun j hj=>by
   obtain ⟨y,hy,rfl⟩:=List.mem_map.mp hj
   have:=hlt y hy
   lia⟩
section
variable {P:Nat→Option Fn}{wf n:Nat} {σ:Sto}{l m:Nat}{ws:List Way}
def kN (σ:Sto) (ws:List Way) (m:Nat) (v:V) (σ':Sto):Prop:=∃ lr r τ,v=.ref lr ∧ σ'=σ ++ τ ∧ (σ ++ τ)[lr]?=some (.lst (natsV r)) ∧ bZ ws m r ∧ (∀ x ∈ r,r.getD 0 0 ≤ x) ∧ σ.length ≤ lr
theorem i3 {B:Nat→Nat}{i k:Nat} (hi:i < k):(backs B 0 k).drop i=backs B (iter B i 0) (k - i):=by
 apply List.ext_getElem?
 intro j
 rw [List.getElem?_drop]
 by_cases hj:j < k - i
 ·rw [eF (Nat.add_lt_of_lt_sub' hj),eF hj,bA]
 ·rw [List.getElem?_eq_none_iff.mpr (by rw [aT]; lia),List.getElem?_eq_none_iff.mpr (by rw [aT]; exact Nat.le_of_not_lt hj)]
theorem qG {ws:List Way}{m i k:Nat} (hO:uM ws m) (hm:∀ w ∈ ws,w.1 < m ∧ w.2.1 < m) (lt:∀ k,iter (nx ws) k 0 < m) (hi:i < k + 1) (hii:iter (nx ws) i 0=iter (nx ws) (k + 1) 0) (hne:∀ i j,i < j→j ≤ k→iter (nx ws) i 0 ≠ iter (nx ws) j 0):bZ ws m ((backs (nx ws) 0 (k + 1)).drop i):=by
 rw [i3 hi]
 refine sK hO hm (lt i) (Nat.sub_pos_of_lt hi) (by rw [← bA,Nat.add_sub_cancel' (Nat.le_of_lt hi)]; exact hii.symm) ?_
 rw [← i3 hi]
 refine List.Sublist.nodup (List.drop_sublist _ _) ?_
 unfold backs
 rw [List.Nodup,List.pairwise_iff_getElem]
 intro p q hp hq hpq e
 rw [List.length_map,List.length_range] at hq
 rw [List.getElem_map,List.getElem_map,List.getElem_range,List.getElem_range] at e
 exact hne p q hpq (Nat.le_of_lt_succ hq) e
theorem sO (h3:P 3=some g9) (W:a9 σ l m ws) (hz:ws.length ≤ 60) (m1:1 ≤ m) (m2:m ≤ 12) (hO:uM ws m) (hm:∀ w ∈ ws,w.1 < m ∧ w.2.1 < m):∀ (d k f:Nat) (τ:Sto) (x2:Option V),k + d=m→d < f→(∀ i j,i < j→j ≤ k→iter (nx ws) i 0 ≠ iter (nx ws) j 0) →
  ∃ v fr σ',cm (evE (evFn P wf (n + 1)) (.bool true)) (evSs (evFn P wf (n + 1)) wf sd) f [some (.ref l),some (.ref σ.length),x2,none] (σ ++ .lst (natsV (backs (nx ws) 0 (k + 1))) :: τ)=.ok (.ret v) fr σ' ∧ kN σ ws m v σ':=by
 obtain ⟨dd,lw,a,b,c⟩:=W.at'
 have lt:∀ k,iter (nx ws) k 0 < m:=jx hO hm m1
 intro d
 induction d with
 | zero =>
  intro k f τ x2 hk hf hne
  obtain ⟨i,j,hij,hj,e⟩:=vo (m:=m) (f:=fun j=>iter (nx ws) j 0) fun j _=>lt j
  exact absurd e (hne i j hij (by rw [← hk] at hj; exact hj))
 | succ d ih =>
  intro k f τ x2 hk hf hne
  obtain ⟨f,rfl⟩:=Nat.exists_eq_succ_of_ne_zero (Nat.ne_zero_of_lt hf)
  have hk':=lt k
  have hk12:k + 1 ≤ 12:=Nat.le_trans (by rw [← hk]; exact Nat.add_le_add_left (Nat.succ_pos d) k) m2
  have look:evE (evFn P wf (n + 1)) ((E.comp [1] true ((E.loc 0).attr 1) [E.cmp .Eq ((E.loc 1).sub (E.int 0)) ((E.loc 2).sub (E.int 1).neg)] ((E.loc 1).sub (E.int 1)) [none,none,some 1]).sub (E.int 0))
    [some (.ref l),some (.ref σ.length),x2,none] (σ ++ .lst (natsV (backs (nx ws) 0 (k + 1))) :: τ)=.ok (.int (iter (nx ws) (k + 1) 0:Nat)) (σ ++ .lst (natsV (backs (nx ws) 0 (k + 1))) :: (τ ++ [.lst (natsV (ll ws (iter (nx ws) k 0)))])):=by
   have e1:natsV (ll ws (iter (nx ws) k 0))=(ws.filter fun w=>w.1 == iter (nx ws) k 0).map fun w=>V.int w.2.1:=by unfold natsV ll; rw [List.map_map]; rfl
   have e2:σ ++ .lst (natsV (backs (nx ws) 0 (k + 1))) :: (τ ++ [.lst (natsV (ll ws (iter (nx ws) k 0)))])=(σ ++ .lst (natsV (backs (nx ws) 0 (k + 1))) :: τ) ++ [.lst (natsV (ll ws (iter (nx ws) k 0)))]:=by rw [List.append_assoc,List.cons_append]
   rw [e2,e1]
   refine aD (eI (ws:=ws) (g:=wayV) (p:=fun w=>w.1 == iter (nx ws) k 0) (f:=fun w=>V.int w.2.1) (cD (ac rfl) (cK (ap a) (ap b))) (ag (ap c)) (fun w hw=>⟨_,rfl,oJ (aE (aD (ac rfl) ai rfl) (aD (ac rfl) (sW ai) (l9 am iR)) (congrArg some (dn _ _))),fun _=>aD (ac rfl) ai rfl⟩) (ak ?_)) ai ?_
   ·rw [List.length_map]; exact Nat.le_trans (List.length_filter_le _ _) (Nat.le_trans hz (by decide))
   ·rw [← e1]
    refine a7 (k:=0) am ?_
    unfold natsV
    rw [List.getElem?_map,(lE hO hk').1]; rfl
  by_cases hin:iter (nx ws) (k + 1) 0 ∈ backs (nx ws) 0 (k + 1)
  ·obtain ⟨i,hi,hx⟩:=zR (σ:=σ ++ .lst (natsV (backs (nx ws) 0 (k + 1))) :: (τ ++ [.lst (natsV (ll ws (iter (nx ws) k 0)))])) (l:=σ.length) hin (by rw [aT]; exact Nat.le_trans hk12 (by decide)) (fun v hv=>by
    obtain ⟨j,_,rfl⟩:=List.mem_map.mp hv
    exact Nat.lt_of_lt_of_le (lt j) (Nat.le_trans m2 (by decide)))
   have hi':i < k + 1:=by have:=(List.getElem?_eq_some_iff.mp hi).1; rwa [aT] at this
   have hii:iter (nx ws) i 0=iter (nx ws) (k + 1) 0:=by rw [eF hi'] at hi; exact Option.some.inj hi
   have R:=qG hO hm lt hi' hii hne
   obtain ⟨q,q1,q2,q3⟩:=kl (wf:=wf) (n:=n) (σ:=σ ++ .lst (natsV (backs (nx ws) 0 (k + 1))) :: (τ ++ [.lst (natsV (ll ws (iter (nx ws) k 0)))]) ++ [.lst (natsV ((backs (nx ws) 0 (k + 1)).drop i))]) h3 am R.ne (fun v hv=>Nat.lt_of_lt_of_le (R.lt v hv) m2) (Nat.le_trans (eS R) m2)
   have ex:(natsV (backs (nx ws) 0 (k + 1))).drop i=natsV ((backs (nx ws) 0 (k + 1)).drop i):=by unfold natsV; rw [List.map_drop]
   generalize (backs (nx ws) 0 (k + 1)).drop i=r at *
   rw [← ex] at q3
   refine ⟨_,_,_,u9 d3 (al look (by decide:2 < 4) (cP (aE (p:=true) (ac rfl) (ac rfl) ((vz am).trans (congrArg some (decide_eq_true hin)))) (aL (aF (aa (vJ (ac rfl) (de (ac rfl) (ag am) (aa (ac rfl) ae) (ag am) hx) (ag am) (ak ?_)) ae) q3)))),?_⟩
   ·exact Nat.le_trans (List.Sublist.length_le (List.drop_sublist _ _)) (by rw [aI,aT]; exact Nat.le_trans hk12 (by decide))
   ·rw [ex]
    refine ⟨_,r.drop q ++ r.take q,.lst (natsV (backs (nx ws) 0 (k + 1))) :: (τ ++ [.lst (natsV (ll ws (iter (nx ws) k 0)))]) ++ [.lst (natsV r)] ++ [.lst (natsV (r.drop q)),.lst (natsV (r.take q)),.lst (natsV (r.drop q ++ r.take q))],rfl,?_,?_,uF R q1,fun x hx=>?_,?_⟩
    ·rw [List.append_assoc,List.append_assoc,List.append_assoc]
    ·rw [← List.append_assoc,← List.append_assoc,List.getElem?_append_right (Nat.le_add_right _ 2),Nat.add_sub_cancel_left]; rfl
    ·rw [fN q1 (cp R),Nat.add_zero,Nat.mod_eq_of_lt q1]
     refine q2 x ?_
     rcases List.mem_append.mp hx with h | h
     ·exact List.mem_of_mem_drop h
     ·exact List.mem_of_mem_take h
    ·exact Nat.le_trans (List.Sublist.length_le ((List.sublist_append_left _ _).trans (List.sublist_append_left _ _))) (Nat.le_add_right _ _)
  ·have nin:∀ i,i ≤ k→iter (nx ws) i 0 ≠ iter (nx ws) (k + 1) 0:=fun i hi e=>hin (List.mem_map.mpr ⟨i,List.mem_range.mpr (Nat.lt_succ_of_le hi),e⟩)
   obtain ⟨v,fr,σ',h1,h2⟩:=ih (k + 1) f (τ ++ [.lst (natsV (ll ws (iter (nx ws) k 0)))]) (some (.int (iter (nx ws) (k + 1) 0:Nat))) (by rw [Nat.add_right_comm]; exact hk) (Nat.lt_of_succ_lt_succ hf) (fun i j hij hj=>by
    by_cases h:j=k + 1
    ·subst h; exact nin i (Nat.le_of_lt_succ hij)
    ·exact hne i j hij (Nat.le_of_lt_succ (Nat.lt_of_le_of_ne hj h)))
   refine ⟨v,fr,σ',ii d3 (al look (by decide:2 < 4) (aG (aE (p:=false) (ac rfl) (ac rfl) ((vz am).trans (congrArg some (decide_eq_false hin)))) (bi (de (ac rfl) (ag am) (aa (ac rfl) ae) (ag am) (ml ?_)) aY))) ?_,h2⟩
   ·rw [aI,aT]; exact Nat.lt_of_le_of_lt hk12 (by decide)
   ·have e1:dq (σ ++ .lst (natsV (backs (nx ws) 0 (k + 1))) :: (τ ++ [.lst (natsV (ll ws (iter (nx ws) k 0)))])) σ.length (natsV (backs (nx ws) 0 (k + 1)) ++ [V.int (iter (nx ws) (k + 1) 0:Nat)])=σ ++ .lst (natsV (backs (nx ws) 0 (k + 1 + 1))) :: (τ ++ [.lst (natsV (ll ws (iter (nx ws) k 0)))]):=by
     unfold dq
     rw [d7,fy (q:=k + 1)]
     unfold natsV
     rw [List.map_append]; rfl
    rw [e1]
    exact h1
theorem lR (h3:P 3=some g9) (h6:P 6=some jE) (W:a9 σ l m ws) (hz:ws.length ≤ 60) (m1:1 ≤ m) (m2:m ≤ 12) (hO:uM ws m) (hm:∀ w ∈ ws,w.1 < m ∧ w.2.1 < m) (hw:13 ≤ wf) :
  ∃ v σ',evFn P wf (n + 2) 6 [.ref l] σ=.ok v σ' ∧ kN σ ws m v σ':=by
 obtain ⟨v,fr,σ',h1,h2⟩:=sO (P:=P) (wf:=wf) (n:=n) h3 W hz m1 m2 hO hm m 0 wf [] none (by lia) (by lia) (fun i j hij hj=>by lia)
 exact ⟨v,σ',bh h6 rfl (al (bg (aa ai ae) (ak (by decide:1 ≤ 16777216))) (by decide:1 < 4) (i5 (di h1))),h2⟩
end
end Mine
namespace Mine
inductive iV (ws:List Way) (a:Nat):Nat→Nat→Nat→Prop
 | nil:iV ws a a 0 0
 | step {b c d n t:Nat} (h:iV ws a b n t) (hw:(b,c,d) ∈ ws):iV ws a c (n + 1) (t + d)
theorem m5 {ws:List Way}{a b:Nat} (h:aX ws a b ≠ []):(a,b,best ws a b) ∈ ws:=by
 have key:∀ (l:List Nat) (x:Nat),l.foldl max x=x ∨ l.foldl max x ∈ l:=by
  intro l
  induction l with
  | nil=>intro x; exact .inl rfl
  | cons y l ih =>
   intro x
   rw [List.foldl_cons]
   rcases ih (max x y) with e | e
   ·rw [e]
    by_cases hxy:x ≤ y
    ·rw [Nat.max_eq_right hxy]; exact .inr (.head _)
    ·rw [Nat.max_eq_left (by lia)]; exact .inl rfl
   ·exact .inr (.tail _ e)
 have hm:best ws a b ∈ aX ws a b:=by
  unfold best
  cases q:aX ws a b with
  | nil=>exact absurd q h
  | cons x l =>
   rw [List.foldl_cons,Nat.zero_max]
   rcases key l x with e | e
   ·rw [e]; exact .head _
   ·exact .tail _ e
 obtain ⟨w,hw,e⟩:=List.mem_map.mp hm
 obtain ⟨h1,h2⟩:=List.mem_filter.mp hw
 obtain ⟨wa,wb,wd⟩:=w
 have h2:wa=a ∧ wb=b:=by simpa using h2
 rw [← e,← h2.1,← h2.2]; exact h1
section
variable {ws:List Way}{m:Nat}
theorem qk {r:List Nat}{M:Nat} (hd:∀ w ∈ ws,w.2.2 ≤ M) (R:bZ ws m r):∀ k,k ≤ r.length→rtot ws r k ≤ M * k
 | 0,_=>Nat.zero_le _
 | k + 1,h=>by
  have h1:=qk hd R k (by lia)
  have h2:best ws (r.getD k 0) (r.getD ((k + 1) % r.length) 0) ≤ M:=hd _ (m5 (R.way k (by lia)))
  rw [Nat.mul_succ]
  exact Nat.add_le_add h1 h2
theorem yU {t n g:Nat} (hg:g=Nat.gcd t n) (hn:1 ≤ n):t / g * n=n / g * t ∧ 1 ≤ n / g ∧ Nat.gcd (t / g) (n / g)=1 ∧ t=g * (t / g) ∧ n=g * (n / g):=by
 subst hg
 have gp:0 < Nat.gcd t n:=Nat.gcd_pos_of_pos_right _ hn
 have d1:t=Nat.gcd t n * (t / Nat.gcd t n):=(Nat.mul_div_cancel' (Nat.gcd_dvd_left _ _)).symm
 have d2:n=Nat.gcd t n * (n / Nat.gcd t n):=(Nat.mul_div_cancel' (Nat.gcd_dvd_right _ _)).symm
 refine ⟨?_,?_,Nat.Coprime.gcd_eq_one (Nat.coprime_div_gcd_div_gcd gp),d1,d2⟩
 ·generalize Nat.gcd t n=g at *
  generalize t / g=x at *
  generalize n / g=y at *
  rw [d1,d2,← Nat.mul_assoc,← Nat.mul_assoc,Nat.mul_comm x g,Nat.mul_comm y g,Nat.mul_right_comm]
 ·exact Nat.div_pos (Nat.gcd_le_right _ hn) gp
theorem AR {t n t' n' a a' N D:Nat} (hg:N * n=D * t) (hD:1 ≤ D) (hn:1 ≤ n) (h:N * n' < D * t') (e:n * a=n' * a') (ha:1 ≤ n * a):t * a < t' * a':=by
 -- t/n < t'/n'
 have h1:t * n' < t' * n:=by
  apply Decidable.byContradiction
  intro hn1
  have h2:t' * n ≤ t * n':=by lia
  have h3:D * (t' * n) ≤ D * (t * n'):=Nat.mul_le_mul_left _ h2
  have h4:D * (t * n')=N * n' * n:=by rw [← Nat.mul_assoc,← hg,Nat.mul_right_comm]
  have h5:N * n' * n < D * t' * n:=Nat.mul_lt_mul_of_pos_right h hn
  rw [h4,← Nat.mul_assoc] at h3
  lia
 have a1:1 ≤ a':=Nat.pos_of_ne_zero fun q=>by rw [q,Nat.mul_zero] at e; lia
 have a0:1 ≤ a:=Nat.pos_of_ne_zero fun q=>by rw [q,Nat.mul_zero] at ha; lia
 have h6:t * n' * (a * a') < t' * n * (a * a'):=Nat.mul_lt_mul_of_pos_right h1 (Nat.mul_pos a0 a1)
 have e1:t * n' * (a * a')=t * a * (n * a):=by rw [e,Nat.mul_comm a a',Nat.mul_assoc,Nat.mul_assoc,← Nat.mul_assoc n',Nat.mul_comm _ a]
 have e2:t' * n * (a * a')=t' * a' * (n * a):=by rw [Nat.mul_assoc,Nat.mul_assoc,← Nat.mul_assoc n,Nat.mul_comm _ a']
 rw [e1,e2] at h6
 exact Nat.lt_of_mul_lt_mul_right h6
end
end Mine
namespace Mine
open PySem
noncomputable def nD:List S :=
 [S.asgT [2,3] (E.call 2 [E.loc 0,E.loc 1]),S.asg 4 (E.call 5 [E.loc 0,E.loc 2,E.loc 3]),
  S.ifS (E.cmp .Is ((E.loc 4).sub (E.int 0)) E.none) [S.ret (E.tup [E.loc 2,E.loc 3,E.loc 1,(E.loc 4).sub (E.int 1)])] [],
  S.asg 1 ((E.loc 4).sub (E.int 0))]
noncomputable def yA:Fn:={ ps:=[0],size:=8,body:=[S.asg 1 (E.call 6 [E.loc 0]),S.whileS (E.bool true) nD] }
structure wB (m:Nat) (ws:List Way):Prop where
 m1:1 ≤ m
 m2:m ≤ 12
 hz:ws.length ≤ 60
 hm:∀ w ∈ ws,w.1 < m ∧ w.2.1 < m
 hd:∀ w ∈ ws,w.2.2 ≤ 9999
 hO:uM ws m
structure rO (P:Nat→Option Fn):Prop extends Defs1 P where
 h3:P 3=some g9
 h4:P 4=some dj
 h5:P 5=some dz
 h6:P 6=some jE
 h7:P 7=some yA
structure wK (σ:Sto) (m:Nat) (ws:List Way) (N D lr:Nat) (r:List Nat) (ls:Nat) (S:Nat→Int) (τ:Sto):Prop where
 ring:(σ ++ τ)[lr]?=some (.lst (natsV r))
 start:(σ ++ τ)[ls]?=some (.lst (intsV m S))
 ok:bZ ws m r
 min:∀ x ∈ r,r.getD 0 0 ≤ x
 hN:N=rtot ws r r.length / Nat.gcd (rtot ws r r.length) r.length
 hD:D=r.length / Nat.gcd (rtot ws r r.length) r.length
 set:∀ w ∈ ws,cM N D S w
 fresh:σ.length ≤ lr ∧ σ.length ≤ ls
theorem tQ:∀ n:Nat,1 ≤ n→n ≤ 12→n * (27720 / n)=27720:=by
 intro n h1 h2
 have:∀ n:Fin 13,1 ≤ n.1→n.1 * (27720 / n.1)=27720:=by decide
 exact this ⟨n,by lia⟩ h1
section
variable {P:Nat→Option Fn}{wf n:Nat} {σ:Sto}{l m:Nat}{ws:List Way}
noncomputable def far (ws:List Way) (r:List Nat):Nat:=rtot ws r r.length * (27720 / r.length)
theorem xK (hd:∀ w ∈ ws,w.2.2 ≤ 9999) (m2:m ≤ 12) {r:List Nat} (R:bZ ws m r):far ws r ≤ 9999 * 27720:=by
 have h:=Nat.mul_le_mul_right (27720 / r.length) (qk hd R _ (Nat.le_refl _))
 rw [Nat.mul_assoc,tQ _ (cp R) (Nat.le_trans (eS R) m2)] at h
 exact h
inductive mh (σ:Sto) (m:Nat) (ws:List Way):V→Sto→Prop
 | mk (N D lr:Nat) (r:List Nat) (ls:Nat) (S:Nat→Int) (τ:Sto) (R:wK σ m ws N D lr r ls S τ):mh σ m ws (.tup [.int N,.int D,.ref lr,.ref ls]) (σ ++ τ)
theorem qK (H:rO P) (W:a9 σ l m ws) (O:wB m ws) (hw:13 ≤ wf):∀ (d f lr:Nat) (r:List Nat) (τ:Sto) (x2 x3 x4:Option V),9999 * 27720 ≤ far ws r + d→d < f→(σ ++ τ)[lr]?=some (.lst (natsV r))→bZ ws m r→(∀ x ∈ r,r.getD 0 0 ≤ x)→σ.length ≤ lr →
  ∃ v fr σ',cm (evE (evFn P wf (n + 4)) (.bool true)) (evSs (evFn P wf (n + 4)) wf nD) f [some (.ref l),some (.ref lr),x2,x3,x4,none,none,none] (σ ++ τ)=.ok (.ret v) fr σ' ∧ mh σ m ws v σ':=by
 intro d
 induction d using Nat.strongRecOn with
 | _ d ih =>
  intro f lr r τ x2 x3 x4 hd hf hr R hmin hfr
  obtain ⟨f,rfl⟩:∃ g,f=g + 1:=⟨f - 1,by lia⟩
  have hrl:=Nat.le_trans (eS R) O.m2
  obtain ⟨τ1,e1⟩:=vV (wf:=wf) (n:=n) H.toDefs1 (W.app (τ:=τ)) O.hz hr R O.m2 hrl hw
  obtain ⟨g1,g2,g3,g4,g5⟩:=yU (t:=rtot ws r r.length) rfl (cp R)
  generalize hN:rtot ws r r.length / Nat.gcd (rtot ws r r.length) r.length=N at e1 g1 g3 g4
  generalize hD:r.length / Nat.gcd (rtot ws r r.length) r.length=D at e1 g1 g2 g3 g5
  have hDl:D < 2 ^ 64:=by
   have:D ≤ r.length:=by rw [← hD]; exact Nat.div_le_self _ _
   exact Nat.lt_of_le_of_lt (Nat.le_trans this hrl) (by decide)
  obtain ⟨v,σ2,e2,res⟩:=iw (wf:=wf) (n:=n + 1) (num:=N) (div:=D) H.h3 H.h4 H.h5 (W.app (τ:=τ).app (τ:=τ1)) O.m1 O.m2 g2 (fun _ _=>.inl hDl) O.hm hw
  cases res with
  | none ls S τ2 hls hs hfs =>
   have ea:σ ++ τ ++ τ1 ++ τ2=σ ++ (τ ++ τ1 ++ τ2):=by rw [List.append_assoc,List.append_assoc,List.append_assoc]
   have hr2:=ap (τ:=τ2) (ap (τ:=τ1) hr)
   rw [ea] at hls e2 hr2
   refine ⟨_,_,_,u9 d3 (ro (aF (aa (ac rfl) (aa (ac rfl) ae)) e1) rfl (al (aF (aa (ac rfl) (aa (ac rfl) (aa (ac rfl) ae))) e2) (by decide:4 < 8) (cP (aE (aD (ac rfl) ai rfl) cY rfl) (aL (fX (aa (ac rfl) (aa (ac rfl) (aa (ac rfl) (aa (aD (ac rfl) ai rfl) ae)))) (by decide:4 ≤ 1000)))))),N,D,lr,r,ls,S,τ ++ τ1 ++ τ2,hr2,hls,R,hmin,hN.symm,hD.symm,hs,hfr,Nat.le_trans (List.Sublist.length_le ((List.sublist_append_left _ _).trans (List.sublist_append_left _ _))) hfs⟩
  | ring lr' r' τ2 hr' R' hlt hmin' hfs =>
   have hf':=xK O.hd O.m2 R'
   have hg:far ws r < far ws r':=AR g1 g2 (cp R) hlt ((tQ _ (cp R) hrl).trans (tQ _ (cp R') (Nat.le_trans (eS R') O.m2)).symm) (by rw [tQ _ (cp R) hrl]; decide)
   have ea:σ ++ τ ++ τ1 ++ τ2=σ ++ (τ ++ τ1 ++ τ2):=by rw [List.append_assoc,List.append_assoc,List.append_assoc]
   rw [ea] at hr' e2
   obtain ⟨v,fr,σ',h1,h2⟩:=ih (far ws r + d - far ws r') (by lia) f lr' r' (τ ++ τ1 ++ τ2) (some (.int N)) (some (.int D)) (some (.tup [.ref lr',.none])) (by lia) (by lia) hr' R' hmin' (Nat.le_trans (List.Sublist.length_le ((List.sublist_append_left _ _).trans (List.sublist_append_left _ _))) hfs)
   exact ⟨v,fr,σ',ii d3 (ro (aF (aa (ac rfl) (aa (ac rfl) ae)) e1) rfl (al (aF (aa (ac rfl) (aa (ac rfl) (aa (ac rfl) ae))) e2) (by decide:4 < 8) (aG (aE (aD (ac rfl) ai rfl) cY rfl) (al (aD (ac rfl) ai rfl) (by decide:1 < 8) aY)))) h1,h2⟩
theorem wN (H:rO P) (W:a9 σ l m ws) (O:wB m ws) (hw:9999 * 27720 < wf):∃ v σ',evFn P wf (n + 5) 7 [.ref l] σ=.ok v σ' ∧ mh σ m ws v σ':=by
 obtain ⟨v,σ',e1,lr,r,τ,rfl,rfl,hr,R,hmin,hfr⟩:=lR (wf:=wf) (n:=n + 2) H.h3 H.h6 W O.hz O.m1 O.m2 O.hO O.hm (Nat.le_trans (by decide) (Nat.le_of_lt hw))
 obtain ⟨v,fr,σ',h1,h2⟩:=qK (n:=n) H W O (Nat.le_trans (by decide) (Nat.le_of_lt hw)) (9999 * 27720) wf lr r τ none none none (Nat.le_add_left _ _) hw hr R hmin hfr
 exact ⟨v,σ',bh H.h7 rfl (al (aF (aa (ac rfl) ae) e1) (by decide:1 < 8) (i5 (di h1))),h2⟩
end
end Mine
namespace Mine
open PySem
theorem cO {α β γ:Type}{f:β→Option γ}{g:α→β}{h:α→γ}:∀ {l:List α},(∀ a ∈ l,f (g a)=some (h a))→aQ f (l.map g)=some (l.map h)
 | [],_=>rfl
 | a :: l,H=>by rw [List.map_cons,List.map_cons,gX,H a (.head _),cO fun b hb=>H b (.tail _ hb)]
theorem fH {σ:Sto}{l n:Nat}{xs:List V}{ds:List PyData} (h:σ[l]?=some (.lst xs)) (hd:aQ (toD n σ) xs=some ds):toD (n + 1) σ (.ref l)=some (.list ds):=by
 show (match getL σ l with | some vs=>(aQ (toD n σ) vs).map PyData.list | none=>none)=_
 rw [ag h]
 show (aQ (toD n σ) xs).map PyData.list=_
 rw [hd]; rfl
theorem v4 {ds:List PyData}:PyData.eqv (.list ds) (.list [])=ds.isEmpty:=by
 cases ds with
 | nil=>rfl
 | cons d ds=>rfl
theorem gJ {σ:Sto}{l k:Nat}{xs:List V}{ds:List PyData} (h:σ[l]?=some (.lst xs)) (hd:aQ (toD 4 σ) xs=some ds) (hk:σ[k]?=some (.lst [])):eqV σ (.ref l) (.ref k)=some ds.isEmpty:=by
 unfold eqV
 rw [fH h hd,fH (ds:=[]) hk rfl]
 exact congrArg some v4
noncomputable def yx (r:List Nat):List PyData:=r.map fun (v:Nat)=>.int v
noncomputable def yf (w:Way):PyData:=.tuple [.int w.1,.int w.2.1,.int w.2.2]
theorem t3 {σ:Sto}{r:List Nat}:aQ (toD 4 σ) (natsV r)=some (yx r):=cO fun _ _=>rfl
theorem lT {σ:Sto}{ws:List Way}:aQ (toD 4 σ) (ws.map wayV)=some (ws.map yf):=cO fun _ _=>rfl
noncomputable def nJ:S:=S.ifS ((E.cmp .Eq ((E.loc 5).sub (E.int 0)) (E.loc 4)).and (E.cmp .NotIn ((E.loc 5).sub (E.int 1)) (E.loc 2)))
 [S.asgI (E.loc 2) ((E.loc 5).sub (E.int 1)) (E.bool true),S.expr ((E.loc 3).meth .append [(E.loc 5).sub (E.int 1)])] []
noncomputable def gn:List S:=[S.asg 4 ((E.loc 3).meth .pop []),S.forS [5] true (It.e (E.loc 1)) [nJ]]
noncomputable def gY:Fn:={ ps:=[0,1],size:=6,body :=
 [S.asg 2 ((E.int 0).dict1 (E.bool true)),S.asg 3 (E.list [E.int 0]),S.whileS (E.cmp .NotEq (E.loc 3) (E.list [])) gn,S.ret (E.loc 2)] }
noncomputable def iM (F:List Nat):List (Int × V):=F.map fun (v:Nat)=>((v:Int),V.bool true)
theorem tR {F:List Nat}{x:Nat}:((iM F).any fun e=>e.1 == (x:Int))=decide (x ∈ F):=by
 rw [Bool.eq_iff_iff,List.any_eq_true,decide_eq_true_eq]
 constructor
 ·rintro ⟨e,he,q⟩
  obtain ⟨v,hv,rfl⟩:=List.mem_map.mp he
  have:(v:Int)=(x:Int):=eq_of_beq q
  rwa [← Int.ofNat.inj this]
 ·intro h
  exact ⟨_,List.mem_map.mpr ⟨x,h,rfl⟩,beq_self_eq_true _⟩
theorem mF {x:Nat}:∀ {F:List Nat},x ∉ F→nC (x:Int) (.bool true) (iM F)=iM (F ++ [x])
 | [],_=>rfl
 | v :: F,h=>by
  rw [List.mem_cons,not_or] at h
  show (if ((v:Int) == (x:Int)) then ((v:Int),V.bool true) :: iM F else ((v:Int),V.bool true) :: nC (x:Int) (.bool true) (iM F))=_
  rw [dn,if_neg (by simpa using Ne.symm h.1),mF h.2]; rfl
noncomputable def bH (σ:Sto) (F Q:List Nat) (τ:Sto):Sto:=σ ++ .dI (iM F) :: .lst (natsV Q) :: τ
section
variable {σ τ:Sto}{F Q:List Nat}
theorem uV:(bH σ F Q τ)[σ.length]?=some (.dI (iM F)):=am
theorem ku:(bH σ F Q τ)[σ.length + 1]?=some (.lst (natsV Q)):=by unfold bH; rw [List.getElem?_append_right (by lia),show σ.length + 1 - σ.length=1 by lia]; rfl
theorem sk {x:Nat} (h:x ∉ F) (hl:F.length ≤ 1000):dw (.ref σ.length) (.int x) (.bool true) (bH σ F Q τ)=some (bH σ (F ++ [x]) Q τ):=by
 unfold dw; dsimp only; rw [uV]; show (if _ then _ else _)=_
 rw [if_pos (by unfold iM; rw [List.length_map]; lia),mF h]
 unfold bH
 rw [d7]
theorem kr {Q':List Nat}:dq (bH σ F Q τ) (σ.length + 1) (natsV Q')=bH σ F Q' τ:=by
 unfold dq bH
 rw [List.set_append_right _ _ (by lia),show σ.length + 1 - σ.length=1 by lia]; rfl
theorem jb {x:Nat}:gq .NotIn (.int x) (.ref σ.length) (bH σ F Q τ)=some (decide (x ∉ F)):=by
 show m9 (bH σ F Q τ) (.int x) (.ref σ.length)=_
 unfold m9 inV; dsimp only; rw [uV]; show some (!(List.any _ _))=_
 rw [tR]
 refine congrArg some ?_
 by_cases h:x ∈ F <;> simp [h]
theorem sX {o:AO}:bH σ F Q τ ++ [o]=bH σ F Q (τ ++ [o]):=by unfold bH; rw [List.append_assoc]; rfl
end
def zY (ws:List Way) (v:Nat):Prop:=∀ G:Nat→Prop,G 0→(∀ w ∈ ws,G w.1→G w.2.1)→G v
structure uL (m:Nat) (F Q:List Nat) (ex:Nat→List Way) (ws:List Way):Prop where
 nd:F.Nodup
 lt:∀ v ∈ F,v < m
 mn:∀ v ∈ F,zY ws v
 zero:0 ∈ F
 sub:∀ v ∈ Q,v ∈ F
 cl:∀ w ∈ ws,w.1 ∈ F→w.1 ∉ Q→w ∉ ex w.1→w.2.1 ∈ F
section
variable {P:Nat→Option Fn}{wf n:Nat} {σ:Sto}{lw m:Nat}{ws:List Way}
noncomputable def fY (σ:Sto) (m lw:Nat) (x4 x5:Option V):Fra:=[some (.int m),some (.ref lw),some (.ref σ.length),some (.ref (σ.length + 1)),x4,x5]
noncomputable def after (ws:List Way) (h i:Nat) (v:Nat):List Way:=if v=h then ws.drop i else []
inductive lC (σ:Sto) (m lw:Nat) (ws:List Way) (h c i:Nat):Fra→Sto→Prop
 | mk (F Q:List Nat) (τ:Sto) (x5:Option V) (C:uL m F Q (after ws h i) ws) (hF:h ∈ F) (hc:Q.length + c=F.length):lC σ m lw ws h c i (fY σ m lw (some (.int h)) x5) (bH σ F Q τ)
set_option tactic.hygienic true in
theorem o6 {call:Nat→List V→Sto→RE}{h i c:Nat}{w:Way}{F Q:List Nat} {τ:Sto}{x5:Option V} (hm:∀ w ∈ ws,w.1 < m ∧ w.2.1 < m) (m2:m ≤ 12) (hw:ws[i]?=some w) (C:uL m F Q (after ws h i) ws) (hF:h ∈ F) (hc:Q.length + c=F.length) :
  m6 [5] true (evSs call wf [nJ]) (wayV w) (fY σ m lw (some (.int h)) x5) (bH σ F Q τ)
   (lC σ m lw ws h c (i + 1)) (fun _ _=>False):=by
 have hmem:=List.mem_of_getElem? hw
 have hlen:=dl m F C.nd C.lt
 obtain ⟨a,b,d⟩:=w
 have hb:b < m:=(hm _ hmem).2
 have hdrop:ws.drop i=(a,b,d) :: ws.drop (i + 1):=by
  obtain ⟨h1,h2⟩:=List.getElem?_eq_some_iff.mp hw
  rw [List.drop_eq_getElem_cons h1,h2]
 have next:∀ u:Way,u ∉ after ws h (i + 1) u.1→u ≠ (a,b,d)→u ∉ after ws h i u.1:=fun u hu hne=>by
  unfold after at hu ⊢
  split at hu
  ·rename_i e
   rw [if_pos e,hdrop,List.mem_cons,not_or]; exact ⟨hne,hu⟩
  ·rename_i e
   rw [if_neg e]; exact hu
 have test1:evE call (E.cmp .Eq ((E.loc 5).sub (E.int 0)) (E.loc 4)) (fY σ m lw (some (.int h)) (some (wayV (a,b,d)))) (bH σ F Q τ)=.ok (.bool (a == h)) (bH σ F Q τ):=aE (aD (ac rfl) ai rfl) (ac rfl) (congrArg some (dn a h))
 refine ⟨fY σ m lw (some (.int h)) (some (wayV (a,b,d))),rfl,.inl ?_⟩
 by_cases hn:a=h ∧ b ∉ F
 ·obtain ⟨rfl,hn⟩:=hn
  refine ⟨_,_,d4 (dC (test1.trans (by rw [beq_self_eq_true])) (aE (p:=true) (aD (ac rfl) ai rfl) (ac rfl) (jb.trans (congrArg some (decide_eq_true hn)))))
   (jj d3 (ac rfl) (aD (ac rfl) ai rfl) (sk hn (by lia)) (bi (de (ac rfl) (ag ku) (aa (aD (ac rfl) ai rfl) ae) (ag ku) (ml ?_)) (?_:_=RS.ok Fl.next (fY σ m lw (some (.int a)) (some (wayV (a,b,d)))) (bH σ (F ++ [b]) (Q ++ [b]) τ)))) aY,F ++ [b],Q ++ [b],τ,some (wayV (a,b,d)),⟨?_,?_,?_,?_,?_,?_⟩,List.mem_append_left _ hF,?_⟩
  ·rw [aI]
   lia
  ·rw [show natsV Q ++ [V.int (b:Nat)]=natsV (Q ++ [b]) by unfold natsV; rw [List.map_append]; rfl,kr]; exact aY
  ·rw [List.nodup_append]
   exact ⟨C.nd,by simp,fun x hx y hy e=>hn (by rw [← List.mem_singleton.mp hy,← e]; exact hx)⟩
  ·intro v hv
   rcases List.mem_append.mp hv with hv | hv
   ·exact C.lt v hv
   ·rw [List.mem_singleton.mp hv]; exact hb
  ·intro v hv
   rcases List.mem_append.mp hv with hv | hv
   ·exact C.mn v hv
   ·rw [List.mem_singleton.mp hv]; exact fun G g0 gs=>gs _ hmem (C.mn a hF G g0 gs)
  ·exact List.mem_append_left _ C.zero
  ·intro v hv
   rcases List.mem_append.mp hv with hv | hv
   ·exact List.mem_append_left _ (C.sub v hv)
   ·exact List.mem_append_right _ hv
  ·intro u hu h1 h2 h3
   by_cases e:u=(a,b,d)
   ·rw [e]; exact List.mem_append_right _ (.head _)
   ·rw [List.mem_append,not_or] at h2
    rcases List.mem_append.mp h1 with h1 | h1
    ·exact List.mem_append_left _ (C.cl u hu h1 h2.1 (next u h3 e))
    ·exact absurd h1 h2.2
  ·rw [List.length_append,List.length_append]
   show Q.length + 1 + c=F.length + 1
   lia
 ·refine ⟨_,_,aG ((tw (p:=a == h) (q:=decide (b ∉ F)) test1 fun _=>aE (aD (ac rfl) ai rfl) (ac rfl) jb).trans ?_) aY,F,Q,τ,some (wayV (a,b,d)),⟨C.nd,C.lt,C.mn,C.zero,C.sub,fun u hu h1 h2 h3=>?_⟩,hF,hc⟩
  ·have:(a == h && decide (b ∉ F))=false:=by
    rw [Bool.eq_false_iff]
    intro q
    rw [Bool.and_eq_true,beq_iff_eq,decide_eq_true_eq] at q
    exact hn q
   rw [this]
  ·by_cases e:u=(a,b,d)
   ·subst e
    by_cases ha:a=h
    ·exact Decidable.byContradiction fun hb=>hn ⟨ha,hb⟩
    ·exact C.cl _ hu h1 h2 (by unfold after; rw [if_neg ha]; exact fun q=>nomatch q)
   ·exact C.cl u hu h1 h2 (next u h3 e)
end
end Mine
namespace Mine
open PySem
def bU (ws:List Way) (a b:Nat):Prop:=∃ n t,iV ws a b n t
section
variable {P:Nat→Option Fn}{wf n:Nat} {σ:Sto}{lw m:Nat}{ws:List Way}
theorem wq {a b c q m d:Nat} (hd:a + 1 + m ≤ d + 1 + b) (hq:a + 1 ≤ b) (h2:q + (b - a)=c):q + m ≤ d + c ∧ q ≤ c:=by lia
theorem uJ {q m f:Nat} (hd:q + m ≤ 0 + f) (hl:f ≤ m):q=0:=by lia
noncomputable def wR:E:=E.cmp .NotEq (E.loc 3) (E.list [])
theorem gU {call:Nat→List V→Sto→RE}{F Q:List Nat} {τ:Sto}{x4 x5:Option V}:evE call wR (fY σ m lw x4 x5) (bH σ F Q τ)=.ok (.bool (!(yx Q).isEmpty)) (bH σ F Q (τ ++ [.lst []])):=by
 refine aE (ac rfl) (bg ae (ak (by decide:0 ≤ 16777216))) ?_ |>.trans (by rw [sX])
 show (eqV _ _ _).map _=_
 rw [gJ (ap ku) t3 am]; rfl
theorem lC.get {h c i:Nat}{fr:Fra} {σ':Sto} (hlw:σ[lw]?=some (.lst (ws.map wayV))) (I:lC σ m lw ws h c i fr σ'):getL σ' lw=some (ws.map wayV):=by
 obtain ⟨F,Q,τ,x5,_,_,_⟩:=I
 exact ag (ap hlw)
theorem n7 {call:Nat→List V→Sto→RE}{h i c:Nat}{w:Way}{fr:Fra} {σ':Sto} (hm:∀ w ∈ ws,w.1 < m ∧ w.2.1 < m) (m2:m ≤ 12) (hw:ws[i]?=some w) (I:lC σ m lw ws h c i fr σ'):m6 [5] true (evSs call wf [nJ]) (wayV w) fr σ' (lC σ m lw ws h c (i + 1)) (fun _ _=>False):=by
 obtain ⟨F,Q,τ,x5,C,h1,h2⟩:=I
 exact o6 hm m2 hw C h1 h2
inductive xv (call:Nat→List V→Sto→RE) (wf:Nat) (σ:Sto) (m lw:Nat) (ws:List Way) (c:Nat) (fr:Fra) (σ0:Sto):Prop
 | mk (h:Nat) (F Q:List Nat) (τ:Sto) (y5:Option V) (e:∀ f r,cm (evE call wR) (evSs call wf gn) f (fY σ m lw (some (.int h)) y5) (bH σ F Q τ)=r→cm (evE call wR) (evSs call wf gn) (f + 1) fr σ0=r) (C:uL m F Q (fun _=>[]) ws) (hc:Q.length + c=F.length):xv call wf σ m lw ws c fr σ0
theorem rX {call:Nat→List V→Sto→RE} (hm:∀ w ∈ ws,w.1 < m ∧ w.2.1 < m) (m2:m ≤ 12) (hlw:σ[lw]?=some (.lst (ws.map wayV))) {F Q0:List Nat}{h:Nat} {τ:Sto}{x4 x5:Option V} (hq:Q0.length ≤ F.length) (C:uL m F (Q0 ++ [h]) (fun _=>[]) ws) :
  xv call wf σ m lw ws (F.length - Q0.length) (fY σ m lw x4 x5) (bH σ F (Q0 ++ [h]) τ):=by
 have hF:h ∈ F:=C.sub h (List.mem_append_right _ (.head _))
 have C0:uL m F Q0 (after ws h 0) ws:=⟨C.nd,C.lt,C.mn,C.zero,fun v hv=>C.sub v (List.mem_append_left _ hv),fun w hw h1 h2 h3=>by
  by_cases e:w.1=h
  ·exact absurd (by unfold after; rw [if_pos e]; exact hw) h3
  ·exact C.cl w hw h1 (fun q=>(List.mem_append.mp q).elim h2 fun q=>e (List.mem_singleton.mp q)) fun q=>nomatch q⟩
 have lp:=kE (call:=call) (wf:=wf) (tg:=[5]) (one:=true) (ws:=ws) (g:=wayV) (it:=E.loc 1) (bs:=[nJ]) (fr:=fY σ m lw (some (.int h)) x5) (σ:=bH σ F Q0 (τ ++ [.lst []]))
  (lC σ m lw ws h (F.length - Q0.length)) (fun _ _=>False) (ac rfl) (fun i _ _ I=>I.get hlw) (fun i w _ _ hw I=>n7 hm m2 hw I) ⟨F,Q0,_,x5,C0,hF,Nat.add_sub_cancel' hq⟩
 obtain ⟨fr1,σ1,e1,F',Q',τ',y5,C',h1,h2⟩:=lp.next
 refine ⟨h,F',Q',τ',y5,fun f r hr=>ii (σ1:=bH σ F (Q0 ++ [h]) (τ ++ [.lst []])) (gU.trans ?_) (al (de (ac rfl) (ag ku) ae (ag ku) (?_:dW .pop _ _ _ _=.ok (.int h) (bH σ F Q0 (τ ++ [.lst []])))) (by decide:4 < 6) (a4 e1 aY)) hr,⟨C'.nd,C'.lt,C'.mn,C'.zero,C'.sub,fun w hw a1 a2 a3=>C'.cl w hw a1 a2 (by unfold after; rw [List.drop_length,ite_self]; exact a3)⟩,h2⟩
 ·congr 2
  cases Q0 <;> rfl
 ·have e3:natsV (Q0 ++ [h])=natsV Q0 ++ [V.int (h:Nat)]:=by unfold natsV; rw [List.map_append]; rfl
  show (match (natsV (Q0 ++ [h])).getLast? with | some v=>RE.ok v (dq _ _ (natsV (Q0 ++ [h])).dropLast) | none=>.bad)=_
  rw [e3,List.getLast?_concat,List.dropLast_concat]
  show RE.ok _ (dq _ _ (natsV Q0))=_
  rw [kr]
theorem rV {call:Nat→List V→Sto→RE} (hm:∀ w ∈ ws,w.1 < m ∧ w.2.1 < m) (m2:m ≤ 12) (hlw:σ[lw]?=some (.lst (ws.map wayV))):∀ (d f:Nat) (F Q:List Nat) (τ:Sto) (x4 x5:Option V),Q.length + m ≤ d + F.length→d < f→Q.length ≤ F.length→uL m F Q (fun _=>[]) ws →
  ∃ F' τ' y4 y5,cm (evE call (E.cmp .NotEq (E.loc 3) (E.list []))) (evSs call wf gn) f (fY σ m lw x4 x5) (bH σ F Q τ)=.ok .next (fY σ m lw y4 y5) (bH σ F' [] τ') ∧ uL m F' [] (fun _=>[]) ws:=by
 intro d
 induction d with
 | zero =>
  intro f F Q τ x4 x5 hd hf hq C
  have hQ:Q=[]:=List.length_eq_zero_iff.mp (uJ hd (dl m F C.nd C.lt))
  rw [hQ] at C ⊢
  cases f with
  | zero=>exact absurd hf (Nat.not_lt_zero _)
  | succ f=>exact ⟨F,τ ++ [.lst []],x4,x5,mE gU,C⟩
 | succ d ih =>
  intro f F Q τ x4 x5 hd hf hq C
  cases f with
  | zero=>exact absurd hf (Nat.not_lt_zero _)
  | succ f =>
   rcases List.eq_nil_or_concat Q with hQ | ⟨Q0,h,hQ⟩
   ·rw [hQ] at C ⊢
    exact ⟨F,τ ++ [.lst []],x4,x5,mE gU,C⟩
   ·rw [List.concat_eq_append] at hQ
    have hl:Q.length=Q0.length + 1:=by rw [hQ,List.length_append]; rfl
    rw [hl] at hd hq
    rw [hQ] at C ⊢
    obtain ⟨h,F',Q',τ',y5,e,C1,h2⟩:=rX (call:=call) (wf:=wf) (τ:=τ) (x4:=x4) (x5:=x5) hm m2 hlw (Nat.le_of_lt hq) C
    have om:=wq hd hq h2
    obtain ⟨F2,τ2,z4,z5,e2,C2⟩:=ih f F' Q' τ' (some (.int h)) y5 om.1 (Nat.lt_of_succ_lt_succ hf) om.2 C1
    exact ⟨F2,τ2,z4,z5,e _ _ e2,C2⟩
theorem tV {F:List Nat} (C:uL m F [] (fun _=>[]) ws) (hR:∀ v,v < m→bU ws 0 v):F.length=m:=by
 have h1:=dl m F C.nd C.lt
 have h2:∀ {b n t:Nat},iV ws 0 b n t→b ∈ F:=by
  intro b n t h
  induction h with
  | nil=>exact C.zero
  | step h hw ih=>exact C.cl _ hw ih (fun q=>nomatch q) fun q=>nomatch q
 have h3:(List.range m).length ≤ F.length:=(List.nodup_range).length_le_of_subset fun v hv=>by
  obtain ⟨n,t,hw⟩:=hR v (List.mem_range.mp hv)
  exact h2 hw
 rw [List.length_range] at h3
 lia
theorem qD (h9:P 9=some gY) (hlw:σ[lw]?=some (.lst (ws.map wayV))) (hm:∀ w ∈ ws,w.1 < m ∧ w.2.1 < m) (m1:1 ≤ m) (m2:m ≤ 12) (hw:14 ≤ wf) :
  ∃ τ F,uL m F [] (fun _=>[]) ws ∧ evFn P wf (n + 1) 9 [.int m,.ref lw] σ=.ok (.ref σ.length) (σ ++ τ) ∧ gA .len [.ref σ.length] (σ ++ τ)=.ok (.int F.length) (σ ++ τ):=by
 obtain ⟨F,τ,y4,y5,e1,C⟩:=rV (call:=evFn P wf n) (wf:=wf) hm m2 hlw (m + 1) wf [0] [0] [] none none (by lia) (by lia) (Nat.le_refl _) ⟨by simp,fun v hv=>by rw [List.mem_singleton.mp hv]; exact m1,fun v hv=>by rw [List.mem_singleton.mp hv]; exact fun G g0 _=>g0,.head _,fun v hv=>hv,fun w hw h1 h2=>absurd h1 h2⟩
 refine ⟨_,F,C,bh h9 rfl (al (wj ai d3) (by decide:2 < 6) (al (bg (aa ai ae) (ak (by decide:1 ≤ 16777216))) (by decide:3 < 6) (a4 (?_:evS _ _ _ _ _=.ok .next (fY σ m lw y4 y5) (bH σ F [] τ)) (aL (ac rfl))))),?_⟩
 ·have e2:σ ++ [AO.dI [(0,V.bool true)]] ++ [AO.lst [V.int 0]]=bH σ [0] [0] []:=by rw [List.append_assoc]; rfl
  have e3:(σ ++ [AO.dI [(0,V.bool true)]]).length=σ.length + 1:=by rw [List.length_append]; rfl
  rw [e2,e3]
  exact di e1
 ·show bS _ ((s5 (.ref σ.length) _).map V.int)=_
  unfold s5; dsimp only; rw [am]; dsimp only
  show RE.ok (.int ((iM F).length:Nat)) _=_
  unfold iM
  rw [List.length_map]
theorem iW (h9:P 9=some gY) (hlw:σ[lw]?=some (.lst (ws.map wayV))) (hm:∀ w ∈ ws,w.1 < m ∧ w.2.1 < m) (m1:1 ≤ m) (m2:m ≤ 12) (hR:∀ v,v < m→bU ws 0 v) (hw:14 ≤ wf) :
  ∃ τ,evFn P wf (n + 1) 9 [.int m,.ref lw] σ=.ok (.ref σ.length) (σ ++ τ) ∧ gA .len [.ref σ.length] (σ ++ τ)=.ok (.int m) (σ ++ τ):=by
 obtain ⟨τ,F,C,h1,h2⟩:=qD (n:=n) h9 hlw hm m1 m2 hw
 rw [tV C hR] at h2
 exact ⟨τ,h1,h2⟩
end
end Mine
namespace Mine
open PySem
noncomputable def sJ (w:Way):Way:=(w.2.1,w.1,w.2.2)
noncomputable def flip (ws:List Way):List Way:=ws.map sJ
theorem mQ {ws:List Way}{a b d:Nat}:(a,b,d) ∈ flip ws ↔ (b,a,d) ∈ ws:=by
 constructor
 ·intro h
  obtain ⟨⟨x,y,z⟩,hw,e⟩:=List.mem_map.mp h
  unfold sJ at e
  cases e
  exact hw
 ·exact fun h=>List.mem_map.mpr ⟨_,h,rfl⟩
theorem iV.app {ws:List Way}{a b c n t n' t':Nat} (h:iV ws a b n t) (h':iV ws b c n' t'):iV ws a c (n + n') (t + t'):=by
 induction h' with
 | nil=>exact h
 | step _ hw ih=>rw [← Nat.add_assoc t]; exact .step ih hw
theorem iV.one {ws:List Way}{a b d:Nat} (h:(a,b,d) ∈ ws):iV ws a b 1 d:=by
 have:=iV.step (iV.nil (ws:=ws) (a:=a)) h
 rwa [Nat.zero_add,Nat.zero_add] at this
theorem iV.flip {ws:List Way}{a b n t:Nat} (h:iV ws a b n t):iV (Mine.flip ws) b a n t:=by
 induction h with
 | nil=>exact .nil
 | @step b c d n t _ hw ih =>
  have:=(iV.one (mQ.mpr hw)).app ih
  rwa [Nat.add_comm 1,Nat.add_comm d t] at this
theorem sq {ws:List Way}:flip (flip ws)=ws:=by
 unfold flip
 rw [List.map_map]
 exact List.map_id _
theorem bU.trans {ws:List Way}{a b c:Nat} (h:bU ws a b) (h':bU ws b c):bU ws a c :=
 let ⟨_,_,p⟩:=h; let ⟨_,_,q⟩:=h'; ⟨_,_,p.app q⟩
theorem bU.one {ws:List Way}{a b d:Nat} (h:(a,b,d) ∈ ws):bU ws a b:=⟨_,_,iV.one h⟩
theorem bU.self {ws:List Way}{a:Nat}:bU ws a a:=⟨_,_,iV.nil⟩
theorem bU.flip {ws:List Way}{a b:Nat} (h:bU ws a b):bU (Mine.flip ws) b a:=let ⟨_,_,p⟩:=h; ⟨_,_,p.flip⟩
structure aJ (m:Nat) (ws:List Way):Prop where
 m1:1 ≤ m
 m2:m ≤ 12
 hz:ws.length ≤ 60
 hm:∀ w ∈ ws,w.1 < m ∧ w.2.1 < m
 hd:∀ w ∈ ws,w.2.2 ≤ 9999
 sc:∀ a b,a < m→b < m→bU ws a b
 ne:ws ≠ []
theorem xP {ws:List Way}{a b n t:Nat} (h:iV ws a b n t):a=b ∨ ∃ w ∈ ws,w.1=a:=by
 induction h with
 | nil=>exact .inl rfl
 | step _ hw ih =>
  rcases ih with rfl | ih
  ·exact .inr ⟨_,hw,rfl⟩
  ·exact .inr ih
theorem aJ.ok {m:Nat}{ws:List Way} (G:aJ m ws):wB m ws:=by
 refine ⟨G.m1,G.m2,G.hz,G.hm,G.hd,fun a ha=>?_⟩
 by_cases h:m=1
 ·cases q:ws with
  | nil=>exact absurd q G.ne
  | cons w r =>
   refine ⟨w,.head _,?_⟩
   have:=(G.hm w (by rw [q]; exact .head _)).1
   lia
 ·obtain ⟨b,hb,hab⟩:∃ b,b < m ∧ a ≠ b:=by
   by_cases h0:a=0
   ·exact ⟨1,by have:=G.m1; lia,by lia⟩
   ·exact ⟨0,G.m1,h0⟩
  obtain ⟨n,t,hw⟩:=G.sc a b ha hb
  rcases xP hw with e | e
  ·exact absurd e hab
  ·exact e
theorem aJ.flip {m:Nat}{ws:List Way} (G:aJ m ws):aJ m (Mine.flip ws):=by
 refine ⟨G.m1,G.m2,?_,fun w hw=>?_,fun w hw=>?_,fun a b ha hb=>(G.sc b a hb ha).flip,fun q=>?_⟩
 ·unfold Mine.flip; rw [List.length_map]; exact G.hz
 ·obtain ⟨u,hu,rfl⟩:=List.mem_map.mp hw
  exact ⟨(G.hm u hu).2,(G.hm u hu).1⟩
 ·obtain ⟨u,hu,rfl⟩:=List.mem_map.mp hw
  exact G.hd u hu
 ·exact G.ne (List.map_eq_nil_iff.mp q)
noncomputable def ip:Fn:={ ps:=[0,1],size:=5,body :=
 [S.ifS (E.cmp .Eq (E.loc 1) (E.list [])) [S.ret (E.bool false)] [],
  S.asg 2 (E.comp [1] true (E.loc 1) [] (E.tup [(E.loc 1).sub (E.int 1),(E.loc 1).sub (E.int 0),(E.loc 1).sub (E.int 2)]) [none,none]),
  S.ret ((E.cmp .Eq (E.blt .len [E.call 9 [E.loc 0,E.loc 1]]) (E.loc 0)).and (E.cmp .Eq (E.blt .len [E.call 9 [E.loc 0,E.loc 2]]) (E.loc 0)))] }
noncomputable def yo:Fn:={ ps:=[0,1,2],size:=15,body :=
 [S.ifS (E.call 8 [E.loc 1,E.int 1,E.int 12]).not [S.raise (xc 0)] [],
  S.ifS (E.cmp .Gt (E.blt .len [E.loc 2]) (E.int 60)) [S.raise (xc 0)] [],
  S.forS [3] true (It.e (E.loc 2)) [S.ifS ((E.call 8 [(E.loc 3).sub (E.int 0),E.int 0,E.bin .Sub (E.loc 1) (E.int 1)]).not.or (E.call 8 [(E.loc 3).sub (E.int 1),E.int 0,E.bin .Sub (E.loc 1) (E.int 1)]).not) [S.raise (xc 1)] []],
  S.forS [3] true (It.e (E.loc 2)) [S.ifS (E.call 8 [(E.loc 3).sub (E.int 2),E.int 0,E.int 9999]).not [S.raise (xc 2)] []],
  S.ifS (E.call 10 [E.loc 1,E.loc 2]).not [S.raise (xc 3)] [],S.asgA (E.loc 0) 0 (E.loc 1),S.asgA (E.loc 0) 1 (E.blt .list [E.loc 2])] }
noncomputable def ff:Fn:={ ps:=[0],size:=2,body :=
 [S.ret (E.mk 11 [(E.loc 0).attr 0,E.comp [1] true ((E.loc 0).attr 1) [] (E.tup [(E.loc 1).sub (E.int 1),(E.loc 1).sub (E.int 0),(E.loc 1).sub (E.int 2)]) [none,none]])] }
section
variable {P:Nat→Option Fn}{wf n:Nat} {σ σ1:Sto}{lw m:Nat}{ws:List Way}
theorem pW {call:Nat→List V→Sto→RE}{e:E}{fr:Fra} (h:evE call e fr σ=.ok (.ref lw) σ1) (hlw:σ1[lw]?=some (.lst (ws.map wayV))) (hz:ws.length ≤ 60) :
  evE call (E.comp [1] true e [] (E.tup [(E.loc 1).sub (E.int 1),(E.loc 1).sub (E.int 0),(E.loc 1).sub (E.int 2)]) [none,none]) fr σ=.ok (.ref σ1.length) (σ1 ++ [.lst ((flip ws).map wayV)]):=by
 refine eI (ws:=ws) (g:=wayV) (p:=fun _=>true) (f:=fun w=>wayV (sJ w)) h (ag hlw) (fun w hw=>⟨_,rfl,uc,fun _=>fX (aa (aD (ac rfl) ai rfl) (aa (aD (ac rfl) ai rfl) (aa (aD (ac rfl) ai rfl) ae))) (by decide:3 ≤ 1000)⟩) ?_
 rw [List.filter_eq_self.mpr (fun _ _=>rfl),show (ws.map fun w=>wayV (sJ w))=(flip ws).map wayV by unfold flip; rw [List.map_map]; rfl]
 exact ak (by unfold flip; rw [List.length_map,List.length_map]; lia)
theorem j7 (h9:P 9=some gY) (h10:P 10=some ip) (hlw:σ[lw]?=some (.lst (ws.map wayV))) (G:aJ m ws) (hw:14 ≤ wf):∃ τ,evFn P wf (n + 2) 10 [.int m,.ref lw] σ=.ok (.bool true) (σ ++ τ):=by
 have F:=G.flip
 obtain ⟨τ1,a1,a2⟩:=iW (wf:=wf) (n:=n) (σ:=σ ++ [.lst []] ++ [.lst ((flip ws).map wayV)]) h9 (ap (ap hlw)) G.hm G.m1 G.m2 (fun v hv=>G.sc 0 v G.m1 hv) hw
 obtain ⟨τ2,b1,b2⟩:=iW (wf:=wf) (n:=n) (σ:=σ ++ [.lst []] ++ [.lst ((flip ws).map wayV)] ++ τ1) (lw:=(σ ++ [AO.lst []]).length) h9 (ap am) F.hm G.m1 G.m2 (fun v hv=>F.sc 0 v G.m1 hv) hw
 refine ⟨[.lst []] ++ [.lst ((flip ws).map wayV)] ++ τ1 ++ τ2,bh h10 rfl (aG (aE (p:=false) (ac rfl) (bg ae (ak (by decide:0 ≤ 16777216))) ?_) (al (pW (ac rfl) (ap hlw) G.hz) (by decide:2 < 5) (aL (dC (aE (a6 (aa (aF (aa (ac rfl) (aa (ac rfl) ae)) a1) ae) a2) (ac rfl) ?_) ((aE (p:=true) (a6 (aa (aF (aa (ac rfl) (aa (ac rfl) ae)) b1) ae) b2) (ac rfl) ?_).trans ?_)))))⟩
 ·show eqV _ _ _=_
  rw [gJ (ap hlw) lT am]
  cases q:ws with
  | nil=>exact absurd q G.ne
  | cons w r=>rfl
 ·exact congrArg some (beq_self_eq_true _)
 ·exact congrArg some (beq_self_eq_true _)
 ·rw [List.append_assoc,List.append_assoc,List.append_assoc,List.append_assoc,List.append_assoc]
structure l0 (P:Nat→Option Fn):Prop where
 h8:P 8=some cR
 h9:P 9=some gY
 h10:P 10=some ip
 h11:P 11=some yo
theorem jo {σ:Sto}{l:Nat}{xs:List V} (h:σ[l]?=some (.lst xs)) (hz:xs.length ≤ 16777216):gA .list [.ref l] σ=.ok (.ref σ.length) (σ ++ [.lst xs]):=by
 show (match getL σ l with | some xs=>cN xs σ | none=>.bad)=_
 rw [ag h]
 exact ak hz
noncomputable def dA (σ:Sto) (o:List (Nat × V)) (τ:Sto):Sto:=σ ++ [.att o,.inst σ.length] ++ τ
theorem nw {o:List (Nat × V)} {τ:Sto}:(dA σ o τ).length=σ.length + 2 + τ.length:=by unfold dA; rw [List.length_append,List.length_append]; rfl
theorem uZ {o:List (Nat × V)} {τ:Sto}:(dA σ o τ)[σ.length + 1]?=some (.inst σ.length):=by unfold dA; rw [List.append_assoc,List.getElem?_append_right (by lia),show σ.length + 1 - σ.length=1 by lia]; rfl
theorem vn {o:List (Nat × V)} {τ:Sto}:(dA σ o τ)[σ.length]?=some (.att o):=by unfold dA; rw [List.append_assoc]; exact am
theorem nE {k:Nat}{v:V}{o:List (Nat × V)} {τ:Sto} (ho:o.length < 100):dk (.ref (σ.length + 1)) k v (dA σ o τ)=some (dA σ (tx k v o) τ):=by
 unfold dk; dsimp only; rw [uZ]; dsimp only; rw [vn]; dsimp only
 rw [if_pos ho]
 unfold dA
 rw [List.append_assoc]
 show some ((σ ++ _ :: _).set _ _)=_
 rw [d7,List.append_assoc]; rfl
noncomputable def ui (σ:Sto) (m lw:Nat) (x3:Option V):Fra:=[some (.ref (σ.length + 1)),some (.int m),some (.ref lw),x3,none,none,none,none,none,none,none,none,none,none,none]
theorem qW (H:l0 P) (hlw:σ[lw]?=some (.lst (ws.map wayV))) (G:aJ m ws) (hw:14 ≤ wf) :
  ∃ τ,evFn P wf (n + 3) 11 [.ref (σ.length + 1),.int m,.ref lw] (σ ++ [.att [],.inst σ.length])=.ok .none (σ ++ τ) ∧ ∀ σ0:Sto,σ0.length=σ.length→a9 (σ0 ++ τ) (σ.length + 1) m ws:=by
 have wh:∀ {x lo hi:Int} (σ':Sto),lo ≤ x→x ≤ hi→evFn P wf (n + 2) 8 [.int x,.int lo,.int hi] σ'=.ok (.bool true) σ':=fun σ' h1 h2=>i7 H.h8 h1 h2
 obtain ⟨τ,ej⟩:=j7 (wf:=wf) (n:=n) H.h9 H.h10 (ap (τ:=[.att [],.inst σ.length]) hlw) G hw
 obtain ⟨x3,e1,_⟩:=w3 (call:=evFn P wf (n + 2)) (wf:=wf) (tg:=[3]) (one:=true) (ws:=ws) (g:=wayV) (it:=E.loc 2) (bs:=[S.ifS ((E.call 8 [(E.loc 3).sub (E.int 0),E.int 0,E.bin .Sub (E.loc 1) (E.int 1)]).not.or (E.call 8 [(E.loc 3).sub (E.int 1),E.int 0,E.bin .Sub (E.loc 1) (E.int 1)]).not) [S.raise (xc 1)] []]) (σ:=σ ++ [.att [],.inst σ.length])
  (F:=fun _ x3=>ui σ m lw x3) (S:=fun _ _=>σ ++ [.att [],.inst σ.length]) (J:=fun _ _=>True) none (ac rfl) (fun _ _ _=>ag (ap hlw))
  (fun i w x3 hv _=>by
   have hm:=G.hm w (List.mem_of_getElem? hv)
   exact ⟨_,rfl,_,aG (d6 (dc (aF (aa (aD (ac rfl) ai rfl) (aa ai (aa (ar (ac rfl) ai rfl) ae))) (wh _ (Int.natCast_nonneg w.1) (by lia)))) (dc (aF (aa (aD (ac rfl) ai rfl) (aa ai (aa (ar (ac rfl) ai rfl) ae))) (wh _ (Int.natCast_nonneg w.2.1) (by lia))))) aY,trivial⟩) trivial
 obtain ⟨y3,e2,_⟩:=w3 (call:=evFn P wf (n + 2)) (wf:=wf) (tg:=[3]) (one:=true) (ws:=ws) (g:=wayV) (it:=E.loc 2) (bs:=[S.ifS (E.call 8 [(E.loc 3).sub (E.int 2),E.int 0,E.int 9999]).not [S.raise (xc 2)] []]) (σ:=σ ++ [.att [],.inst σ.length])
  (F:=fun _ x3=>ui σ m lw x3) (S:=fun _ _=>σ ++ [.att [],.inst σ.length]) (J:=fun _ _=>True) x3 (ac rfl) (fun _ _ _=>ag (ap hlw))
  (fun i w x3 hv _=>by
   have hd:=G.hd w (List.mem_of_getElem? hv)
   exact ⟨_,rfl,_,aG (dc (aF (aa (aD (ac rfl) ai rfl) (aa ai (aa ai ae))) (wh _ (Int.natCast_nonneg w.2.2) (by lia)))) aY,trivial⟩) trivial
 have hl1:(dA σ [(0,.int m)] τ)[lw]?=some (.lst (ws.map wayV)):=ap (ap hlw)
 have e3:evSs (evFn P wf (n + 2)) wf [S.asgA (E.loc 0) 0 (E.loc 1),S.asgA (E.loc 0) 1 (E.blt .list [E.loc 2])] (ui σ m lw y3) (dA σ [] τ)=.ok .next (ui σ m lw y3) (dA σ [(0,.int m),(1,.ref (σ.length + 2 + τ.length))] (τ ++ [.lst (ws.map wayV)])):=by
  refine qM (ac rfl) (ac rfl) (nE (o:=[]) (show 0 < 100 by decide)) (qM (a6 (aa (ac rfl) ae) ?_) (ac rfl) (nE (o:=[(0,.int m)]) (show 1 < 100 by decide)) aY)
  show (match getL (dA σ [(0,.int m)] τ) lw with | some xs=>cN xs (dA σ [(0,.int m)] τ) | none=>.bad)=_
  rw [ag hl1]
  refine (ak (by rw [List.length_map]; have:=G.hz; lia)).trans ?_
  rw [nw]
  unfold dA
  rw [List.append_assoc (σ ++ _)]
 have e4:∀ (σ:Sto) o τ',dA σ o τ'=σ ++ ([.att o,.inst σ.length] ++ τ'):=fun σ o τ'=>List.append_assoc _ _ _
 refine ⟨[.att [(0,.int m),(1,.ref (σ.length + 2 + τ.length))],.inst σ.length] ++ (τ ++ [.lst (ws.map wayV)]),?_,?_⟩
 ·rw [← e4]
  refine u1 H.h11 rfl (aG (dc (aF (aa (ac rfl) (aa ai (aa ai ae))) (wh _ (by have:=G.m1; lia) (by have:=G.m2; lia)))) (aG (aE (p:=false) (a6 (aa (ac rfl) ae) (dp (ap hlw))) ai ?_) (a4 e1 (a4 e2 (aG (dc (aF (aa (ac rfl) (aa (ac rfl) ae)) ej)) e3)))))
  rw [List.length_map]
  exact congrArg some (decide_eq_false (by have:=G.hz; lia))
 ·intro σ0 h0
  rw [← h0,← e4]
  refine ⟨σ0.length,σ0.length + 2 + τ.length,uZ,vn,?_⟩
  generalize he:[(0,V.int m),(1,V.ref (σ0.length + 2 + τ.length))]=o
  rw [← nw (σ:=σ0) (o:=o)]
  unfold dA
  rw [← List.append_assoc]
  exact am
theorem yH (H:l0 P) {es:List E}{fr:Fra} (he:b6 (evFn P wf (n + 3)) es fr σ=.ok [.int m,.ref lw] σ1) (hlw:σ1[lw]?=some (.lst (ws.map wayV))) (G:aJ m ws) (hw:14 ≤ wf) :
  ∃ l τ,evE (evFn P wf (n + 3)) (.mk 11 es) fr σ=.ok (.ref l) (σ1 ++ τ) ∧ ∀ σ0:Sto,σ0.length=σ1.length→a9 (σ0 ++ τ) l m ws :=
 (qW (wf:=wf) (n:=n) H hlw G hw).elim fun τ h=>⟨_,τ,BC he h.1,h.2⟩
theorem Aj (H:l0 P) {es:List E}{fr:Fra} (he:b6 (evFn P wf (n + 3)) es fr σ=.ok [.int m,.ref lw] σ1) (hlw:σ1[lw]?=some (.lst (ws.map wayV))) (G:aJ m ws) (hw:14 ≤ wf) :
  ∃ l τ,evE (evFn P wf (n + 3)) (.mk 11 es) fr σ=.ok (.ref l) (σ1 ++ τ) ∧ a9 (σ1 ++ τ) l m ws :=
 let ⟨l,τ,h1,h2⟩:=yH H he hlw G hw; ⟨l,τ,h1,h2 _ rfl⟩
theorem kZ (H:l0 P) (h14:P 14=some ff) {l:Nat} (W:a9 σ l m ws) (G:aJ m ws) (hw:14 ≤ wf):∃ l' τ,evFn P wf (n + 4) 14 [.ref l] σ=.ok (.ref l') (σ ++ τ) ∧ a9 (σ ++ τ) l' m (flip ws):=by
 obtain ⟨d,lw,a,b,c⟩:=W.at'
 obtain ⟨l',τ,h1,h2⟩:=Aj (wf:=wf) (n:=n) (σ:=σ) H (es:=[(E.loc 0).attr 0,E.comp [1] true ((E.loc 0).attr 1) [] (E.tup [(E.loc 1).sub (E.int 1),(E.loc 1).sub (E.int 0),(E.loc 1).sub (E.int 2)]) [none,none]]) (fr:=aS ff [.ref l])
  (aa (cD (ac rfl) (b9 a b)) (aa (pW (cD (ac rfl) (cK a b)) c G.hz) ae)) am G.flip hw
 rw [List.append_assoc] at h1 h2
 exact ⟨l',_,bh h14 rfl (aL h1),h2⟩
end
end Mine
namespace Mine
open PySem
structure eA (m M:Nat) (o:List Nat) (ring:Bool) (i:Nat) (ws:List Way):Prop where
 len:ws.length ≤ 2 * i
 ends:∀ w ∈ ws,w.1 < m ∧ w.2.1 < m
 del:∀ w ∈ ws,w.2.2 < M
 r:ring=true→∀ k,k < i→∃ d,(o.getD k 0,o.getD ((k + 1) % m) 0,d) ∈ ws
 t:ring=false→∀ k,1 ≤ k→k < i→(∃ p d,p < k ∧ (o.getD p 0,o.getD k 0,d) ∈ ws) ∧ ∃ p d,p < k ∧ (o.getD k 0,o.getD p 0,d) ∈ ws
theorem cu {α:Type}{l:List α}{x y:α} (h:x ∈ l ++ [y]):x ∈ l ∨ x=y:=(List.mem_append.mp h).imp_right fun h=>List.mem_singleton.mp h
section
variable {m M i:Nat}{o:List Nat}{ring:Bool}{ws:List Way}
theorem eA.start:eA m M o ring 0 []:=⟨Nat.zero_le _,(fun _ h=>nomatch h),(fun _ h=>nomatch h),fun _ _ h=>absurd h (Nat.not_lt_zero _),fun _ _ _ h=>absurd h (Nat.not_lt_zero _)⟩
theorem eA.ring1 (B:eA m M o true i ws) (ho:∀ k,k < m→o.getD k 0 < m) (hi:i < m) {d:Nat} (hd:d < M):eA m M o true (i + 1) (ws ++ [(o.getD i 0,o.getD ((i + 1) % m) 0,d)]):=by
 refine ⟨?_,fun w hw=>?_,fun w hw=>?_,fun _ k hk=>?_,fun h=>nomatch h⟩
 ·rw [List.length_append]; have:=B.len; show ws.length + 1 ≤ _; lia
 ·rcases cu hw with hw | rfl
  ·exact B.ends w hw
  ·exact ⟨ho i hi,ho _ (Nat.mod_lt _ (by lia))⟩
 ·rcases cu hw with hw | rfl
  ·exact B.del w hw
  ·exact hd
 ·by_cases e:k=i
  ·subst e; exact ⟨d,List.mem_append_right _ (.head _)⟩
  ·obtain ⟨d,h⟩:=B.r rfl k (by lia)
   exact ⟨d,List.mem_append_left _ h⟩
theorem eA.tree0 (B:eA m M o false 0 ws):eA m M o false 1 ws:=⟨Nat.le_trans B.len (by decide),B.ends,B.del,(fun h=>nomatch h),fun _ k h1 h2=>by lia⟩
theorem eA.tree1 (B:eA m M o false i ws) (ho:∀ k,k < m→o.getD k 0 < m) (hi:i < m) {p q d d':Nat} (hp:p < i) (hq:q < i) (hd:d < M) (hd':d' < M):eA m M o false (i + 1) (ws ++ [(o.getD p 0,o.getD i 0,d)] ++ [(o.getD i 0,o.getD q 0,d')]):=by
 refine ⟨?_,fun w hw=>?_,fun w hw=>?_,(fun h=>nomatch h),fun _ k h1 hk=>?_⟩
 ·rw [List.length_append,List.length_append]; have:=B.len; show ws.length + 1 + 1 ≤ _; lia
 ·rcases cu hw with hw | rfl
  ·rcases cu hw with hw | rfl
   ·exact B.ends w hw
   ·exact ⟨ho p (by lia),ho i hi⟩
  ·exact ⟨ho i hi,ho q (by lia)⟩
 ·rcases cu hw with hw | rfl
  ·rcases cu hw with hw | rfl
   ·exact B.del w hw
   ·exact hd
  ·exact hd'
 ·by_cases e:k=i
  ·subst e
   exact ⟨⟨p,d,hp,List.mem_append_left _ (List.mem_append_right _ (.head _))⟩,q,d',hq,List.mem_append_right _ (.head _)⟩
  ·obtain ⟨⟨p,d,h1,h2⟩,q,d',h3,h4⟩:=B.t rfl k h1 (by lia)
   exact ⟨⟨p,d,h1,List.mem_append_left _ (List.mem_append_left _ h2)⟩,q,d',h3,List.mem_append_left _ (List.mem_append_left _ h4)⟩
structure bO (m M K:Nat) (ws:List Way):Prop where
 len:ws.length ≤ K
 ends:∀ w ∈ ws,w.1 < m ∧ w.2.1 < m
 del:∀ w ∈ ws,w.2.2 < M
 sc:∀ a b,a < m→b < m→bU ws a b
 ne:ws ≠ []
theorem bU.mono {ws':List Way} (h:∀ w ∈ ws,w ∈ ws') {a b:Nat} (r:bU ws a b):bU ws' a b:=by
 obtain ⟨n,t,w⟩:=r
 refine ⟨n,t,?_⟩
 induction w with
 | nil=>exact .nil
 | step _ hw ih=>exact .step ih (h _ hw)
theorem bO.more (L:bO m M i ws) {w:Way} (h1:w.1 < m) (h2:w.2.1 < m) (h3:w.2.2 < M):bO m M (i + 1) (ws ++ [w]):=by
 refine ⟨?_,fun u hu=>?_,fun u hu=>?_,fun a b ha hb=>(L.sc a b ha hb).mono fun w hw=>List.mem_append_left _ hw,fun q=>L.ne (List.append_eq_nil_iff.mp q).1⟩
 ·rw [List.length_append]; exact Nat.succ_le_succ L.len
 ·rcases cu hu with hu | rfl
  ·exact L.ends u hu
  ·exact ⟨h1,h2⟩
 ·rcases cu hu with hu | rfl
  ·exact L.del u hu
  ·exact h3
theorem eA.good (B:eA m M o ring m ws) (hm:1 ≤ m) (hr:m=1→ring=true) (hp:o.Perm (List.range m)):bO m M (2 * m) ws:=by
 have hl:o.length=m:=by rw [hp.length_eq,List.length_range]
 have at':∀ a,a < m→∃ k,k < m ∧ o.getD k 0=a:=fun a ha=>by
  obtain ⟨k,hk,e⟩:=List.getElem_of_mem (hp.mem_iff.mpr (List.mem_range.mpr ha))
  exact ⟨k,by lia,by rw [ef hk]; exact e⟩
 have sc:∀ k k',k < m→k' < m→bU ws (o.getD k 0) (o.getD k' 0):=by
  intro k k' hk hk'
  cases ring with
  | true =>
   have go:∀ j,bU ws (o.getD k 0) (o.getD ((k + j) % m) 0):=fun j=>by
    induction j with
    | zero=>rw [Nat.add_zero,Nat.mod_eq_of_lt hk]; exact bU.self
    | succ j ih =>
     obtain ⟨d,h⟩:=B.r rfl ((k + j) % m) (Nat.mod_lt _ hm)
     rw [Nat.mod_add_mod] at h
     exact ih.trans (bU.one h)
   have:=go (m - k + k')
   rwa [show k + (m - k + k')=k' + m by lia,Nat.add_mod_right,Nat.mod_eq_of_lt hk'] at this
  | false =>
   have up:∀ k,k < m→bU ws (o.getD 0 0) (o.getD k 0):=fun k=>by
    induction k using Nat.strongRecOn with
    | _ k ih =>
     intro hk
     by_cases h0:k=0
     ·subst h0; exact bU.self
     ·obtain ⟨⟨p,d,h1,h2⟩,_⟩:=B.t rfl k (by lia) hk
      exact (ih p h1 (by lia)).trans (bU.one h2)
   have down:∀ k,k < m→bU ws (o.getD k 0) (o.getD 0 0):=fun k=>by
    induction k using Nat.strongRecOn with
    | _ k ih =>
     intro hk
     by_cases h0:k=0
     ·subst h0; exact bU.self
     ·obtain ⟨_,p,d,h1,h2⟩:=B.t rfl k (by lia) hk
      exact (bU.one h2).trans (ih p h1 (by lia))
   exact (down k hk).trans (up k' hk')
 refine ⟨B.len,B.ends,B.del,fun a b ha hb=>?_,fun q=>?_⟩
 ·obtain ⟨k,hk,rfl⟩:=at' a ha
  obtain ⟨k',hk',rfl⟩:=at' b hb
  exact sc k k' hk hk'
 ·cases ring with
  | true =>
   obtain ⟨d,h⟩:=B.r rfl 0 hm
   rw [q] at h; cases h
  | false =>
   have:m ≠ 1:=fun e=>nomatch hr e
   obtain ⟨⟨p,d,_,h⟩,_⟩:=B.t rfl 1 (Nat.le_refl _) (by lia)
   rw [q] at h; cases h
theorem bO.good (L:bO m M i ws) (m1:1 ≤ m) (m2:m ≤ 12) (hi:i ≤ 60) (hM:M ≤ 10000):aJ m ws :=
 ⟨m1,m2,Nat.le_trans L.len hi,L.ends,fun w hw=>by have:=L.del w hw; lia,L.sc,L.ne⟩
end
theorem nQ {α:Type} (p:Int × α):∀ l:List (Int × α),(o0 p l).Perm (p :: l)
 | []=>.refl _
 | q :: r=>by
  show (if p.1 < q.1 then p :: q :: r else q :: o0 p r).Perm _
  split
  ·exact .refl _
  ·exact ((nQ p r).cons q).trans (.swap _ _ _)
theorem nv {α:Type}:∀ l:List (Int × α),(fL l).Perm l
 | []=>.refl _
 | p :: r=>(nQ p _).trans ((nv r).cons p)
noncomputable def wO (v:V):Nat:=match v with | .int i=>i.toNat | _=>0
theorem rE {l:List V}{r:List Nat} (h:l.Perm (natsV r)):∃ o:List Nat,l=natsV o ∧ o.Perm r:=by
 refine ⟨l.map wO,?_,?_⟩
 ·unfold natsV
  rw [List.map_map]
  refine Eq.trans (List.map_id _).symm (List.map_congr_left fun v hv=>?_)
  obtain ⟨x,_,rfl⟩:=List.mem_map.mp (h.mem_iff.mp hv)
  rfl
 ·have:=h.map wO
  unfold natsV at this
  rw [List.map_map] at this
  have e:(wO ∘ fun (v:Nat)=>V.int v)=id:=rfl
  rwa [e,List.map_id] at this
theorem oB:∀ (c:Nat),1 ≤ c→c ≤ 12→∀ j k:Nat,j < 12→k < 12→(j + 1) * c % 13=(k + 1) * c % 13→j=k:=by
 intro c c1 c2 j k hj hk
 have:∀ (c:Fin 13) (j k:Fin 12),1 ≤ c.1→(j.1 + 1) * c.1 % 13=(k.1 + 1) * c.1 % 13→j.1=k.1:=by decide
 exact this ⟨c,by lia⟩ ⟨j,hj⟩ ⟨k,hk⟩ c1
end Mine
namespace Mine
open PySem
noncomputable def fo:Fn:={ ps:=[0,1],size:=3,body:=[S.ifS (E.cmp .Lt (E.loc 1) (E.blt .len [E.loc 0])) [S.ret ((E.loc 0).sub (E.loc 1))] [],S.ret (E.int 0)] }
noncomputable def gT:Fn:={ ps:=[0],size:=4,body:=[S.ret (((E.loc 0).isi Ty.int).and ((E.loc 0).isi Ty.bool).not)] }
noncomputable def pb:Fn:={ ps:=[0,1],size:=2,body:=[S.ret (E.bin .Mod (E.bin .Mult (E.bin .Add (E.bin .Add (E.loc 0) (E.bin .Mult (E.int 7919) (E.loc 1))) (E.int 1)) (E.int 48271)) (E.int 2147483647))] }
noncomputable def gk (M:Nat):Fn:={ ps:=[0],size:=1,body :=
 [S.ret ((E.list [E.bin .Mod (E.bin .FloorDiv (E.loc 0) (E.int 3)) (E.int 5),E.bin .Mod (E.bin .FloorDiv (E.loc 0) (E.int 3)) (E.int 100),E.bin .Mod (E.bin .FloorDiv (E.loc 0) (E.int 3)) (E.int M)]).sub (E.bin .Mod (E.loc 0) (E.int 3)))] }
theorem Ag {x y:Int} {σ:Sto} (h:fW x y):oi .Mult (.int x) (.int y) σ=.ok (.int (x * y)) σ:=if_pos h
theorem yd {x y:Int} {σ:Sto} (h:x.natAbs < 2 ^ 64):oi .Mult (.int x) (.int y) σ=.ok (.int (x * y)) σ:=if_pos (.inl h)
theorem vv {x y:Int} {σ:Sto} (h:y.natAbs < 2 ^ 64):oi .Mult (.int x) (.int y) σ=.ok (.int (x * y)) σ:=if_pos (.inr (.inl h))
theorem br {x y:Int} {σ:Sto} (h:y ≠ 0):oi .Mod (.int x) (.int y) σ=.ok (.int (x.fmod y)) σ:=if_neg h
theorem eR {x y:Int} {σ:Sto} (h:y ≠ 0) (h':y.natAbs < 10 ^ 100):oi .FloorDiv (.int x) (.int y) σ=.ok (.int (x.fdiv y)) σ:=if_pos ⟨h,h'⟩
section
variable {P:Nat→Option Fn}{wf n:Nat} {σ:Sto}
def aM (σ:Sto) (sc:List Int):Prop:=σ[0]?=some (.frz (sc.map V.int))
theorem eg (h:P 20=some fo) {sc:List Int} (hs:aM σ sc) (k:Nat):evFn P wf (n + 1) 20 [.ref 0,.int k] σ=.ok (.int (sc.getD k 0)) σ:=by
 have hl:gA .len [.ref 0] σ=.ok (.int sc.length) σ:=by
  show bS σ ((s5 (.ref 0) σ).map V.int)=_
  unfold s5; dsimp only; rw [hs]; dsimp only
  show RE.ok (.int ((sc.map V.int).length:Nat)) σ=_
  rw [List.length_map]
 by_cases hk:k < sc.length
 ·refine bh h rfl (cP (aE (ac rfl) (a6 (aa (ac rfl) ae) hl) (congrArg some (decide_eq_true (Int.ofNat_lt.mpr hk)))) (aL (aD (ac rfl) (ac rfl) ?_)))
  unfold lm; dsimp only; rw [hs]; show oh _ _=_; unfold oh
  rw [if_pos (Int.natCast_nonneg k)]
  show (sc.map V.int)[k]?=_
  rw [List.getElem?_map,List.getElem?_eq_getElem hk,List.getD_eq_getElem?_getD,List.getElem?_eq_getElem hk]; rfl
 ·rw [List.getD_eq_getElem?_getD,List.getElem?_eq_none_iff.mpr (Nat.le_of_not_lt hk)]
  exact bh h rfl (aG (aE (ac rfl) (a6 (aa (ac rfl) ae) hl) (congrArg some (decide_eq_false (by lia)))) (aL ai))
theorem t4 (h:P 21=some gT) {x:Int}:evFn P wf (n + 1) 21 [.int x] σ=.ok (.bool true) σ :=
 bh h rfl (aL (dC (gK (ac rfl) rfl) (vA (gK (ac rfl) rfl))))
noncomputable def mixN (c k:Int):Nat:=(Int.fmod ((c + 7919 * k + 1) * 48271) 2147483647).toNat
theorem mW (h:P 22=some pb) {c k:Int}:evFn P wf (n + 1) 22 [.int c,.int k] σ=.ok (.int (mixN c k:Nat)) σ:=by
 refine bh h rfl (aL (ar (ar (ar (ar (ac rfl) (ar ai (ac rfl) (yd (by decide))) rfl) ai rfl) ai (vv (by decide))) ai ((br (by decide)).trans ?_)))
 unfold mixN
 rw [Int.toNat_of_nonneg (Int.fmod_nonneg_of_pos _ (by decide))]
theorem lA {M:Nat} (h:P 23=some (gk M)) (hM:100 ≤ M) (N:Nat):∃ d o,d < M ∧ evFn P wf (n + 1) 23 [.int N] σ=.ok (.int (d:Nat)) (σ ++ [o]):=by
 have hb:∀ q:Nat,q ≠ 0→evE (evFn P wf n) (E.bin .Mod (E.bin .FloorDiv (E.loc 0) (E.int 3)) (E.int q)) (aS (gk M) [.int N]) σ=.ok (.int (N / 3 % q:Nat)) σ:=fun q hq =>
  ar (ar (ac rfl) ai (n6 (y:=3) (by decide) (by decide))) ai (g8 (x:=N / 3) hq)
 have hl:N % 3 < 3:=Nat.mod_lt _ (by decide)
 obtain ⟨d,hd,he⟩:∃ d,d < M ∧ [V.int (N / 3 % 5:Nat),V.int (N / 3 % 100:Nat),V.int (N / 3 % M:Nat)][N % 3]?=some (V.int (d:Nat)):=by
  have h5:N / 3 % 5 < 5:=Nat.mod_lt _ (by decide)
  have h6:N / 3 % 100 < 100:=Nat.mod_lt _ (by decide)
  have h7:N / 3 % M < M:=Nat.mod_lt _ (by lia)
  match hr:N % 3,hl with
  | 0,_=>exact ⟨_,by lia,rfl⟩
  | 1,_=>exact ⟨_,by lia,rfl⟩
  | 2,_=>exact ⟨_,h7,rfl⟩
 refine ⟨d,.lst [V.int (N / 3 % 5:Nat),V.int (N / 3 % 100:Nat),V.int (N / 3 % M:Nat)],hd,bh h rfl (aL (aD (bg (aa (hb 5 (by decide)) (aa (hb 100 (by decide)) (aa (hb M (by lia)) ae))) (ak (by decide:3 ≤ 16777216))) (ar (ac rfl) ai (g8 (y:=3) (by decide))) ?_))⟩
 exact a7 am he
end
noncomputable def sWay (a b d:E):S:=S.expr ((E.loc 3).meth .append [E.tup [a,b,d]])
noncomputable def uH (j:Nat):List S :=
 [S.asg 5 (E.call 22 [E.call 20 [E.loc 0,E.int 2],E.loc 4]),
  S.ifS ((E.cmp .Eq (E.loc 1) (E.int 1)).or (E.cmp .Eq (E.bin .Mod (E.bin .FloorDiv (E.loc (j + 6)) (E.int 12)) (E.int 2)) (E.int 0)))
   [sWay ((E.loc 2).sub (E.loc 4)) ((E.loc 2).sub (E.bin .Mod (E.bin .Add (E.loc 4) (E.int 1)) (E.loc 1))) (E.call 23 [E.loc 5])]
   [S.ifS (E.cmp .Gt (E.loc 4) (E.int 0))
    [sWay ((E.loc 2).sub (E.bin .Mod (E.bin .FloorDiv (E.loc 5) (E.int 7)) (E.loc 4))) ((E.loc 2).sub (E.loc 4)) (E.call 23 [E.bin .FloorDiv (E.loc 5) (E.int 64)]),
     sWay ((E.loc 2).sub (E.loc 4)) ((E.loc 2).sub (E.bin .Mod (E.bin .FloorDiv (E.loc 5) (E.int 512)) (E.loc 4))) (E.call 23 [E.bin .FloorDiv (E.loc 5) (E.int 4096)])] []]]
noncomputable def pK:List S :=
 [S.asg 5 (E.call 22 [E.call 20 [E.loc 0,E.bin .Add (E.int 3) (E.bin .Mod (E.loc 4) (E.int 6))],E.loc 4]),
  sWay (E.bin .Mod (E.loc 5) (E.loc 1)) (E.bin .Mod (E.bin .FloorDiv (E.loc 5) (E.int 16)) (E.loc 1)) (E.call 23 [E.bin .FloorDiv (E.loc 5) (E.int 256)])]
noncomputable def gZ (j:Nat):KX:=((KX.par.add (KX.num 1)).mul ((KX.num 1).add ((KX.var (j + 6)).mod (KX.num 12)))).mod (KX.num 13)
noncomputable def lU (j size:Nat) (md:Int) (rest:List S):Fn:={ ps:=[0,1],size:=size,body :=
 (S.asg (j + 6) (E.call 20 [E.loc 0,E.int 1]) :: S.asg 2 ((E.blt .range [E.loc 1]).srt (gZ j)) :: S.asg 3 (E.list []) ::
  S.forS [4] true (It.e (E.blt .range [E.loc 1])) (uH j) ::
  S.forS [4] true (It.e (E.blt .range [E.bin .Mod (E.bin .FloorDiv (E.loc (j + 6)) (E.int 24)) (E.int md)])) pK :: rest) }
noncomputable def cC (β:Sto) (ws:List Way) (τ:Sto):Sto:=β ++ .lst (ws.map wayV) :: τ
noncomputable def fU (m lo lw:Nat) (x4 x5:Option V) (rest:Fra):Fra:=some (.ref 0) :: some (.int m) :: some (.ref lo) :: some (.ref lw) :: x4 :: x5 :: rest
section
variable {call:Nat→List V→Sto→RE}{wf:Nat} {β τ τ':Sto}{ws:List Way}{m lo:Nat}{x4 x5:Option V}{rest:Fra}
theorem s6 {e1 e2 e3:E}{ss:List S}{r:RS}{a b d:Nat} (h1:evE call e1 (fU m lo β.length x4 x5 rest) (cC β ws τ)=.ok (.int a) (cC β ws τ)) (h2:evE call e2 (fU m lo β.length x4 x5 rest) (cC β ws τ)=.ok (.int b) (cC β ws τ))
  (h3:evE call e3 (fU m lo β.length x4 x5 rest) (cC β ws τ)=.ok (.int d) (cC β ws τ')) (hz:ws.length ≤ 1000) (h:evSs call wf ss (fU m lo β.length x4 x5 rest) (cC β (ws ++ [(a,b,d)]) τ')=r):evSs call wf (sWay e1 e2 e3 :: ss) (fU m lo β.length x4 x5 rest) (cC β ws τ)=r:=by
 refine bi (de (ac rfl) (ag am) (aa (fX (aa h1 (aa h2 (aa h3 ae))) (by decide:3 ≤ 1000)) ae) (ag am) (ml ?_)) ?_
 ·rw [List.length_map]; lia
 ·have e:dq (cC β ws τ') β.length (ws.map wayV ++ [.tup [.int a,.int b,.int d]])=cC β (ws ++ [(a,b,d)]) τ':=by
   unfold dq cC
   rw [d7,List.map_append]; rfl
  rw [e]; exact h
theorem sM {o:AO}:cC β ws τ ++ [o]=cC β ws (τ ++ [o]):=by unfold cC; rw [List.append_assoc]; rfl
end
structure jK (P:Nat→Option Fn) (M:Nat):Prop where
 h20:P 20=some fo
 h22:P 22=some pb
 h23:P 23=some (gk M)
section
variable {P:Nat→Option Fn}{wf n:Nat} {β:Sto}{sc:List Int}{m M lo j:Nat}{o:List Nat}{rest:Fra}{cell:Int}
theorem jG (H:jK P M) (hM:100 ≤ M) {e:E}{fr:Fra}{ws:List Way} {τ:Sto}{N:Nat} (h:evE (evFn P wf (n + 1)) e fr (cC β ws τ)=.ok (.int N) (cC β ws τ)):∃ d τ',d < M ∧ evE (evFn P wf (n + 1)) (E.call 23 [e]) fr (cC β ws τ)=.ok (.int (d:Nat)) (cC β ws τ'):=by
 obtain ⟨d,o,hd,hc⟩:=lA (wf:=wf) (n:=n) (σ:=cC β ws τ) H.h23 hM N
 rw [sM] at hc
 exact ⟨d,_,hd,aF (aa h ae) hc⟩
inductive W1 (β:Sto) (m M lo:Nat) (o:List Nat) (rest:Fra) (ring:Bool) (i:Nat):Fra→Sto→Prop
 | mk (ws:List Way) (τ:Sto) (x4 x5:Option V) (B:eA m M o ring i ws):W1 β m M lo o rest ring i (fU m lo β.length x4 x5 rest) (cC β ws τ)
noncomputable def nZ (m:Nat) (cell:Int):Bool:=(m:Int) == 1 || Int.fmod (Int.fdiv cell 12) 2 == 0
theorem oN (H:jK P M) (hM:100 ≤ M) (hs:aM β sc) (hlo:β[lo]?=some (.lst (natsV o))) (hol:o.length=m) (ho:∀ k,k < m→o.getD k 0 < m) (m2:m ≤ 12) (hj:rest[j]?=some (some (.int cell))) {i:Nat} (hi:i < m) {fr:Fra} {σ:Sto} (I:W1 β m M lo o rest (nZ m cell) i fr σ) :
  m6 [4] true (evSs (evFn P wf (n + 1)) wf (uH j)) (.int i) fr σ (W1 β m M lo o rest (nZ m cell) (i + 1)) (fun _ _=>False):=by
 obtain ⟨ws,τ,x4,x5,B⟩:=I
 have hlen:ws.length ≤ 24:=by have:=B.len; lia
 refine ⟨fU m lo β.length (some (.int i)) x5 rest,rfl,.inl ?_⟩
 have hsc:∀ ws τ,aM (cC β ws τ) sc:=fun ws τ=>ap hs
 have hord:∀ ws τ k,k < m→lm (.ref lo) (.int k) (cC β ws τ)=some (.int (o.getD k 0:Nat)):=fun ws τ k hk=>a7 (ap hlo) (cW (by lia))
 have e1:evE (evFn P wf (n + 1)) (E.call 22 [E.call 20 [E.loc 0,E.int 2],E.loc 4]) (fU m lo β.length (some (.int i)) x5 rest) (cC β ws τ)=.ok (.int (mixN (sc.getD 2 0) i:Nat)) (cC β ws τ) :=
  aF (aa (aF (aa (ac rfl) (aa ai ae)) (eg H.h20 (hsc _ _) 2)) (aa (ac rfl) ae)) (mW H.h22)
 generalize mixN (sc.getD 2 0) i=N at e1
 have et:evE (evFn P wf (n + 1)) ((E.cmp .Eq (E.loc 1) (E.int 1)).or (E.cmp .Eq (E.bin .Mod (E.bin .FloorDiv (E.loc (j + 6)) (E.int 12)) (E.int 2)) (E.int 0))) (fU m lo β.length (some (.int i)) (some (.int N)) rest) (cC β ws τ)=.ok (.bool (nZ m cell)) (cC β ws τ):=by
  refine Af (aE (ac rfl) ai rfl) fun _=>aE (ar (ar (ac hj) ai (eR (by decide) (by decide))) ai (br (by decide))) ai rfl
 have hmod:evE (evFn P wf (n + 1)) (E.bin .Mod (E.bin .Add (E.loc 4) (E.int 1)) (E.loc 1)) (fU m lo β.length (some (.int i)) (some (.int N)) rest) (cC β ws τ)=.ok (.int ((i + 1) % m:Nat)) (cC β ws τ):=ar (ar (ac rfl) ai rfl) (ac rfl) (g8 (x:=i + 1) (by lia))
 cases hr:nZ m cell with
 | true =>
  rw [hr] at B et
  obtain ⟨d,τ',hd,e2⟩:=jG (n:=n) (wf:=wf) H hM (e:=E.loc 5) (fr:=fU m lo β.length (some (.int i)) (some (.int N)) rest) (ws:=ws) (τ:=τ) (N:=N) (ac rfl)
  refine ⟨_,_,al e1 (show 5 < rest.length + 6 by lia) (d4 et (s6 (aD (ac rfl) (ac rfl) (hord _ _ i hi)) (aD (ac rfl) hmod (hord _ _ _ (Nat.mod_lt _ (by lia)))) e2 (by lia) aY) aY),⟨_,_,_,_,B.ring1 ho hi hd⟩⟩
 | false =>
  rw [hr] at B et
  by_cases h0:i=0
  ·subst h0
   exact ⟨_,_,al e1 (show 5 < rest.length + 6 by lia) (pN et (aG (aE (p:=false) (ac rfl) ai rfl) aY) aY),⟨_,_,_,_,B.tree0⟩⟩
  ·have hdv:∀ (q:Nat) ws τ,q ≠ 0→q < 10 ^ 100→evE (evFn P wf (n + 1)) (E.bin .FloorDiv (E.loc 5) (E.int q)) (fU m lo β.length (some (.int i)) (some (.int N)) rest) (cC β ws τ)=.ok (.int (N / q:Nat)) (cC β ws τ):=fun q ws τ h1 h2=>ar (ac rfl) ai (n6 h1 h2)
   obtain ⟨d,τ',hd,e2⟩:=jG (n:=n) (wf:=wf) H hM (ws:=ws) (τ:=τ) (hdv 64 ws τ (by decide) (by decide))
   obtain ⟨d',τ2,hd',e3⟩:=jG (n:=n) (wf:=wf) H hM (ws:=ws ++ [(o.getD (N / 7 % i) 0,o.getD i 0,d)]) (τ:=τ') (hdv 4096 _ τ' (by decide) (by decide))
   have b1:N / 7 % i < i:=Nat.mod_lt _ (by lia)
   have b2:N / 512 % i < i:=Nat.mod_lt _ (by lia)
   have hlen1:(ws ++ [(o.getD (N / 7 % i) 0,o.getD i 0,d)]).length ≤ 1000:=by rw [List.length_append]; show ws.length + 1 ≤ _; lia
   refine ⟨_,_,al e1 (show 5 < rest.length + 6 by lia) (pN et (d4 (aE (p:=true) (ac rfl) ai (congrArg some (decide_eq_true (by lia)))) (s6 (aD (ac rfl) (ar (hdv 7 _ _ (by decide) (by decide)) (ac rfl) (g8 h0)) (hord _ _ _ (by lia))) (aD (ac rfl) (ac rfl) (hord _ _ i hi)) e2 (by lia) (s6 (aD (ac rfl) (ac rfl) (hord _ _ i hi)) (aD (ac rfl) (ar (hdv 512 _ _ (by decide) (by decide)) (ac rfl) (g8 h0)) (hord _ _ _ (by lia))) e3 hlen1 aY)) aY) aY),⟨_,_,_,_,B.tree1 ho hi b1 b2 hd hd'⟩⟩
end
end Mine
namespace Mine
set_option backward.match.sparseCases false
open PySem
section
variable {P:Nat→Option Fn}{wf n:Nat} {σ β:Sto}{sc:List Int}{m M lo j:Nat}{o:List Nat}{rest:Fra}{cell:Int}
theorem bB (q:Nat) (hq:1 ≤ q) (c:Int):∃ k:Nat,k < q ∧ c.fmod q=(k:Int):=by
 have h1:=Int.fmod_nonneg_of_pos c (b:=(q:Int)) (by lia)
 have h2:=Int.fmod_lt_of_pos c (b:=(q:Int)) (by lia)
 exact ⟨(c.fmod q).toNat,by lia,by lia⟩
theorem tC {fr:Fra}{key:KX} (hk:key=gZ j) (hc:fr[j + 6]?=some (some (.int cell))) (ht:σ[1]?=some (.tab false)) (m1:1 ≤ m) (m2:m ≤ 12) :
  ∃ o:List Nat,o.Perm (List.range m) ∧ zC key fr (.rng 0 m) σ=.ok (.ref σ.length) (σ.set 1 (AO.tab true) ++ [AO.lst (natsV o)]):=by
 obtain ⟨c,hc1,hc2⟩:=bB 12 (by decide) cell
 have e1:∀ i:Nat,i < m→kxV fr (i:Int) (gZ j)=some (((i + 1) * (c + 1) % 13:Nat):Int):=fun i hi=>by
  unfold gZ
  show (((some ((i:Int) + 1)).bind fun p=>(((some (1:Int)).bind fun p=>((kxV fr (i:Int) ((KX.var (j + 6)).mod (KX.num 12))).map fun q=>p + q))).bind fun q=>if fW p q then some (p * q) else none).bind fun p=>(some (13:Int)).bind fun q=>if q ≠ 0 then some (p.fmod q) else none)=_
  have ev:kxV fr (i:Int) ((KX.var (j + 6)).mod (KX.num 12))=some (c:Int):=by
   show ((match fr[j + 6]? with | some (some (.int v))=>some v | _=>none).bind fun p=>(some (12:Int)).bind fun q=>if q ≠ 0 then some (p.fmod q) else none)=_
   rw [hc]
   show (if (12:Int) ≠ 0 then some (cell.fmod 12) else none)=_
   rw [if_pos (by decide)]; exact congrArg some hc2
  rw [ev]
  show ((if fW ((i:Int) + 1) (1 + (c:Int)) then some (((i:Int) + 1) * (1 + (c:Int))) else none).bind fun p=>if (13:Int) ≠ 0 then some (p.fmod 13) else none)=_
  rw [if_pos (.inl (by lia))]
  show (if (13:Int) ≠ 0 then some ((((i:Int) + 1) * (1 + (c:Int))).fmod 13) else none)=_
  rw [if_pos (by decide)]
  have:((i:Int) + 1) * (1 + (c:Int))=(((i + 1) * (c + 1):Nat):Int):=by rw [Int.natCast_mul,Int.add_comm 1]; rfl
  rw [this]
  exact congrArg some (zm _ 13)
 have e2:aQ (fun (i:Nat)=>kxV fr (i:Int) key) (List.range m)=some ((List.range m).map fun i=>(((i + 1) * (c + 1) % 13:Nat):Int)):=by
  have:=cO (f:=fun (i:Nat)=>kxV fr (i:Int) key) (g:=id) (h:=fun i=>(((i + 1) * (c + 1) % 13:Nat):Int)) (l:=List.range m) fun i hi=>by rw [hk]; exact e1 i (List.mem_range.mp hi)
  rwa [List.map_id] at this
 have nd:((List.range m).map fun i=>(((i + 1) * (c + 1) % 13:Nat):Int)).Nodup:=by
  rw [List.Nodup,List.pairwise_iff_getElem]
  intro p q hp hq hpq e
  rw [List.length_map,List.length_range] at hp hq
  rw [List.getElem_map,List.getElem_map,List.getElem_range,List.getElem_range] at e
  have:=oB (c + 1) (by lia) (by lia) p q (by lia) (by lia) (Int.ofNat.inj e)
  lia
 have hp:((fL (((List.range m).map fun i=>(((i + 1) * (c + 1) % 13:Nat):Int)).zip (iG 0 m))).map (·.2)).Perm (natsV (List.range m)):=by
  refine ((nv _).map _).trans ?_
  have:(((List.range m).map fun i=>(((i + 1) * (c + 1) % 13:Nat):Int)).zip (iG 0 m)).map (·.2)=iG 0 m:=List.map_snd_zip (by rw [cE,List.length_map,List.length_map]; exact Nat.le_refl _)
  rw [this,cE]
  exact .refl _
 obtain ⟨o,ho,hperm⟩:=rE hp
 refine ⟨o,hperm,?_⟩
 show (if (0:Int)=0 ∧ (m:Int) < 60 then Ak σ[1]? (z6 (aQ (fun (i:Nat)=>kxV fr (i:Int) key) (List.range (m:Int).toNat)) m σ) else .bad)=_
 rw [if_pos ⟨rfl,by lia⟩,ht]
 show z6 (aQ (fun (i:Nat)=>kxV fr (i:Int) key) (List.range m)) m σ=_
 rw [e2]
 show (if ((List.range m).map fun i=>(((i + 1) * (c + 1) % 13:Nat):Int)).Nodup then cN ((fL (((List.range m).map fun i=>(((i + 1) * (c + 1) % 13:Nat):Int)).zip (iG 0 m))).map (·.2)) (σ.set 1 (.tab true)) else .bad)=_
 rw [if_pos nd,ho,ak (by rw [aI,hperm.length_eq,List.length_range]; lia),List.length_set]
inductive W2 (β:Sto) (m M lo K:Nat) (rest:Fra) (i:Nat):Fra→Sto→Prop
 | mk (ws:List Way) (τ:Sto) (x4 x5:Option V) (L:bO m M (K + i) ws):W2 β m M lo K rest i (fU m lo β.length x4 x5 rest) (cC β ws τ)
theorem oz (H:jK P M) (hM:100 ≤ M) (hs:aM β sc) (m1:1 ≤ m) {K i:Nat} (hK:K + i ≤ 1000) {fr:Fra} {σ:Sto} (I:W2 β m M lo K rest i fr σ) :
  m6 [4] true (evSs (evFn P wf (n + 1)) wf pK) (.int i) fr σ (W2 β m M lo K rest (i + 1)) (fun _ _=>False):=by
 obtain ⟨ws,τ,x4,x5,L⟩:=I
 refine ⟨fU m lo β.length (some (.int i)) x5 rest,rfl,.inl ?_⟩
 have e1:evE (evFn P wf (n + 1)) (E.call 22 [E.call 20 [E.loc 0,E.bin .Add (E.int 3) (E.bin .Mod (E.loc 4) (E.int 6))],E.loc 4]) (fU m lo β.length (some (.int i)) x5 rest) (cC β ws τ)=.ok (.int (mixN (sc.getD (3 + i % 6) 0) i:Nat)) (cC β ws τ) :=
  aF (aa (aF (aa (ac rfl) (aa (ar ai (ar (ac rfl) ai (g8 (x:=i) (y:=6) (by decide))) rfl) ae)) (eg H.h20 (show aM (cC β ws τ) sc from ap hs) (3 + i % 6))) (aa (ac rfl) ae)) (mW H.h22)
 generalize mixN (sc.getD (3 + i % 6) 0) i=N at e1
 obtain ⟨d,τ',hd,e2⟩:=jG (n:=n) (wf:=wf) H hM (e:=E.bin .FloorDiv (E.loc 5) (E.int 256)) (fr:=fU m lo β.length (some (.int i)) (some (.int N)) rest) (ws:=ws) (τ:=τ) (N:=N / 256) (ar (ac rfl) ai (n6 (y:=256) (by decide) (by decide)))
 have hlen:=L.len
 exact ⟨_,_,al e1 (show 5 < rest.length + 6 by lia) (s6 (ar (ac rfl) (ac rfl) (g8 (by lia))) (ar (ar (ac rfl) ai (n6 (y:=16) (by decide) (by decide))) (ac rfl) (g8 (by lia))) e2 (by lia) aY),⟨_,_,_,_,L.more (Nat.mod_lt _ m1) (Nat.mod_lt _ m1) hd⟩⟩
noncomputable def wG (j:Nat) (rest:List S):List S :=
 S.asg (j + 6) (E.call 20 [E.loc 0,E.int 1]) :: S.asg 2 ((E.blt .range [E.loc 1]).srt (gZ j)) :: S.asg 3 (E.list []) :: S.forS [4] true (It.e (E.blt .range [E.loc 1])) (uH j) :: rest
theorem uE (H:jK P M) (hM:100 ≤ M) (hs:aM σ sc) (ht:σ[1]?=some (.tab false)) (m1:1 ≤ m) (m2:m ≤ 12) {tail:List S}{rest0:Fra} (hj:j < rest0.length) {G:Prop}
  (k:∀ ws o τ x4 x5,bO m M (2 * m) ws→(∀ r,evSs (evFn P wf (n + 1)) wf tail (fU m σ.length (σ.length + 1) x4 x5 (rest0.set j (some (.int (sc.getD 1 0))))) (cC (σ.set 1 (.tab true) ++ [o]) ws τ)=r→evSs (evFn P wf (n + 1)) wf (wG j tail) (some (.ref 0) :: some (.int m) :: none :: none :: none :: none :: rest0) σ=r)→G):G:=by
 generalize hcell:sc.getD 1 0=cell at k
 have hj':(rest0.set j (some (V.int cell)))[j]?=some (some (.int cell)):=List.getElem?_set_self hj
 obtain ⟨o,hp,eo⟩:=tC (σ:=σ) (m:=m) (j:=j) (cell:=cell) (fr:=some (.ref 0) :: some (.int m) :: none :: none :: none :: none :: rest0.set j (some (.int cell))) rfl hj' ht m1 m2
 have hol:o.length=m:=by rw [hp.length_eq,List.length_range]
 have ho:∀ k,k < m→o.getD k 0 < m:=fun k hk=>List.mem_range.mp (hp.mem_iff.mp (ng (by lia)))
 have hlb:(σ.set 1 (AO.tab true) ++ [AO.lst (natsV o)]).length=σ.length + 1:=by rw [List.length_append,List.length_set]; rfl
 have hlo:(σ.set 1 (AO.tab true) ++ [AO.lst (natsV o)])[σ.length]?=some (.lst (natsV o)):=by
  have:=am (σ:=σ.set 1 (.tab true)) (o:=.lst (natsV o)) (τ:=[])
  rwa [List.length_set] at this
 have hs':aM (σ.set 1 (AO.tab true) ++ [AO.lst (natsV o)]) sc:=ap (by rw [List.getElem?_set_ne (by decide)]; exact hs)
 obtain ⟨fr1,σ1,l1,ws1,τ1,y4,y5,B⟩:=(kK (call:=evFn P wf (n + 1)) (wf:=wf) (tg:=[4]) (one:=true) (ws:=List.range m) (g:=fun (v:Nat)=>V.int v) (it:=E.blt .range [E.loc 1]) (bs:=uH j) (fr:=fU m σ.length (σ.set 1 (AO.tab true) ++ [AO.lst (natsV o)]).length none none (rest0.set j (some (.int cell)))) (σ:=cC (σ.set 1 (AO.tab true) ++ [AO.lst (natsV o)]) [] [])
  (W1 (σ.set 1 (AO.tab true) ++ [AO.lst (natsV o)]) m M σ.length o (rest0.set j (some (.int cell))) (nZ m cell)) (fun _ _=>False) (a6 (aa (ac rfl) ae) (b5 (by lia))) (cE m)
  (by
   intro i v fr σ' hv I
   obtain ⟨hi,rfl⟩:=b8 hv
   exact oN H hM hs' hlo hol ho m2 hj' hi I) ⟨[],[],none,none,eA.start⟩).next
 rw [List.length_range] at B
 refine k ws1 (.lst (natsV o)) τ1 y4 y5 (B.good m1 (fun e=>by unfold nZ; rw [e]; rfl) hp) fun r h=>?_
 rw [← hlb] at h
 refine al (aF (aa (ac rfl) (aa ai ae)) (eg H.h20 hs 1)) (show j + 6 < rest0.length + 6 by lia) ?_
 rw [hcell]
 exact al (AC (a6 (aa (ac rfl) ae) (b5 (by lia))) eo) (show 2 < _ + 6 by lia) (al (bg ae (ak (by decide:0 ≤ 16777216))) (show 3 < _ + 6 by lia) (a4 l1 h))
theorem uK (H:jK P M) (hM:100 ≤ M) (hs:aM β sc) (m1:1 ≤ m) {K k:Nat} (hK:K + k ≤ 1000) {ws:List Way} {τ:Sto}{x4 x5:Option V}{e:E} (L:bO m M K ws) (he:evE (evFn P wf (n + 1)) e (fU m lo β.length x4 x5 rest) (cC β ws τ)=.ok (.rng 0 k) (cC β ws τ)) :
  ∃ ws' τ' y4 y5,bO m M (K + k) ws' ∧ evS (evFn P wf (n + 1)) wf (S.forS [4] true (It.e e) pK) (fU m lo β.length x4 x5 rest) (cC β ws τ)=.ok .next (fU m lo β.length y4 y5 rest) (cC β ws' τ'):=by
 obtain ⟨fr2,σ2,l2,ws2,τ2,z4,z5,L2⟩:=(kK (call:=evFn P wf (n + 1)) (wf:=wf) (tg:=[4]) (one:=true) (ws:=List.range k) (g:=fun (v:Nat)=>V.int v) (it:=e) (bs:=pK) (fr:=fU m lo β.length x4 x5 rest) (σ:=cC β ws τ)
  (W2 β m M lo K rest) (fun _ _=>False) he (cE k)
  (by
   intro i v fr σ' hv I
   obtain ⟨hi,rfl⟩:=b8 hv
   exact oz H hM hs m1 (by lia) I) ⟨ws,τ,x4,x5,L⟩).next
 rw [List.length_range] at L2
 exact ⟨ws2,τ2,z4,z5,L2,l2⟩
theorem n4 (H:jK P M) (hM:100 ≤ M) (hs:aM σ sc) (ht:σ[1]?=some (.tab false)) (m1:1 ≤ m) (m2:m ≤ 12) {size md:Nat} (hd1:1 ≤ md) (hd2:md ≤ 100) {tail:List S}{rest0:Fra} (hfr:aS (lU j size md tail) [.ref 0,.int m]=some (.ref 0) :: some (.int m) :: none :: none :: none :: none :: rest0) (hj:j < rest0.length) :
  ∃ ws o τ x4 x5,bO m M (2 * m + (md - 1)) ws ∧ ∀ r,evSs (evFn P wf (n + 1)) wf tail (fU m σ.length (σ.length + 1) x4 x5 (rest0.set j (some (.int (sc.getD 1 0))))) (cC (σ.set 1 (.tab true) ++ [o]) ws τ)=r→evSs (evFn P wf (n + 1)) wf (lU j size md tail).body (aS (lU j size md tail) [.ref 0,.int m]) σ=r:=by
 refine uE (wf:=wf) (n:=n) (tail:=S.forS [4] true (It.e (E.blt .range [E.bin .Mod (E.bin .FloorDiv (E.loc (j + 6)) (E.int 24)) (E.int md)])) pK :: tail) H hM hs ht m1 m2 hj fun ws o τ x4 x5 L e1=>?_
 obtain ⟨k,hk1,hk2⟩:=bB md hd1 (Int.fdiv (sc.getD 1 0) 24)
 have hlb:(σ.set 1 (AO.tab true) ++ [o]).length=σ.length + 1:=by rw [List.length_append,List.length_set]; rfl
 rw [← hlb] at e1
 obtain ⟨ws2,τ2,z4,z5,L2,l2⟩:=uK (wf:=wf) (n:=n) (lo:=σ.length) (x4:=x4) (x5:=x5) (τ:=τ) (rest:=rest0.set j (some (.int (sc.getD 1 0)))) (e:=E.blt .range [E.bin .Mod (E.bin .FloorDiv (E.loc (j + 6)) (E.int 24)) (E.int md)]) H hM (show aM (σ.set 1 (AO.tab true) ++ [o]) sc from ap (by rw [List.getElem?_set_ne (by decide)]; exact hs)) m1 (K:=2 * m) (k:=k) (by lia) L
  (a6 (aa (ar (ar (ac (List.getElem?_set_self hj)) ai (eR (by decide) (by decide))) ai ((br (by lia)).trans (by rw [hk2]))) ae) (b5 (k:=k) (by lia)))
 refine ⟨ws2,o,τ2,z4,z5,⟨Nat.le_trans L2.len (by lia),L2.ends,L2.del,L2.sc,L2.ne⟩,fun r h=>?_⟩
 rw [← hlb] at h
 rw [hfr]
 exact e1 r (a4 l2 h)
theorem zl (HL:P 20=some fo) {sc:List Int} (hs:aM σ sc) {fr:Fra}{e:E}{k q:Nat} (h0:fr[0]?=some (some (.ref 0))) (he:evE (evFn P wf (n + 1)) e fr σ=.ok (.int q) σ) (hq:1 ≤ q) :
  ∃ c:Nat,c < q ∧ evE (evFn P wf (n + 1)) (E.bin .Mod (E.call 20 [E.loc 0,E.int k]) e) fr σ=.ok (.int c) σ:=by
 obtain ⟨c,h1,h2⟩:=bB q hq (sc.getD k 0)
 refine ⟨c,h1,ar (aF (aa (ac h0) (aa ai ae)) (eg HL hs k)) he ((br (by lia)).trans ?_)⟩
 rw [h2]
end
end Mine
namespace Mine
open PySem
theorem qr (l:List Int):∀ a:Int,(l.foldl (fun a b=>if a < b then b else a) a=a ∨ l.foldl (fun a b=>if a < b then b else a) a ∈ l) ∧ a ≤ l.foldl (fun a b=>if a < b then b else a) a ∧ ∀ x ∈ l,x ≤ l.foldl (fun a b=>if a < b then b else a) a:=by
 induction l with
 | nil=>exact fun a=>⟨.inl rfl,Int.le_refl _,nofun⟩
 | cons x l ih =>
  intro a
  rw [List.foldl_cons]
  obtain ⟨h1,h2,h3⟩:=ih (if a < x then x else a)
  have h4:a ≤ (if a < x then x else a) ∧ x ≤ (if a < x then x else a) ∧ ((if a < x then x else a)=a ∨ (if a < x then x else a)=x):=by split <;> lia
  refine ⟨?_,Int.le_trans h4.1 h2,fun y hy=>?_⟩
  ·rcases h1 with h1 | h1
   ·rw [h1]
    rcases h4.2.2 with q | q
    ·exact .inl q
    ·exact .inr (by rw [q]; exact .head _)
   ·exact .inr (.tail _ h1)
  ·rcases List.mem_cons.mp hy with rfl | hy
   ·exact Int.le_trans h4.2.1 h2
   ·exact h3 y hy
theorem qb {is:List Int} (h:is ≠ []):∃ mx,gV is=some mx ∧ mx ∈ is ∧ ∀ x ∈ is,x ≤ mx:=by
 cases is with
 | nil=>exact absurd rfl h
 | cons x l =>
  obtain ⟨h1,h2,h3⟩:=qr l x
  refine ⟨_,rfl,?_,fun y hy=>?_⟩
  ·rcases h1 with h1 | h1
   ·rw [h1]; exact .head _
   ·exact .tail _ h1
  ·rcases List.mem_cons.mp hy with rfl | hy
   ·exact h2
   ·exact h3 y hy
noncomputable def uY (ws:List Way) (x:Nat→Int) (v:Nat):List Int:=(ws.filter fun w=>w.2.1 == v).map fun w=>x w.1 + (w.2.2:Int)
noncomputable def fi (ws:List Way) (x:Nat→Int) (v:Nat):Int:=(gV (uY ws x v)).getD 0
noncomputable def cf (ws:List Way) (x:Nat→Int):Nat→Nat→Int
 | 0=>x
 | t + 1=>fi ws (cf ws x t)
structure Ins (ws:List Way) (m:Nat):Prop where
 hm:∀ w ∈ ws,w.1 < m ∧ w.2.1 < m
 inn:∀ v,v < m→∃ w ∈ ws,w.2.1=v
section
variable {ws:List Way}{m:Nat}{x y S:Nat→Int}{c:Int}
theorem w2 (H:Ins ws m) {v:Nat} (hv:v < m):uY ws x v ≠ []:=fun e=>by
 obtain ⟨w,hw,rfl⟩:=H.inn v hv
 have:x w.1 + (w.2.2:Int) ∈ uY ws x w.2.1:=List.mem_map.mpr ⟨w,List.mem_filter.mpr ⟨hw,beq_self_eq_true _⟩,rfl⟩
 rw [e] at this; cases this
theorem uG (H:Ins ws m) {v:Nat} (hv:v < m):gV (uY ws x v)=some (fi ws x v):=by
 obtain ⟨mx,h,_⟩:=qb (w2 (x:=x) H hv)
 unfold fi; rw [h]; rfl
end
end Mine
namespace Mine
open PySem
noncomputable def xT:Fn:={ ps:=[0,1],size:=2,body :=
 [S.expr ((E.loc 0).umeth 12 [E.loc 1]),S.ret (E.comp [1] true ((E.loc 0).attr 1) [E.cmp .Eq ((E.loc 1).sub (E.int 1)) (E.loc 2)] (E.tup [(E.loc 1).sub (E.int 0),(E.loc 1).sub (E.int 2)]) [none,none,some 1])] }
noncomputable def u8:E:=E.comp [1,2] false ((E.loc 0).umeth 15 [E.loc 3]) [] (E.bin .Add ((E.loc 3).sub (E.loc 1)) (E.loc 2)) [none,none,none,some 1]
noncomputable def vh:List S:=[S.expr ((E.loc 2).meth .append [E.blt .max [u8]])]
noncomputable def uT:Fn:={ ps:=[0,1],size:=8,body :=
 [S.ifS (E.cmp .NotEq (E.blt .len [E.loc 1]) ((E.loc 0).attr 0)) [S.raise (xc 0)] [],S.asg 2 (E.list []),
  S.forS [3] true (It.e (E.blt .range [(E.loc 0).attr 0])) vh,S.ret (E.loc 2)] }
noncomputable def uX:List S:=[S.expr ((E.loc 3).meth .append [(E.loc 0).umeth 16 [(E.loc 3).sub (E.int 1).neg]])]
noncomputable def mG:Fn:={ ps:=[0,1,2],size:=9,body :=
 [S.ifS (E.cmp .NotEq (E.blt .len [E.loc 1]) ((E.loc 0).attr 0)) [S.raise (xc 0)] [],S.asg 3 (E.list [E.blt .list [E.loc 1]]),
  S.forS [4] true (It.e (E.blt .range [E.loc 2])) uX,S.ret (E.loc 3)] }
noncomputable def tB (w:Way):V:=.tup [.int w.1,.int w.2.2]
noncomputable def cj (σ:Sto) (xs:List V) (τ:Sto):Sto:=σ ++ .lst xs :: τ
theorem um {σ τ:Sto}{xs ys:List V}:dq (cj σ xs τ) σ.length ys=cj σ ys τ:=by unfold dq cj; exact d7
theorem jM {σ τ υ:Sto}{xs:List V}:cj σ xs τ ++ υ=cj σ xs (τ ++ υ):=List.append_assoc _ _ _
theorem iO {i:Nat}{y:Nat→Int}:intsV (i + 1) y=intsV i y ++ [V.int (y i)]:=by
 unfold intsV; rw [List.range_succ,List.map_append]; rfl
theorem gi (is:List Int):aA (is.map V.int)=some is:=by
 have:aQ yk (is.map V.int)=some (is.map id):=cO fun _ _=>rfl
 rwa [List.map_id] at this
theorem yY {σ:Sto}{l:Nat}{is:List Int}{i:Int} (h:σ[l]?=some (.lst (is.map V.int))) (h2:gV is=some i):gA .max [.ref l] σ=.ok (.int i) σ:=by
 show bS σ ((((getL σ l).bind aA).bind gV).map V.int)=_
 rw [ag h]
 show bS σ (((aA (is.map V.int)).bind gV).map V.int)=_
 rw [gi]
 show bS σ ((gV is).map V.int)=_
 rw [h2]; rfl
theorem aJ.ins {m:Nat}{ws:List Way} (G:aJ m ws):Ins ws m:=⟨G.hm,fun v hv=>by
 obtain ⟨w,hw,e⟩:=G.flip.ok.hO v hv
 obtain ⟨a,b,d⟩:=w
 exact ⟨(b,a,d),mQ.mp hw,e⟩⟩
structure iC (P:Nat→Option Fn):Prop where
 h8:P 8=some cR
 h12:P 12=some rI
 h15:P 15=some xT
 h16:P 16=some uT
 h17:P 17=some mG
section
variable {P:Nat→Option Fn}{wf n:Nat} {σ:Sto}{l m lt:Nat}{ws:List Way}{x:Nat→Int}
theorem qS (H:iC P) (W:a9 σ l m ws) (hz:ws.length ≤ 60) {v:Nat} (hv:v < m):evFn P wf (n + 3) 15 [.ref l,.int v] σ=.ok (.ref σ.length) (σ ++ [.lst ((ws.filter fun w=>w.2.1 == v).map tB)]):=by
 obtain ⟨d,lw,a,b,c⟩:=W.at'
 refine bh H.h15 rfl (bi (bP (ac rfl) a b (aa (ac rfl) ae) (mi (n:=n) H.h8 H.h12 W hv)) (aL (eI (ws:=ws) (g:=wayV) (p:=fun w=>w.2.1 == v) (f:=tB) (cD (ac rfl) (cK a b)) (ag c) (fun w hw=>⟨_,rfl,oJ (aE (aD (ac rfl) ai rfl) (ac rfl) (congrArg some (dn w.2.1 v))),fun _=>fX (aa (aD (ac rfl) ai rfl) (aa (aD (ac rfl) ai rfl) ae)) (by decide:2 ≤ 1000)⟩) (ak ?_))))
 rw [List.length_map]; exact Nat.le_trans (List.length_filter_le _ _) (Nat.le_trans hz (by decide))
theorem wH (H:iC P) (W:a9 σ l m ws) (G:aJ m ws) (ht:σ[lt]?=some (.lst (intsV m x))) {v:Nat} (hv:v < m) {fr:Fra} (h0:fr[0]?=some (some (.ref l))) (h3:fr[3]?=some (some (.int v))) (hs:ee fr [none,none,none,some 1]=[none,none,none,some (.ref lt)]) :
  ∃ τ,evE (evFn P wf (n + 3)) (E.blt .max [u8]) fr σ=.ok (.int (fi ws x v)) (σ ++ τ):=by
 obtain ⟨d,lw,a,b,c⟩:=W.at'
 refine ⟨[.lst ((ws.filter fun w=>w.2.1 == v).map tB)] ++ [.lst ((uY ws x v).map V.int)],?_⟩
 rw [← List.append_assoc]
 refine a6 (aa (eI (ws:=ws.filter fun w=>w.2.1 == v) (g:=tB) (p:=fun _=>true) (f:=fun w=>V.int (x w.1 + (w.2.2:Int))) (bP (ac h0) a b (aa (ac h3) ae) (qS (n:=n) H W G.hz hv)) (ag am) (fun w hw=>?_) ?_) ae) (yY am (uG G.ins hv))
 ·rw [hs]
  exact ⟨_,rfl,uc,fun _=>ar (aD (ac rfl) (ac rfl) (a7 (ap ht) (bI (G.hm w (List.mem_filter.mp hw).1).1))) (ac rfl) rfl⟩
 ·rw [List.filter_eq_self.mpr (fun _ _=>rfl),show ((ws.filter fun w=>w.2.1 == v).map fun w=>V.int (x w.1 + (w.2.2:Int)))=(uY ws x v).map V.int by unfold uY; rw [List.map_map]; rfl]
  refine ak ?_
  unfold uY
  rw [List.length_map,List.length_map]; exact Nat.le_trans (List.length_filter_le _ _) (Nat.le_trans G.hz (by decide))
theorem vm {call:Nat→List V→Sto→RE}{e:E}{k:Nat}{fr:Fra}{xs:List V} {τ τ':Sto}{v:V} (hk:fr[k]?=some (some (.ref σ.length))) (he:evE call e fr (cj σ xs τ)=.ok v (cj σ xs τ')) (hz:xs.length < 16777216):evSs call wf [S.expr ((E.loc k).meth .append [e])] fr (cj σ xs τ)=.ok .next fr (cj σ (xs ++ [v]) τ'):=by
 refine bi (de (ac hk) (ag am) (aa he ae) (ag am) (ml hz)) ?_
 rw [um]; exact aY
theorem rH (h:σ[lt]?=some (.lst (intsV m x))) {d lw:Nat}{call:Nat→List V→Sto→RE}{fr:Fra} (h0:fr[0]?=some (some (.ref l))) (h1:fr[1]?=some (some (.ref lt))) (a:σ[l]?=some (.inst d)) (b:σ[d]?=some (.att [(0,.int m),(1,.ref lw)])) :
  evE call (E.cmp .NotEq (E.blt .len [E.loc 1]) ((E.loc 0).attr 0)) fr σ=.ok (.bool false) σ:=by
 refine aE (a6 (aa (ac h1) ae) (dp h)) (cD (ac h0) (b9 a b)) ?_
 rw [bx]; exact gB
theorem jY (H:iC P) (W:a9 σ l m ws) (G:aJ m ws) (ht:σ[lt]?=some (.lst (intsV m x))) :
  ∃ τ,evFn P wf (n + 4) 16 [.ref l,.ref lt] σ=.ok (.ref σ.length) (cj σ (intsV m (fi ws x)) τ):=by
 obtain ⟨d,lw,a,b,c⟩:=W.at'
 have hm:=G.m2
 obtain ⟨z,e1,_⟩:=sg (call:=evFn P wf (n + 3)) (wf:=wf) (tg:=[3]) (one:=true) (ws:=List.range m) (g:=fun (v:Nat)=>V.int v) (it:=E.blt .range [(E.loc 0).attr 0]) (bs:=vh) (σ:=cj σ [] [])
  (F:=fun _ (z:Option V × Sto)=>[some (.ref l),some (.ref lt),some (.ref σ.length),z.1,none,none,none,none]) (S:=fun i z=>cj σ (intsV i (fi ws x)) z.2) (J:=fun _ _=>True) (none,[])
  (a6 (aa (cD (ac rfl) (b9 (ap a) (ap b))) ae) (b5 (by lia))) (cE m)
  (fun i v z hv _=>by
   obtain ⟨hi,rfl⟩:=b8 hv
   obtain ⟨υ,e⟩:=wH (wf:=wf) (n:=n) (σ:=cj σ (intsV i (fi ws x)) z.2) (x:=x) (fr:=[some (.ref l),some (.ref lt),some (.ref σ.length),some (.int i),none,none,none,none]) H (W.app (τ:=_)) G (ap ht) hi rfl rfl rfl
   rw [jM] at e
   refine ⟨_,rfl,(some (.int i),z.2 ++ υ),?_,trivial⟩
   rw [iO]
   exact vm rfl e (by rw [bx]; lia)) trivial
 rw [List.length_range] at e1
 exact ⟨z.2,bh H.h16 rfl (aG (rH ht rfl rfl a b) (al (bg ae (ak (by decide:0 ≤ 16777216))) (by decide:2 < 8) (a4 e1 (aL (ac rfl)))))⟩
end
end Mine
namespace Mine
open PySem
noncomputable def vx:E:=E.blt .tuple [E.comp [1] true (E.loc 3) [] (E.bin .Sub (E.loc 1) ((E.loc 2).sub (E.int 0))) [none,none,some 3]]
noncomputable def ju:List S :=
 [S.asg 7 vx,
  S.ifS (E.cmp .In (E.loc 7) (E.loc 4)) [S.ret (E.tup [(E.loc 4).sub (E.loc 7),E.bin .Sub (E.loc 6) ((E.loc 4).sub (E.loc 7)),E.bin .Sub ((E.loc 3).sub (E.int 0)) ((E.loc 5).sub ((E.loc 4).sub (E.loc 7)))])] [],
  S.asgI (E.loc 4) (E.loc 7) (E.loc 6),S.expr ((E.loc 5).meth .append [(E.loc 3).sub (E.int 0)]),S.asg 3 ((E.loc 0).umeth 16 [E.loc 3])]
noncomputable def cq:Fn:={ ps:=[0,1,2],size:=10,body :=
 [S.asg 3 (((E.loc 0).umeth 17 [E.loc 1,E.int 0]).sub (E.int 0)),S.asg 4 E.dict0,S.asg 5 (E.list []),
  S.forS [6] true (It.e (E.blt .range [E.bin .Add (E.loc 2) (E.int 1)])) ju,S.ret E.none] }
noncomputable def bk (m:Nat) (x:Nat→Int):List Int:=(List.range m).map fun v=>x v - x 0
theorem sR {m:Nat}{x y:Nat→Int} (h:bk m x=bk m y) {v:Nat} (hv:v < m):y v=x v + (y 0 - x 0):=by
 have:=congrArg (fun l=>l[v]?) h
 unfold bk at this
 rw [List.getElem?_map,List.getElem?_map,List.getElem?_range hv] at this
 have h2:x v - x 0=y v - y 0:=Option.some.inj this
 lia
noncomputable def cI (m:Nat) (X:Nat→Nat→Int) (i:Nat):List (List Int × V):=(List.range i).map fun t=>(bk m (X t),V.int (t:Nat))
theorem kn {m i:Nat}{X:Nat→Nat→Int}:cI m X (i + 1)=cI m X i ++ [(bk m (X i),V.int (i:Nat))]:=by
 unfold cI; rw [List.range_succ,List.map_append]; rfl
theorem vX {k:List Int}{v:V}{es:List (List Int × V)} (h:(es.any fun e=>e.1 == k)=false):lM k v es=es ++ [(k,v)]:=by
 induction es with
 | nil=>rfl
 | cons e es ih =>
  rw [List.any_cons,Bool.or_eq_false_iff] at h
  show (if (e.1 == k)=true then (e.1,v) :: es else e :: lM k v es)=_
  rw [h.1,ih h.2]; rfl
theorem tj {m i:Nat}{X:Nat→Nat→Int}{k:List Int} (h:((cI m X i).any fun e=>e.1 == k)=true):∃ t,t < i ∧ bk m (X t)=k ∧ (cI m X i).lookup k=some (V.int (t:Nat)):=by
 induction i with
 | zero=>exact absurd h Bool.false_ne_true
 | succ i ih =>
  rw [kn] at h ⊢
  have happ:∀ {es es':List (List Int × V)},(es ++ es').lookup k=(es.lookup k).or (es'.lookup k):=fun {es es'}=>by
   induction es with
   | nil=>rfl
   | cons e es ih2 =>
    rw [List.cons_append,List.lookup_cons,List.lookup_cons,ih2]
    cases k == e.1 <;> rfl
  rw [happ]
  by_cases h1:((cI m X i).any fun e=>e.1 == k)=true
  ·obtain ⟨t,ht,hk,hl⟩:=ih h1
   exact ⟨t,by lia,hk,by rw [hl]; rfl⟩
  ·have h1:=Bool.eq_false_iff.mpr h1
   rw [List.any_append,h1,Bool.false_or,List.any_cons,List.any_nil,Bool.or_false] at h
   have hk:bk m (X i)=k:=eq_of_beq h
   have hn:(cI m X i).lookup k=none:=by
    rw [List.lookup_eq_none_iff]
    intro e he
    rw [List.any_eq_false] at h1
    have:=h1 e he
    rw [Bool.not_eq_true,beq_eq_false_iff_ne] at this
    exact bne_iff_ne.mpr (Ne.symm this)
   refine ⟨i,Nat.lt_succ_self _,hk,?_⟩
   rw [hn,List.lookup_cons,show (k == bk m (X i))=true from beq_iff_eq.mpr hk.symm]; rfl
section
variable {P:Nat→Option Fn}{wf n:Nat} {σ:Sto}{l m lt lh:Nat}{ws:List Way}{x:Nat→Int}{call:Nat→List V→Sto→RE}
theorem sP {fr:Fra} (hm:1 ≤ m ∧ m ≤ 12) (h3:fr[3]?=some (some (.ref lh))) (hs:ee fr [none,none,some 3]=[none,none,some (.ref lh)]) (ht:σ[lh]?=some (.lst (intsV m x))) :
  evE call vx fr σ=.ok (.tup ((bk m x).map V.int)) (σ ++ [.lst ((bk m x).map V.int)]):=by
 have e1:evE call (E.comp [1] true (E.loc 3) [] (E.bin .Sub (E.loc 1) ((E.loc 2).sub (E.int 0))) [none,none,some 3]) fr σ=.ok (.ref σ.length) (σ ++ [.lst ((bk m x).map V.int)]):=by
  refine eI (ws:=List.range m) (g:=fun v=>V.int (x v)) (p:=fun _=>true) (f:=fun v=>V.int (x v - x 0)) (ac h3) (ag ht) (fun v hv=>?_) ?_
  ·rw [hs]
   exact ⟨_,rfl,uc,fun _=>ar (ac rfl) (aD (ac rfl) ai (a7 (k:=0) ht (bI hm.1))) rfl⟩
  ·rw [List.filter_eq_self.mpr (fun _ _=>rfl),show ((List.range m).map fun v=>V.int (x v - x 0))=(bk m x).map V.int by unfold bk; rw [List.map_map]; rfl]
   refine ak ?_
   unfold bk; rw [List.length_map,List.length_map,List.length_range]; lia
 refine a6 (aa e1 ae) ?_
 show (match getL (σ ++ [AO.lst ((bk m x).map V.int)]) σ.length with | some xs=>RE.ok (.tup xs) (σ ++ [AO.lst ((bk m x).map V.int)]) | none=>.bad)=_
 rw [ag am]
theorem se (H:iC P) (W:a9 σ l m ws) (hm:m ≤ 12) (ht:σ[lt]?=some (.lst (intsV m x))):evFn P wf (n + 1) 17 [.ref l,.ref lt,.int 0] σ=.ok (.ref (σ.length + 1)) (σ ++ [.lst (intsV m x)] ++ [.lst [.ref σ.length]]):=by
 obtain ⟨d,lw,a,b,c⟩:=W.at'
 have e1:evE (evFn P wf n) (E.list [E.blt .list [E.loc 1]]) (aS mG [.ref l,.ref lt,.int 0]) σ=.ok (.ref (σ.length + 1)) (σ ++ [.lst (intsV m x)] ++ [.lst [.ref σ.length]]) :=
  (bg (aa (a6 (aa (ac rfl) ae) (jo ht (by rw [bx]; lia))) ae) (ak (by decide:1 ≤ 16777216))).trans (by rw [List.length_append]; rfl)
 exact bh H.h17 rfl (aG (rH ht rfl rfl a b) (al e1 (by decide:3 < 9) (a4 (fr1:=[some (.ref l),some (.ref lt),some (.int 0),some (.ref (σ.length + 1)),none,none,none,none,none]) (σ1:=σ ++ [.lst (intsV m x)] ++ [.lst [.ref σ.length]]) rfl (aL (ac rfl)))))
end
end Mine
namespace Mine
open PySem
noncomputable def fM (σ:Sto) (es:List (List Int × V)) (fs:List V) (τ:Sto):Sto:=σ ++ .dT es :: .lst fs :: τ
section
variable {σ τ:Sto}{es es':List (List Int × V)}{fs fs':List V}
theorem kG:(fM σ es fs τ)[σ.length]?=some (.dT es):=am
theorem pP:(fM σ es fs τ)[σ.length + 1]?=some (.lst fs):=by
 unfold fM; rw [List.getElem?_append_right (Nat.le_add_right _ _),Nat.add_sub_cancel_left]; rfl
theorem gh {υ:Sto}:fM σ es fs τ ++ υ=fM σ es fs (τ ++ υ):=List.append_assoc _ _ _
theorem qR {o:List (List Int × V)}:(fM σ es fs τ).set σ.length (.dT o)=fM σ o fs τ:=d7
theorem rY {o:List V}:dq (fM σ es fs τ) (σ.length + 1) o=fM σ es o τ:=by
 unfold dq fM; rw [List.set_append_right _ _ (Nat.le_add_right _ _),Nat.add_sub_cancel_left]; rfl
theorem v5 {k:Nat} (h1:k ≠ σ.length) (h2:k ≠ σ.length + 1):(fM σ es fs τ)[k]?=(fM σ es' fs' τ)[k]?:=by
 unfold fM
 by_cases h:k < σ.length
 ·rw [List.getElem?_append_left h,List.getElem?_append_left h]
 ·obtain ⟨j,rfl⟩:∃ j,k=σ.length + (j + 2):=⟨k - σ.length - 2,by lia⟩
  rw [List.getElem?_append_right (Nat.le_add_right _ _),List.getElem?_append_right (Nat.le_add_right _ _),Nat.add_sub_cancel_left]; rfl
theorem sy:(fM σ es fs τ).length=σ.length + (2 + τ.length):=by unfold fM; rw [List.length_append,List.length_cons,List.length_cons]; lia
theorem rn {d:Nat}{k:List Int} (h:σ[d]?=some (.dT es)):gq .In (.tup (k.map V.int)) (.ref d) σ=some (es.any fun e=>e.1 == k):=by
 show inV σ (.tup (k.map V.int)) (.ref d)=_
 unfold inV; dsimp only; rw [h]; show (aA _).map _=_; rw [gi]; rfl
theorem sv {d:Nat}{k:List Int}{v:V} (h:σ[d]?=some (.dT es)) (hv:es.lookup k=some v):lm (.ref d) (.tup (k.map V.int)) σ=some v:=by
 unfold lm; dsimp only; rw [h]; show (aA _).bind _=_; rw [gi]; exact hv
theorem sV {d:Nat}{k:List Int}{v:V} (h:σ[d]?=some (.dT es)) (hz:es.length < 1000000):dw (.ref d) (.tup (k.map V.int)) v σ=some (σ.set d (.dT (lM k v es))):=by
 unfold dw; dsimp only; rw [h]; show (aA _).bind _=_; rw [gi]; exact if_pos hz
end
section
variable {P:Nat→Option Fn}{wf n:Nat} {σ σ0:Sto}{l m lt:Nat}{ws:List Way}{x:Nat→Int}
noncomputable def xn (l lt most lh d:Nat) (x6 x7:Option V):Fra:=[some (.ref l),some (.ref lt),some (.int most),some (.ref lh),some (.ref d),some (.ref (d + 1)),x6,x7,none,none]
noncomputable def zE (m:Nat) (X:Nat→Nat→Int) (i:Nat):Bool:=(cI m X i).any fun e=>e.1 == bk m (X i)
noncomputable def BG (m:Nat) (X:Nat→Nat→Int) (i:Nat):V:=match (cI m X i).lookup (bk m (X i)) with
 | some (.int t)=>.tup [.int t,.int ((i:Int) - t),.int (X i 0 - X t.toNat 0)]
 | _=>.none
def rR (m most:Nat) (X:Nat→Nat→Int) (w:V):Prop:=(w=.none ∧ ∀ j,j < most + 1→zE m X j=false) ∨ ∃ i,i < most + 1 ∧ zE m X i=true ∧ (∀ j,j < i→zE m X j=false) ∧ w=BG m X i
inductive S1 (σ:Sto) (l lt most m:Nat) (ws:List Way) (x:Nat→Int) (i:Nat):Fra→Sto→Prop
 | mk (lh:Nat) (τ:Sto) (x6 x7:Option V) (hh:(fM σ (cI m (cf ws x) i) (intsV i fun t=>cf ws x t 0) τ)[lh]?=some (.lst (intsV m (cf ws x i)))) (hne:lh ≠ σ.length + 1) (hno:∀ j,j < i→zE m (cf ws x) j=false):S1 σ l lt most m ws x i (xn l lt most lh σ.length x6 x7) (fM σ (cI m (cf ws x) i) (intsV i fun t=>cf ws x t 0) τ)
structure ya (σ:Sto) (most m:Nat) (ws:List Way) (x:Nat→Int) (w:V) (σ':Sto):Prop where
 ex:∃ (t s:Nat) (g:Int) (τ:Sto),w=.tup [.int t,.int s,.int g] ∧ σ'=σ ++ τ ∧ 1 ≤ s ∧ t + s ≤ most ∧ (∀ v,v < m→cf ws x (t + s) v=cf ws x t v + g) ∧ rR m most (cf ws x) w
theorem mc (H:iC P) (W:a9 σ l m ws) (G:aJ m ws) {most i:Nat} (hi:i < most + 1) (hmost:most ≤ 1000) {fr:Fra} {σ':Sto} (I:S1 σ l lt most m ws x i fr σ') :
  m6 [6] true (evSs (evFn P wf (n + 4)) wf ju) (.int i) fr σ' (S1 σ l lt most m ws x (i + 1)) (ya σ most m ws x):=by
 obtain ⟨lh,τ,x6,x7,hh,hne,hno⟩:=I
 have hm:1 ≤ m ∧ m ≤ 12:=⟨G.m1,G.m2⟩
 have hd:lh ≠ σ.length:=fun q=>by rw [q,kG] at hh; cases hh
 have e7:=sP (call:=evFn P wf (n + 4)) (fr:=xn l lt most lh σ.length (some (.int i)) x7) hm rfl rfl hh
 rw [gh] at e7
 have hh1:∀ es fs,(fM σ es fs (τ ++ [.lst ((bk m (cf ws x i)).map V.int)]))[lh]?=some (.lst (intsV m (cf ws x i))):=fun es fs=>by
  rw [v5 hd hne (es':=cI m (cf ws x) i) (fs':=intsV i fun t=>cf ws x t 0),← gh]; exact ap hh
 generalize hτ:τ ++ [.lst ((bk m (cf ws x i)).map V.int)]=τ1 at e7 hh1
 have h0:∀ es fs,lm (.ref lh) (.int 0) (fM σ es fs τ1)=some (.int (cf ws x i 0)):=fun es fs=>a7 (k:=0) (hh1 es fs) (bI hm.1)
 refine ⟨xn l lt most lh σ.length (some (.int i)) x7,rfl,?_⟩
 cases hb:(cI m (cf ws x) i).any fun e=>e.1 == bk m (cf ws x i) with
 | true =>
  obtain ⟨t,ht,hk,hl⟩:=tj hb
  have hs:∀ {fr:Fra},fr[4]?=some (some (.ref σ.length))→fr[7]?=some (some (.tup ((bk m (cf ws x i)).map V.int)))→evE (evFn P wf (n + 4)) ((E.loc 4).sub (E.loc 7)) fr (fM σ (cI m (cf ws x) i) (intsV i fun t=>cf ws x t 0) τ1)=.ok (.int t) (fM σ (cI m (cf ws x) i) (intsV i fun t=>cf ws x t 0) τ1):=fun h4 h7=>aD (ac h4) (ac h7) (sv kG hl)
  refine .inr ⟨_,_,_,al e7 (by decide:7 < 10) (cP (aE (ac rfl) (ac rfl) ((rn kG).trans (congrArg some hb))) (aL (fX (aa (hs rfl rfl) (aa (ar (ac rfl) (hs rfl rfl) rfl) (aa (ar (aD (ac rfl) ai (h0 _ _)) (aD (ac rfl) (hs rfl rfl) (a7 pP (bI ht))) rfl) ae))) (by decide:3 ≤ 1000)))),t,i - t,cf ws x i 0 - cf ws x t 0,_,?_,rfl,by lia,by lia,fun v hv=>?_,.inr ⟨i,hi,hb,hno,?_⟩⟩
  ·rw [show ((i - t:Nat):Int)=(i:Int) - t by lia]
  ·rw [show t + (i - t)=i by lia]
   exact sR hk hv
  ·unfold BG; rw [hl]; rfl
 | false =>
  have hz:(cI m (cf ws x) i).length < 1000000:=by unfold cI; rw [List.length_map,List.length_range]; lia
  obtain ⟨υ,e3⟩:=jY (wf:=wf) (n:=n) (σ:=fM σ (cI m (cf ws x) (i + 1)) (intsV (i + 1) fun t=>cf ws x t 0) τ1) H W.app G (hh1 _ _)
  obtain ⟨dd,lw,a,b,c⟩:=(W.app (τ:=.dT (cI m (cf ws x) (i + 1)) :: .lst (intsV (i + 1) fun t=>cf ws x t 0) :: τ1)).at'
  refine .inl ⟨xn l lt most (fM σ (cI m (cf ws x) (i + 1)) (intsV (i + 1) fun t=>cf ws x t 0) τ1).length σ.length (some (.int i)) (some (.tup ((bk m (cf ws x i)).map V.int))),cj (fM σ (cI m (cf ws x) (i + 1)) (intsV (i + 1) fun t=>cf ws x t 0) τ1) (intsV m (fi ws (cf ws x i))) υ,al e7 (by decide:7 < 10) (aG (aE (ac rfl) (ac rfl) ((rn kG).trans (congrArg some hb))) (jj (ac rfl) (ac rfl) (ac rfl) (sV kG hz) ?_)),?_⟩
  ·rw [qR,vX hb,← kn]
   refine bi (de (ac rfl) (ag pP) (aa (aD (ac rfl) ai (h0 _ _)) ae) (ag pP) (ml (by rw [bx]; lia))) ?_
   rw [rY,show intsV i (fun t=>cf ws x t 0) ++ [V.int (cf ws x i 0)]=intsV (i + 1) (fun t=>cf ws x t 0) from iO.symm]
   exact al (bP (ac rfl) a b (aa (ac rfl) ae) e3) (by decide:3 < 10) aY
  ·show S1 σ l lt most m ws x (i + 1) _ (fM σ (cI m (cf ws x) (i + 1)) (intsV (i + 1) fun t=>cf ws x t 0) τ1 ++ (.lst (intsV m (fi ws (cf ws x i))) :: υ))
   rw [gh]
   refine ⟨_,_,_,_,by rw [← gh]; exact am,?_,fun j hj=>?_⟩
   ·rw [sy]; lia
   ·by_cases q:j=i
    ·rw [q]; exact hb
    ·exact hno j (Nat.lt_of_le_of_ne (Nat.le_of_lt_succ hj) q)
theorem lK (H:iC P) (h18:P 18=some cq) (W:a9 σ l m ws) (G:aJ m ws) (ht:σ[lt]?=some (.lst (intsV m x))) {most:Nat} (hmost:most ≤ 1000) :
  ∃ w τ,evFn P wf (n + 5) 18 [.ref l,.ref lt,.int most] σ=.ok w (σ ++ τ) ∧ (w=.none ∨ ∃ (t s:Nat) (g:Int),w=.tup [.int t,.int s,.int g] ∧ 1 ≤ s ∧ t + s ≤ most ∧ ∀ v,v < m→cf ws x (t + s) v=cf ws x t v + g) ∧ rR m most (cf ws x) w:=by
 obtain ⟨d,lw,a,b,c⟩:=W.at'
 have e0:evE (evFn P wf (n + 4)) (((E.loc 0).umeth 17 [E.loc 1,E.int 0]).sub (E.int 0)) (aS cq [.ref l,.ref lt,.int most]) σ=.ok (.ref σ.length) (σ ++ [AO.lst (intsV m x)] ++ [AO.lst [.ref σ.length]]) :=
  aD (bP (ac rfl) a b (aa (ac rfl) (aa ai ae)) (se (n:=n + 3) H W G.m2 ht)) ai (a7 (k:=0) sr rfl)
 have hh:(σ ++ [AO.lst (intsV m x)] ++ [AO.lst [.ref σ.length]])[σ.length]?=some (.lst (intsV m x)):=ap am
 have hlen:(σ ++ [AO.lst (intsV m x)] ++ [AO.lst [.ref σ.length]]).length=σ.length + 2:=by rw [List.length_append,List.length_append]; rfl
 have W0:a9 (σ ++ [AO.lst (intsV m x)] ++ [AO.lst [.ref σ.length]]) l m ws:=W.app.app
 have ea:σ ++ [AO.lst (intsV m x)] ++ [AO.lst [.ref σ.length]]=σ ++ [AO.lst (intsV m x),AO.lst [.ref σ.length]]:=by rw [List.append_assoc]; rfl
 generalize hσ:σ ++ [AO.lst (intsV m x)] ++ [AO.lst [.ref σ.length]]=σ0 at *
 have key:=kK (call:=evFn P wf (n + 4)) (wf:=wf) (tg:=[6]) (one:=true) (ws:=List.range (most + 1)) (g:=fun (v:Nat)=>V.int v) (it:=E.blt .range [E.bin .Add (E.loc 2) (E.int 1)]) (bs:=ju) (fr:=xn l lt most σ.length σ0.length none none) (σ:=fM σ0 [] [] [])
  (S1 σ0 l lt most m ws x) (ya σ0 most m ws x) (a6 (aa (ar (ac rfl) ai rfl) ae) (b5 (k:=most + 1) (by lia))) (cE (most + 1))
  (by
   intro i v fr σ' hv I
   obtain ⟨hi,rfl⟩:=b8 hv
   exact mc H W0 G hi hmost I) ⟨σ.length,[],none,none,ap hh,by lia,fun j h=>absurd h (Nat.not_lt_zero _)⟩
 have front:∀ r,evSs (evFn P wf (n + 4)) wf (S.forS [6] true (It.e (E.blt .range [E.bin .Add (E.loc 2) (E.int 1)])) ju :: [S.ret E.none]) (xn l lt most σ.length σ0.length none none) (fM σ0 [] [] [])=r→evSs (evFn P wf (n + 4)) wf cq.body (aS cq [.ref l,.ref lt,.int most]) σ=r:=fun r h=>by
  refine al e0 (by decide:3 < 10) (al w6 (by decide:4 < 10) (al (bg ae (ak (by decide:0 ≤ 16777216))) (by decide:5 < 10) ?_))
  rw [List.append_assoc,List.length_append]
  exact h
 rcases key with ⟨fr,σ',e,lh,τ,x6,x7,_,_,hno⟩ | ⟨w,fr,σ',e,t,s,g,τ,rfl,rfl,h1,h2,h3,h4⟩
 ·refine ⟨.none,[AO.lst (intsV m x),AO.lst [.ref σ.length]] ++ (.dT (cI m (cf ws x) (List.range (most + 1)).length) :: .lst (intsV (List.range (most + 1)).length fun t=>cf ws x t 0) :: τ),?_,.inl rfl,.inl ⟨rfl,fun j hj=>hno j (by rw [List.length_range]; exact hj)⟩⟩
  rw [← List.append_assoc,← ea]
  exact bh h18 rfl (front _ (a4 e (aL cY)))
 ·refine ⟨_,[AO.lst (intsV m x),AO.lst [.ref σ.length]] ++ τ,?_,.inr ⟨t,s,g,rfl,h1,h2,h3⟩,h4⟩
  rw [← List.append_assoc,← ea]
  exact bh h18 rfl (front _ (i5 e))
theorem oS (H:iC P) (h18:P 18=some cq) (W:a9 σ l m ws) (G:aJ m ws) (ht:σ[lt]?=some (.lst (intsV m x))) {most:Nat} (hmost:most ≤ 1000) :
  ∃ w τ,evFn P wf (n + 5) 18 [.ref l,.ref lt,.int most] σ=.ok w (σ ++ τ) ∧ (w=.none ∨ ∃ (t s:Nat) (g:Int),w=.tup [.int t,.int s,.int g] ∧ 1 ≤ s ∧ t + s ≤ most ∧ ∀ v,v < m→cf ws x (t + s) v=cf ws x t v + g) :=
 let ⟨w,τ,e,h,_⟩:=lK H h18 W G ht hmost
 ⟨w,τ,e,h⟩
end
end Mine
namespace Mine
open PySem
section
variable {P:Nat→Option Fn}{wf n:Nat} {σ:Sto}{m l lt:Nat}{ws:List Way}{x:Nat→Int}
theorem vU {τ:Sto}{xs ys:List V}{k:Nat} (h:k ≠ σ.length):(cj σ xs τ)[k]?=(cj σ ys τ)[k]?:=by
 unfold cj
 by_cases hk:k < σ.length
 ·rw [List.getElem?_append_left hk,List.getElem?_append_left hk]
 ·obtain ⟨j,rfl⟩:∃ j,k=σ.length + (j + 1):=⟨k - σ.length - 1,by lia⟩
  rw [List.getElem?_append_right (Nat.le_add_right _ _),List.getElem?_append_right (Nat.le_add_right _ _),Nat.add_sub_cancel_left]; rfl
theorem mT {τ:Sto}{xs:List V}:(cj σ xs τ).length=σ.length + (1 + τ.length):=by unfold cj; rw [List.length_append,List.length_cons,Nat.add_comm 1]
structure jZ (σ':Sto) (p:Nat) (ls:List Nat) (X:Nat→Nat→Int) (m i:Nat):Prop where
 len:ls.length=i
 row:∀ k l,ls[k]?=some l→l ≠ p ∧ σ'[l]?=some (.lst (intsV m (X k)))
theorem jZ.last {σ':Sto}{p i:Nat}{ls:List Nat}{X:Nat→Nat→Int} (R:jZ σ' p ls X m (i + 1)):∃ l,(ls.map V.ref).getLast?=some (V.ref l) ∧ σ'[l]?=some (.lst (intsV m (X i))):=by
 obtain ⟨l,hl⟩:∃ l,ls[i]?=some l:=⟨_,List.getElem?_eq_getElem (by rw [R.len]; exact Nat.lt_succ_self _)⟩
 exact ⟨l,by rw [List.getLast?_eq_getElem?,List.length_map,List.getElem?_map,R.len,Nat.add_sub_cancel,hl]; rfl,(R.row i l hl).2⟩
theorem jZ.push {τ υ:Sto}{i:Nat}{ls:List Nat}{X:Nat→Nat→Int} (R:jZ (cj σ (ls.map V.ref) τ) σ.length ls X m i):jZ (cj σ ((ls ++ [(cj σ (ls.map V.ref) τ).length]).map V.ref) (τ ++ (.lst (intsV m (X i)) :: υ))) σ.length (ls ++ [(cj σ (ls.map V.ref) τ).length]) X m (i + 1):=by
 have hne:(cj σ (ls.map V.ref) τ).length ≠ σ.length:=by rw [mT]; lia
 refine ⟨by rw [List.length_append,R.len]; rfl,fun k l' h=>?_⟩
 have e:∀ {k},k ≠ σ.length→(cj σ ((ls ++ [(cj σ (ls.map V.ref) τ).length]).map V.ref) (τ ++ (.lst (intsV m (X i)) :: υ)))[k]?=(cj σ (ls.map V.ref) τ ++ (.lst (intsV m (X i)) :: υ))[k]?:=fun hk=>by rw [jM]; exact vU hk
 by_cases hk:k < ls.length
 ·rw [List.getElem?_append_left hk] at h
  obtain ⟨h1,h2⟩:=R.row k l' h
  exact ⟨h1,by rw [e h1]; exact ap h2⟩
 ·have hk2:k=ls.length:=by
   have:=(List.getElem?_eq_some_iff.mp h).1
   rw [List.length_append] at this
   exact Nat.le_antisymm (Nat.le_of_lt_succ this) (Nat.le_of_not_lt hk)
  subst hk2
  rw [List.getElem?_append_right (Nat.le_refl _),Nat.sub_self] at h
  have:(cj σ (ls.map V.ref) τ).length=l':=Option.some.inj h
  subst this
  refine ⟨hne,?_⟩
  rw [e hne,R.len]; exact am
theorem zT {call:Nat→List V→Sto→RE}{k i:Nat}{e:E}{fr:Fra} {τ υ:Sto}{ls:List Nat}{X:Nat→Nat→Int} (hk:fr[k]?=some (some (.ref σ.length))) (R:jZ (cj σ (ls.map V.ref) τ) σ.length ls X m i) (hi:i < 16777216)
  (he:evE call e fr (cj σ (ls.map V.ref) τ)=.ok (.ref (cj σ (ls.map V.ref) τ).length) (cj (cj σ (ls.map V.ref) τ) (intsV m (X i)) υ)) :
  evSs call wf [S.expr ((E.loc k).meth .append [e])] fr (cj σ (ls.map V.ref) τ)=.ok .next fr (cj σ ((ls ++ [(cj σ (ls.map V.ref) τ).length]).map V.ref) (τ ++ (.lst (intsV m (X i)) :: υ))):=by
 have e1:cj (cj σ (ls.map V.ref) τ) (intsV m (X i)) υ=cj σ (ls.map V.ref) (τ ++ (.lst (intsV m (X i)) :: υ)):=jM
 rw [e1] at he
 rw [List.map_append]
 exact vm hk he (by rw [List.length_map,R.len]; exact hi)
theorem tu (H:iC P) (W:a9 σ l m ws) (G:aJ m ws) (ht:σ[lt]?=some (.lst (intsV m x))) {c:Nat} (hc:c ≤ 1000) :
  ∃ ls τ,evFn P wf (n + 5) 17 [.ref l,.ref lt,.int c] σ=.ok (.ref (σ.length + 1)) (cj (σ ++ [.lst (intsV m x)]) (ls.map V.ref) τ) ∧ jZ (cj (σ ++ [.lst (intsV m x)]) (ls.map V.ref) τ) (σ.length + 1) ls (cf ws x) m (c + 1) ∧ ∀ l ∈ ls,σ.length ≤ l:=by
 obtain ⟨d,lw,a,b,_⟩:=W.at'
 have hm:=G.m2
 have hlen:(σ ++ [AO.lst (intsV m x)]).length=σ.length + 1:=by rw [List.length_append]; rfl
 have e1:evE (evFn P wf (n + 4)) (E.list [E.blt .list [E.loc 1]]) (aS mG [.ref l,.ref lt,.int c]) σ=.ok (.ref (σ.length + 1)) (cj (σ ++ [.lst (intsV m x)]) [.ref σ.length] []) :=
  (bg (aa (a6 (aa (ac rfl) ae) (jo ht (by rw [bx]; lia))) ae) (ak (by decide:1 ≤ 16777216))).trans (by rw [hlen]; rfl)
 have W1:a9 (σ ++ [.lst (intsV m x)]) l m ws:=W.app
 have h0:(σ ++ [AO.lst (intsV m x)])[σ.length]?=some (.lst (intsV m x)):=am
 rw [← hlen] at e1 ⊢
 generalize hσ:σ ++ [AO.lst (intsV m x)]=σ1 at *
 have hle:σ.length ≤ σ1.length:=by rw [hlen]; exact Nat.le_add_right _ _
 obtain ⟨d,lw,a1,b1,_⟩:=W1.at'
 obtain ⟨z,e2,R,hf⟩:=sg (call:=evFn P wf (n + 4)) (wf:=wf) (tg:=[4]) (one:=true) (ws:=List.range c) (g:=fun (v:Nat)=>V.int v) (it:=E.blt .range [E.loc 2]) (bs:=uX) (σ:=cj σ1 [.ref σ.length] [])
  (F:=fun _ (z:List Nat × Sto × Option V)=>[some (.ref l),some (.ref lt),some (.int c),some (.ref σ1.length),z.2.2,none,none,none,none]) (S:=fun _ z=>cj σ1 (z.1.map V.ref) z.2.1) (J:=fun i z=>jZ (cj σ1 (z.1.map V.ref) z.2.1) σ1.length z.1 (cf ws x) m (i + 1) ∧ ∀ l ∈ z.1,σ.length ≤ l) ([σ.length],[],none)
  (a6 (aa (ac rfl) ae) (b5 (by lia))) (cE c)
  (fun i v z hv ⟨R,hf⟩=>by
   obtain ⟨hi,rfl⟩:=b8 hv
   obtain ⟨q,hq1,hq2⟩:=R.last
   obtain ⟨υ,e⟩:=jY (wf:=wf) (n:=n) (σ:=cj σ1 (z.1.map V.ref) z.2.1) H W1.app G hq2
   refine ⟨_,rfl,(_,_,some (.int i)),zT (X:=cf ws x) (i:=i + 1) rfl R (by lia) (bP (ac rfl) (ap a1) (ap b1) (aa (aD (ac rfl) (sW ai) (l9 am hq1)) ae) e),R.push,fun l hl=>?_⟩
   rcases cu hl with hl | rfl
   ·exact hf l hl
   ·rw [mT]; exact Nat.le_trans hle (Nat.le_add_right _ _))
  ⟨⟨rfl,fun k l h=>by
   cases k with
   | zero=>cases Option.some.inj h; exact ⟨by lia,ap h0⟩
   | succ k=>cases h⟩,fun l hl=>by rw [List.mem_singleton.mp hl]; exact Nat.le_refl _⟩
 rw [List.length_range] at R
 exact ⟨z.1,z.2.1,bh H.h17 rfl (aG (rH ht rfl rfl a b) (al e1 (by decide:3 < 9) (a4 e2 (aL (ac rfl))))),R,hf⟩
end
end Mine
namespace Mine
open PySem
noncomputable def mB (a b:Int):E:=E.bin .Mod (E.bin .FloorDiv (E.loc 2) (E.int a)) (E.int b)
noncomputable def xf:E:=E.comp [1] true (E.call 5 [E.loc 0,mB 8 50,E.bin .Add (E.int 1) (mB 400 5)]) [E.cmp .IsNot (E.loc 1) E.none] (E.loc 1) [none,none]
noncomputable def tq:List S:=[S.ifS ((E.loc 5).isi Ty.list) [S.expr ((E.loc 5).meth .clear [])] []]
noncomputable def stirIf (k:Int) (b:S):S:=S.ifS (E.cmp .Eq (E.loc 3) (E.int k)) [b] []
noncomputable def gg:Fn:={ ps:=[0,1,2],size:=12,body :=
 [S.asg 3 (E.bin .Mod (E.loc 2) (E.int 8)),S.asg 4 (E.list []),
  stirIf 1 (S.asg 4 ((E.loc 0).umeth 16 [E.blt .list [E.loc 1]])),
  stirIf 2 (S.asg 4 ((E.loc 0).umeth 17 [E.blt .list [E.loc 1],E.bin .Add (E.int 1) (mB 8 3)])),
  stirIf 3 (S.expr (E.call 18 [E.loc 0,E.blt .list [E.loc 1],mB 8 7])),
  stirIf 4 (S.asg 4 ((E.call 7 [E.loc 0]).sub (E.bin .Add (E.int 2) (mB 8 2)))),
  stirIf 5 (S.asg 4 xf),
  stirIf 6 (S.asg 4 ((E.loc 0).umeth 15 [E.bin .Mod (E.bin .FloorDiv (E.loc 2) (E.int 8)) (E.blt .len [E.loc 1])])),
  stirIf 7 (S.asg 4 ((((E.loc 0).umeth 14 []).attr 1).shi (E.int 0))),
  S.forS [5] true (It.e (E.loc 4)) tq,S.expr ((E.loc 4).meth .clear []),S.ret (E.bool true)] }
noncomputable def bj (l lt:Nat) (cell way:Int) (p:Nat) (x5:Option V):Fra:=[some (.ref l),some (.ref lt),some (.int cell),some (.int way),some (.ref p),x5,none,none,none,none,none,none]
def oC (σ σ':Sto) (p:Nat) (v:V):Prop:=(∃ i,v=.int i) ∨ (∃ ts,v=.tup ts) ∨ ∃ q xs,v=.ref q ∧ σ.length ≤ q ∧ q ≠ p ∧ σ'[q]?=some (.lst xs)
structure fw (σ σ':Sto) (p:Nat):Prop where
 pre:∃ τ,σ'=σ ++ τ
 new:σ.length ≤ p
 lst:∃ vs,σ'[p]?=some (.lst vs) ∧ ∀ v ∈ vs,oC σ σ' p v
section
variable {P:Nat→Option Fn}{wf n:Nat} {σ σ':Sto}{l lt m p:Nat}{ws:List Way}{x:Nat→Int}{cell way:Int}{call:Nat→List V→Sto→RE}
theorem fP {τ:Sto}{q:Nat} (h:(σ ++ τ).length ≤ q):σ.length ≤ q:=Nat.le_trans (List.Sublist.length_le (List.sublist_append_left _ _)) h
theorem fw.app (T:fw σ σ' p) (τ:Sto):fw σ (σ' ++ τ) p:=by
 obtain ⟨⟨τ0,rfl⟩,h1,vs,h2,h3⟩:=T
 refine ⟨⟨_,List.append_assoc _ _ _⟩,h1,vs,ap h2,fun v hv=>?_⟩
 rcases h3 v hv with h | h | ⟨q,xs,a,b,c,d⟩
 ·exact .inl h
 ·exact .inr (.inl h)
 ·exact .inr (.inr ⟨q,xs,a,b,c,ap d⟩)
theorem fw.of {vs:List V} (T:fw σ σ' p) {τ:Sto}{q:Nat} (hq:σ'.length ≤ q) (h:(σ' ++ τ)[q]?=some (.lst vs)) (hv:∀ v ∈ vs,oC σ (σ' ++ τ) q v):fw σ (σ' ++ τ) q:=by
 obtain ⟨⟨τ0,rfl⟩,_⟩:=T
 exact ⟨⟨_,List.append_assoc _ _ _⟩,fP hq,vs,h,hv⟩
theorem lf {y:Nat→Int}{q:Nat}:∀ v ∈ intsV m y,oC σ σ' q v:=fun v hv=>by
 obtain ⟨k,_,rfl⟩:=List.mem_map.mp hv
 exact .inl ⟨_,rfl⟩
theorem pc {r:List Nat}{q:Nat}:∀ v ∈ natsV r,oC σ σ' q v:=fun v hv=>by
 obtain ⟨k,_,rfl⟩:=List.mem_map.mp hv
 exact .inl ⟨_,rfl⟩
theorem ed (T:fw σ σ' p) {k:Int}{b:S} (hb:∃ p' σ2,evSs call wf [b] (bj l lt cell way p none) σ'=.ok .next (bj l lt cell way p' none) σ2 ∧ fw σ σ2 p') :
  ∃ p' σ2,fw σ σ2 p' ∧ ∀ ss r,evSs call wf ss (bj l lt cell way p' none) σ2=r→evSs call wf (stirIf k b :: ss) (bj l lt cell way p none) σ'=r:=by
 by_cases h:way=k
 ·obtain ⟨p',σ2,e,T2⟩:=hb
  exact ⟨p',σ2,T2,fun ss r hr=>d4 (aE (p:=true) (ac rfl) ai (congrArg some (beq_iff_eq.mpr h))) e hr⟩
 ·exact ⟨p,σ',T,fun ss r hr=>aG (aE (p:=false) (ac rfl) ai (congrArg some (beq_eq_false_iff_ne.mpr h))) hr⟩
theorem iB {a q:Nat} (ha:1 ≤ a) (hb:a < 10 ^ 100) (hq:1 ≤ q) {fr:Fra} (h2:fr[2]?=some (some (.int cell))):∃ k:Nat,k < q ∧ ∀ σ,evE call (mB a q) fr σ=.ok (.int k) σ:=by
 obtain ⟨k,hk,ek⟩:=bB q hq (cell.fdiv a)
 exact ⟨k,hk,fun σ=>ar (ar (ac h2) ai (eR (by lia) (by lia))) ai ((br (by lia)).trans (congrArg (fun z=>RE.ok (.int z) _) ek))⟩
end
end Mine
namespace Mine
open PySem
structure fE (P:Nat→Option Fn) (wf:Nat) (σ:Sto) (l lt m:Nat) (ws:List Way) (x:Nat→Int):Prop where
 T:iC P
 h18:P 18=some cq
 H:rO P
 HW:l0 P
 h14:P 14=some ff
 W:a9 σ l m ws
 G:aJ m ws
 ht:σ[lt]?=some (.lst (intsV m x))
 hw:9999 * 27720 < wf
section
variable {P:Nat→Option Fn}{wf n:Nat} {σ σ':Sto}{l lt m p:Nat}{ws:List Way}{x:Nat→Int}{cell way:Int}
theorem fE.app (X:fE P wf σ l lt m ws x) (T:fw σ σ' p):fE P wf σ' l lt m ws x:=by
 obtain ⟨⟨τ,rfl⟩,_⟩:=T
 exact ⟨X.T,X.h18,X.H,X.HW,X.h14,X.W.app,X.G,ap X.ht,X.hw⟩
theorem fE.copy (X:fE P wf σ l lt m ws x) {fr:Fra}{call:Nat→List V→Sto→RE} (h1:fr[1]?=some (some (.ref lt))):evE call (E.blt .list [E.loc 1]) fr σ=.ok (.ref σ.length) (σ ++ [.lst (intsV m x)]) :=
 a6 (aa (ac h1) ae) (jo X.ht (by rw [bx]; exact Nat.le_trans X.G.m2 (by decide)))
theorem A5 (X:fE P wf σ' l lt m ws x) (T:fw σ σ' p):∃ p' σ2,evSs (evFn P wf (n + 5)) wf [S.asg 4 ((E.loc 0).umeth 16 [E.blt .list [E.loc 1]])] (bj l lt cell way p none) σ'=.ok .next (bj l lt cell way p' none) σ2 ∧ fw σ σ2 p':=by
 obtain ⟨d,lw,a,b,_⟩:=X.W.at'
 obtain ⟨υ,e⟩:=jY (wf:=wf) (n:=n + 1) (σ:=σ' ++ [.lst (intsV m x)]) (x:=x) X.T X.W.app X.G am
 have ea:cj (σ' ++ [AO.lst (intsV m x)]) (intsV m (fi ws x)) υ=σ' ++ ([AO.lst (intsV m x)] ++ .lst (intsV m (fi ws x)) :: υ):=List.append_assoc _ _ _
 have h:(cj (σ' ++ [AO.lst (intsV m x)]) (intsV m (fi ws x)) υ)[(σ' ++ [AO.lst (intsV m x)]).length]?=some (.lst (intsV m (fi ws x))):=am
 rw [ea] at e h
 exact ⟨_,_,al (bP (ac rfl) a b (aa (X.copy rfl) ae) e) (by decide:4 < 12) aY,T.of (fP (Nat.le_refl _)) h lf⟩
theorem Ai (X:fE P wf σ' l lt m ws x) (T:fw σ σ' p):∃ p' σ2,evSs (evFn P wf (n + 5)) wf [S.asg 4 ((E.loc 0).umeth 17 [E.blt .list [E.loc 1],E.bin .Add (E.int 1) (mB 8 3)])] (bj l lt cell way p none) σ'=.ok .next (bj l lt cell way p' none) σ2 ∧ fw σ σ2 p':=by
 obtain ⟨d,lw,a,b,_⟩:=X.W.at'
 obtain ⟨k,hk,ek⟩:=iB (call:=evFn P wf (n + 5)) (a:=8) (q:=3) (cell:=cell) (fr:=bj l lt cell way p none) (by decide) (by decide) (by decide) rfl
 obtain ⟨ls,τ,e,R,hf⟩:=tu (wf:=wf) (n:=n) (σ:=σ' ++ [.lst (intsV m x)]) (x:=x) (c:=1 + k) X.T X.W.app X.G am (by lia)
 have ea:cj (σ' ++ [AO.lst (intsV m x)] ++ [AO.lst (intsV m x)]) (ls.map V.ref) τ=σ' ++ ([AO.lst (intsV m x)] ++ ([AO.lst (intsV m x)] ++ .lst (ls.map V.ref) :: τ)):=by unfold cj; rw [List.append_assoc,List.append_assoc]
 have hlen:(σ' ++ [AO.lst (intsV m x)] ++ [AO.lst (intsV m x)]).length=(σ' ++ [AO.lst (intsV m x)]).length + 1:=by rw [List.length_append]; rfl
 have h:(cj (σ' ++ [AO.lst (intsV m x)] ++ [AO.lst (intsV m x)]) (ls.map V.ref) τ)[(σ' ++ [AO.lst (intsV m x)]).length + 1]?=some (.lst (ls.map V.ref)):=by rw [← hlen]; exact am
 rw [ea] at e h R
 refine ⟨_,_,al (bP (ac rfl) a b (aa (X.copy rfl) (aa (ar ai (ek _) (rfl:_=RE.ok (.int ((1 + k:Nat):Int)) _)) ae)) e) (by decide:4 < 12) aY,T.of (Nat.le_trans (fP (Nat.le_refl _)) (Nat.le_add_right _ _)) h fun v hv=>?_⟩
 obtain ⟨q,hq,rfl⟩:=List.mem_map.mp hv
 obtain ⟨i,hi⟩:=List.getElem?_of_mem hq
 obtain ⟨h1,h2⟩:=R.row i q hi
 obtain ⟨⟨τ0,rfl⟩,_⟩:=T
 exact .inr (.inr ⟨q,_,rfl,fP (fP (hf q hq)),h1,h2⟩)
theorem z0 (X:fE P wf σ' l lt m ws x) (T:fw σ σ' p):∃ p' σ2,evSs (evFn P wf (n + 5)) wf [S.expr (E.call 18 [E.loc 0,E.blt .list [E.loc 1],mB 8 7])] (bj l lt cell way p none) σ'=.ok .next (bj l lt cell way p' none) σ2 ∧ fw σ σ2 p':=by
 obtain ⟨k,hk,ek⟩:=iB (call:=evFn P wf (n + 5)) (a:=8) (q:=7) (cell:=cell) (fr:=bj l lt cell way p none) (by decide) (by decide) (by decide) rfl
 obtain ⟨w,τ,e,_⟩:=oS (wf:=wf) (n:=n) (σ:=σ' ++ [.lst (intsV m x)]) (lt:=σ'.length) (x:=x) (most:=k) X.T X.h18 X.W.app X.G am (by lia)
 exact ⟨p,_,bi (aF (aa (ac rfl) (aa (X.copy rfl) (aa (ek _) ae))) e) aY,(T.app _).app _⟩
theorem Ad (X:fE P wf σ' l lt m ws x) (T:fw σ σ' p):∃ p' σ2,evSs (evFn P wf (n + 5)) wf [S.asg 4 ((E.call 7 [E.loc 0]).sub (E.bin .Add (E.int 2) (mB 8 2)))] (bj l lt cell way p none) σ'=.ok .next (bj l lt cell way p' none) σ2 ∧ fw σ σ2 p':=by
 obtain ⟨k,hk,ek⟩:=iB (call:=evFn P wf (n + 5)) (a:=8) (q:=2) (cell:=cell) (fr:=bj l lt cell way p none) (by decide) (by decide) (by decide) rfl
 obtain ⟨v,σ5,e5,N,D,lr,r,ls,SS,τ5,R⟩:=wN (wf:=wf) (n:=n) X.H X.W X.G.ok X.hw
 have go:∀ {q:Nat}{vs:List V},lm (.tup [.int N,.int D,.ref lr,.ref ls]) (.int ((2 + k:Nat):Int)) (σ' ++ τ5)=some (.ref q)→σ'.length ≤ q→(σ' ++ τ5)[q]?=some (.lst vs)→(∀ v ∈ vs,oC σ (σ' ++ τ5) q v)→∃ p' σ2,evSs (evFn P wf (n + 5)) wf [S.asg 4 ((E.call 7 [E.loc 0]).sub (E.bin .Add (E.int 2) (mB 8 2)))] (bj l lt cell way p none) σ'=.ok .next (bj l lt cell way p' none) σ2 ∧ fw σ σ2 p':=fun h1 h2 h3 h4 =>
  ⟨_,_,al (aD (aF (aa (ac rfl) ae) e5) (ar ai (ek _) (rfl:_=RE.ok (.int ((2 + k:Nat):Int)) _)) h1) (by decide:4 < 12) aY,T.of h2 h3 h4⟩
 rcases k with _ | _ | k
 ·exact go rfl R.fresh.1 R.ring pc
 ·exact go rfl R.fresh.2 R.start lf
 ·lia
theorem Ba (X:fE P wf σ' l lt m ws x) (T:fw σ σ' p):∃ p' σ2,evSs (evFn P wf (n + 5)) wf [S.asg 4 xf] (bj l lt cell way p none) σ'=.ok .next (bj l lt cell way p' none) σ2 ∧ fw σ σ2 p':=by
 obtain ⟨k,hk,ek⟩:=iB (call:=evFn P wf (n + 5)) (a:=8) (q:=50) (cell:=cell) (fr:=bj l lt cell way p none) (by decide) (by decide) (by decide) rfl
 obtain ⟨j,hj,ej⟩:=iB (call:=evFn P wf (n + 5)) (a:=400) (q:=5) (cell:=cell) (fr:=bj l lt cell way p none) (by decide) (by decide) (by decide) rfl
 obtain ⟨v,σ2,e2,res⟩:=iw (wf:=wf) (n:=n + 2) (num:=k) (div:=1 + j) X.H.h3 X.H.h4 X.H.h5 X.W X.G.m1 X.G.m2 (by lia) (fun _ _=>.inl (by lia)) X.G.hm (Nat.le_trans (by decide) (Nat.le_of_lt X.hw))
 have ec:evE (evFn P wf (n + 5)) (E.call 5 [E.loc 0,mB 8 50,E.bin .Add (E.int 1) (mB 400 5)]) (bj l lt cell way p none) σ'=.ok v σ2 :=
  aF (aa (ac rfl) (aa (ek _) (aa (ar ai (ej _) (rfl:_=RE.ok (.int ((1 + j:Nat):Int)) _)) ae))) e2
 have go:∀ {q:Nat}{vs:List V} {τ:Sto}{us:List V},evE (evFn P wf (n + 5)) (E.call 5 [E.loc 0,mB 8 50,E.bin .Add (E.int 1) (mB 400 5)]) (bj l lt cell way p none) σ'=.ok (.tup us) (σ' ++ τ)→((us.filter fun v=>!isNone v).map id)=[V.ref q]→us.length=2→σ'.length ≤ q→(σ' ++ τ)[q]?=some (.lst vs)→∃ p' σ2,evSs (evFn P wf (n + 5)) wf [S.asg 4 xf] (bj l lt cell way p none) σ'=.ok .next (bj l lt cell way p' none) σ2 ∧ fw σ σ2 p':=by
  intro q vs τ us ec hus hl hq hv
  have e3:=wc (tg:=[1]) (one:=true) (cs:=[E.cmp .IsNot (E.loc 1) E.none]) (el:=E.loc 1) (frm:=[none,none]) (ws:=us) (g:=id) (p:=fun v=>!isNone v) (f:=id) (r:=.ok (.ref (σ' ++ τ).length) (σ' ++ τ ++ [.lst [V.ref q]])) ec (List.map_id _).symm (fun v hv=>⟨_,rfl,oJ (aE (ac rfl) cY rfl),fun _=>ac rfl⟩) (by rw [hus]; exact ak (by decide:1 ≤ 16777216))
  have hne:q ≠ (σ' ++ τ).length:=Nat.ne_of_lt (List.getElem?_eq_some_iff.mp hv).1
  rw [List.append_assoc] at e3
  refine ⟨_,_,al e3 (by decide:4 < 12) aY,T.of (fP (Nat.le_refl _)) (by rw [← List.append_assoc]; exact am) fun v hv'=>?_⟩
  rw [List.mem_singleton.mp hv']
  refine .inr (.inr ⟨q,vs,rfl,?_,hne,by rw [← List.append_assoc]; exact ap hv⟩)
  exact T.pre.elim fun τ0 q0=>fP (τ:=τ0) (by rw [← q0]; exact hq)
 cases res with
 | none ls S τ h hs hf=>exact go ec rfl rfl hf h
 | ring lr r τ h R hlt hmin hf=>exact go ec rfl rfl hf h
theorem Bc (X:fE P wf σ' l lt m ws x) (T:fw σ σ' p):∃ p' σ2,evSs (evFn P wf (n + 5)) wf [S.asg 4 ((E.loc 0).umeth 15 [E.bin .Mod (E.bin .FloorDiv (E.loc 2) (E.int 8)) (E.blt .len [E.loc 1])])] (bj l lt cell way p none) σ'=.ok .next (bj l lt cell way p' none) σ2 ∧ fw σ σ2 p':=by
 obtain ⟨d,lw,a,b,_⟩:=X.W.at'
 obtain ⟨k,hk,ek⟩:=bB m X.G.m1 (cell.fdiv 8)
 have e:=qS (wf:=wf) (n:=n + 2) X.T X.W X.G.hz hk
 have hl:gA .len [.ref lt] σ'=.ok (.int m) σ':=by have:=dp X.ht; rwa [bx] at this
 refine ⟨_,_,al (bP (ac rfl) a b (aa (ar (ar (ac rfl) ai (eR (by decide) (by decide))) (a6 (aa (ac rfl) ae) hl) ((br (by have:=X.G.m1; lia)).trans (congrArg (fun z=>RE.ok (.int z) _) ek))) ae) e) (by decide:4 < 12) aY,T.of (Nat.le_refl _) am fun v hv=>?_⟩
 obtain ⟨w,_,rfl⟩:=List.mem_map.mp hv
 exact .inr (.inl ⟨_,rfl⟩)
theorem Az (X:fE P wf σ' l lt m ws x) (T:fw σ σ' p):∃ p' σ2,evSs (evFn P wf (n + 5)) wf [S.asg 4 ((((E.loc 0).umeth 14 []).attr 1).shi (E.int 0))] (bj l lt cell way p none) σ'=.ok .next (bj l lt cell way p' none) σ2 ∧ fw σ σ2 p':=by
 obtain ⟨d,lw,a,b,_⟩:=X.W.at'
 obtain ⟨l',τ,e,W'⟩:=kZ (wf:=wf) (n:=n + 1) X.HW X.h14 X.W X.G (Nat.le_trans (by decide) (Nat.le_of_lt X.hw))
 obtain ⟨d',lw',a',b',c'⟩:=W'.at'
 have e1:evE (evFn P wf (n + 5)) ((((E.loc 0).umeth 14 []).attr 1).shi (E.int 0)) (bj l lt cell way p none) σ'=.ok (.ref (σ' ++ τ).length) (σ' ++ τ ++ [.lst []]) :=
  we (k:=0) (cD (bP (ac rfl) a b ae e) (cK a' b')) ai (ag c') (ak (Nat.zero_le _))
 rw [List.append_assoc] at e1
 exact ⟨_,_,al e1 (by decide:4 < 12) aY,T.of (vs:=[]) (fP (Nat.le_refl _)) (by rw [← List.append_assoc]; exact am) (fun v hv=>nomatch hv)⟩
theorem mw {q:Nat}{xs:List V} (h:σ[q]?=some (.lst xs)):vI .list (.ref q) σ=some true:=by
 show ((getL σ q).map fun _=>4).map _=_; rw [ag h]; rfl
theorem pg {τ:Sto}{q:Nat}{o:AO} (h:σ.length ≤ q):(σ ++ τ).set q o=σ ++ τ.set (q - σ.length) o:=List.set_append_right _ _ h
structure Clr (σ:Sto) (l lt:Nat) (cell way:Int) (p:Nat) (vs:List V) (i:Nat) (fr:Fra) (σ':Sto):Prop where
 ex:∃ x5 τ,fr=bj l lt cell way p x5 ∧ σ'=σ ++ τ ∧ σ'[p]?=some (.lst vs) ∧ ∀ v ∈ vs,oC σ σ' p v
theorem tc {call:Nat→List V→Sto→RE}{vs:List V}{i:Nat}{v:V} (hv:vs[i]?=some v) {fr:Fra} (I:Clr σ l lt cell way p vs i fr σ'):m6 [5] true (evSs call wf tq) (id v) fr σ' (Clr σ l lt cell way p vs (i + 1)) (fun _ _=>False):=by
 obtain ⟨x5,τ,rfl,rfl,hp,hT⟩:=I
 refine ⟨bj l lt cell way p (some v),rfl,.inl ?_⟩
 have skip:vI .list v (σ ++ τ)=some false→Nxt (evSs call wf tq (bj l lt cell way p (some v)) (σ ++ τ)) (Clr σ l lt cell way p vs (i + 1)):=fun h =>
  ⟨_,_,aG (gK (ac rfl) h) aY,_,τ,rfl,rfl,hp,hT⟩
 rcases hT v (List.mem_of_getElem? hv) with ⟨i,rfl⟩ | ⟨ts,rfl⟩ | ⟨q,xs,rfl,h1,h2,h3⟩
 ·exact skip rfl
 ·exact skip rfl
 ·have hi:=mw h3
  refine ⟨_,_,d4 (gK (ac rfl) hi) (bi (de (ac rfl) (ag h3) ae (ag h3) (rfl:dW .clear q xs [] (σ ++ τ)=.ok .none (dq (σ ++ τ) q []))) aY) aY,_,_,rfl,pg h1,?_,fun u hu=>?_⟩
  ·unfold dq; rw [List.getElem?_set_ne h2]; exact hp
  ·rcases hT u hu with h | h | ⟨q2,xs2,rfl,k1,k2,k3⟩
   ·exact .inl h
   ·exact .inr (.inl h)
   ·by_cases hq:q=q2
    ·subst hq
     exact .inr (.inr ⟨q,[],rfl,k1,k2,List.getElem?_set_self (List.getElem?_eq_some_iff.mp k3).1⟩)
    ·exact .inr (.inr ⟨q2,xs2,rfl,k1,k2,by unfold dq; rw [List.getElem?_set_ne hq]; exact k3⟩)
theorem oM (h19:P 19=some gg) (X:fE P wf σ l lt m ws x):∃ τ,evFn P wf (n + 6) 19 [.ref l,.ref lt,.int cell] σ=.ok (.bool true) (σ ++ τ):=by
 have T0:fw σ (σ ++ [.lst []]) σ.length:=⟨⟨_,rfl⟩,Nat.le_refl _,[],am,fun v hv=>nomatch hv⟩
 obtain ⟨p1,σ1,T1,e1⟩:=ed (call:=evFn P wf (n + 5)) (wf:=wf) (l:=l) (lt:=lt) (cell:=cell) (way:=cell.fmod 8) (k:=1) T0 (A5 (n:=n) (X.app T0) T0)
 obtain ⟨p2,σ2,T2,e2⟩:=ed (call:=evFn P wf (n + 5)) (wf:=wf) (l:=l) (lt:=lt) (cell:=cell) (way:=cell.fmod 8) (k:=2) T1 (Ai (n:=n) (X.app T1) T1)
 obtain ⟨p3,σ3,T3,e3⟩:=ed (call:=evFn P wf (n + 5)) (wf:=wf) (l:=l) (lt:=lt) (cell:=cell) (way:=cell.fmod 8) (k:=3) T2 (z0 (n:=n) (X.app T2) T2)
 obtain ⟨p4,σ4,T4,e4⟩:=ed (call:=evFn P wf (n + 5)) (wf:=wf) (l:=l) (lt:=lt) (cell:=cell) (way:=cell.fmod 8) (k:=4) T3 (Ad (n:=n) (X.app T3) T3)
 obtain ⟨p5,σ5,T5,e5⟩:=ed (call:=evFn P wf (n + 5)) (wf:=wf) (l:=l) (lt:=lt) (cell:=cell) (way:=cell.fmod 8) (k:=5) T4 (Ba (n:=n) (X.app T4) T4)
 obtain ⟨p6,σ6,T6,e6⟩:=ed (call:=evFn P wf (n + 5)) (wf:=wf) (l:=l) (lt:=lt) (cell:=cell) (way:=cell.fmod 8) (k:=6) T5 (Bc (n:=n) (X.app T5) T5)
 obtain ⟨p,σ7,T7,e7⟩:=ed (call:=evFn P wf (n + 5)) (wf:=wf) (l:=l) (lt:=lt) (cell:=cell) (way:=cell.fmod 8) (k:=7) T6 (Az (n:=n) (X.app T6) T6)
 obtain ⟨⟨τ7,rfl⟩,hp,vs,h7,hT⟩:=T7
 obtain ⟨fr8,σ8,e8,x5,τ8,rfl,rfl,h8,_⟩:=(kE (call:=evFn P wf (n + 5)) (wf:=wf) (tg:=[5]) (one:=true) (ws:=vs) (g:=id) (it:=E.loc 4) (bs:=tq) (fr:=bj l lt cell (cell.fmod 8) p none) (σ:=σ ++ τ7)
  (Clr σ l lt cell (cell.fmod 8) p vs) (fun _ _=>False) (ac rfl) (by rintro i _ _ ⟨x5,τ,rfl,rfl,h,_⟩; rw [List.map_id]; exact ag h) (fun i v fr σ' hv I=>tc hv I) ⟨none,τ7,rfl,rfl,h7,hT⟩).next
 refine ⟨τ8.set (p - σ.length) (.lst []),bh (fr':=bj l lt cell (cell.fmod 8) p x5) h19 rfl (al (ar (ac rfl) ai (br (by decide))) (by decide:3 < 12) (al (bg ae (ak (by decide:0 ≤ 16777216))) (by decide:4 < 12) (e1 _ _ (e2 _ _ (e3 _ _ (e4 _ _ (e5 _ _ (e6 _ _ (e7 _ _ (a4 e8 (bi (de (ac rfl) (ag h8) ae (ag h8) (rfl:dW .clear p vs [] (σ ++ τ8)=.ok .none (dq (σ ++ τ8) p []))) ?_)))))))))))⟩
 unfold dq
 rw [pg hp]
 exact aL d3
end
end Mine
namespace Mine
open PySem
section
variable {P:Nat→Option Fn}{wf n:Nat} {σ:Sto}{m lw lr:Nat}{ws:List Way}{r:List Nat}
theorem xX {l:Nat}{is:List Nat}{i:Int} (h:σ[l]?=some (.lst (is.map fun (d:Nat)=>V.int d))) (h2:gV (is.map fun (d:Nat)=>(d:Int))=some i):gA .max [.ref l] σ=.ok (.int i) σ:=by
 show bS σ ((((getL σ l).bind aA).bind gV).map V.int)=_
 rw [ag h]
 show bS σ (((aA (is.map fun (d:Nat)=>V.int d)).bind gV).map V.int)=_
 rw [bN]
 show bS σ ((gV (is.map fun (d:Nat)=>(d:Int))).map V.int)=_
 rw [h2]; rfl
theorem xM {l k:Nat}{is:List Nat} (h:σ[l]?=some (.lst (is.map fun (d:Nat)=>V.int d))) (hk:σ[k]?=some (.lst [])):gq .Eq (.ref l) (.ref k) σ=some is.isEmpty:=by
 have h1:aQ (toD 4 σ) (is.map fun (d:Nat)=>V.int d)=some (is.map fun (d:Nat)=>PyData.int d):=cO fun _ _=>rfl
 refine (gJ h h1 hk).trans ?_
 cases is <;> rfl
end
end Mine
namespace Mine
set_option backward.match.sparseCases false
open PySem
end Mine
namespace Mine
open PySem
noncomputable def sN:Fn:={ ps:=[0],size:=3,body :=
 [S.asg 1 (E.call 20 [E.loc 0,E.int 0]),S.ifS (E.cmp .Eq (E.bin .Mod (E.bin .FloorDiv (E.loc 1) (E.int 6)) (E.int 8)) (E.int 1)) [S.ret (E.bin .Add (E.int 7) (E.bin .Mod (E.bin .FloorDiv (E.loc 1) (E.int 48)) (E.int 6)))] [],
  S.ret (E.bin .Add (E.int 1) (E.bin .Mod (E.loc 1) (E.int 6)))] }
noncomputable def dK:List S:=[S.asg 6 (E.bin .Mod (E.call 20 [E.loc 0,E.int 2]) (E.blt .len [E.loc 3])),S.ret (E.bin .Add ((E.loc 3).slo (E.loc 6)) ((E.loc 3).shi (E.loc 6)))]
noncomputable def dN:Fn:={ ps:=[0],size:=4,body :=
 [S.ret (((E.loc 0).isi Ty.list).and ((E.cmp .NotEq (E.loc 0) (E.list [])).and (E.blt .all [E.comp [1] true (E.loc 0) [] (E.call 21 [E.loc 1]) [none,none,none]])))] }
noncomputable def vE:List S:=[S.ifS (E.cmp .Lt ((E.loc 0).sub (E.loc 6)) (E.bin .Sub (E.bin .Add ((E.loc 0).sub (E.loc 5)) (E.bin .Mult (E.loc 4) (E.loc 7))) (E.loc 3))) [S.ret (E.bool false)] []]
noncomputable def fJ:Fn:={ ps:=[0,1,2,3,4],size:=10,body :=
 [S.ifS ((E.call 29 [E.loc 0]).not.or (E.cmp .NotEq (E.blt .len [E.loc 0]) (E.loc 2))) [S.ret (E.bool false)] [],S.forS [5,6,7] false (It.e (E.loc 1)) vE,S.ret (E.bool true)] }
theorem bO.rot {m M K k:Nat}{ws:List Way} (L:bO m M K ws):bO m M K (ws.drop k ++ ws.take k):=by
 have hm:∀ {w},w ∈ ws.drop k ++ ws.take k→w ∈ ws:=fun h=>cr.mem_iff.mp h
 exact ⟨by rw [cr.length_eq]; exact L.len,fun w hw=>L.ends w (hm hw),fun w hw=>L.del w (hm hw),fun a b ha hb=>(L.sc a b ha hb).mono fun w hw=>cr.mem_iff.mpr hw,fun q=>L.ne (List.length_eq_zero_iff.mp ((cr (R:=ws) (k:=k)).length_eq.symm.trans (by rw [q]; rfl)))⟩
section
variable {P:Nat→Option Fn}{wf n:Nat} {σ:Sto}{m lw lr:Nat}{ws:List Way}{r:List Nat}
theorem xe (h20:P 20=some fo) (h24:P 24=some sN) {sc:List Int} (hs:aM σ sc):∃ m:Nat,1 ≤ m ∧ m ≤ 12 ∧ evFn P wf (n + 2) 24 [.ref 0] σ=.ok (.int m) σ:=by
 have ec:evE (evFn P wf (n + 1)) (E.call 20 [E.loc 0,E.int 0]) (aS sN [.ref 0]) σ=.ok (.int (sc.getD 0 0)) σ:=aF (aa (ac rfl) (aa ai ae)) (eg h20 hs 0)
 generalize sc.getD 0 0=c at ec
 obtain ⟨k,hk,ek⟩:=bB 6 (by decide) (c.fdiv 48)
 obtain ⟨j,hj,ej⟩:=bB 6 (by decide) c
 have e1:∀ b,(Int.fmod (c.fdiv 6) 8 == 1)=b→evE (evFn P wf (n + 1)) (E.cmp .Eq (E.bin .Mod (E.bin .FloorDiv (E.loc 1) (E.int 6)) (E.int 8)) (E.int 1)) [some (.ref 0),some (.int c),none] σ=.ok (.bool b) σ:=fun b hb=>aE (ar (ar (ac rfl) ai (eR (by decide) (by decide))) ai (br (by decide))) ai (congrArg some hb)
 cases hb:(Int.fmod (c.fdiv 6) 8 == 1) with
 | true=>exact ⟨7 + k,by lia,by lia,bh h24 rfl (al ec (by decide:1 < 3) (cP (e1 _ hb) (aL (ar ai (ar (ar (ac rfl) ai (eR (by decide) (by decide))) ai ((br (by decide)).trans (congrArg (fun z=>RE.ok (.int z) _) ek))) (rfl:_=RE.ok (.int ((7 + k:Nat):Int)) _)))))⟩
 | false=>exact ⟨1 + j,by lia,by lia,bh h24 rfl (al ec (by decide:1 < 3) (aG (e1 _ hb) (aL (ar ai (ar (ac rfl) ai ((br (by decide)).trans (congrArg (fun z=>RE.ok (.int z) _) ej))) (rfl:_=RE.ok (.int ((1 + j:Nat):Int)) _)))))⟩
theorem xV {l k:Nat}{is:List Int} (h:σ[l]?=some (.lst (is.map V.int))) (hk:σ[k]?=some (.lst [])):gq .NotEq (.ref l) (.ref k) σ=some (!is.isEmpty):=by
 have h1:aQ (toD 4 σ) (is.map V.int)=some (is.map PyData.int):=cO fun _ _=>rfl
 show (eqV σ (.ref l) (.ref k)).map (!·)=_
 rw [gJ h h1 hk]
 cases is <;> rfl
theorem uz {α:Type} (is:List α):su (is.map fun _=>V.bool true)=some true:=by
 induction is with
 | nil=>rfl
 | cons i is ih =>
  show (match su (is.map fun _=>V.bool true) with | some c=>some (true && c) | none=>none)=_
  rw [ih]; rfl
theorem xQ (h21:P 21=some gT) {it:E}{fr:Fra}{l:Nat}{is:List Int} (he:evE (evFn P wf (n + 1)) it fr σ=.ok (.ref l) σ) (h:σ[l]?=some (.lst (is.map V.int))) (hz:is.length ≤ 1000) :
  evE (evFn P wf (n + 1)) (E.blt .all [E.comp [1] true it [] (E.call 21 [E.loc 1]) [none,none,none]]) fr σ=.ok (.bool true) (σ ++ [AO.lst (is.map fun _=>V.bool true)]):=by
 refine a6 (aa (eI (ws:=is) (g:=V.int) (p:=fun _=>true) (f:=fun _=>V.bool true) (r:=.ok (.ref σ.length) (σ ++ [AO.lst (is.map fun _=>V.bool true)])) he (ag h) (fun v hv=>⟨_,rfl,uc,fun _=>aF (aa (ac rfl) ae) (t4 h21)⟩) ?_) ae) ?_
 ·rw [List.filter_eq_self.mpr (fun _ _=>rfl)]
  exact ak (by rw [List.length_map]; exact Nat.le_trans hz (by decide))
 ·show bS _ (((getL (σ ++ [AO.lst (is.map fun _=>V.bool true)]) σ.length).bind su).map V.bool)=_
  rw [ag am]
  show bS _ ((su (is.map fun _=>V.bool true)).map V.bool)=_
  rw [uz]; rfl
theorem i4 (h21:P 21=some gT) (h29:P 29=some dN) {l:Nat}{is:List Int} (h:σ[l]?=some (.lst (is.map V.int))) (hne:is ≠ []) (hz:is.length ≤ 1000):∃ τ,evFn P wf (n + 2) 29 [.ref l] σ=.ok (.bool true) (σ ++ τ):=by
 have hn:gq .NotEq (.ref l) (.ref σ.length) (σ ++ [.lst []])=some true:=(xV (ap h) am).trans (by
  cases is with
  | nil=>exact absurd rfl hne
  | cons i is=>rfl)
 have ec:=xQ (wf:=wf) (n:=n) (fr:=aS dN [.ref l]) (it:=E.loc 0) (σ:=σ ++ [AO.lst []]) h21 (ac rfl) (ap h) hz
 rw [List.append_assoc] at ec
 exact ⟨_,bh h29 rfl (aL (dC (gK (ac rfl) (mw h)) (dC (aE (ac rfl) (bg ae (ak (by decide:0 ≤ 16777216))) hn) ec)))⟩
theorem oR {r:List Nat}:natsV r=(r.map fun (d:Nat)=>(d:Int)).map V.int:=by unfold natsV; rw [List.map_map]; rfl
theorem jX (h21:P 21=some gT) (h29:P 29=some dN) (h31:P 31=some fJ) (hlw:σ[lw]?=some (.lst (ws.map wayV))) (G:aJ m ws) {ls:Nat}{Z:Nat→Int} (hS:σ[ls]?=some (.lst (intsV m Z))) {N D:Nat} (hD:∀ w ∈ ws,fW (D:Int) (w.2.2:Int)) (hs:∀ w ∈ ws,cM N D Z w) :
  ∃ τ,evFn P wf (n + 3) 31 [.ref ls,.ref lw,.int m,.int N,.int D] σ=.ok (.bool true) (σ ++ τ):=by
 have hm:=G.m2
 obtain ⟨τ1,e1⟩:=i4 (wf:=wf) (n:=n) (is:=(List.range m).map Z) h21 h29 (by rw [List.map_map]; exact hS) (fun q=>by
  have:=congrArg List.length q
  rw [List.length_map,List.length_range] at this
  have:m=0:=this
  have:=G.m1
  lia) (by rw [List.length_map,List.length_range]; lia)
 have hlen:gA .len [.ref ls] (σ ++ τ1)=.ok (.int m) (σ ++ τ1):=by
  have:=dp (ap (τ:=τ1) hS)
  rwa [bx] at this
 obtain ⟨fr2,σ2,e2,x5,x6,x7,rfl,rfl⟩:=(kE (call:=evFn P wf (n + 2)) (wf:=wf) (tg:=[5,6,7]) (one:=false) (ws:=ws) (g:=wayV) (it:=E.loc 1) (bs:=vE) (fr:=[some (.ref ls),some (.ref lw),some (.int m),some (.int N),some (.int D),none,none,none,none,none]) (σ:=σ ++ τ1)
  (fun i fr σ'=>∃ x5 x6 x7:Option V,fr=[some (.ref ls),some (.ref lw),some (.int m),some (.int N),some (.int D),x5,x6,x7,none,none] ∧ σ'=σ ++ τ1) (fun _ _=>False) (ac rfl) (by rintro i _ _ ⟨_,_,_,rfl,rfl⟩; exact ag (ap hlw))
  (by
   rintro i w _ _ hw ⟨x5,x6,x7,rfl,rfl⟩
   have hwm:=List.mem_of_getElem? hw
   have h1:=G.hm w hwm
   have h2:Z w.1 + (D:Int) * (w.2.2:Int) - (N:Int) ≤ Z w.2.1:=hs w hwm
   exact ⟨_,rfl,.inl ⟨_,_,aG (aE (p:=false) (aD (ac rfl) (ac rfl) (a7 (ap hS) (bI h1.2))) (ar (ar (aD (ac rfl) (ac rfl) (a7 (ap hS) (bI h1.1))) (ar (ac rfl) (ac rfl) (Ag (hD w hwm))) rfl) (ac rfl) rfl) (congrArg some (decide_eq_false (Int.not_lt.mpr h2)))) aY,_,_,_,rfl,rfl⟩⟩) ⟨none,none,none,rfl,rfl⟩).next
 exact ⟨τ1,bh h31 rfl (aG (d6 (dc (aF (aa (ac rfl) ae) e1)) (aE (a6 (aa (ac rfl) ae) hlen) (ac rfl) gB)) (a4 e2 (aL d3)))⟩
end
end Mine
namespace Mine
open PySem
section
variable {m h:Nat}{ws:List Way}{r:List Nat}
end
section
variable {P:Nat→Option Fn}{wf n:Nat} {σ:Sto}{m lw:Nat}{ws:List Way}{sc:List Int}{M:Nat}
end
end Mine
namespace Mine
open PySem
section
variable {P:Nat→Option Fn}{wf n:Nat} {σ σ1:Sto}{m lw:Nat}{ws:List Way}{sc:List Int}
theorem sH {c:Int}:List.replicate m (V.int c)=intsV m (fun _=>c):=by
 unfold intsV
 rw [List.map_const',List.length_range]
theorem vY {call:Nat→List V→Sto→RE}{fr:Fra}{e ce:E}{c:Int} (hm:m ≤ 1000) (hc:evE call ce fr σ=.ok (.int c) σ) (he:evE call e fr (σ ++ [.lst [.int c]])=.ok (.int m) (σ ++ [.lst [.int c]])):evE call (E.bin .Mult (E.list [ce]) e) fr σ=.ok (.ref (σ ++ [AO.lst [.int c]]).length) (σ ++ [.lst [.int c]] ++ [.lst (intsV m fun _=>c)]):=by
 refine ar (bg (aa hc ae) (ak (by decide:1 ≤ 16777216))) he ?_
 show zF (getL (σ ++ [.lst [.int c]]) σ.length) m (σ ++ [.lst [.int c]])=_
 rw [ag am]
 show (if (-1000000:Int) ≤ (m:Int) then cN (List.replicate (m:Int).toNat (V.int c)) (σ ++ [.lst [.int c]]) else .bad)=_
 rw [if_pos (Int.le_trans (by decide) (Int.natCast_nonneg m)),Int.toNat_natCast,sH,ak (by rw [bx]; exact Nat.le_trans hm (by decide))]
theorem yy {call:Nat→List V→Sto→RE}{fr:Fra}{e ce:E}{c:Int} (hm:m ≤ 12) (hc:evE call ce fr σ=.ok (.int c) σ) (he:evE call e fr (σ ++ [.lst [.int c]])=.ok (.int m) (σ ++ [.lst [.int c]])):evE call (E.bin .Mult (E.list [ce]) e) fr σ=.ok (.ref (σ ++ [AO.lst [.int c]]).length) (σ ++ [.lst [.int c]] ++ [.lst (intsV m fun _=>c)]):=vY (Nat.le_trans hm (by decide)) hc he
structure gQ (P:Nat→Option Fn) (wf m:Nat) (ws:List Way):Prop where
 T:iC P
 h18:P 18=some cq
 h19:P 19=some gg
 H:rO P
 HW:l0 P
 h14:P 14=some ff
 h20:P 20=some fo
 G:aJ m ws
 hw:9999 * 27720 < wf
theorem gQ.fl (S:gQ P wf m ws):gQ P wf m (flip ws):=⟨S.T,S.h18,S.h19,S.H,S.HW,S.h14,S.h20,S.G.flip,S.hw⟩
theorem oy (H:jK P 10000) (h25:P 25=some (lU 1 14 13 dK)) (m1:1 ≤ m) (m2:m ≤ 12) :
  ∃ ws l σ',ws.length ≤ 36 ∧ aJ m ws ∧ evFn P wf (n + 2) 25 [.ref 0,.int m] [.frz (sc.map V.int),.tab false]=.ok (.ref l) σ' ∧ aM σ' sc ∧ σ'[1]?=some (.tab true) ∧ σ'[l]?=some (.lst (ws.map wayV)):=by
 obtain ⟨ws,o,τ,x4,x5,L,e2⟩:=n4 (P:=P) (wf:=wf) (n:=n) (j:=1) (size:=14) (md:=13) (tail:=dK) (σ:=[.frz (sc.map V.int),.tab false]) (sc:=sc) (m:=m) H (by decide) rfl rfl m1 m2 (by decide) (by decide) (rest0:=[none,none,none,none,none,none,none,none]) rfl (by decide:1 < 8)
 have hl:(ws.map wayV).length ≤ 16777216:=by rw [List.length_map]; exact Nat.le_trans L.len (by lia)
 have h3:(cC ([.frz (sc.map V.int),.tab true] ++ [o]) ws τ)[3]?=some (.lst (ws.map wayV)):=rfl
 have hs:aM (cC ([.frz (sc.map V.int),.tab true] ++ [o]) ws τ) sc:=rfl
 have ht:(cC ([.frz (sc.map V.int),.tab true] ++ [o]) ws τ)[1]?=some (.tab true):=rfl
 generalize hσ:cC ([.frz (sc.map V.int),.tab true] ++ [o]) ws τ=σ at *
 have hlen:1 ≤ (ws.map wayV).length:=by rw [List.length_map]; exact Nat.pos_of_ne_zero fun e=>L.ne (List.length_eq_zero_iff.mp e)
 obtain ⟨k,hk,e6⟩:=zl (wf:=wf) (n:=n) (P:=P) H.h20 hs (fr:=fU m 2 3 x4 x5 [none,some (.int (sc.getD 1 0)),none,none,none,none,none,none]) (e:=E.blt .len [E.loc 3]) (k:=2) rfl (a6 (aa (ac rfl) ae) (dp h3)) hlen
 have hd:((ws.map wayV).drop k).length + ((ws.map wayV).take k).length ≤ 16777216:=by rw [List.length_drop,List.length_take]; lia
 have hd1:=Nat.le_trans (Nat.le_add_right _ _) hd
 have hd2:=Nat.le_trans (Nat.le_add_left _ _) hd
 have c2:evFn P wf (n + 2) 25 [.ref 0,.int m] [.frz (sc.map V.int),.tab false]=.ok (.ref _) (σ ++ [.lst ((ws.map wayV).drop k)] ++ [.lst ((ws.map wayV).take k)] ++ [.lst ((ws.map wayV).drop k ++ (ws.map wayV).take k)]) :=
  bh h25 rfl (e2 _ (by
   show evSs (evFn P wf (n + 1)) wf dK (fU m 2 3 x4 x5 [none,some (.int (sc.getD 1 0)),none,none,none,none,none,none]) (cC ([.frz (sc.map V.int),.tab true] ++ [o]) ws τ)=_
   rw [hσ]
   exact al e6 (by decide:6 < 14) (aL (ar (vJ (ac rfl) (ac rfl) (ag h3) (ak hd1)) (we (ac rfl) (ac rfl) (ag (ap h3)) (ak hd2)) (jl (ap am) am hd)))))
 rw [show (ws.map wayV).drop k ++ (ws.map wayV).take k=(ws.drop k ++ ws.take k).map wayV by rw [List.map_append,List.map_drop,List.map_take]] at c2
 exact ⟨_,_,_,Nat.le_trans L.rot.len (by lia),L.rot.good m1 m2 (by lia) (Nat.le_refl _),c2,ap (ap (ap hs)),ap (ap (ap ht)),am⟩
theorem t5 (H:jK P 10000) (h25:P 25=some (lU 1 14 13 dK)) (m1:1 ≤ m) (m2:m ≤ 12) {G:Prop}
  (k:∀ ws l σ',aJ m ws→evFn P wf (n + 2) 25 [.ref 0,.int m] [.frz (sc.map V.int),.tab false]=.ok (.ref l) σ'→aM σ' sc→σ'[1]?=some (.tab true)→σ'[l]?=some (.lst (ws.map wayV))→G):G :=
 let ⟨ws,l,s,_,h1,h2,h3,h4,h5⟩:=oy H h25 m1 m2; k ws l s h1 h2 h3 h4 h5
theorem ug (us:List Way):PyData.eqvAll (us.map yf) (us.map yf)=true:=by
 induction us with
 | nil=>rfl
 | cons w us ih =>
  show (((w.1:Int) == (w.1:Int) && ((w.2.1:Int) == (w.2.1:Int) && ((w.2.2:Int) == (w.2.2:Int) && true))) && PyData.eqvAll (us.map yf) (us.map yf))=true
  rw [ih,beq_self_eq_true,beq_self_eq_true,beq_self_eq_true]; rfl
theorem vS {l k:Nat} (h:σ[l]?=some (.lst (ws.map wayV))) (h':σ[k]?=some (.lst (ws.map wayV))):gq .Eq (.ref l) (.ref k) σ=some true:=by
 show eqV σ (.ref l) (.ref k)=_
 unfold eqV
 rw [fH h lT,fH h' lT]
 exact congrArg some (ug ws)
theorem pF {call:Nat→List V→Sto→RE}{e:E}{fr:Fra}{l:Nat}{xs:List V}{ss:List S}{r:RS} (he:evE call e fr σ=.ok (.ref l) σ) (h:σ[l]?=some (.lst xs)) (h2:evSs call wf ss fr (σ.set l (.lst []))=r):evSs call wf (.expr (e.meth .clear []) :: ss) fr σ=r :=
 bi (de he (ag h) ae (ag h) (rfl:dW .clear l xs [] σ=.ok .none (dq σ l []))) h2
theorem sS {k l:Nat}{o o':AO} (h:σ[k]?=some o) (hk:k ≠ l):(σ.set l o')[k]?=some o:=by rw [List.getElem?_set_ne hk.symm]; exact h
end
end Mine
namespace Mine
set_option backward.match.sparseCases false
open PySem
section
variable {call callH:Nat→List V→Sto→RE}{wf:Nat}{fr fr1 fr2:Fra} {σ σ1 σ2:Sto}{t a:E}{ss bs os:List S}{x c i:Nat}{es:List E}{vs:List V}{r:RS}
theorem wP:evSs call wf (.raise c :: ss) fr σ=.ex c fr σ:=rfl
theorem Bw {s:S} (h:evS call wf s fr σ=.ex x fr1 σ1):evSs call wf (s :: ss) fr σ=.ex x fr1 σ1:=by
 show (match evS call wf s fr σ with | .ok .next fr σ=>evSs call wf ss fr σ | r=>r)=_; rw [h]
theorem vL (h:evE call t fr σ=.ok (.bool true) σ1) (h1:evSs call wf bs fr σ1=.ex x fr1 σ2):evSs call wf (.ifS t bs os :: ss) fr σ=.ex x fr1 σ2:=Bw ((A9 h).trans h1)
theorem BU {P:Nat→Option Fn}{n k:Nat}{fn:Fn} (hP:P k=some fn) (hl:vs.length=fn.ps.length) (h:evSs (evFn P wf n) wf fn.body (aS fn vs) σ=.ex x fr1 σ1):evFn P wf (n + 1) k vs σ=.ex x σ1:=by
 exact (iD hP hl).trans (congrArg tt h)
theorem yQ {b h:List S}{ds:List Nat}:evT call callH wf (.tryS b ds i h :: ss) fr σ=(match evSs call wf b fr σ with
   | .ok f fr σ=>(match f with | .next=>evT call callH wf ss fr σ | f=>.ok f fr σ)
   | .ex x fr σ=>if ds.contains x ∧ i < fr.length then (match evSs callH wf h (fr.set i (some (.exc x))) σ with
    | .ok f fr σ=>(match f with | .next=>evT call callH wf ss (fr.set i none) σ | f=>.ok f (fr.set i none) σ)
    | _=>.bad) else .bad
   | .bad=>.bad):=rfl
end
end Mine
namespace Mine
set_option backward.match.sparseCases false
open PySem
section
variable {P T:Nat→Option Fn}{wf n k i:Nat}{vs:List V} {σ σ1 σ2:Sto}{fn:Fn}{v:V}{fr fr1 fr2:Fra}{call callH:Nat→List V→Sto→RE}{a:E}{es:List E}{ss b h:List S}{x:Nat}{ds:List Nat}
theorem tH (hT:T k=none):ba P T wf n k vs σ=evFn P wf n k vs σ:=by unfold ba; rw [hT]
theorem pQ (hT:T k=some fn) (hl:vs.length=fn.ps.length) (e:evT (evFn P wf n) (evFn P wf n) wf fn.body (aS fn vs) σ=.ok (.ret v) fr σ1):ba P T wf n k vs σ=.ok v σ1:=by
 unfold ba; rw [hT]
 show (if vs.length=fn.ps.length then _ else _)=_
 rw [if_pos hl,e]; rfl
theorem w4 (h:b6 call es fr σ=.ok vs σ1) (h2:call k vs σ1=.ok v σ2):evE call (.tcall k es) fr σ=.ok v σ2:=by
 show (b6 call es fr σ).bind _=_; rw [h]; show noX (call k vs σ1)=_; rw [h2]; rfl
theorem pk (hc:aO a=true) (h:evE call a fr σ=.ex x σ1):evSs call wf (.expr a :: ss) fr σ=.ex x fr σ1:=Bw (by
 show (evE call a fr σ).bindX (aO a) fr _=_; rw [h,hc]; rfl)
theorem uy (hb:evSs call wf b fr σ=.ex x fr1 σ1) (hx:ds.contains x=true) (hi:i < fr1.length) (hh:evSs callH wf h (fr1.set i (some (.exc x))) σ1=.ok (.ret v) fr2 σ2):evT call callH wf (.tryS b ds i h :: ss) fr σ=.ok (.ret v) (fr2.set i none) σ2:=by
 rw [yQ,hb]; dsimp only; rw [if_pos ⟨hx,hi⟩,hh]
end
noncomputable def dm (s:Str) (k:Nat):E:=E.tup [E.str s,(E.loc 0).isi (Ty.exc (xc k) xcs)]
noncomputable def kB:Fn:={ ps:=[0],size:=10,body :=
 [S.asg 1 (E.list [dm "count" 0,dm "meeting" 1]),
  S.asg 1 (E.bin .Add (E.loc 1) (E.list [dm "delay" 2,dm "apart" 3])),
  S.asg 1 (E.bin .Add (E.loc 1) (E.list [dm "ring" 4,dm "pace" 5])),
  S.asg 2 (E.comp [1,2] false (E.loc 1) [(E.loc 2).and ((E.loc 5).isi (Ty.val xcs))] (E.loc 1) [none,none,none,none,none,some 0]),
  S.ifS (E.cmp .Eq (E.loc 2) (E.list [])) [S.ret (E.list [E.str "other"])] [],S.ret (E.loc 2)] }
noncomputable def bn:List (Str × Nat):=[("count",0),("meeting",1),("delay",2),("apart",3),("ring",4),("pace",5)]
noncomputable def dv (k:Nat) (p:Str × Nat):V:=.tup [.str p.1,.bool (xc k == xc p.2)]
section
variable {P:Nat→Option Fn}{wf n:Nat} {σ:Sto}
theorem tA {l k:Nat}{xs xs':List V}{ds:List PyData} (h:σ[l]?=some (.lst xs)) (h':σ[k]?=some (.lst xs')) (hd:aQ (toD 4 σ) xs=some ds) (hd':aQ (toD 4 σ) xs'=some ds) (he:PyData.eqvAll ds ds=true):eqV σ (.ref l) (.ref k)=some true:=by
 unfold eqV
 rw [fH h hd,fH h' hd']
 exact congrArg some he
theorem Ae {s:Str} (hs:PyData.strOk s=true):aQ (toD 4 σ) [V.str s]=some [.str s]:=cO (f:=toD 4 σ) (l:=[()]) (g:=fun _=>V.str s) (h:=fun _=>PyData.str s) fun _ _=>if_pos hs
theorem uf (h39:P 39=some kB) {k:Nat}{s:Str} (hin:xcs.contains (xc k)=true) (hf:(bn.filter fun p=>xc k == xc p.2 && true).map (fun p=>V.str p.1)=[.str s]) (hs:PyData.strOk s=true) :
  ∃ l τ,evFn P wf (n + 1) 39 [.exc (xc k)] σ=.ok (.ref l) (σ ++ τ) ∧ (σ ++ τ)[l]?=some (.lst [.str s]):=by
 have ep:∀ (fr:Fra) (σ':Sto) s j,fr[0]?=some (some (.exc (xc k)))→evE (evFn P wf n) (dm s j) fr σ'=.ok (dv k (s,j)) σ':=fun fr σ' s j h0 =>
  fX (aa xD (aa (gK (ac h0) (if_pos hin)) ae)) (by decide:2 ≤ 1000)
 have l2:∀ (fr:Fra) (σ':Sto) s j s' j',fr[0]?=some (some (.exc (xc k)))→evE (evFn P wf n) (E.list [dm s j,dm s' j']) fr σ'=.ok (.ref σ'.length) (σ' ++ [.lst ([(s,j),(s',j')].map (dv k))]):=fun fr σ' s j s' j' h0 =>
  bg (aa (ep fr σ' s j h0) (aa (ep fr σ' s' j' h0) ae)) (ak (by decide:2 ≤ 16777216))
 have ec:∀ {σ':Sto}{l:Nat}{x2:Option V},σ'[l]?=some (.lst (bn.map (dv k)))→evE (evFn P wf n) (E.comp [1,2] false (E.loc 1) [(E.loc 2).and ((E.loc 5).isi (Ty.val xcs))] (E.loc 1) [none,none,none,none,none,some 0]) [some (.exc (xc k)),some (.ref l),x2,none,none,none,none,none,none,none] σ'=.ok (.ref σ'.length) (σ' ++ [.lst [.str s]]):=fun h =>
  eI (ws:=bn) (g:=dv k) (p:=fun p=>xc k == xc p.2 && true) (f:=fun p=>.str p.1) (ac rfl) (ag h) (fun p hp=>⟨_,rfl,oJ (tw (ac rfl) fun _=>gK (ac rfl) (if_pos hin)),fun _=>ac rfl⟩) ((congrArg (fun l=>cN l _) hf).trans (ak (by decide:1 ≤ 16777216)))
 generalize hσ:σ ++ [AO.lst (bn.take 2 |>.map (dv k))] ++ [AO.lst (([("delay",2),("apart",3)]:List (Str × Nat)).map (dv k))] ++ [AO.lst ((bn.take 4).map (dv k))] ++ [AO.lst (([("ring",4),("pace",5)]:List (Str × Nat)).map (dv k))]=σ' at *
 have hq:gq .Eq (.ref (σ' ++ [AO.lst (bn.map (dv k))]).length) (.ref (σ' ++ [AO.lst (bn.map (dv k))] ++ [AO.lst [V.str s]]).length) (σ' ++ [.lst (bn.map (dv k))] ++ [.lst [.str s]] ++ [.lst []])=some false:=by
  show eqV _ _ _=_
  exact gJ (ap am) (Ae hs) am
 refine ⟨(σ' ++ [AO.lst (bn.map (dv k))]).length,[AO.lst (bn.take 2 |>.map (dv k))] ++ [AO.lst (([("delay",2),("apart",3)]:List (Str × Nat)).map (dv k))] ++ [AO.lst ((bn.take 4).map (dv k))] ++ [AO.lst (([("ring",4),("pace",5)]:List (Str × Nat)).map (dv k))] ++ [.lst (bn.map (dv k))] ++ [.lst [.str s]] ++ [.lst []],?_⟩
 rw [← List.append_assoc,← List.append_assoc,← List.append_assoc,← List.append_assoc,← List.append_assoc,← List.append_assoc,hσ]
 refine ⟨?_,ap am⟩
 subst hσ
 exact bh h39 rfl (al (l2 _ _ _ _ _ _ rfl) (by decide:1 < 10) (al (ar (ac rfl) (l2 _ _ _ _ _ _ rfl) (jl (ap am) am (by decide:2 + 2 ≤ 16777216))) (by decide:1 < 10) (al (ar (ac rfl) (l2 _ _ _ _ _ _ rfl) (jl (ap am) am (by decide:4 + 2 ≤ 16777216))) (by decide:1 < 10) (al (ec am) (by decide:2 < 10) (aG (aE (ac rfl) (bg ae (ak (by decide:0 ≤ 16777216))) hq) (aL (ac rfl)))))))
theorem ww (h39:P 39=some kB) {k i:Nat}{s:Str}{fr:Fra} (hi:fr[i]?=some (some (.exc (xc k)))) (hin:xcs.contains (xc k)=true) (hf:(bn.filter fun p=>xc k == xc p.2 && true).map (fun p=>V.str p.1)=[.str s]) (hs:PyData.strOk s=true) (hq:PyData.eqvAll [.str s] [.str s]=true) :
  ∃ τ,evSs (evFn P wf (n + 1)) wf [S.ret (E.cmp .Eq (E.call 39 [E.loc i]) (E.list [E.str s]))] fr σ=.ok (.ret (.bool true)) fr (σ ++ τ):=by
 obtain ⟨l,τ,e,hl⟩:=uf (wf:=wf) (n:=n) (σ:=σ) h39 hin hf hs
 refine ⟨τ ++ [.lst [.str s]],?_⟩
 rw [← List.append_assoc]
 exact aL (aE (aF (aa (ac hi) ae) e) (bg (aa xD ae) (ak (by decide:1 ≤ 16777216))) (tA (ap hl) am (Ae hs) (Ae hs) hq))
end
end Mine
namespace Mine
set_option backward.match.sparseCases false
open PySem
section
variable {call:Nat→List V→Sto→RE}{wf:Nat} {σ:Sto}{tg:List Nat}{one:Bool}{it:E}{bs:List S}{body:Fra→Sto→RS}{vs xs ys:List V} {β:Type}{F:Nat→β→Fra}{St:Nat→β→Sto}{J:Nat→β→Prop}{N:Nat}{g:Nat→V}{src:Src}
theorem Bn (b0:β) (hat:∀ i b,J i b→bc (St i b) i src=some ((List.range N)[i]?.map g)) (step:∀ i b,i < N→J i b→ge tg one body (g i) (F i b) (St i b) (F (i + 1)) (St (i + 1)) (J (i + 1))) (h0:J 0 b0) :
  uj (jB (lu tg one body src (N + 1) 0 (F 0 b0) (St 0 b0))) (F N) (St N) (J N):=by
 have k:=mU (ws:=List.range N) (g:=g) (tg:=tg) (one:=one) (body:=body) (src:=src) (fun i=>InF (F i) (St i) (J i)) (fun _ _=>False) (fun i _ _ ⟨b,j⟩=>hat i b j)
  (fun i a _ _ ha ⟨b,j⟩=>by
   obtain ⟨hi,hia⟩:=b8 ha
   subst hia
   exact (step i b hi j).to) (N + 1) 0 (F 0 b0) (St 0 b0) (by rw [List.length_range]; lia) (Nat.zero_le _) ⟨b0,h0⟩
 rw [List.length_range] at k
 obtain ⟨b,e,j⟩:=uj.of k
 exact ⟨b,di e,j⟩
theorem tG {i:Nat}{o:Option V} (h1:i < N→o=some (g i)) (h2:N ≤ i→o=none):o=(List.range N)[i]?.map g:=by
 by_cases hi:i < N
 ·rw [List.getElem?_range hi]; exact h1 hi
 ·rw [List.getElem?_eq_none_iff.mpr (by rw [List.length_range]; exact Nat.not_lt.mp hi)]; exact h2 (Nat.not_lt.mp hi)
theorem jh {i:Nat} (h:i < vs.length):vs[i]?=some (vs.getD i .none):=by rw [List.getD_eq_getElem?_getD,List.getElem?_eq_getElem h]; rfl
theorem A1 {l:Nat} (b0:β) (h:evE call it (F 0 b0) σ=.ok (.ref l) (St 0 b0)) (hl:∀ i b,J i b→getL (St i b) l=some vs) (step:∀ i b,i < vs.length→J i b→ge tg one (evSs call wf bs) (.tup [.int (i:Nat),vs.getD i .none]) (F i b) (St i b) (F (i + 1)) (St (i + 1)) (J (i + 1))) (h0:J 0 b0) :
  uj (evS call wf (.forS tg one (.enum it) bs) (F 0 b0) σ) (F vs.length) (St vs.length) (J vs.length):=by
 have e:evS call wf (.forS tg one (.enum it) bs) (F 0 b0) σ=jB (lu tg one (evSs call wf bs) (.enum l) (vs.length + 1) 0 (F 0 b0) (St 0 b0)):=by
  show jB ((evE call it (F 0 b0) σ).bindS (F 0 b0) _)=_; rw [h]
  show jB (lq (my (St 0 b0) (.enum l)) _ _)=_
  rw [show my (St 0 b0) (.enum l)=some vs.length from congrArg (Option.map List.length) (hl 0 b0 h0)]; rfl
 rw [e]
 refine Bn (g:=fun i=>.tup [.int (i:Nat),vs.getD i .none]) b0 (fun i b j=>?_) step h0
 show (getL (St i b) l).map _=_
 rw [hl i b j]
 exact congrArg some (tG (fun hi=>congrArg (Option.map fun v=>V.tup [.int (i:Nat),v]) (jh hi)) fun hi=>congrArg (Option.map fun v=>V.tup [.int (i:Nat),v]) (List.getElem?_eq_none_iff.mpr hi))
theorem zX {l k:Nat}{ia ib:E} {σ1 σ2:Sto} (b0:β) (h:evE call ia (F 0 b0) σ=.ok (.ref l) σ1) (h':evE call ib (F 0 b0) σ1=.ok (.ref k) σ2) (hS:St 0 b0=σ2 ++ [.ztup]) (hx:getL σ2 l=some xs) (hy:getL σ2 k=some ys) (hn:ys.length=xs.length)
  (hl:∀ i b,J i b→getL (St i b) l=some xs ∧ getL (St i b) k=some ys ∧ (St i b)[σ2.length]?=some .ztup) (step:∀ i b,i < xs.length→J i b→ge tg one (evSs call wf bs) (.tup [xs.getD i .none,ys.getD i .none]) (F i b) (St i b) (F (i + 1)) (St (i + 1)) (J (i + 1))) (h0:J 0 b0) :
  uj (evS call wf (.forS tg one (.zip ia ib) bs) (F 0 b0) σ) (F xs.length) (St xs.length) (J xs.length):=by
 have e:evS call wf (.forS tg one (.zip ia ib) bs) (F 0 b0) σ=jB (lu tg one (evSs call wf bs) (.zip l k σ2.length) (xs.length + 1) 0 (F 0 b0) (St 0 b0)):=by
  show jB ((evE call ia (F 0 b0) σ).bindS (F 0 b0) _)=_; rw [h]
  show jB ((evE call ib (F 0 b0) σ1).bindS (F 0 b0) _)=_; rw [h']
  show jB (lq (my σ2 (.zip l k σ2.length)) _ _)=_
  rw [show my σ2 (.zip l k σ2.length)=some xs.length by show (getL σ2 l).bind _=_; rw [hx]; show (getL σ2 k).map _=_; rw [hy]; rfl,hS]; rfl
 rw [e]
 refine Bn (g:=fun i=>.tup [xs.getD i .none,ys.getD i .none]) b0 (fun i b j=>?_) step h0
 obtain ⟨h1,h2,h3⟩:=hl i b j
 show (xj (St i b) σ2.length).bind (fun _=>(getL (St i b) l).bind fun xs=>(getL (St i b) k).bind fun ys=>mq xs[i]? ys[i]?)=_
 rw [h1,h2,show xj (St i b) σ2.length=some () by unfold xj; rw [h3]]
 show mq xs[i]? ys[i]?=_
 by_cases hi:i < xs.length
 ·rw [jh hi,jh (hn ▸ hi),List.getElem?_range hi]; rfl
 ·rw [show xs[i]?=none from List.getElem?_eq_none_iff.mpr (Nat.not_lt.mp hi),show (List.range xs.length)[i]?=none from List.getElem?_eq_none_iff.mpr (by rw [List.length_range]; exact Nat.not_lt.mp hi)]; rfl
end
end Mine
namespace Mine
open PySem
noncomputable def vG:E:=E.comp [1] true (E.loc 1) [(E.cmp .Eq ((E.loc 1).sub (E.int 0)) ((E.loc 4).sub (E.loc 3))).and (E.cmp .Eq ((E.loc 1).sub (E.int 1)) (E.loc 2))] ((E.loc 1).sub (E.int 2)) [none,none,some 7,some 6,some 0]
noncomputable def re:List S :=
 [S.asg 7 ((E.loc 0).sub (E.bin .Mod (E.bin .Add (E.loc 6) (E.int 1)) (E.blt .len [E.loc 0]))),S.asg 8 vG,S.ifS (E.cmp .Eq (E.loc 8) (E.list [])) [S.ret (E.bool false)] [],
  S.asg 5 (E.bin .Sub (E.bin .Add (E.loc 5) (E.bin .Mult (E.loc 4) (E.blt .max [E.loc 8]))) (E.loc 3))]
noncomputable def eu:Fn:={ ps:=[0,1,2,3,4],size:=15,body :=
 [S.ifS ((E.call 29 [E.loc 0]).not.or ((E.cmp .Lt (E.blt .setLen [E.loc 0]) (E.blt .len [E.loc 0])).or (E.cmp .NotEq ((E.loc 0).sub (E.int 0)) (E.blt .min [E.loc 0])))) [S.ret (E.bool false)] [],
  S.asg 5 (E.int 0),S.forS [6] true (It.e (E.blt .range [E.blt .len [E.loc 0]])) re,S.ret (E.cmp .Gt (E.loc 5) (E.int 0))] }
noncomputable def gF:Fn:={ ps:=[0,1,2,3,4],size:=10,body :=
 [S.ifS (((E.loc 0).isi Ty.tuple).not.or (E.cmp .NotEq (E.blt .len [E.loc 0]) (E.int 2))) [S.ret (E.bool false)] [],
  S.ifS (E.cmp .Is ((E.loc 0).sub (E.int 0)) E.none)
   [S.ifS (E.call 31 [(E.loc 0).sub (E.int 1),E.loc 1,E.loc 2,E.loc 3,E.loc 4]).not [S.ret (E.bool false)] [],S.expr (((E.loc 0).sub (E.int 1)).meth .clear []),S.ret (E.bool true)] [],
  S.ifS ((E.cmp .IsNot ((E.loc 0).sub (E.int 1)) E.none).or (E.call 27 [(E.loc 0).sub (E.int 0),E.loc 1,E.loc 2,E.loc 3,E.loc 4]).not) [S.ret (E.bool false)] [],
  S.expr (((E.loc 0).sub (E.int 0)).meth .clear []),S.ret (E.bool true)] }
noncomputable def eK:Fn:={ ps:=[0,1,2],size:=7,body:=[S.tryS [S.expr (E.call 5 [E.loc 0,E.loc 1,E.loc 2])] xcs 3 [S.ret (E.cmp .Eq (E.call 39 [E.loc 3]) (E.list [E.str "pace"]))],S.ret (E.bool false)] }
section
variable {P T:Nat→Option Fn}{wf n:Nat} {σ:Sto}{m lw l lr i N D:Nat}{ws:List Way}{r:List Nat}
noncomputable def jc (lr lw m N D:Nat) (g:Int) (x6 x7 x8:Option V):Fra:=[some (.ref lr),some (.ref lw),some (.int m),some (.int N),some (.int D),some (.int g),x6,x7,x8,none,none,none,none,none,none]
theorem ub {call:Nat→List V→Sto→RE}{g:Int}{b:Nat}{x8:Option V} (hr:σ[lr]?=some (.lst (natsV r))) (hlw:σ[lw]?=some (.lst (ws.map wayV))) (hz:ws.length ≤ 60) (hi:i < r.length) :
  evE call vG (jc lr lw m N D g (some (.int i)) (some (.int b)) x8) σ=.ok (.ref σ.length) (σ ++ [.lst ((aX ws (r.getD i 0) b).map fun (d:Nat)=>V.int d)]):=by
 have e1:(aX ws (r.getD i 0) b).map (fun (d:Nat)=>V.int d)=(ws.filter fun w=>w.1 == r.getD i 0 && w.2.1 == b).map fun w=>V.int w.2.2:=by unfold aX; rw [List.map_map]; rfl
 rw [e1]
 refine eI (ws:=ws) (g:=wayV) (p:=fun w=>w.1 == r.getD i 0 && w.2.1 == b) (f:=fun w=>.int w.2.2) (ac rfl) (ag hlw) (fun w hw=>⟨_,rfl,oJ ?_,fun _=>aD (ac rfl) ai rfl⟩) (ak ?_)
 ·exact tw (aE (aD (ac rfl) ai rfl) (aD (ac rfl) (ac rfl) (a7 hr (cW hi))) (congrArg some (dn w.1 _))) fun _=>aE (aD (ac rfl) ai rfl) (ac rfl) (congrArg some (dn w.2.1 b))
 ·rw [List.length_map]; exact Nat.le_trans (List.length_filter_le _ _) (Nat.le_trans hz (by decide))
noncomputable def gb (ws:List Way) (r:List Nat) (N D i:Nat):Int:=(D:Int) * (rtot ws r i:Nat) - (N:Int) * (i:Nat)
theorem vZ:gb ws r N D i + (D:Int) * (best ws (r.getD i 0) (r.getD ((i + 1) % r.length) 0):Nat) - N=gb ws r N D (i + 1):=by
 unfold gb
 rw [show ((rtot ws r (i + 1):Nat):Int)=(rtot ws r i:Nat) + (best ws (r.getD i 0) (r.getD ((i + 1) % r.length) 0):Nat) from rfl,Int.mul_add,show (((i + 1:Nat)):Int)=(i:Int) + 1 from rfl,Int.mul_add,Int.mul_one]
 lia
theorem oj {call:Nat→List V→Sto→RE} (hr:σ[lr]?=some (.lst (natsV r))) (hlw:σ[lw]?=some (.lst (ws.map wayV))) (G:aJ m ws) (R:bZ ws m r) (hi:i < r.length) {z:(Option V × Option V × Option V) × Sto} :
  ge [6] true (evSs call wf re) (.int i) (jc lr lw m N D (gb ws r N D i) z.1.1 z.1.2.1 z.1.2.2) (σ ++ z.2) (fun z:(Option V × Option V × Option V) × Sto=>jc lr lw m N D (gb ws r N D (i + 1)) z.1.1 z.1.2.1 z.1.2.2) (fun z=>σ ++ z.2) (fun _=>True):=by
 obtain ⟨⟨x6,x7,x8⟩,τ⟩:=z
 have hi2:(i + 1) % r.length < r.length:=Nat.mod_lt _ (Nat.lt_of_le_of_lt (Nat.zero_le _) hi)
 have hw:=R.way i hi
 have hb:=G.hd _ (m5 hw)
 have e7:evE call ((E.loc 0).sub (E.bin .Mod (E.bin .Add (E.loc 6) (E.int 1)) (E.blt .len [E.loc 0]))) (jc lr lw m N D (gb ws r N D i) (some (.int i)) x7 x8) (σ ++ τ)=.ok (.int (r.getD ((i + 1) % r.length) 0:Nat)) (σ ++ τ) :=
  aD (ac rfl) (ar (ar (ac rfl) ai rfl) (a6 (aa (ac rfl) ae) (dp (ap hr))) (by rw [aI]; exact g8 (x:=i + 1) (by lia))) (a7 (ap hr) (cW hi2))
 refine ⟨_,rfl,((some (.int i),some (.int (r.getD ((i + 1) % r.length) 0:Nat)),some (.ref (σ ++ τ).length)),τ ++ [.lst ((aX ws (r.getD i 0) (r.getD ((i + 1) % r.length) 0)).map fun (d:Nat)=>V.int d)] ++ [.lst []]),?_,trivial⟩
 rw [← List.append_assoc,← List.append_assoc]
 exact al e7 (by decide:7 < 15) (al (ub (ap hr) (ap hlw) G.hz hi) (by decide:8 < 15) (aG (aE (ac rfl) (bg ae (ak (by decide:0 ≤ 16777216))) ((xM (ap am) am).trans (congrArg some (List.isEmpty_eq_false_iff.mpr hw))))
  (al (ar (ar (ac rfl) (ar (ac rfl) (a6 (aa (ac rfl) ae) (xX (ap am) (nM hw))) (vv (by show (best ws _ _:Nat) < _; exact Nat.lt_of_le_of_lt hb (by decide)))) rfl) (ac rfl) (congrArg (fun z=>RE.ok (.int z) _) vZ)) (by decide:5 < 15) aY)))
theorem BR (hr:σ[lr]?=some (.lst (natsV r))) (R:bZ ws m r) (hmin:∀ x ∈ r,r.getD 0 0 ≤ x):gA .min [.ref lr] σ=.ok (.int (r.getD 0 0:Nat)) σ:=by
 obtain ⟨mn,h1,h2,h3⟩:=m3 (is:=r.map fun (d:Nat)=>(d:Int)) (fun q=>R.ne (List.map_eq_nil_iff.mp q))
 obtain ⟨y,hy,hy2⟩:=List.mem_map.mp h2
 have h4:=h3 _ (List.mem_map.mpr ⟨_,ng (cp R),rfl⟩)
 have h5:=hmin y hy
 have e:y=r.getD 0 0:=by lia
 show bS _ ((((getL σ lr).bind aA).bind tm).map V.int)=_
 rw [ag hr]
 show bS _ (((aA (natsV r)).bind tm).map V.int)=_
 rw [show aA (natsV r)=some (r.map fun (d:Nat)=>(d:Int)) from bN r]
 show bS _ ((tm (r.map fun (d:Nat)=>(d:Int))).map V.int)=_
 rw [h1,← hy2,e]; rfl
theorem t9 (h21:P 21=some gT) (h29:P 29=some dN) (h27:P 27=some eu) (hlw:σ[lw]?=some (.lst (ws.map wayV))) (G:aJ m ws) (hr:σ[lr]?=some (.lst (natsV r))) (R:bZ ws m r) (hmin:∀ x ∈ r,r.getD 0 0 ≤ x) (hlt:N * r.length < D * rtot ws r r.length) :
  ∃ τ,evFn P wf (n + 3) 27 [.ref lr,.ref lw,.int m,.int N,.int D] σ=.ok (.bool true) (σ ++ τ):=by
 have hl:=Nat.le_trans (eS R) G.m2
 obtain ⟨τ1,e1⟩:=i4 (wf:=wf) (n:=n) (is:=r.map fun (d:Nat)=>(d:Int)) h21 h29 (by rw [← oR]; exact hr) (fun q=>R.ne (List.map_eq_nil_iff.mp q)) (by rw [List.length_map]; lia)
 have hlen:=dp (ap (τ:=τ1) hr)
 rw [aI] at hlen
 obtain ⟨z,e,_⟩:=sg (call:=evFn P wf (n + 2)) (wf:=wf) (tg:=[6]) (one:=true) (ws:=List.range r.length) (g:=fun (v:Nat)=>V.int v) (it:=E.blt .range [E.blt .len [E.loc 0]]) (bs:=re) (σ:=σ ++ τ1)
  (F:=fun i (z:(Option V × Option V × Option V) × Sto)=>jc lr lw m N D (gb ws r N D i) z.1.1 z.1.2.1 z.1.2.2) (S:=fun _ z=>σ ++ z.2) (J:=fun _ _=>True) ((none,none,none),τ1) (a6 (aa (a6 (aa (ac rfl) ae) hlen) ae) (b5 (by lia))) (cE _)
  (fun i v z hv _=>by
   obtain ⟨hi,rfl⟩:=b8 hv
   exact oj hr hlw G R hi) trivial
 rw [List.length_range] at e
 have hg:0 < gb ws r N D r.length:=by
  unfold gb
  rw [← Int.natCast_mul,← Int.natCast_mul]
  have:=Int.ofNat_lt.mpr hlt
  lia
 have e0:evE (evFn P wf (n + 2)) (E.int 0) (jc lr lw m N D 0 none none none |>.set 5 none) (σ ++ τ1)=.ok (.int (gb ws r N D 0)) (σ ++ τ1):=by
  have:gb ws r N D 0=0:=by unfold gb; show (D:Int) * 0 - (N:Int) * 0=0; lia
  rw [this]; exact ai
 exact ⟨z.2,bh h27 rfl (aG (d6 (dc (aF (aa (ac rfl) ae) e1)) (d6 (aE (p:=false) (a6 (aa (ac rfl) ae) (vC (ap hr) R.nd (by lia))) (a6 (aa (ac rfl) ae) hlen) (congrArg some (decide_eq_false (Int.lt_irrefl _)))) (aE (aD (ac rfl) ai (a7 (k:=0) (ap hr) (cW (cp R)))) (a6 (aa (ac rfl) ae) (BR (ap hr) R hmin)) gB)))
  (al e0 (by decide:5 < 15) (a4 e (aL (aE (ac rfl) ai (congrArg some (decide_eq_true hg)))))))⟩
inductive fZ (m N D:Nat) (ws:List Way) (o:Option AO) (q:Nat):V→Prop
 | none (Z:Nat→Int) (h:o=some (.lst (intsV m Z))) (hs:∀ w ∈ ws,cM N D Z w):fZ m N D ws o q (.tup [.none,.ref q])
 | ring (r:List Nat) (h:o=some (.lst (natsV r))) (R:bZ ws m r) (hlt:N * r.length < D * rtot ws r r.length) (hmin:∀ x ∈ r,r.getD 0 0 ≤ x):fZ m N D ws o q (.tup [.ref q,.none])
structure yN (P:Nat→Option Fn):Prop where
 h21:P 21=some gT
 h27:P 27=some eu
 h29:P 29=some dN
 h30:P 30=some gF
 h31:P 31=some fJ
theorem uQ (G:aJ m ws):∀ w ∈ ws,fW (D:Int) (w.2.2:Int):=fun w hw=>.inr (.inl (Nat.lt_of_le_of_lt (G.hd w hw) (by decide)))
theorem sD (A:yN P) (hlw:σ[lw]?=some (.lst (ws.map wayV))) (G:aJ m ws) {q:Nat}{v:V} (C:fZ m N D ws σ[q]? q v) :
  ∃ τ,evFn P wf (n + 4) 30 [v,.ref lw,.int m,.int N,.int D] σ=.ok (.bool true) ((σ ++ τ).set q (.lst [])):=by
 cases C with
 | none Z h hs =>
  obtain ⟨τ,e⟩:=jX (wf:=wf) (n:=n) A.h21 A.h29 A.h31 hlw G h (uQ G) hs
  exact ⟨τ,bh A.h30 rfl (aG (d6 (dc (gK (ac rfl) rfl)) (aE (a6 (aa (ac rfl) ae) rfl) ai (rfl:gq .NotEq (.int ((2:Nat):Int)) (.int 2) σ=some false))) (cP (aE (aD (ac rfl) ai rfl) cY rfl) (aG (dc (aF (aa (aD (ac rfl) ai rfl) (aa (ac rfl) (aa (ac rfl) (aa (ac rfl) (aa (ac rfl) ae))))) e)) (pF (aD (ac rfl) ai rfl) (ap h) (aL d3)))))⟩
 | ring r h R hlt hmin =>
  obtain ⟨τ,e⟩:=t9 (wf:=wf) (n:=n) A.h21 A.h29 A.h27 hlw G h R hmin hlt
  exact ⟨τ,bh A.h30 rfl (aG (d6 (dc (gK (ac rfl) rfl)) (aE (a6 (aa (ac rfl) ae) rfl) ai (rfl:gq .NotEq (.int ((2:Nat):Int)) (.int 2) σ=some false))) (aG (aE (aD (ac rfl) ai rfl) cY rfl) (aG (d6 (aE (aD (ac rfl) ai rfl) cY rfl) (dc (aF (aa (aD (ac rfl) ai rfl) (aa (ac rfl) (aa (ac rfl) (aa (ac rfl) (aa (ac rfl) ae))))) e))) (pF (aD (ac rfl) ai rfl) (ap h) (aL d3)))))⟩
theorem pi (h5:P 5=some dz) {x y:Int} (h:x < 0 ∨ y < 1):evFn P wf (n + 1) 5 [.ref l,.int x,.int y] σ=.ex (xc 5) σ:=by
 have e:evE (evFn P wf n) ((E.cmp .Lt (E.loc 1) (E.int 0)).or (E.cmp .Lt (E.loc 2) (E.int 1))) (aS dz [.ref l,.int x,.int y]) σ=.ok (.bool (decide (x < 0) || decide (y < 1))) σ:=Af (aE (ac rfl) ai rfl) fun _=>aE (ac rfl) ai rfl
 rw [show (decide (x < 0) || decide (y < 1))=true by rw [Bool.or_eq_true,decide_eq_true_iff,decide_eq_true_iff]; exact h] at e
 exact BU h5 rfl (vL e wP)
theorem mf (h28:T 28=some eK) (h39:P 39=some kB) (h5:P 5=some dz) {x y:Int} (h:x < 0 ∨ y < 1):∃ τ,ba P T wf (n + 2) 28 [.ref l,.int x,.int y] σ=.ok (.bool true) (σ ++ τ):=by
 obtain ⟨τ,e⟩:=ww (wf:=wf) (n:=n + 1) (σ:=σ) (k:=5) (i:=3) (s:="pace") (fr:=[some (.ref l),some (.int x),some (.int y),some (.exc (xc 5)),none,none,none]) h39 rfl rfl rfl (by decide +kernel) (by decide +kernel)
 exact ⟨τ,pQ h28 rfl (uy (fr1:=[some (.ref l),some (.int x),some (.int y),none,none,none,none]) (pk rfl (aF (aa (ac rfl) (aa (ac rfl) (aa (ac rfl) ae))) (pi (n:=n + 1) h5 h))) rfl (by decide:3 < 7) e)⟩
theorem yq {call:Nat→List V→Sto→RE}{fr:Fra}{es:List E}{ew:E}{L:List Int}{w:Nat} (he:b6 call es fr σ=.ok (L.map V.int) σ) (hl:L.length ≤ 1000) (hw:∀ τ,evE call ew fr (σ ++ τ)=.ok (.int w) (σ ++ τ)) (h:w < L.length) :
  evE call ((E.list es).sub ew) fr σ=.ok (.int (L.getD w 0)) (σ ++ [.lst (L.map V.int)]):=by
 refine aD (bg he (ak (by rw [List.length_map]; lia))) (hw _) (a7 am ?_)
 rw [List.getElem?_map,List.getD_eq_getElem?_getD,List.getElem?_eq_getElem h]; rfl
theorem nG {L:List Int}{w:Nat} (h:w < L.length) (hp:∀ x ∈ L,1 ≤ x):1 ≤ L.getD w 0:=by
 rw [List.getD_eq_getElem?_getD,List.getElem?_eq_getElem h]; exact hp _ (List.getElem_mem h)
theorem mO {d:Int} (h:1 ≤ d) (c:Int):∃ k:Nat,c.fmod d=(k:Int):=by
 obtain ⟨k,_,e⟩:=bB d.toNat (by lia) c
 rw [Int.toNat_of_nonneg (by lia)] at e
 exact ⟨k,e⟩
end
end Mine
namespace Mine
set_option backward.match.sparseCases false
open PySem
noncomputable def eC (k:Int):E:=E.call 20 [E.loc 0,E.int k]
noncomputable def turnIf:S:=S.ifS (E.cmp .Eq (E.bin .Mod (eC 35) (E.int 2)) (E.int 1))
   [S.asg 4 (E.mk 11 [E.loc 1,E.comp [1] true (E.loc 2) [] (E.tup [(E.loc 1).sub (E.int 1),(E.loc 1).sub (E.int 0),(E.loc 1).sub (E.int 2)]) [none,none]]),
    S.expr (E.call 19 [E.loc 4,E.bin .Mult (E.list [E.int 0]) (E.loc 1),E.bin .Add (E.int 4) (E.bin .Mod (E.bin .FloorDiv (eC 35) (E.int 2)) (E.int 2))]),
    S.asg 3 ((E.loc 4).umeth 14 [])] []
noncomputable def BE:List S :=
 [S.asg 5 (E.bin .Mod (eC 9) ((E.list [E.int 12,E.int 2000,E.pow 10 6]).sub (E.bin .Mod (eC 10) (E.int 3)))),
  S.asg 6 (E.bin .Add (E.int 1) (E.bin .Mod (eC 11) ((E.list [E.int 12,E.int 12,E.int 12,E.pow 10 12]).sub (E.bin .Mod (E.bin .FloorDiv (eC 10) (E.int 3)) (E.int 4))))),
  S.ifS (E.cmp .Eq (E.bin .Mod (E.bin .FloorDiv (eC 10) (E.int 12)) (E.int 9)) (E.int 1)) [S.asg 5 (E.bin .Mod (eC 9) (E.pow 10 30)),S.asg 6 (E.bin .Add (E.int 1) (E.bin .Mod (eC 11) (E.pow 10 30)))] []]
noncomputable def By:List S :=
 [S.ifS (E.cmp .Eq (E.bin .Mod (eC 12) (E.int 9)) (E.int 1)) [S.asg 5 (E.bin .Sub (E.int 1).neg (E.loc 5))] [],
  S.ifS (E.cmp .Eq (E.bin .Mod (eC 12) (E.int 9)) (E.int 2)) [S.asg 6 (E.bin .Sub (E.int 1) (E.loc 6))] [],
  S.ifS ((E.cmp .Lt (E.loc 5) (E.int 0)).or (E.cmp .Lt (E.loc 6) (E.int 1))) [S.ret (E.tcall 28 [E.loc 3,E.loc 5,E.loc 6])] []]
noncomputable def rk:List S :=
 [S.expr (E.call 19 [E.loc 3,E.bin .Mult (E.list [E.loc 10]) (E.loc 1),E.call 20 [E.loc 0,E.bin .Add (E.int 30) (E.loc 10)]]),
  S.expr ((E.loc 9).meth .append [E.call 5 [E.loc 3,(E.loc 11).sub (E.int 0),(E.loc 11).sub (E.int 1)]])]
noncomputable def nV:List S:=[S.ifS (E.call 30 [E.loc 12,E.loc 2,E.loc 1,(E.loc 11).sub (E.int 0),(E.loc 11).sub (E.int 1)]).not [S.ret (E.bool false)] []]
noncomputable def ny:List S :=
 [S.asg 7 (E.tup [E.bin .Mod (eC 13) (E.int 2000),E.bin .Add (E.int 1) (E.bin .Mod (eC 14) (E.int 12))]),S.asg 8 (E.list [E.tup [E.loc 5,E.loc 6],E.loc 7,E.tup [E.loc 5,E.loc 6]]),S.asg 9 (E.list []),
  S.forS [10,11] false (It.enum (E.loc 8)) rk,S.forS [12,11] false (It.zip (E.loc 9) (E.loc 8)) nV,S.ret (E.cmp .Eq ((E.loc 3).attr 1) (E.loc 2))]
noncomputable def qY:Fn:={ ps:=[0],size:=24,body :=
 [S.asg 1 (E.call 24 [E.loc 0]),S.asg 2 (E.call 25 [E.loc 0,E.loc 1]),S.asg 3 (E.mk 11 [E.loc 1,E.blt .list [E.loc 2]]),turnIf] ++ (BE ++ (By ++ ny)) }
noncomputable def bF (m lw:Nat) (x3 x4 x5 x6 x7 x8 x9 x10 x11 x12:Option V):Fra:=[some (.ref 0),some (.int m),some (.ref lw),x3,x4,x5,x6,x7,x8,x9,x10,x11,x12,none,none,none,none,none,none,none,none,none,none,none]
structure fu (P T:Nat→Option Fn):Prop where
 HL:jK P 10000
 K:yN P
 h39:P 39=some kB
 hT:∀ k,k ≠ 28→T k=none
 h28:T 28=some eK
noncomputable def hV (σ:Sto) (h t:List V) (υ:Sto):Sto:=σ ++ .lst h :: .lst t :: υ
section
variable {σ υ:Sto}{h t t':List V}
theorem qZ:(hV σ h t υ)[σ.length]?=some (.lst h):=am
theorem pD {k:Nat}:(hV σ h t υ)[σ.length + k]?=(AO.lst h :: .lst t :: υ)[k]?:=by
 unfold hV; rw [List.getElem?_append_right (Nat.le_add_right _ _),Nat.add_sub_cancel_left]
theorem nj:(hV σ h t υ)[σ.length + 1]?=some (.lst t):=pD
theorem qV {j:Nat}:(hV σ h t υ)[σ.length + (j + 2)]?=υ[j]?:=pD
theorem jt {υ':Sto}:hV σ h t υ ++ υ'=hV σ h t (υ ++ υ'):=List.append_assoc _ _ _
theorem nN:(hV σ h t υ).length=σ.length + (υ.length + 2):=List.length_append
theorem pC:dq (hV σ h t υ) (σ.length + 1) t'=hV σ h t' υ:=by
 unfold dq hV; rw [List.set_append_right _ _ (Nat.le_add_right _ _),Nat.add_sub_cancel_left]; rfl
end
section
variable {P T:Nat→Option Fn}{wf n:Nat} {σ:Sto}{m lw l i:Nat}{ws:List Way}{sc:List Int}{X:Nat→Nat × Nat}{x4 x5 x6 x7 x8 x9 x10 x11 x12:Option V}
theorem fu.fn (A:fu P T) {k N:Nat} (h:k ≠ 28) {vs:List V}{r:RE} (e:evFn P wf N k vs σ=r):ba P T wf N k vs σ=r:=(tH (A.hT k h)).trans e
theorem fV (A:fu P T) (hs:aM σ sc) {fr:Fra} (h0:fr[0]?=some (some (.ref 0))) (k:Nat):evE (ba P T wf (n + 6)) (eC k) fr σ=.ok (.int (sc.getD k 0)) σ:=aF (aa (ac h0) (aa ai ae)) (A.fn (by decide) (eg (n:=n + 5) A.HL.h20 hs k))
theorem uS (A:fu P T) (S:gQ P wf m ws) {j:Nat}{c cell:Int}{e ce:E}{fr:Fra} (W:a9 σ l m ws) (hj:fr[j]?=some (some (.ref l))) (h1:fr[1]?=some (some (.int m))) (hc:evE (ba P T wf (n + 6)) ce fr σ=.ok (.int c) σ) (he:∀ τ,evE (ba P T wf (n + 6)) e fr (σ ++ τ)=.ok (.int cell) (σ ++ τ)) :
  ∃ τ,evE (ba P T wf (n + 6)) (E.call 19 [E.loc j,E.bin .Mult (E.list [ce]) (E.loc 1),e]) fr σ=.ok (.bool true) (σ ++ τ):=by
 obtain ⟨τ,h⟩:=oM (n:=n) (cell:=cell) S.h19 (σ:=σ ++ [.lst [.int c]] ++ [.lst (intsV m fun _=>c)]) (lt:=(σ ++ [AO.lst [.int c]]).length) (x:=fun _=>c) ⟨S.T,S.h18,S.H,S.HW,S.h14,W.app.app,S.G,am,S.hw⟩
 have e2:=he ([.lst [.int c]] ++ [.lst (intsV m fun _=>c)])
 rw [← List.append_assoc] at e2
 refine ⟨[.lst [.int c]] ++ [.lst (intsV m fun _=>c)] ++ τ,?_⟩
 rw [← List.append_assoc,← List.append_assoc]
 exact aF (aa (ac hj) (aa (yy S.G.m2 hc (ac h1)) (aa e2 ae))) (A.fn (by decide) h)
theorem mk7 (A:fu P T) (S:gQ P wf m ws) {ls:Nat} {σ1:Sto}{es:List E}{fr:Fra} (he:b6 (ba P T wf (n + 6)) es fr σ=.ok [.int m,.ref ls] σ1) (hlw:σ1[ls]?=some (.lst (ws.map wayV))) {G:Prop} (k:∀ l τ,evE (ba P T wf (n + 6)) (E.mk 11 es) fr σ=.ok (.ref l) (σ1 ++ τ)→a9 (σ1 ++ τ) l m ws→G):G:=by
 obtain ⟨τ,e,hW⟩:=qW (wf:=wf) (n:=n + 3) S.HW hlw S.G (Nat.le_trans (by decide) (Nat.le_of_lt S.hw))
 exact k _ τ (BC he (A.fn (by decide) e)) (hW _ rfl)
theorem Ao (A:fu P T) (S:gQ P wf m ws) (hs:aM σ sc) (hlw:σ[lw]?=some (.lst (ws.map wayV))) (W:a9 σ l m ws) {G:Prop}
  (k:∀ x4' l' τ,a9 (σ ++ τ) l' m ws→(∀ ss r,evSs (ba P T wf (n + 6)) wf ss (bF m lw (some (.ref l')) x4' x5 x6 x7 x8 x9 x10 x11 x12) (σ ++ τ)=r→evSs (ba P T wf (n + 6)) wf (turnIf :: ss) (bF m lw (some (.ref l)) x4 x5 x6 x7 x8 x9 x10 x11 x12) σ=r)→G):G:=by
 have et:∀ b,((sc.getD 35 0).fmod 2 == 1)=b→evE (ba P T wf (n + 6)) (E.cmp .Eq (E.bin .Mod (eC 35) (E.int 2)) (E.int 1)) (bF m lw (some (.ref l)) x4 x5 x6 x7 x8 x9 x10 x11 x12) σ=.ok (.bool b) σ:=fun b hb=>aE (ar (fV A hs rfl 35) ai (br (by decide))) ai (congrArg some hb)
 cases hb:(sc.getD 35 0).fmod 2 == 1 with
 | false=>exact k x4 l [] W.app fun ss r h=>aG (et _ hb) (by rwa [List.append_nil] at h)
 | true =>
  refine mk7 (n:=n) A S.fl (σ:=σ) (es:=[E.loc 1,E.comp [1] true (E.loc 2) [] (E.tup [(E.loc 1).sub (E.int 1),(E.loc 1).sub (E.int 0),(E.loc 1).sub (E.int 2)]) [none,none]]) (fr:=bF m lw (some (.ref l)) x4 x5 x6 x7 x8 x9 x10 x11 x12) (aa (ac rfl) (aa (pW (ac rfl) hlw S.G.hz) ae)) am fun l4 τ4 e4 W4=>?_
  rw [List.append_assoc] at e4 W4
  generalize [AO.lst ((flip ws).map wayV)] ++ τ4=τ at *
  obtain ⟨τ5,e5⟩:=uS (n:=n) A S.fl (σ:=σ ++ τ) (j:=4) (l:=l4) (c:=0) (ce:=E.int 0) (cell:=4 + ((sc.getD 35 0).fdiv 2).fmod 2) (e:=E.bin .Add (E.int 4) (E.bin .Mod (E.bin .FloorDiv (eC 35) (E.int 2)) (E.int 2))) (fr:=bF m lw (some (.ref l)) (some (.ref l4)) x5 x6 x7 x8 x9 x10 x11 x12) W4 rfl rfl ai (fun τ' =>
   ar ai (ar (ar (fV A (ap (ap hs)) rfl 35) ai (eR (by decide) (by decide))) ai (br (by decide))) rfl)
  obtain ⟨d,lw',a,b,_⟩:=(W4.app (τ:=τ5)).at'
  obtain ⟨l6,τ6,e6,W6⟩:=kZ (wf:=wf) (n:=n + 2) S.HW S.h14 (W4.app (τ:=τ5)) S.G.flip (Nat.le_trans (by decide) (Nat.le_of_lt S.hw))
  rw [sq] at W6
  refine k (some (.ref l4)) l6 (τ ++ τ5 ++ τ6) (by rw [← List.append_assoc,← List.append_assoc]; exact W6) fun ss r h=>?_
  rw [← List.append_assoc,← List.append_assoc] at h
  exact d4 (et _ hb) (al e4 (by decide:4 < 24) (bi e5 (al (bP (ac rfl) a b ae (A.fn (by decide) e6)) (by decide:3 < 24) aY))) h
theorem xg (A:fu P T) (hs:aM σ sc)
  {G:Prop} (k:∀ (N D:Nat) (τ:Sto),1 ≤ D→(∀ ss r,evSs (ba P T wf (n + 6)) wf ss (bF m lw (some (.ref l)) x4 (some (.int N)) (some (.int D)) none none none none none none) (σ ++ τ)=r→evSs (ba P T wf (n + 6)) wf (BE ++ ss) (bF m lw (some (.ref l)) x4 none none none none none none none none) σ=r)→G):G:=by
 obtain ⟨w,hw,ew⟩:=bB 3 (by decide) (sc.getD 10 0)
 obtain ⟨w',hw',ew'⟩:=bB 4 (by decide) ((sc.getD 10 0).fdiv 3)
 have p1:=nG (L:=[(12:Int),2000,10 ^ 6]) hw (by decide)
 have p2:=nG (L:=[(12:Int),12,12,10 ^ 12]) hw' (by decide)
 have e1:=yq (call:=ba P T wf (n + 6)) (σ:=σ) (fr:=bF m lw (some (.ref l)) x4 none none none none none none none none) (es:=[E.int 12,E.int 2000,E.pow 10 6]) (ew:=E.bin .Mod (eC 10) (E.int 3)) (L:=[12,2000,10 ^ 6]) (aa ai (aa ai (aa sY ae))) (by exact (by decide:3 ≤ 1000)) (fun τ=>ar (fV A (ap hs) rfl 10) ai ((br (by decide)).trans (congrArg (fun z=>RE.ok (.int z) _) ew))) hw
 generalize [(12:Int),2000,10 ^ 6].getD w 0=d1 at p1 e1
 obtain ⟨N,hN⟩:=mO p1 (sc.getD 9 0)
 have f1:=ar (op:=.Mod) (fV (wf:=wf) (n:=n) A hs (fr:=bF m lw (some (.ref l)) x4 none none none none none none none none) rfl 9) e1 ((br (by lia)).trans (congrArg (fun z=>RE.ok (.int z) _) hN))
 have e2:=yq (call:=ba P T wf (n + 6)) (σ:=σ ++ [.lst ([12,2000,10 ^ 6].map V.int)]) (fr:=bF m lw (some (.ref l)) x4 (some (.int N)) none none none none none none none) (es:=[E.int 12,E.int 12,E.int 12,E.pow 10 12]) (ew:=E.bin .Mod (E.bin .FloorDiv (eC 10) (E.int 3)) (E.int 4)) (L:=[12,12,12,10 ^ 12]) (aa ai (aa ai (aa ai (aa sY ae)))) (by exact (by decide:4 ≤ 1000)) (fun τ=>ar (ar (fV A (ap (ap hs)) rfl 10) ai (eR (by decide) (by decide))) ai ((br (by decide)).trans (congrArg (fun z=>RE.ok (.int z) _) ew'))) hw'
 generalize [(12:Int),12,12,10 ^ 12].getD w' 0=d2 at p2 e2
 obtain ⟨D,hD⟩:=mO p2 (sc.getD 11 0)
 have f2:=ar (op:=.Add) (ai (n:=1)) (ar (op:=.Mod) (fV (wf:=wf) (n:=n) A (ap hs) (fr:=bF m lw (some (.ref l)) x4 (some (.int N)) none none none none none none none) rfl 11) e2 ((br (by lia)).trans (congrArg (fun z=>RE.ok (.int z) _) hD))) (rfl:_=RE.ok (.int ((1 + D:Nat):Int)) _)
 have hs2:aM (σ ++ [.lst ([12,2000,10 ^ 6].map V.int)] ++ [.lst ([12,12,12,10 ^ 12].map V.int)]) sc:=ap (ap hs)
 have et:evE (ba P T wf (n + 6)) (E.cmp .Eq (E.bin .Mod (E.bin .FloorDiv (eC 10) (E.int 12)) (E.int 9)) (E.int 1)) (bF m lw (some (.ref l)) x4 (some (.int N)) (some (.int (1 + D:Nat))) none none none none none none) (σ ++ [.lst ([12,2000,10 ^ 6].map V.int)] ++ [.lst ([12,12,12,10 ^ 12].map V.int)])=.ok (.bool (Int.fmod ((sc.getD 10 0).fdiv 12) 9 == 1)) _:=aE (ar (ar (fV A hs2 rfl 10) ai (eR (by decide) (by decide))) ai (br (by decide))) ai rfl
 cases hb:Int.fmod ((sc.getD 10 0).fdiv 12) 9 == 1 with
 | false =>
  rw [hb] at et
  refine k N (1 + D) ([.lst ([12,2000,10 ^ 6].map V.int)] ++ [.lst ([12,12,12,10 ^ 12].map V.int)]) (Nat.le_add_right _ _) fun ss r h=>?_
  rw [← List.append_assoc] at h
  exact al f1 (by decide:5 < 24) (al f2 (by decide:6 < 24) (aG et h))
 | true =>
  rw [hb] at et
  obtain ⟨N',hN'⟩:=mO (d:=10 ^ 30) (by decide) (sc.getD 9 0)
  obtain ⟨D',hD'⟩:=mO (d:=10 ^ 30) (by decide) (sc.getD 11 0)
  refine k N' (1 + D') ([.lst ([12,2000,10 ^ 6].map V.int)] ++ [.lst ([12,12,12,10 ^ 12].map V.int)]) (Nat.le_add_right _ _) fun ss r h=>?_
  rw [← List.append_assoc] at h
  exact al f1 (by decide:5 < 24) (al f2 (by decide:6 < 24) (d4 et (al (ar (fV A hs2 rfl 9) sY ((br (by decide)).trans (congrArg (fun z=>RE.ok (.int z) _) hN'))) (by decide:5 < 24) (al (ar ai (ar (fV A hs2 rfl 11) sY ((br (by decide)).trans (congrArg (fun z=>RE.ok (.int z) _) hD'))) (rfl:_=RE.ok (.int ((1 + D':Nat):Int)) _)) (by decide:6 < 24) aY)) h))
structure Tl7 (b:Nat) (ws:List Way) (X:Nat→Nat × Nat) (m i:Nat) (vs:List V) (js:List Nat) (υ:Sto):Prop where
 vlen:vs.length=i
 len:js.length=i
 row:∀ (k j:Nat) (v:V),js[k]?=some j→vs[k]?=some v→fZ m (X k).1 (X k).2 ws υ[j]? (b + (j + 2)) v
 inc:∀ k k' j j':Nat,k < k'→js[k]?=some j→js[k']?=some j'→j < j'
theorem fZ.lst {N D q:Nat}{o:Option AO}{v:V} (C:fZ m N D ws o q v):∃ xs,o=some (.lst xs):=by
 cases C with
 | none Z h _=>exact ⟨_,h⟩
 | ring r h=>exact ⟨_,h⟩
theorem fZ.move {N D q:Nat}{o o':Option AO}{v:V} (C:fZ m N D ws o q v) (h':∀ x,o=some x→o'=some x):fZ m N D ws o' q v:=by
 cases C with
 | none Z h hs=>exact .none Z (h' _ h) hs
 | ring r h R hlt hmin=>exact .ring r (h' _ h) R hlt hmin
theorem dM {α:Type}{js:List α}{x y:α}{k:Nat} (h:(js ++ [x])[k]?=some y):js[k]?=some y ∨ (k=js.length ∧ x=y):=by
 by_cases hk:k < js.length
 ·rw [List.getElem?_append_left hk] at h; exact .inl h
 ·rw [List.getElem?_append_right (Nat.not_lt.mp hk)] at h
  have h1:=(List.getElem?_eq_some_iff.mp h).1
  have hk':k - js.length=0:=Nat.lt_one_iff.mp h1
  rw [hk'] at h
  exact .inr ⟨by lia,Option.some.inj h⟩
theorem Tl7.lt {b:Nat}{vs:List V}{js:List Nat} {υ:Sto} (I:Tl7 b ws X m i vs js υ) {k j:Nat} (h:js[k]?=some j):j < υ.length:=by
 have hk:=(List.getElem?_eq_some_iff.mp h).1
 obtain ⟨v,hv⟩:∃ v,vs[k]?=some v:=⟨_,List.getElem?_eq_getElem (by rw [I.vlen,← I.len]; exact hk)⟩
 obtain ⟨xs,hx⟩:=(I.row k j v h hv).lst
 exact (List.getElem?_eq_some_iff.mp hx).1
theorem Tl7.push {b j:Nat}{vs:List V}{js:List Nat} {υ τ:Sto}{v:V} (I:Tl7 b ws X m i vs js υ) (hj:υ.length ≤ j) (C:fZ m (X i).1 (X i).2 ws (υ ++ τ)[j]? (b + (j + 2)) v):Tl7 b ws X m (i + 1) (vs ++ [v]) (js ++ [j]) (υ ++ τ):=by
 refine ⟨by rw [List.length_append,I.vlen]; rfl,by rw [List.length_append,I.len]; rfl,fun k j' v' h1 h2=>?_,fun k k' j1 j2 hk h1 h2=>?_⟩
 ·rcases dM h1 with h1 | ⟨h1,h1'⟩
  ·rcases dM h2 with h2 | ⟨h2,h2'⟩
   ·exact (I.row k j' v' h1 h2).move fun x hx=>ap hx
   ·have:=(List.getElem?_eq_some_iff.mp h1).1; have:=I.len; have:=I.vlen; lia
  ·rcases dM h2 with h2 | ⟨h2,h2'⟩
   ·have:=(List.getElem?_eq_some_iff.mp h2).1; have:=I.len; have:=I.vlen; lia
   ·rw [← h1',← h2',h1,I.len]; exact C
 ·rcases dM h1 with h1 | ⟨h1,h1'⟩
  ·rcases dM h2 with h2 | ⟨h2,h2'⟩
   ·exact I.inc _ _ _ _ hk h1 h2
   ·rw [← h2']; exact Nat.lt_of_lt_of_le (I.lt h1) hj
  ·rcases dM h2 with h2 | ⟨h2,h2'⟩
   ·have:=(List.getElem?_eq_some_iff.mp h2).1; lia
   ·lia
theorem ig.at {N D:Nat}{h t:List V} {υ:Sto}{v:V} {σ2:Sto} (R:ig (hV σ h t υ) m N D ws v σ2):∃ τ j,σ2=hV σ h t (υ ++ τ) ∧ υ.length ≤ j ∧ fZ m N D ws (υ ++ τ)[j]? (σ.length + (j + 2)) v:=by
 have pos:∀ {q:Nat},(hV σ h t υ).length ≤ q→∃ j,q=σ.length + (j + 2) ∧ υ.length ≤ j:=fun {q} hq=>(Nat.exists_eq_add_of_le (nN ▸ hq)).elim fun d e=>⟨υ.length + d,e.trans ((Nat.add_assoc _ _ _).trans (congrArg (σ.length + ·) (Nat.add_right_comm υ.length 2 d))),Nat.le_add_right _ _⟩
 cases R with
 | none ls S τ h hs hf =>
  obtain ⟨j,hq,hj⟩:=pos hf
  rw [hq,jt] at h ⊢
  exact ⟨τ,j,rfl,hj,.none S (qV.symm.trans h) hs⟩
 | ring lr r τ h R hlt hmin hf =>
  obtain ⟨j,hq,hj⟩:=pos hf
  rw [hq,jt] at h ⊢
  exact ⟨τ,j,rfl,hj,.ring r (qV.symm.trans h) R hlt hmin⟩
abbrev B07:=(Option V × Option V) × List V × List Nat × Sto
noncomputable def a8 (X:Nat→Nat × Nat) (k:Nat):V:=.tup [.int (X k).1,.int (X k).2]
theorem ow (A:fu P T) (Z:gQ P wf m ws) (hs:aM σ sc) (W:a9 σ l m ws) (hX:1 ≤ (X i).2) (hi:i < 3) {h vs:List V}{js:List Nat} {υ:Sto} (I:Tl7 σ.length ws X m i vs js υ) :
  ge [10,11] false (evSs (ba P T wf (n + 6)) wf rk) (.tup [.int (i:Nat),a8 X i]) (bF m lw (some (.ref l)) x4 x5 x6 x7 (some (.ref σ.length)) (some (.ref (σ.length + 1))) x10 x11 none) (hV σ h vs υ) (fun z:B07=>bF m lw (some (.ref l)) x4 x5 x6 x7 (some (.ref σ.length)) (some (.ref (σ.length + 1))) z.1.1 z.1.2 none) (fun z=>hV σ h z.2.1 z.2.2.2) (fun z=>Tl7 σ.length ws X m (i + 1) z.2.1 z.2.2.1 z.2.2.2):=by
 obtain ⟨τ1,e1⟩:=uS (n:=n) A Z (σ:=hV σ h vs υ) (j:=3) (l:=l) (c:=i) (ce:=E.loc 10) (cell:=sc.getD (30 + i) 0) (e:=E.call 20 [E.loc 0,E.bin .Add (E.int 30) (E.loc 10)]) (fr:=bF m lw (some (.ref l)) x4 x5 x6 x7 (some (.ref σ.length)) (some (.ref (σ.length + 1))) (some (.int i)) (some (a8 X i)) none) W.app rfl rfl (ac rfl) (fun τ =>
  aF (aa (ac rfl) (aa (ar ai (ac rfl) (rfl:_=RE.ok (.int ((30 + i:Nat):Int)) _)) ae)) (A.fn (by decide) (eg (n:=n + 5) A.HL.h20 (ap (ap hs)) (30 + i))))
 rw [jt] at e1
 obtain ⟨v,σ2,e2,R⟩:=iw (wf:=wf) (n:=n + 3) (num:=(X i).1) (div:=(X i).2) (σ:=hV σ h vs (υ ++ τ1)) Z.H.h3 Z.H.h4 Z.H.h5 W.app Z.G.m1 Z.G.m2 hX (uQ Z.G) Z.G.hm (Nat.le_trans (by decide) (Nat.le_of_lt Z.hw))
 obtain ⟨τ2,j,hσ,hj,C⟩:=R.at
 rw [hσ] at e2
 have hl:vs.length < 16777216:=by rw [I.vlen]; lia
 refine ⟨_,rfl,((some (.int i),some (a8 X i)),vs ++ [v],js ++ [j],υ ++ (τ1 ++ τ2)),bi e1 (bi (de (ac rfl) (ag nj) (aa (aF (aa (ac rfl) (aa (aD (ac rfl) ai rfl) (aa (aD (ac rfl) ai rfl) ae))) (A.fn (by decide) e2)) ae) (ag nj) (ml hl)) ?_),I.push (Nat.le_trans (by rw [List.length_append]; exact Nat.le_add_right _ _) hj) (List.append_assoc υ τ1 τ2 ▸ C)⟩
 rw [pC,List.append_assoc]
 exact aY
abbrev C07:=(Option V × Option V) × Sto
noncomputable def wt (b:Nat) (js:List Nat) (S:Sto) (k:Nat) (S':Sto):Prop:=∀ (c:Nat) (o:AO),S[c]?=some o→(∀ k' j:Nat,k' < k→js[k']?=some j→c ≠ b + (j + 2))→S'[c]?=some o
theorem n9 (A:fu P T) (G:aJ m ws) {S:Sto}{js:List Nat}{k j b:Nat}{v:V} (hk:js[k]?=some j) (C:fZ m (X k).1 (X k).2 ws S[b + (j + 2)]? (b + (j + 2)) v) (inc:∀ k' j',k' < k→js[k']?=some j'→j' < j) (hlw:S[lw]?=some (.lst (ws.map wayV))) (lb:lw < b) {S':Sto} (I:wt b js S k S') :
  ge [12,11] false (evSs (ba P T wf (n + 6)) wf nV) (.tup [v,a8 X k]) (bF m lw (some (.ref l)) x4 x5 x6 x7 x8 x9 x10 x11 x12) S' (fun z:C07=>bF m lw (some (.ref l)) x4 x5 x6 x7 x8 x9 x10 z.1.1 z.1.2) (fun z=>z.2) (fun z=>wt b js S (k + 1) z.2):=by
 obtain ⟨τ,e⟩:=sD (wf:=wf) (n:=n + 2) (σ:=S') (q:=b + (j + 2)) A.K (I _ _ hlw fun k' j _ _=>by lia) G (C.move fun x hx=>I _ _ hx fun k' j' h1 h2=>by have:=inc k' j' h1 h2; lia)
 exact ⟨_,rfl,((some (a8 X k),some v),_),aG (dc (aF (aa (ac rfl) (aa (ac rfl) (aa (ac rfl) (aa (aD (ac rfl) ai rfl) (aa (aD (ac rfl) ai rfl) ae))))) (A.fn (by decide) e))) aY,fun c o hc hn=>sS (ap (I c o hc fun k' j' h1=>hn k' j' (Nat.lt_succ_of_lt h1))) (hn k j (Nat.lt_succ_self k) hk)⟩
theorem px7 {k:Nat} (hk:k < 3):[a8 X 0,a8 X 1,a8 X 2].getD k .none=a8 X k:=by
 rcases k with _ | _ | _ | k
 ·rfl
 ·rfl
 ·rfl
 ·exact absurd hk (Nat.not_lt.mpr (Nat.le_add_left 3 k))
theorem pO (A:fu P T) (Z:gQ P wf m ws) (hlw:σ[lw]?=some (.lst (ws.map wayV))) (W:a9 σ l m ws) {vs:List V}{js:List Nat} {υ:Sto} (I:Tl7 σ.length ws X m 3 vs js υ) :
  ∃ fr σ',evSs (ba P T wf (n + 6)) wf [S.forS [12,11] false (It.zip (E.loc 9) (E.loc 8)) nV,S.ret (E.cmp .Eq ((E.loc 3).attr 1) (E.loc 2))] (bF m lw (some (.ref l)) x4 x5 x6 x7 (some (.ref σ.length)) (some (.ref (σ.length + 1))) x10 x11 none) (hV σ [a8 X 0,a8 X 1,a8 X 2] vs υ)=.ok (.ret (.bool true)) fr σ' ∧ ∀ (c:Nat) (o:AO),σ[c]?=some o→σ'[c]?=some o:=by
 have lt':∀ {c:Nat}{o:AO},σ[c]?=some o→c < σ.length:=fun h=>(List.getElem?_eq_some_iff.mp h).1
 generalize hS:hV σ [a8 X 0,a8 X 1,a8 X 2] vs υ=S
 have up:∀ {c:Nat}{o:AO} {τ:Sto},σ[c]?=some o→(S ++ τ)[c]?=some o:=fun h=>ap (hS ▸ ap h)
 have tl:∀ {τ:Sto},(S ++ τ)[σ.length + 1]?=some (.lst vs):=fun {τ}=>ap (hS ▸ nj)
 have hh:∀ {τ:Sto},(S ++ τ)[σ.length]?=some (.lst [a8 X 0,a8 X 1,a8 X 2]):=fun {τ}=>ap (hS ▸ qZ)
 have far:∀ {c k:Nat},c < σ.length + 2→∀ k' j:Nat,k' < k→js[k']?=some j→c ≠ σ.length + (j + 2):=fun h k' j _ _=>by lia
 have hlj:∀ {k j:Nat},js[k]?=some j→σ.length + (j + 2) < S.length:=fun h=>by
  have h1:=I.lt h
  rw [← hS,nN]; lia
 have t0:S[σ.length + 1]?=some (.lst vs):=hS ▸ nj
 have h0:S[σ.length]?=some (.lst [a8 X 0,a8 X 1,a8 X 2]):=hS ▸ qZ
 obtain ⟨z,e11,K⟩:=zX (call:=ba P T wf (n + 6)) (wf:=wf) (tg:=[12,11]) (one:=false) (ia:=E.loc 9) (ib:=E.loc 8) (bs:=nV) (xs:=vs) (ys:=[a8 X 0,a8 X 1,a8 X 2]) (σ:=S) (σ1:=S) (σ2:=S)
  (F:=fun _ (z:C07)=>bF m lw (some (.ref l)) x4 x5 x6 x7 (some (.ref σ.length)) (some (.ref (σ.length + 1))) x10 z.1.1 z.1.2) (St:=fun _ z=>z.2) (J:=fun k z=>wt σ.length js (S ++ [.ztup]) k z.2) ((x11,none),S ++ [.ztup]) (ac rfl) (ac rfl) rfl (ag t0) (ag h0) I.vlen.symm
  (fun k z K=>⟨ag (K _ _ tl (far (by lia))),ag (K _ _ hh (far (by lia))),K _ _ am fun k' j _ h=>Nat.ne_of_gt (hlj h)⟩)
  (fun k z hk K=>by
   rw [I.vlen] at hk
   obtain ⟨j,hj⟩:∃ j,js[k]?=some j:=⟨_,List.getElem?_eq_getElem (by rw [I.len]; exact hk)⟩
   have hv:=jh (vs:=vs) (i:=k) (by rw [I.vlen]; exact hk)
   rw [px7 hk]
   exact n9 A Z.G hj ((I.row k j _ hj hv).move fun x hx=>ap (hS ▸ qV.trans hx)) (fun k' j' h1 h2=>I.inc _ _ _ _ h1 h2 hj) (up hlw) (lt' hlw) K) (fun c o h _=>h)
 have up2:∀ {c:Nat}{o:AO},σ[c]?=some o→z.2[c]?=some o:=fun h=>K _ _ (up h) (far (Nat.lt_of_lt_of_le (lt' h) (Nat.le_add_right _ _)))
 obtain ⟨d,lw',a,b,c⟩:=W.at'
 exact ⟨_,z.2,a4 e11 (aL (aE (cD (ac rfl) (cK (up2 a) (up2 b))) (ac rfl) (vS (up2 c) (up2 hlw)))),fun c o h=>up2 h⟩
theorem qH (A:fu P T) (Z:gQ P wf m ws) (hs:aM σ sc) (hlw:σ[lw]?=some (.lst (ws.map wayV))) (W:a9 σ l m ws) {N D:Nat} (hD:1 ≤ D) :
  ∃ fr σ',evSs (ba P T wf (n + 6)) wf ny (bF m lw (some (.ref l)) x4 (some (.int N)) (some (.int D)) none none none none none none) σ=.ok (.ret (.bool true)) fr σ' ∧ ∀ (c:Nat) (o:AO),σ[c]?=some o→σ'[c]?=some o:=by
 obtain ⟨N',_,eN⟩:=bB 2000 (by decide) (sc.getD 13 0)
 obtain ⟨D',_,eD⟩:=bB 12 (by decide) (sc.getD 14 0)
 have e7:evE (ba P T wf (n + 6)) (E.tup [E.bin .Mod (eC 13) (E.int 2000),E.bin .Add (E.int 1) (E.bin .Mod (eC 14) (E.int 12))]) (bF m lw (some (.ref l)) x4 (some (.int N)) (some (.int D)) none none none none none none) σ=.ok (.tup [.int N',.int (1 + D':Nat)]) σ :=
  fX (aa (ar (fV A hs rfl 13) ai ((br (by decide)).trans (congrArg (fun z=>RE.ok (.int z) _) eN))) (aa (ar ai (ar (fV A hs rfl 14) ai ((br (by decide)).trans (congrArg (fun z=>RE.ok (.int z) _) eD))) (rfl:_=RE.ok (.int ((1 + D':Nat):Int)) _)) ae)) (by exact (by decide:2 ≤ 1000))
 obtain ⟨X,hX⟩:∃ X:Nat→Nat × Nat,X=fun k=>if k=1 then (N',1 + D') else (N,D):=⟨_,rfl⟩
 have pos:∀ k,1 ≤ (X k).2:=fun k=>by rw [hX]; show 1 ≤ (if k=1 then (N',1 + D') else (N,D)).2; split; exact Nat.le_add_right _ _; exact hD
 have e8:evE (ba P T wf (n + 6)) (E.list [E.tup [E.loc 5,E.loc 6],E.loc 7,E.tup [E.loc 5,E.loc 6]]) (bF m lw (some (.ref l)) x4 (some (.int N)) (some (.int D)) (some (.tup [.int N',.int (1 + D':Nat)])) none none none none none) σ=.ok (.ref σ.length) (σ ++ [.lst [a8 X 0,a8 X 1,a8 X 2]]):=by
  rw [hX]
  exact bg (aa (fX (aa (ac rfl) (aa (ac rfl) ae)) (by exact (by decide:2 ≤ 1000))) (aa (ac rfl) (aa (fX (aa (ac rfl) (aa (ac rfl) ae)) (by exact (by decide:2 ≤ 1000))) ae))) (ak (by exact (by decide:3 ≤ 16777216)))
 have e9:evE (ba P T wf (n + 6)) (E.list []) (bF m lw (some (.ref l)) x4 (some (.int N)) (some (.int D)) (some (.tup [.int N',.int (1 + D':Nat)])) (some (.ref σ.length)) none none none none) (σ ++ [.lst [a8 X 0,a8 X 1,a8 X 2]])=.ok (.ref (σ.length + 1)) (hV σ [a8 X 0,a8 X 1,a8 X 2] [] []):=by
  rw [bg ae (ak (by decide:0 ≤ 16777216)),List.length_append,List.append_assoc]; rfl
 clear hX
 obtain ⟨z,e10,I⟩:=A1 (call:=ba P T wf (n + 6)) (wf:=wf) (tg:=[10,11]) (one:=false) (it:=E.loc 8) (bs:=rk) (vs:=[a8 X 0,a8 X 1,a8 X 2]) (σ:=hV σ [a8 X 0,a8 X 1,a8 X 2] [] [])
  (F:=fun _ (z:B07)=>bF m lw (some (.ref l)) x4 (some (.int N)) (some (.int D)) (some (.tup [.int N',.int (1 + D':Nat)])) (some (.ref σ.length)) (some (.ref (σ.length + 1))) z.1.1 z.1.2 none) (St:=fun _ z=>hV σ [a8 X 0,a8 X 1,a8 X 2] z.2.1 z.2.2.2) (J:=fun i z=>Tl7 σ.length ws X m i z.2.1 z.2.2.1 z.2.2.2) ((none,none),[],[],[]) (ac rfl)
  (fun i z _=>ag qZ)
  (fun i z hi I=>by
   rw [px7 hi]
   exact ow A Z hs W (pos i) hi I) ⟨rfl,rfl,(fun k j v q=>nomatch q),(fun k k' j j' _ q=>nomatch q)⟩
 obtain ⟨fr,S2,e11,up2⟩:=pO (n:=n) (x4:=x4) (x5:=some (.int N)) (x6:=some (.int D)) (x7:=some (.tup [.int N',.int (1 + D':Nat)])) (x10:=z.1.1) (x11:=z.1.2) A Z hlw W I
 exact ⟨fr,S2,al e7 (by decide:7 < 24) (al e8 (by decide:8 < 24) (al e9 (by decide:9 < 24) (a4 e10 e11))),up2⟩
theorem w7 (A:fu P T) (Z:gQ P wf m ws) (hs:aM σ sc) (hlw:σ[lw]?=some (.lst (ws.map wayV))) (W:a9 σ l m ws) {N D:Nat} (hD:1 ≤ D) :
  ∃ fr σ',evSs (ba P T wf (n + 6)) wf (By ++ ny) (bF m lw (some (.ref l)) x4 (some (.int N)) (some (.int D)) none none none none none none) σ=.ok (.ret (.bool true)) fr σ' ∧ ∀ (c:Nat) (o:AO),σ[c]?=some o→σ'[c]?=some o:=by
 have et:∀ (q:Int) {fr:Fra},fr[0]?=some (some (.ref 0))→evE (ba P T wf (n + 6)) (E.cmp .Eq (E.bin .Mod (eC 12) (E.int 9)) (E.int q)) fr σ=.ok (.bool ((sc.getD 12 0).fmod 9 == q)) σ:=fun q fr h0=>aE (ar (fV A hs h0 12) ai (br (by decide))) ai rfl
 generalize (sc.getD 12 0).fmod 9=c at et
 have eo:∀ (x y:Int),evE (ba P T wf (n + 6)) ((E.cmp .Lt (E.loc 5) (E.int 0)).or (E.cmp .Lt (E.loc 6) (E.int 1))) (bF m lw (some (.ref l)) x4 (some (.int x)) (some (.int y)) none none none none none none) σ=.ok (.bool (decide (x < 0) || decide (y < 1))) σ:=fun x y=>Af (aE (ac rfl) ai rfl) fun _=>aE (ac rfl) ai rfl
 have ref:∀ (x y:Int),x < 0 ∨ y < 1→∃ fr τ,evSs (ba P T wf (n + 6)) wf (S.ifS ((E.cmp .Lt (E.loc 5) (E.int 0)).or (E.cmp .Lt (E.loc 6) (E.int 1))) [S.ret (E.tcall 28 [E.loc 3,E.loc 5,E.loc 6])] [] :: ny) (bF m lw (some (.ref l)) x4 (some (.int x)) (some (.int y)) none none none none none none) σ=.ok (.ret (.bool true)) fr (σ ++ τ):=fun x y h=>by
  obtain ⟨τ,e⟩:=mf (wf:=wf) (n:=n + 4) (l:=l) (σ:=σ) A.h28 A.h39 Z.H.h5 h
  have e0:=eo x y
  rw [show (decide (x < 0) || decide (y < 1))=true by rw [Bool.or_eq_true,decide_eq_true_iff,decide_eq_true_iff]; exact h] at e0
  exact ⟨_,τ,cP e0 (aL (w4 (aa (ac rfl) (aa (ac rfl) (aa (ac rfl) ae))) e))⟩
 have e1:=et 1 (fr:=bF m lw (some (.ref l)) x4 (some (.int N)) (some (.int D)) none none none none none none) rfl
 cases hb:c == 1 with
 | true =>
  rw [hb] at e1
  have e2:=et 2 (fr:=bF m lw (some (.ref l)) x4 (some (.int (-1 - (N:Int)))) (some (.int D)) none none none none none none) rfl
  rw [show (c == 2)=false by rw [eq_of_beq hb]; rfl] at e2
  obtain ⟨fr,τ,e⟩:=ref (-1 - (N:Int)) D (.inl (by lia))
  exact ⟨fr,_,d4 e1 (al (ar (sW ai) (ac rfl) rfl) (by decide:5 < 24) aY) (aG e2 e),fun c o h=>ap h⟩
 | false =>
  rw [hb] at e1
  have e2:=et 2 (fr:=bF m lw (some (.ref l)) x4 (some (.int N)) (some (.int D)) none none none none none none) rfl
  cases hb2:c == 2 with
  | true =>
   rw [hb2] at e2
   obtain ⟨fr,τ,e⟩:=ref N (1 - (D:Int)) (.inr (by lia))
   exact ⟨fr,_,aG e1 (d4 e2 (al (ar ai (ac rfl) rfl) (by decide:6 < 24) aY) e),fun c o h=>ap h⟩
  | false =>
   rw [hb2] at e2
   have e0:=eo N D
   rw [show (decide ((N:Int) < 0) || decide ((D:Int) < 1))=false by rw [Bool.or_eq_false_iff,decide_eq_false_iff_not,decide_eq_false_iff_not]; lia] at e0
   obtain ⟨fr,σ',e,K⟩:=qH (n:=n) (x4:=x4) (N:=N) A Z hs hlw W hD
   exact ⟨fr,σ',aG e1 (aG e2 (aG e0 e)),K⟩
theorem sB (A:fu P T) (h24:P 24=some sN) (h25:P 25=some (lU 1 14 13 dK)) (HT:iC P) (h18:P 18=some cq) (h19:P 19=some gg) (H2:rO P) (HW:l0 P) (h14:P 14=some ff) (hw:9999 * 27720 < wf) :
  ∃ fr σ',evSs (ba P T wf (n + 6)) wf qY.body (aS qY [.ref 0]) [.frz (sc.map V.int),.tab false]=.ok (.ret (.bool true)) fr σ' ∧ σ'[0]?=some (.frz (sc.map V.int)) ∧ ∃ b,σ'[1]?=some (.tab b):=by
 obtain ⟨m,m1,m2,e1⟩:=xe (wf:=wf) (n:=n + 4) A.HL.h20 h24 (σ:=[.frz (sc.map V.int),.tab false]) (sc:=sc) rfl
 refine t5 (wf:=wf) (n:=n + 4) (sc:=sc) A.HL h25 m1 m2 fun ws lw σ G e2 hs ht hlw=>?_
 have hz:=G.hz
 have Z:gQ P wf m ws:=⟨HT,h18,h19,H2,HW,h14,A.HL.h20,G,hw⟩
 refine mk7 (n:=n) A Z (σ:=σ) (σ1:=σ ++ [.lst (ws.map wayV)]) (es:=[E.loc 1,E.blt .list [E.loc 2]]) (fr:=bF m lw none none none none none none none none none none) (aa (ac rfl) (aa (a6 (aa (ac rfl) ae) (jo hlw (by rw [List.length_map]; lia))) ae)) am fun l τ3 e3 W3=>?_
 refine Ao (n:=n) (x4:=none) (x5:=none) (x6:=none) (x7:=none) (x8:=none) (x9:=none) (x10:=none) (x11:=none) (x12:=none) A Z (ap (ap hs)) (ap (ap hlw)) W3 fun x4 l' τ4 W4 e4=>?_
 refine xg (wf:=wf) (n:=n) (m:=m) (lw:=lw) (l:=l') (x4:=x4) A (ap (τ:=τ4) (ap (τ:=τ3) (ap (τ:=[.lst (ws.map wayV)]) hs))) fun N D τ5 hD e5=>?_
 obtain ⟨fr,σ',e6,K⟩:=w7 (n:=n) (x4:=x4) (N:=N) A Z (ap (τ:=τ5) (ap (τ:=τ4) (ap (τ:=τ3) (ap (τ:=[.lst (ws.map wayV)]) hs)))) (ap (ap (ap (ap hlw)))) W4.app hD
 exact ⟨fr,σ',al (aF (aa (ac rfl) ae) (A.fn (by decide) e1)) (by decide:1 < 24) (al (aF (aa (ac rfl) (aa (ac rfl) ae)) (A.fn (by decide) e2)) (by decide:2 < 24) (al e3 (by decide:3 < 24) (e4 _ _ (e5 _ _ e6)))),K _ _ (ap (ap (ap (ap hs)))),true,K _ _ (ap (ap (ap (ap ht))))⟩
end
end Mine
namespace Mine
open PySem PyProof.Rows PySem.W
noncomputable def cA:CE:={ names:=[],fns:=[("common",0),("lowest",1),("mean",2),("led_on",3),("ring_behind",4),("slower",5),("any_ring",6),("pace",7),("is_whole",8),("come_to",9),("is_joined",10),("settled",18),("_law_stirred",19),("_law_cell_at",20),("_law_whole",21),("_law_mixed",22),("_law_delay_by",23),("_law_many",24),("_law_ways",25),("_law_ring_slower",27),("_law_numbers_good",29),("_law_slower_good",30),("_law_start_good",31)],clss:=[("Web",11)],excs:=[("BadCount",37),("NoMeeting",49),("BadDelay",61),("Apart",73),("NoRing",85),("BadPace",97)],mths:=[("need",12),("delay",13),("turned",14),("into",15),("ahead",16),("turns",17)],attrs:=[("many",0),("ways",1)],consts:=[("MOST_MEETINGS",12),("MOST_WAYS",60),("MOST_DELAY",9999)],lam:=none,hnd:=false,hfns:=[("_law_words",39)],pe:=some ("PaceError",24) }
noncomputable def cL:CE:={ cA with lam:=some 273 }
noncomputable def cH:CE:=cA.hand
set_option backward.match.sparseCases false in
noncomputable def uC:List (Str × NameKind):=match (PySem.Challenge.pw_uf060017_07.main.body[42]?:Option Stmt) with | some (.FunctionDef _ _ _ _ _ _ sc _ _ _)=>sc.names | _=>[]
noncomputable def cT:CE:={ cA with top:=some uC,tfns:=[("_law_refused",28)] }
noncomputable def tOf (k:Nat):Option Fn:=if k=28 then some eK else none
noncomputable def cOf (k:Nat):CE:=if k=25 then cL else if k=39 then cH else cA
noncomputable def wy (k:Nat):Option Addr:=([some 106,some 113,some 120,some 127,some 134,some 141,some 146,some 153,some 165,some 172,some 177,some 191,some 198,some 208,some 225,some 203,some 213,some 220,some 158,some 315,some 239,some 246,some 253,some 260,some 267,some 274,none,some 284,none,some 279,some 310,some 291,none,none,none,none,none,none,none,some 296]:List (Option Addr))[k]?.join
noncomputable def AX (k:Nat):Option Addr:=if k=39 then wy k else none
structure Au (K:Frag):Prop where
 q0:aH K cA 106=some jT
 q1:aH K cA 113=some lY
 q2:aH K cA 120=some yr
 q3:aH K cA 127=some g9
 q4:aH K cA 134=some dj
 q5:aH K cA 141=some dz
 q6:aH K cA 146=some jE
 q7:aH K cA 153=some yA
 q8:aH K cA 165=some cR
 q9:aH K cA 172=some gY
 q10:aH K cA 177=some ip
 q11:aH K cA 191=some yo
 q12:aH K cA 198=some rI
 q13:aH K cA 208=some rr
 q14:aH K cA 225=some ff
 q15:aH K cA 203=some xT
 q16:aH K cA 213=some uT
 q17:aH K cA 220=some mG
 q18:aH K cA 158=some cq
 q19:aH K cA 315=some gg
 q20:aH K cA 239=some fo
 q21:aH K cA 246=some gT
 q22:aH K cA 253=some pb
 q23:aH K cA 260=some (gk 10000)
 q24:aH K cA 267=some sN
 q25:aH K cL 274=some (lU 1 14 13 dK)
 q27:aH K cA 284=some eu
 q29:aH K cA 279=some dN
 q30:aH K cA 310=some gF
 q31:aH K cA 291=some fJ
 q39:aH K cH 296=some kB
 qT:mJ K cA 303=some eK
 qL:aH K cT 320=some qY
set_option tactic.hygienic true in
theorem joinN {prog:Program}{w:World}{K:Frag}{mg mb:Str→Option Value}{s₁:Shared}{scr:Addr}{vs:List Value}{is:List Int}
  (KX:K.In s₁.heap) (Tg:s₁.heap.Ns mainGlobals mg) (Tb:s₁.heap.Ns builtinsNs mb) (hb:∀ x:Str,x ≠ "__name__"→mb x=bootBuiltins x) (lim:s₁.heap.NoLimit)
  (hl:s₁.heap.get? scr=some { cls:=.type "list",data:=.seq vs.toArray }) (hi:IntsAre vs is) (hlen:is.length ≤ 63)
  (hT:TabsAt [(273,269)] s₁.heap) (hB:∃ bm ob,mg "__builtins__"=some (.ref bm) ∧ bm ≠ builtinsNs ∧ s₁.heap.get? bm=some ob ∧ ob.cls=.type "module" ∧ ob.dict=some builtinsNs ∧ ob.data=.plain)
  {p:Program}{loose:List Str} (TR:TopRead p loose mg mb s₁.heap)
  (hK:K.all (fun p=>!(p.2.cls == .type "list") && !(p.1 == 269))=true) (chk:o5 K cA 228 [(0,"many"),(1,"ways")] wy=true) (chk':o5 K cL 228 [(0,"many"),(1,"ways")] wy=true) (chkh:o5 K cH 228 [(0,"many"),(1,"ways")] wy=true) (chkh':o5 K cH 228 [(0,"many"),(1,"ways")] AX=true) (chkx:xk K cA=true) (chkt:o5 K cT 228 [(0,"many"),(1,"ways")] wy=true) (hn:nsIn K mainGlobals "_law_refused"=some (some (.ref 303))) (hkp:keepIn K (.ref 303)=true) (Q:Au K)
  {R:Result→Shared→Prop} (hR:∀ h' tk,(∀ (b:Addr) (o:Obj),(ghostOf s₁.heap [(273,269)]).get? b=some o→h'.get? b=some o)→GrownAll [(273,269)] h'→R (.ok (.ret (.bool true))) { s₁ with heap:=h',toks:=tk }) :
  codeAny (model prog w) callerA (.call (.ref 320) ⟨[.ref scr],[]⟩) R s₁:=by
 obtain ⟨frL,σ',ev,h0,h1⟩:=sB (P:=Pof K cOf wy) (T:=tOf) (wf:=10 ^ 100) (n:=0) (sc:=is) ⟨⟨Q.q20,Q.q22,Q.q23⟩,⟨Q.q21,Q.q27,Q.q29,Q.q30,Q.q31⟩,Q.q39,fun k h=>if_neg h,rfl⟩ Q.q24 Q.q25 ⟨Q.q8,Q.q12,Q.q15,Q.q16,Q.q17⟩ Q.q18 Q.q19 ⟨⟨Q.q0,Q.q1,Q.q2,Q.q8,Q.q12,Q.q13⟩,Q.q3,Q.q4,Q.q5,Q.q6,Q.q7⟩ ⟨Q.q8,Q.q9,Q.q10,Q.q11⟩ Q.q14 (by decide)
 refine zV (c:=cOf) (C:=228) (at':=[(0,"many"),(1,"ways")]) (fa:=wy) (n:=6) (lawI:=0) KX Tg Tb hb lim hl hi hlen hT hB hK (fun k=>?_) (by decide) (by decide) (by decide) (by decide) (fun k x h=>?_) TR (fun k=>?_) (fun k _ _=>?_) (fh:=AX) (cB:=cA) (cT:=cT) (T:=tOf) (fun k a h=>?_) chkh' chk chkx ⟨rfl,rfl⟩ rfl chkt chkx rfl (fun f k h=>?_) (fun k a h=>?_) Q.qL rfl ev h0 h1 hR
 ·unfold cOf; split
  ·exact chk'
  ·split
   ·exact chkh
   ·exact chk
 ·unfold cOf at h
  split at h
  ·exact (Option.some.inj h).symm
  ·split at h <;> cases h
 ·unfold cOf; split
  ·exact chkx
  ·split <;> exact chkx
 ·unfold cOf; split
  ·exact ⟨rfl,rfl⟩
  ·split <;> exact ⟨rfl,rfl⟩
 ·unfold AX at h
  split at h
  ·rename_i hk
   subst hk
   exact ⟨h,rfl⟩
  ·cases h
 ·cases List.mem_singleton.mp (av h)
  exact ⟨303,_,hn,hkp,rfl,Q.qT⟩
 ·unfold tOf; split
  ·rename_i hk
   subst hk
   cases h
  ·rfl
end Mine
set_option tactic.hygienic true
open PySem PySem.W PyProof.Rows
set_option Elab.async false
set_option maxHeartbeats 8000000 in
theorem PySem.Challenge.cw_uf060017_07_holds : PySem.Challenge.rw_uf060017_07.Holds := by
 w_on
 refine holds_law Mine.ws07 fun said => ?_
 refine PySem.W.holds_open (q := Mine.q07) (loose := []) (Xt := Mine.xt07) (XP := XL Mine.q07 []) (Yf := Mine.hk07.obs) (Ya := Mine.hk07.val) (YP := Mine.hk07.says) (N := 5602) Mine.left07 Mine.hk07.of Mine.hk07.keeps (fun s e => xl_of s (Bool.and_eq_true_iff.mp e).1) XL.keeps (by rfl) (by rfl) (by rfl) (fun s e => recFacts_of (Bool.and_eq_true_iff.mp e).2) (by rfl) said (by decide +kernel) ⟨rfl, rfl, rfl, rfl, rfl, by decide +kernel⟩ ?hw ?hc
 case hw => w_witness2
 intro w s₀ s₁ mg mb G Y fa o pm cd doc dV kV ho hd hcd hD hmg hg args vals as hpre hlay hrd hwl hlo
 have KX : (Mine.K07 w.params).In s₁.heap := km_in_of Y
 have hT : TabsAt [(273, 269)] s₁.heap := fun q hq => by
  cases List.mem_singleton.mp hq
  exact ⟨codeHd_of_K KX (by kernel_rfl), km_tabs_of Y 269 (.head _)⟩
 refine Ground.open G ?_
 intro T B D TE TW
 clear hd hcd hD
 wrow_args hpre hlay hrd hwl hlo
 all_goals (first | refine callC_kw (enter_call ?_) | refine enter_call ?_)
 all_goals (w_top on)
 all_goals (refine kn_post hT (fun _ _ => rfl) ?_)
 rename Well _ _ _ _ => hW
 rename Heap.IsList _ _ _ => hL
 rename IntsAre _ _ => hI
 rename ¬ _ < _ => hcond
 have hfa : fa = 320 := by
  have h1 := mg_of (n := "law") (v := .ref 320) KX T.g (by kernel_rfl)
  have h2 : mg (Str.ofString "law") = some (.ref fa) := hmg
  rw [h2] at h1; cases h1; rfl
 subst hfa
 refine Mine.joinN KX T.g T.b T.builtins T.nolimit (Mine.list_obj hW hL) hI (by omega) hT T.bmain (topRead_of T) (by kernel_rfl) (by kernel_rfl) (by kernel_rfl) (by kernel_rfl) (by kernel_rfl) (by kernel_rfl) (by kernel_rfl) (by kernel_rfl) (by kernel_rfl) ⟨by kernel_rfl, by kernel_rfl, by kernel_rfl, by kernel_rfl, by kernel_rfl, by kernel_rfl, by kernel_rfl, by kernel_rfl, by kernel_rfl, by kernel_rfl, by kernel_rfl, by kernel_rfl, by kernel_rfl, by kernel_rfl, by kernel_rfl, by kernel_rfl, by kernel_rfl, by kernel_rfl, by kernel_rfl, by kernel_rfl, by kernel_rfl, by kernel_rfl, by kernel_rfl, by kernel_rfl, by kernel_rfl, by kernel_rfl, by kernel_rfl, by kernel_rfl, by kernel_rfl, by kernel_rfl, by kernel_rfl, by kernel_rfl, by kernel_rfl⟩ fun h' tk hk hgr => ?_
 refine ⟨⟨.inl ⟨.bool true, .bool true, [], rfl, fun _ => rfl, .bool true, Mine.law_post _ _ _, fun _ => ⟨List.nodup_nil, fun a ha => nomatch ha⟩⟩, hk, rfl, hg⟩, hgr⟩
