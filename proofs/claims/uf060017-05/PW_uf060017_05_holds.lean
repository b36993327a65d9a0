import PyProof.Rows.All
import Wide.All
import OpenK.AllK
import Wide.FinOn
import PyProof.P3Statements
import KE.KRevIter
import KE.KDictList
import OpenK.KLine
import KE.KLam
import KE.KSortKey
import KE.KItem
import KE.KMinKey
import OpenK.KMore
import KE.KRevSl
import PySem.Challenge.RW_uf060017_05
set_option autoImplicit false
namespace Mine
open PySem PyProof.Rows PySem.W

noncomputable def stAt (p : Program) (i : Nat) : Stmt := (p.main.body[i]?).getD (.Pass ⟨0, 0, 0, 0⟩)
set_option backward.match.sparseCases false in
noncomputable def memAt (s : Stmt) (j : Nat) : Stmt := match s with
  | .ClassDef _ _ _ b _ _ _ _ _ _ _ => (b[j]?).getD s
  | _ => s
set_option backward.match.sparseCases false in
noncomputable def fnD (s : Stmt) (name qual : Str) (gl : Addr) (cl : List (Str × Addr)) (df kd doc md : Value) (an : Option Addr) (cd ct : Value) (bl : Addr) : Data := match s with
  | .FunctionDef _ a b _ _ _ sc _ _ _ => .func ⟨name, qual, a, .stmts b, sc, gl, cl, df, kd, doc, md, an, cd, ct, bl⟩
  | _ => .plain
noncomputable def en (P : Params) (s : Str) (t : Nat) (v : Value) : DictEntry := ⟨PyData.keyHash P s, .str s t, v⟩

set_option tactic.hygienic false in
theorem hd_nn {α : Type} {a : α} {G : Prop} (h : none = some a) : G := nomatch h
noncomputable def hdRun (so : Nat → Option Value → Thread → Bool) (sT : (Code → Sem Fin) → Program → World → SharedT → Thread → Option (SharedT × Thread)) (den : Code → Sem Fin) (p : Program) (w : World) (n₀ : Nat) (ann : Option Value) (n : Nat) : SharedT → Thread → Option SharedT :=
  Nat.rec (motive := fun _ => SharedT → Thread → Option SharedT) (fun _ _ => none) (fun _ ih s t => cond (through t) (some s) (cond (so n₀ ann t) ((sT den p w s t).bind fun r => ih r.1 r.2) none)) n
theorem hdRun_of {tb : String → Option Builtin} {p : Program} {w : World} {n₀ : Nat} {ann : Option Value} (n : Nat) : ∀ (s : SharedT) (t : Thread) {s' : SharedT}, hdRun stepOk stepT (denote tb) p w n₀ ann n s t = some s' → topRun tb p w n₀ ann n s.abs t = some s'.abs :=
  Nat.rec (motive := fun n => ∀ (s : SharedT) (t : Thread) {s' : SharedT}, hdRun stepOk stepT (denote tb) p w n₀ ann n s t = some s' → topRun tb p w n₀ ann n s.abs t = some s'.abs) (fun _ _ _ h => hd_nn h) (fun n ih s t s' => by
    show cond (through t) (some s) (cond (stepOk n₀ ann t) ((stepT (denote tb) p w s t).bind fun r => hdRun stepOk stepT (denote tb) p w n₀ ann n r.1 r.2) none) = some s' → (match through t with
      | true => some s.abs
      | false => match stepOk n₀ ann t with
        | false => none
        | true => match step (denote tb) p w s.abs t with
          | .go s' t' => topRun tb p w n₀ ann n s' t'
          | .halt _ _ => none) = some s'.abs
    cases through t with
    | true => exact fun h => congrArg (Option.map SharedT.abs) h
    | false =>
      cases stepOk n₀ ann t with
      | false => exact fun h => hd_nn h
      | true =>
        cases hs : stepT (denote tb) p w s t with
        | none => exact fun h => hd_nn h
        | some r => rw [stepT_spec hs]; exact ih r.1 r.2) n
noncomputable def hdTree (l : List Obj) : Nat → BT → BT := List.rec (motive := fun _ => Nat → BT → BT) (fun _ t => t) (fun o _ ih i t => ih (i + 1) (t.ins i o)) l
noncomputable def hdBoot (w : World) (os : OsState) : SharedT := ⟨hdTree (boot_heap w.params).objs.toList 0 .nil, 11, (boot_heap w.params).life, Array.mk [], boot_drawn, boot_toks, os⟩
theorem hdBoot_abs : ∀ w : World, (fun os => (hdBoot w os).abs) = fun os => ⟨boot_heap w.params, Array.mk [], boot_drawn, boot_toks, os⟩ := fun w => by kernel_rfl
theorem hd_some {x : Option Shared} {a : Heap} {b : Array GenState} {c : Drawn} {d : Nat} : x.map (fun s => (s.heap, s.gens, s.drawn, s.toks)) = some (a, b, c, d) → ∃ os, x = some ⟨a, b, c, d, os⟩ :=
  Option.rec (motive := fun x => x.map (fun s : Shared => (s.heap, s.gens, s.drawn, s.toks)) = some (a, b, c, d) → ∃ os, x = some ⟨a, b, c, d, os⟩) (fun e => hd_nn e) (fun s e => ⟨s.os, congrArg (fun x => some (Shared.mk x.1 x.2.1 x.2.2.1 x.2.2.2 s.os)) (Option.some.inj e)⟩) x
noncomputable def hdSee (p : Program) (im : List Stmt → List Str) (h h' : Heap) (s : Shared) : Bool := staticsOk (im p.main.body) h h' && namesBound p h' && gensDone s && laidKept h h'
theorem hd_top {tb : String → Option Builtin} {p : Program} {w : World} {N n₀ : Nat} {ann : Option Value} {h : Heap} {d : Drawn} {k : Nat} {os : OsState} {s : Shared} (a : (h.isNs mainGlobals, h.objs.size, h.nsMap mainGlobals "__annotations__") = (true, n₀, ann))
    (r : topRun tb p w n₀ ann N ⟨h, Array.mk [], d, k, os⟩ (topStub p) = some s) (v : hdSee p importedModules h s.heap s = true) : topFrom tb p w N ⟨h, Array.mk [], d, k, os⟩ = some s := by
  show (match h.isNs mainGlobals && true with
      | true => (topRun tb p w h.objs.size (h.nsMap mainGlobals "__annotations__") N ⟨h, Array.mk [], d, k, os⟩ (topStub p)).bind fun s₁ => match hdSee p importedModules h s₁.heap s₁ with
          | true => some s₁
          | false => none
      | false => none) = some s
  rw [(Prod.mk.inj a).1, (Prod.mk.inj (Prod.mk.inj a).2).1, (Prod.mk.inj (Prod.mk.inj a).2).2, r]
  show (match hdSee p importedModules h s.heap s with
          | true => some s
          | false => none) = some s
  rw [v]
theorem hd_den : hdRun stepOk stepT (denote treeTable) = hdRun Fast.tw6613529449190102663 Fast.tw10156331382660048174 (Fast.tw11892475500146522536 Fast.tw14364793385576792824) := by rw [Fast.te6613529449190102663, Fast.te10156331382660048174, Fast.te11892475500146522536, Fast.te14364793385576792824]
theorem hd_seen : (fun q loose b => openSeen q loose (importedModules b)) = fun q loose b => Fast.tw4187177175401517315 q loose (Fast.tw5923862056798008813 b) := by rw [Fast.te5923862056798008813, Fast.te4187177175401517315]
theorem left_of_boot {p q : Program} {loose : List Str} {Xt : Shared → Bool} {α : Type} {Yf : Shared → α} {Ya : World → α} {N : Nat} {g0 : Bool}
    (he : opening p = plainProg p.main.scope.names) (hN : Nat.ble 600 N = true) (hf : ∀ s, fenceModules? p s = some s)
    (h : ∀ w : World, (fun os : OsState => (hdRun Fast.tw6613529449190102663 Fast.tw10156331382660048174 (Fast.tw11892475500146522536 Fast.tw14364793385576792824) p w 11 (some (.ref 6)) N (hdBoot w os) (topStub p)).map (fun s => (hdSee p Fast.tw5923862056798008813 (boot_heap w.params) s.abs.heap s.abs, Fast.tw4187177175401517315 q loose (Fast.tw5923862056798008813 p.main.body) Xt g0 s.abs, Yf s.abs))) = fun _ => some (true, openGood q loose, Ya w)) :
    LeftO p q loose Xt Yf Ya N g0 := fun w =>
  (hd_some (boot_open he hN hf w)).elim fun os e => (Option.map_eq_some_iff.mp (congrFun (h w) os)).elim fun s r =>
    (congrArg (fun x => (Option.bind x (topFrom treeTable p w N)).map _) e).trans ((congrArg (Option.map _) (hd_top (s := s.abs) (by kernel_rfl) ((congrArg (fun x => topRun treeTable p w 11 (some (.ref 6)) N x (topStub p)) (congrFun (hdBoot_abs w) os)).symm.trans (hdRun_of _ _ _ ((congrArg (fun f => f p w 11 (some (.ref 6)) N (hdBoot w os) (topStub p)) hd_den).trans r.1))) ((congrArg (fun f => hdSee p f (boot_heap w.params) s.abs.heap s.abs) Fast.te5923862056798008813).trans (congrArg Prod.fst r.2)))).trans (congrArg some ((congrArg (fun f => (f q loose p.main.body Xt g0 s.abs, Yf s.abs)) hd_seen).trans (congrArg Prod.snd r.2))))
end Mine

set_option autoImplicit false
set_option maxRecDepth 100000
namespace Mine
open PySem PyProof.Rows PySem.W

noncomputable def kOf (p : Program) (P : Params) : Frag := [
  (2, ⟨.none, none, .dict ⟨[]⟩ 0, ⟨[]⟩⟩),
  (3, ⟨.type "dict", none, .dict ⟨[en P "__name__" 165 (.str "law_uf060017_05" 508), en P "__doc__" 166 (.none), en P "__package__" 167 (.none), en P "__loader__" 168 (.builtin "__main__.__loader__#opaque"), en P "__spec__" 169 (.none), en P "__annotations__" 170 (.ref 6), en P "__builtins__" 171 (.ref 4), en P "__file__" 173 (.str "/claim/cut.py" 172), en P "__cached__" 174 (.none), en P "PaceError" 206 (.ref 24), en P "BadCount" 222 (.ref 37), en P "NoMeeting" 238 (.ref 49), en P "BadDelay" 254 (.ref 61), en P "Apart" 270 (.ref 73), en P "NoRing" 286 (.ref 85), en P "BadPace" 302 (.ref 97), en P "MOST_MEETINGS" 306 (.int (12) 305), en P "MOST_WAYS" 308 (.int (60) 307), en P "MOST_DELAY" 310 (.int (9999) 309), en P "is_whole" 319 (.ref 106), en P "come_to" 331 (.ref 113), en P "is_joined" 337 (.ref 118), en P "Web" 412 (.ref 169), en P "common" 423 (.ref 180), en P "lowest" 432 (.ref 187), en P "mean" 444 (.ref 194), en P "led_on" 454 (.ref 201), en P "ring_behind" 465 (.ref 208), en P "slower" 482 (.ref 215), en P "any_ring" 488 (.ref 220), en P "pace" 499 (.ref 227), en P "settled" 507 (.ref 232), en P "_law_cell_at" 517 (.ref 239), en P "_law_whole" 524 (.ref 246), en P "_law_mixed" 532 (.ref 253), en P "_law_delay_by" 539 (.ref 260), en P "_law_many" 547 (.ref 267), en P "_law_ways" 561 (.ref 274), en P "_law_times" 573 (.ref 281), en P "_law_next" 579 (.ref 286), en P "_law_rows_good" 585 (.ref 291), en P "_law_turns_good" 598 (.ref 298), en P "_law_stirred" 604 (.ref 303), en P "law" 610 (.ref 308)]⟩ 44, ⟨[]⟩⟩),
  (15, ⟨.type "tuple", none, .seq ⟨[.type "ValueError"]⟩ 0, ⟨[]⟩⟩),
  (22, ⟨.type "tuple", none, .seq ⟨[]⟩ 0, ⟨[]⟩⟩),
  (23, ⟨.type "dict", none, .dict ⟨[en P "__module__" 196 (.str "meanpace.errors" 187), en P "__firstlineno__" 200 (.int (2) 199), en P "__static_attributes__" 201 (.ref 22), en P "__weakref__" 203 (.ref 25), en P "__doc__" 204 (.none)]⟩ 3, ⟨[]⟩⟩),
  (24, ⟨.type "type", none, .cls { name := "PaceError", bases := [.type "ValueError"], mro := [.ref 24, .type "ValueError", .type "Exception", .type "BaseException", .type "object"], ns := 23, qualname := "PaceError", hasDict := true, slotNames := [], subclasses := [.ref 37, .ref 49, .ref 61, .ref 73, .ref 85, .ref 97], abstract := false, collection := none, hasDel := false }, ⟨[(some (.ref 15)), none, (some (.str "PaceError" 189)), (some (.str "PaceError" 197)), (some (.builtin "ValueError.__new__")), (some (.bool true))]⟩⟩),
  (25, ⟨.type "getset_descriptor", none, .fields ⟨[.str "__weakref__" 202, .ref 24, .builtin "ExceptionGroup.__weakref__", .none]⟩, ⟨[]⟩⟩),
  (28, ⟨.type "tuple", none, .seq ⟨[.ref 24]⟩ 0, ⟨[]⟩⟩),
  (35, ⟨.type "tuple", none, .seq ⟨[]⟩ 0, ⟨[]⟩⟩),
  (36, ⟨.type "dict", none, .dict ⟨[en P "__module__" 214 (.str "meanpace.errors" 187), en P "__firstlineno__" 218 (.int (4) 217), en P "__static_attributes__" 219 (.ref 35), en P "__doc__" 220 (.none)]⟩ 2, ⟨[]⟩⟩),
  (37, ⟨.type "type", none, .cls { name := "BadCount", bases := [.ref 24], mro := [.ref 37, .ref 24, .type "ValueError", .type "Exception", .type "BaseException", .type "object"], ns := 36, qualname := "BadCount", hasDict := true, slotNames := [], subclasses := [], abstract := false, collection := none, hasDel := false }, ⟨[(some (.ref 28)), none, (some (.str "BadCount" 207)), (some (.str "BadCount" 215)), (some (.builtin "ValueError.__new__")), (some (.bool true))]⟩⟩),
  (40, ⟨.type "tuple", none, .seq ⟨[.ref 24]⟩ 0, ⟨[]⟩⟩),
  (47, ⟨.type "tuple", none, .seq ⟨[]⟩ 0, ⟨[]⟩⟩),
  (48, ⟨.type "dict", none, .dict ⟨[en P "__module__" 230 (.str "meanpace.errors" 187), en P "__firstlineno__" 234 (.int (6) 233), en P "__static_attributes__" 235 (.ref 47), en P "__doc__" 236 (.none)]⟩ 2, ⟨[]⟩⟩),
  (49, ⟨.type "type", none, .cls { name := "NoMeeting", bases := [.ref 24], mro := [.ref 49, .ref 24, .type "ValueError", .type "Exception", .type "BaseException", .type "object"], ns := 48, qualname := "NoMeeting", hasDict := true, slotNames := [], subclasses := [], abstract := false, collection := none, hasDel := false }, ⟨[(some (.ref 40)), none, (some (.str "NoMeeting" 223)), (some (.str "NoMeeting" 231)), (some (.builtin "ValueError.__new__")), (some (.bool true))]⟩⟩),
  (52, ⟨.type "tuple", none, .seq ⟨[.ref 24]⟩ 0, ⟨[]⟩⟩),
  (59, ⟨.type "tuple", none, .seq ⟨[]⟩ 0, ⟨[]⟩⟩),
  (60, ⟨.type "dict", none, .dict ⟨[en P "__module__" 246 (.str "meanpace.errors" 187), en P "__firstlineno__" 250 (.int (8) 249), en P "__static_attributes__" 251 (.ref 59), en P "__doc__" 252 (.none)]⟩ 2, ⟨[]⟩⟩),
  (61, ⟨.type "type", none, .cls { name := "BadDelay", bases := [.ref 24], mro := [.ref 61, .ref 24, .type "ValueError", .type "Exception", .type "BaseException", .type "object"], ns := 60, qualname := "BadDelay", hasDict := true, slotNames := [], subclasses := [], abstract := false, collection := none, hasDel := false }, ⟨[(some (.ref 52)), none, (some (.str "BadDelay" 239)), (some (.str "BadDelay" 247)), (some (.builtin "ValueError.__new__")), (some (.bool true))]⟩⟩),
  (64, ⟨.type "tuple", none, .seq ⟨[.ref 24]⟩ 0, ⟨[]⟩⟩),
  (71, ⟨.type "tuple", none, .seq ⟨[]⟩ 0, ⟨[]⟩⟩),
  (72, ⟨.type "dict", none, .dict ⟨[en P "__module__" 262 (.str "meanpace.errors" 187), en P "__firstlineno__" 266 (.int (10) 265), en P "__static_attributes__" 267 (.ref 71), en P "__doc__" 268 (.none)]⟩ 2, ⟨[]⟩⟩),
  (73, ⟨.type "type", none, .cls { name := "Apart", bases := [.ref 24], mro := [.ref 73, .ref 24, .type "ValueError", .type "Exception", .type "BaseException", .type "object"], ns := 72, qualname := "Apart", hasDict := true, slotNames := [], subclasses := [], abstract := false, collection := none, hasDel := false }, ⟨[(some (.ref 64)), none, (some (.str "Apart" 255)), (some (.str "Apart" 263)), (some (.builtin "ValueError.__new__")), (some (.bool true))]⟩⟩),
  (76, ⟨.type "tuple", none, .seq ⟨[.ref 24]⟩ 0, ⟨[]⟩⟩),
  (83, ⟨.type "tuple", none, .seq ⟨[]⟩ 0, ⟨[]⟩⟩),
  (84, ⟨.type "dict", none, .dict ⟨[en P "__module__" 278 (.str "meanpace.errors" 187), en P "__firstlineno__" 282 (.int (12) 281), en P "__static_attributes__" 283 (.ref 83), en P "__doc__" 284 (.none)]⟩ 2, ⟨[]⟩⟩),
  (85, ⟨.type "type", none, .cls { name := "NoRing", bases := [.ref 24], mro := [.ref 85, .ref 24, .type "ValueError", .type "Exception", .type "BaseException", .type "object"], ns := 84, qualname := "NoRing", hasDict := true, slotNames := [], subclasses := [], abstract := false, collection := none, hasDel := false }, ⟨[(some (.ref 76)), none, (some (.str "NoRing" 271)), (some (.str "NoRing" 279)), (some (.builtin "ValueError.__new__")), (some (.bool true))]⟩⟩),
  (88, ⟨.type "tuple", none, .seq ⟨[.ref 24]⟩ 0, ⟨[]⟩⟩),
  (95, ⟨.type "tuple", none, .seq ⟨[]⟩ 0, ⟨[]⟩⟩),
  (96, ⟨.type "dict", none, .dict ⟨[en P "__module__" 294 (.str "meanpace.errors" 187), en P "__firstlineno__" 298 (.int (14) 297), en P "__static_attributes__" 299 (.ref 95), en P "__doc__" 300 (.none)]⟩ 2, ⟨[]⟩⟩),
  (97, ⟨.type "type", none, .cls { name := "BadPace", bases := [.ref 24], mro := [.ref 97, .ref 24, .type "ValueError", .type "Exception", .type "BaseException", .type "object"], ns := 96, qualname := "BadPace", hasDict := true, slotNames := [], subclasses := [], abstract := false, collection := none, hasDel := false }, ⟨[(some (.ref 88)), none, (some (.str "BadPace" 287)), (some (.str "BadPace" 295)), (some (.builtin "ValueError.__new__")), (some (.bool true))]⟩⟩),
  (100, ⟨.type "tuple", none, .seq ⟨[]⟩ 0, ⟨[]⟩⟩),
  (102, ⟨.type "tuple", none, .seq ⟨[.str "thing" 314, .str "low" 315, .str "high" 316]⟩ 0, ⟨[]⟩⟩),
  (103, ⟨.type "tuple", none, .seq ⟨[]⟩ 0, ⟨[]⟩⟩),
  (105, ⟨.type "code", none, .fields ⟨[.str "is_whole" 311, .str "is_whole" 312, .str "/claim/cut.py" 313, .int (20) 0, .int (3) 0, .int (0) 0, .int (0) 0, .int (3) 0, .ref 100, .bool true, .int (181) 0, .ref 101, .none, .ref 102, .ref 103, .ref 104, .int (317) 0, .int (20) 0, .str "/claim/cut.py" 318]⟩, ⟨[]⟩⟩),
  (106, ⟨.type "function", none, fnD (stAt p 12) "is_whole" "is_whole" 3 [] (.none) (.none) (.none) (.str "meanpace.webs" 303) none (.ref 105) (.none) 0, ⟨[]⟩⟩),
  (107, ⟨.type "tuple", none, .seq ⟨[]⟩ 0, ⟨[]⟩⟩),
  (109, ⟨.type "tuple", none, .seq ⟨[.str "many" 323, .str "ways" 324, .str "found" 325, .str "waiting" 326, .str "here" 327, .str "way" 328]⟩ 0, ⟨[]⟩⟩),
  (110, ⟨.type "tuple", none, .seq ⟨[]⟩ 0, ⟨[]⟩⟩),
  (112, ⟨.type "code", none, .fields ⟨[.str "come_to" 320, .str "come_to" 321, .str "/claim/cut.py" 322, .int (22) 0, .int (2) 0, .int (0) 0, .int (0) 0, .int (3) 0, .ref 107, .bool true, .int (181) 0, .ref 108, .none, .ref 109, .ref 110, .ref 111, .int (329) 0, .int (22) 0, .str "/claim/cut.py" 330]⟩, ⟨[]⟩⟩),
  (113, ⟨.type "function", none, fnD (stAt p 13) "come_to" "come_to" 3 [] (.none) (.none) (.none) (.str "meanpace.webs" 303) none (.ref 112) (.none) 0, ⟨[]⟩⟩),
  (114, ⟨.type "tuple", none, .seq ⟨[]⟩ 0, ⟨[]⟩⟩),
  (117, ⟨.type "code", none, .fields ⟨[.str "is_joined" 332, .str "is_joined" 333, .str "/claim/cut.py" 334, .int (32) 0, .int (2) 0, .int (0) 0, .int (0) 0, .int (3) 0, .ref 114, .bool true, .int (181) 0, .ref 115, .none, .none, .none, .ref 116, .int (335) 0, .int (32) 0, .str "/claim/cut.py" 336]⟩, ⟨[]⟩⟩),
  (118, ⟨.type "function", none, fnD (stAt p 14) "is_joined" "is_joined" 3 [] (.none) (.none) (.none) (.str "meanpace.webs" 303) none (.ref 117) (.none) 0, ⟨[]⟩⟩),
  (126, ⟨.type "tuple", none, .seq ⟨[]⟩ 0, ⟨[]⟩⟩),
  (128, ⟨.type "tuple", none, .seq ⟨[.str "self" 353, .str "many" 354, .str "ways" 355, .str "way" 356]⟩ 0, ⟨[]⟩⟩),
  (129, ⟨.type "tuple", none, .seq ⟨[]⟩ 0, ⟨[]⟩⟩),
  (131, ⟨.type "code", none, .fields ⟨[.str "__init__" 350, .str "Web.__init__" 351, .str "/claim/cut.py" 352, .int (39) 0, .int (3) 0, .int (0) 0, .int (0) 0, .int (3) 0, .ref 126, .bool true, .int (181) 0, .ref 127, .none, .ref 128, .ref 129, .ref 130, .int (357) 0, .int (39) 0, .str "/claim/cut.py" 358]⟩, ⟨[]⟩⟩),
  (132, ⟨.type "function", none, fnD (memAt (stAt p 15) 0) "__init__" "Web.__init__" 3 [] (.none) (.none) (.none) (.str "meanpace.webs" 303) none (.ref 131) (.none) 0, ⟨[]⟩⟩),
  (133, ⟨.type "tuple", none, .seq ⟨[]⟩ 0, ⟨[]⟩⟩),
  (135, ⟨.type "tuple", none, .seq ⟨[.str "self" 363, .str "meeting" 364]⟩ 0, ⟨[]⟩⟩),
  (136, ⟨.type "tuple", none, .seq ⟨[]⟩ 0, ⟨[]⟩⟩),
  (138, ⟨.type "code", none, .fields ⟨[.str "need" 360, .str "Web.need" 361, .str "/claim/cut.py" 362, .int (55) 0, .int (2) 0, .int (0) 0, .int (0) 0, .int (3) 0, .ref 133, .bool true, .int (181) 0, .ref 134, .none, .ref 135, .ref 136, .ref 137, .int (365) 0, .int (55) 0, .str "/claim/cut.py" 366]⟩, ⟨[]⟩⟩),
  (139, ⟨.type "function", none, fnD (memAt (stAt p 15) 1) "need" "Web.need" 3 [] (.none) (.none) (.none) (.str "meanpace.webs" 303) none (.ref 138) (.none) 0, ⟨[]⟩⟩),
  (140, ⟨.type "tuple", none, .seq ⟨[]⟩ 0, ⟨[]⟩⟩),
  (143, ⟨.type "code", none, .fields ⟨[.str "into" 368, .str "Web.into" 369, .str "/claim/cut.py" 370, .int (59) 0, .int (2) 0, .int (0) 0, .int (0) 0, .int (3) 0, .ref 140, .bool true, .int (181) 0, .ref 141, .none, .none, .none, .ref 142, .int (371) 0, .int (59) 0, .str "/claim/cut.py" 372]⟩, ⟨[]⟩⟩),
  (144, ⟨.type "function", none, fnD (memAt (stAt p 15) 2) "into" "Web.into" 3 [] (.none) (.none) (.none) (.str "meanpace.webs" 303) none (.ref 143) (.none) 0, ⟨[]⟩⟩),
  (145, ⟨.type "tuple", none, .seq ⟨[]⟩ 0, ⟨[]⟩⟩),
  (148, ⟨.type "code", none, .fields ⟨[.str "delay" 374, .str "Web.delay" 375, .str "/claim/cut.py" 376, .int (63) 0, .int (3) 0, .int (0) 0, .int (0) 0, .int (3) 0, .ref 145, .bool true, .int (181) 0, .ref 146, .none, .none, .none, .ref 147, .int (377) 0, .int (63) 0, .str "/claim/cut.py" 378]⟩, ⟨[]⟩⟩),
  (149, ⟨.type "function", none, fnD (memAt (stAt p 15) 3) "delay" "Web.delay" 3 [] (.none) (.none) (.none) (.str "meanpace.webs" 303) none (.ref 148) (.none) 0, ⟨[]⟩⟩),
  (150, ⟨.type "tuple", none, .seq ⟨[]⟩ 0, ⟨[]⟩⟩),
  (153, ⟨.type "code", none, .fields ⟨[.str "ahead" 380, .str "Web.ahead" 381, .str "/claim/cut.py" 382, .int (68) 0, .int (2) 0, .int (0) 0, .int (0) 0, .int (3) 0, .ref 150, .bool true, .int (181) 0, .ref 151, .none, .none, .none, .ref 152, .int (383) 0, .int (68) 0, .str "/claim/cut.py" 384]⟩, ⟨[]⟩⟩),
  (154, ⟨.type "function", none, fnD (memAt (stAt p 15) 4) "ahead" "Web.ahead" 3 [] (.none) (.none) (.none) (.str "meanpace.webs" 303) none (.ref 153) (.none) 0, ⟨[]⟩⟩),
  (155, ⟨.type "tuple", none, .seq ⟨[]⟩ 0, ⟨[]⟩⟩),
  (157, ⟨.type "tuple", none, .seq ⟨[.str "self" 389, .str "times" 390, .str "count" 391, .str "found" 392, .str "turn" 393]⟩ 0, ⟨[]⟩⟩),
  (158, ⟨.type "tuple", none, .seq ⟨[]⟩ 0, ⟨[]⟩⟩),
  (160, ⟨.type "code", none, .fields ⟨[.str "turns" 386, .str "Web.turns" 387, .str "/claim/cut.py" 388, .int (76) 0, .int (3) 0, .int (0) 0, .int (0) 0, .int (3) 0, .ref 155, .bool true, .int (181) 0, .ref 156, .none, .ref 157, .ref 158, .ref 159, .int (394) 0, .int (76) 0, .str "/claim/cut.py" 395]⟩, ⟨[]⟩⟩),
  (161, ⟨.type "function", none, fnD (memAt (stAt p 15) 5) "turns" "Web.turns" 3 [] (.none) (.none) (.none) (.str "meanpace.webs" 303) none (.ref 160) (.none) 0, ⟨[]⟩⟩),
  (162, ⟨.type "tuple", none, .seq ⟨[]⟩ 0, ⟨[]⟩⟩),
  (165, ⟨.type "code", none, .fields ⟨[.str "turned" 397, .str "Web.turned" 398, .str "/claim/cut.py" 399, .int (84) 0, .int (1) 0, .int (0) 0, .int (0) 0, .int (3) 0, .ref 162, .bool true, .int (181) 0, .ref 163, .none, .none, .none, .ref 164, .int (400) 0, .int (84) 0, .str "/claim/cut.py" 401]⟩, ⟨[]⟩⟩),
  (166, ⟨.type "function", none, fnD (memAt (stAt p 15) 6) "turned" "Web.turned" 3 [] (.none) (.none) (.none) (.str "meanpace.webs" 303) none (.ref 165) (.none) 0, ⟨[]⟩⟩),
  (167, ⟨.type "tuple", none, .seq ⟨[.str "many" 403, .str "ways" 404]⟩ 0, ⟨[]⟩⟩),
  (168, ⟨.type "dict", none, .dict ⟨[en P "__module__" 345 (.str "meanpace.webs" 303), en P "__firstlineno__" 349 (.int (37) 348), en P "__init__" 359 (.ref 132), en P "need" 367 (.ref 139), en P "into" 373 (.ref 144), en P "delay" 379 (.ref 149), en P "ahead" 385 (.ref 154), en P "turns" 396 (.ref 161), en P "turned" 402 (.ref 166), en P "__static_attributes__" 405 (.ref 167), en P "__dict__" 407 (.ref 170), en P "__weakref__" 409 (.ref 171), en P "__doc__" 410 (.none)]⟩ 4, ⟨[]⟩⟩),
  (169, ⟨.type "type", none, .cls { name := "Web", bases := [.type "object"], mro := [.ref 169, .type "object"], ns := 168, qualname := "Web", hasDict := true, slotNames := [], subclasses := [], abstract := false, collection := none, hasDel := false }, ⟨[none, none, (some (.str "Web" 338)), (some (.str "Web" 346)), (some (.builtin "object.__new__")), (some (.bool true))]⟩⟩),
  (170, ⟨.type "getset_descriptor", none, .fields ⟨[.str "__dict__" 406, .ref 169, .builtin "function.__dict__", .builtin "function.__dict__#set"]⟩, ⟨[]⟩⟩),
  (171, ⟨.type "getset_descriptor", none, .fields ⟨[.str "__weakref__" 408, .ref 169, .builtin "ExceptionGroup.__weakref__", .none]⟩, ⟨[]⟩⟩),
  (174, ⟨.type "tuple", none, .seq ⟨[]⟩ 0, ⟨[]⟩⟩),
  (176, ⟨.type "tuple", none, .seq ⟨[.str "number" 418, .str "divisor" 419, .str "rest" 420]⟩ 0, ⟨[]⟩⟩),
  (177, ⟨.type "tuple", none, .seq ⟨[]⟩ 0, ⟨[]⟩⟩),
  (179, ⟨.type "code", none, .fields ⟨[.str "common" 415, .str "common" 416, .str "/claim/cut.py" 417, .int (87) 0, .int (2) 0, .int (0) 0, .int (0) 0, .int (3) 0, .ref 174, .bool true, .int (181) 0, .ref 175, .none, .ref 176, .ref 177, .ref 178, .int (421) 0, .int (87) 0, .str "/claim/cut.py" 422]⟩, ⟨[]⟩⟩),
  (180, ⟨.type "function", none, fnD (stAt p 17) "common" "common" 3 [] (.none) (.none) (.none) (.str "meanpace.rings" 413) none (.ref 179) (.none) 0, ⟨[]⟩⟩),
  (181, ⟨.type "tuple", none, .seq ⟨[]⟩ 0, ⟨[]⟩⟩),
  (183, ⟨.type "tuple", none, .seq ⟨[.str "number" 427, .str "divisor" 428, .str "part" 429]⟩ 0, ⟨[]⟩⟩),
  (184, ⟨.type "tuple", none, .seq ⟨[]⟩ 0, ⟨[]⟩⟩),
  (186, ⟨.type "code", none, .fields ⟨[.str "lowest" 424, .str "lowest" 425, .str "/claim/cut.py" 426, .int (93) 0, .int (2) 0, .int (0) 0, .int (0) 0, .int (3) 0, .ref 181, .bool true, .int (181) 0, .ref 182, .none, .ref 183, .ref 184, .ref 185, .int (430) 0, .int (93) 0, .str "/claim/cut.py" 431]⟩, ⟨[]⟩⟩),
  (187, ⟨.type "function", none, fnD (stAt p 18) "lowest" "lowest" 3 [] (.none) (.none) (.none) (.str "meanpace.rings" 413) none (.ref 186) (.none) 0, ⟨[]⟩⟩),
  (188, ⟨.type "tuple", none, .seq ⟨[]⟩ 0, ⟨[]⟩⟩),
  (190, ⟨.type "tuple", none, .seq ⟨[.str "web" 436, .str "ring" 437, .str "meeting" 438, .str "total" 439, .str "place" 440, .str "delay" 441]⟩ 0, ⟨[]⟩⟩),
  (191, ⟨.type "tuple", none, .seq ⟨[]⟩ 0, ⟨[]⟩⟩),
  (193, ⟨.type "code", none, .fields ⟨[.str "mean" 433, .str "mean" 434, .str "/claim/cut.py" 435, .int (96) 0, .int (2) 0, .int (0) 0, .int (0) 0, .int (3) 0, .ref 188, .bool true, .int (181) 0, .ref 189, .none, .ref 190, .ref 191, .ref 192, .int (442) 0, .int (96) 0, .str "/claim/cut.py" 443]⟩, ⟨[]⟩⟩),
  (194, ⟨.type "function", none, fnD (stAt p 19) "mean" "mean" 3 [] (.none) (.none) (.none) (.str "meanpace.rings" 413) none (.ref 193) (.none) 0, ⟨[]⟩⟩),
  (195, ⟨.type "tuple", none, .seq ⟨[]⟩ 0, ⟨[]⟩⟩),
  (197, ⟨.type "tuple", none, .seq ⟨[.str "ring" 450, .str "at" 451]⟩ 0, ⟨[]⟩⟩),
  (198, ⟨.type "tuple", none, .seq ⟨[]⟩ 0, ⟨[]⟩⟩),
  (200, ⟨.type "code", none, .fields ⟨[.str "led_on" 447, .str "led_on" 448, .str "/claim/cut.py" 449, .int (109) 0, .int (1) 0, .int (0) 0, .int (0) 0, .int (3) 0, .ref 195, .bool true, .int (181) 0, .ref 196, .none, .ref 197, .ref 198, .ref 199, .int (452) 0, .int (109) 0, .str "/claim/cut.py" 453]⟩, ⟨[]⟩⟩),
  (201, ⟨.type "function", none, fnD (stAt p 21) "led_on" "led_on" 3 [] (.none) (.none) (.none) (.str "meanpace.paces" 445) none (.ref 200) (.none) 0, ⟨[]⟩⟩),
  (202, ⟨.type "tuple", none, .seq ⟨[]⟩ 0, ⟨[]⟩⟩),
  (204, ⟨.type "tuple", none, .seq ⟨[.str "before" 458, .str "meeting" 459, .str "many" 460, .str "step" 461, .str "ring" 462]⟩ 0, ⟨[]⟩⟩),
  (205, ⟨.type "tuple", none, .seq ⟨[]⟩ 0, ⟨[]⟩⟩),
  (207, ⟨.type "code", none, .fields ⟨[.str "ring_behind" 455, .str "ring_behind" 456, .str "/claim/cut.py" 457, .int (112) 0, .int (3) 0, .int (0) 0, .int (0) 0, .int (3) 0, .ref 202, .bool true, .int (181) 0, .ref 203, .none, .ref 204, .ref 205, .ref 206, .int (463) 0, .int (112) 0, .str "/claim/cut.py" 464]⟩, ⟨[]⟩⟩),
  (208, ⟨.type "function", none, fnD (stAt p 22) "ring_behind" "ring_behind" 3 [] (.none) (.none) (.none) (.str "meanpace.paces" 445) none (.ref 207) (.none) 0, ⟨[]⟩⟩),
  (209, ⟨.type "tuple", none, .seq ⟨[]⟩ 0, ⟨[]⟩⟩),
  (211, ⟨.type "tuple", none, .seq ⟨[.str "web" 469, .str "number" 470, .str "divisor" 471, .str "start" 472, .str "before" 473, .str "turn" 474, .str "last" 475, .str "begin" 476, .str "end" 477, .str "delay" 478, .str "wanted" 479]⟩ 0, ⟨[]⟩⟩),
  (212, ⟨.type "tuple", none, .seq ⟨[]⟩ 0, ⟨[]⟩⟩),
  (214, ⟨.type "code", none, .fields ⟨[.str "slower" 466, .str "slower" 467, .str "/claim/cut.py" 468, .int (119) 0, .int (3) 0, .int (0) 0, .int (0) 0, .int (3) 0, .ref 209, .bool true, .int (181) 0, .ref 210, .none, .ref 211, .ref 212, .ref 213, .int (480) 0, .int (119) 0, .str "/claim/cut.py" 481]⟩, ⟨[]⟩⟩),
  (215, ⟨.type "function", none, fnD (stAt p 23) "slower" "slower" 3 [] (.none) (.none) (.none) (.str "meanpace.paces" 445) none (.ref 214) (.none) 0, ⟨[]⟩⟩),
  (216, ⟨.type "tuple", none, .seq ⟨[]⟩ 0, ⟨[]⟩⟩),
  (219, ⟨.type "code", none, .fields ⟨[.str "any_ring" 483, .str "any_ring" 484, .str "/claim/cut.py" 485, .int (135) 0, .int (1) 0, .int (0) 0, .int (0) 0, .int (3) 0, .ref 216, .bool true, .int (181) 0, .ref 217, .none, .none, .none, .ref 218, .int (486) 0, .int (135) 0, .str "/claim/cut.py" 487]⟩, ⟨[]⟩⟩),
  (220, ⟨.type "function", none, fnD (stAt p 24) "any_ring" "any_ring" 3 [] (.none) (.none) (.none) (.str "meanpace.paces" 445) none (.ref 219) (.none) 0, ⟨[]⟩⟩),
  (221, ⟨.type "tuple", none, .seq ⟨[]⟩ 0, ⟨[]⟩⟩),
  (223, ⟨.type "tuple", none, .seq ⟨[.str "web" 492, .str "ring" 493, .str "number" 494, .str "divisor" 495, .str "found" 496]⟩ 0, ⟨[]⟩⟩),
  (224, ⟨.type "tuple", none, .seq ⟨[]⟩ 0, ⟨[]⟩⟩),
  (226, ⟨.type "code", none, .fields ⟨[.str "pace" 489, .str "pace" 490, .str "/claim/cut.py" 491, .int (142) 0, .int (1) 0, .int (0) 0, .int (0) 0, .int (3) 0, .ref 221, .bool true, .int (181) 0, .ref 222, .none, .ref 223, .ref 224, .ref 225, .int (497) 0, .int (142) 0, .str "/claim/cut.py" 498]⟩, ⟨[]⟩⟩),
  (227, ⟨.type "function", none, fnD (stAt p 25) "pace" "pace" 3 [] (.none) (.none) (.none) (.str "meanpace.paces" 445) none (.ref 226) (.none) 0, ⟨[]⟩⟩),
  (228, ⟨.type "tuple", none, .seq ⟨[]⟩ 0, ⟨[]⟩⟩),
  (231, ⟨.type "code", none, .fields ⟨[.str "settled" 502, .str "settled" 503, .str "/claim/cut.py" 504, .int (151) 0, .int (3) 0, .int (0) 0, .int (0) 0, .int (3) 0, .ref 228, .bool true, .int (181) 0, .ref 229, .none, .none, .none, .ref 230, .int (505) 0, .int (151) 0, .str "/claim/cut.py" 506]⟩, ⟨[]⟩⟩),
  (232, ⟨.type "function", none, fnD (stAt p 27) "settled" "settled" 3 [] (.none) (.none) (.none) (.str "meanpace.settling" 500) none (.ref 231) (.none) 0, ⟨[]⟩⟩),
  (233, ⟨.type "tuple", none, .seq ⟨[]⟩ 0, ⟨[]⟩⟩),
  (235, ⟨.type "tuple", none, .seq ⟨[.str "_law_script" 513, .str "_law_k" 514]⟩ 0, ⟨[]⟩⟩),
  (236, ⟨.type "tuple", none, .seq ⟨[]⟩ 0, ⟨[]⟩⟩),
  (238, ⟨.type "code", none, .fields ⟨[.str "_law_cell_at" 510, .str "_law_cell_at" 511, .str "/claim/cut.py" 512, .int (164) 0, .int (2) 0, .int (0) 0, .int (0) 0, .int (3) 0, .ref 233, .bool true, .int (181) 0, .ref 234, .none, .ref 235, .ref 236, .ref 237, .int (515) 0, .int (164) 0, .str "/claim/cut.py" 516]⟩, ⟨[]⟩⟩),
  (239, ⟨.type "function", none, fnD (stAt p 29) "_law_cell_at" "_law_cell_at" 3 [] (.none) (.none) (.none) (.str "law_uf060017_05" 508) none (.ref 238) (.none) 0, ⟨[]⟩⟩),
  (240, ⟨.type "tuple", none, .seq ⟨[]⟩ 0, ⟨[]⟩⟩),
  (242, ⟨.type "tuple", none, .seq ⟨[.str "_law_found" 521]⟩ 0, ⟨[]⟩⟩),
  (243, ⟨.type "tuple", none, .seq ⟨[]⟩ 0, ⟨[]⟩⟩),
  (245, ⟨.type "code", none, .fields ⟨[.str "_law_whole" 518, .str "_law_whole" 519, .str "/claim/cut.py" 520, .int (168) 0, .int (1) 0, .int (0) 0, .int (0) 0, .int (3) 0, .ref 240, .bool true, .int (181) 0, .ref 241, .none, .ref 242, .ref 243, .ref 244, .int (522) 0, .int (168) 0, .str "/claim/cut.py" 523]⟩, ⟨[]⟩⟩),
  (246, ⟨.type "function", none, fnD (stAt p 30) "_law_whole" "_law_whole" 3 [] (.none) (.none) (.none) (.str "law_uf060017_05" 508) none (.ref 245) (.none) 0, ⟨[]⟩⟩),
  (247, ⟨.type "tuple", none, .seq ⟨[]⟩ 0, ⟨[]⟩⟩),
  (249, ⟨.type "tuple", none, .seq ⟨[.str "_law_cell" 528, .str "_law_k" 529]⟩ 0, ⟨[]⟩⟩),
  (250, ⟨.type "tuple", none, .seq ⟨[]⟩ 0, ⟨[]⟩⟩),
  (252, ⟨.type "code", none, .fields ⟨[.str "_law_mixed" 525, .str "_law_mixed" 526, .str "/claim/cut.py" 527, .int (170) 0, .int (2) 0, .int (0) 0, .int (0) 0, .int (3) 0, .ref 247, .bool true, .int (181) 0, .ref 248, .none, .ref 249, .ref 250, .ref 251, .int (530) 0, .int (170) 0, .str "/claim/cut.py" 531]⟩, ⟨[]⟩⟩),
  (253, ⟨.type "function", none, fnD (stAt p 31) "_law_mixed" "_law_mixed" 3 [] (.none) (.none) (.none) (.str "law_uf060017_05" 508) none (.ref 252) (.none) 0, ⟨[]⟩⟩),
  (254, ⟨.type "tuple", none, .seq ⟨[]⟩ 0, ⟨[]⟩⟩),
  (256, ⟨.type "tuple", none, .seq ⟨[.str "_law_number" 536]⟩ 0, ⟨[]⟩⟩),
  (257, ⟨.type "tuple", none, .seq ⟨[]⟩ 0, ⟨[]⟩⟩),
  (259, ⟨.type "code", none, .fields ⟨[.str "_law_delay_by" 533, .str "_law_delay_by" 534, .str "/claim/cut.py" 535, .int (172) 0, .int (1) 0, .int (0) 0, .int (0) 0, .int (3) 0, .ref 254, .bool true, .int (181) 0, .ref 255, .none, .ref 256, .ref 257, .ref 258, .int (537) 0, .int (172) 0, .str "/claim/cut.py" 538]⟩, ⟨[]⟩⟩),
  (260, ⟨.type "function", none, fnD (stAt p 32) "_law_delay_by" "_law_delay_by" 3 [] (.none) (.none) (.none) (.str "law_uf060017_05" 508) none (.ref 259) (.none) 0, ⟨[]⟩⟩),
  (261, ⟨.type "tuple", none, .seq ⟨[]⟩ 0, ⟨[]⟩⟩),
  (263, ⟨.type "tuple", none, .seq ⟨[.str "_law_script" 543, .str "_law_cell" 544]⟩ 0, ⟨[]⟩⟩),
  (264, ⟨.type "tuple", none, .seq ⟨[]⟩ 0, ⟨[]⟩⟩),
  (266, ⟨.type "code", none, .fields ⟨[.str "_law_many" 540, .str "_law_many" 541, .str "/claim/cut.py" 542, .int (174) 0, .int (1) 0, .int (0) 0, .int (0) 0, .int (3) 0, .ref 261, .bool true, .int (181) 0, .ref 262, .none, .ref 263, .ref 264, .ref 265, .int (545) 0, .int (174) 0, .str "/claim/cut.py" 546]⟩, ⟨[]⟩⟩),
  (267, ⟨.type "function", none, fnD (stAt p 33) "_law_many" "_law_many" 3 [] (.none) (.none) (.none) (.str "law_uf060017_05" 508) none (.ref 266) (.none) 0, ⟨[]⟩⟩),
  (268, ⟨.type "tuple", none, .seq ⟨[]⟩ 0, ⟨[]⟩⟩),
  (270, ⟨.type "tuple", none, .seq ⟨[.str "_law_script" 551, .str "_law_many_here" 552, .str "_law_order" 553, .str "_law_ways_here" 554, .str "_law_k" 555, .str "_law_number" 556, .str "_law_turn" 557]⟩ 0, ⟨[]⟩⟩),
  (271, ⟨.type "tuple", none, .seq ⟨[.str "_law_cell" 558]⟩ 0, ⟨[]⟩⟩),
  (273, ⟨.type "code", none, .fields ⟨[.str "_law_ways" 548, .str "_law_ways" 549, .str "/claim/cut.py" 550, .int (179) 0, .int (2) 0, .int (0) 0, .int (0) 0, .int (3) 0, .ref 268, .bool true, .int (181) 0, .ref 269, .none, .ref 270, .ref 271, .ref 272, .int (559) 0, .int (179) 0, .str "/claim/cut.py" 560]⟩, ⟨[]⟩⟩),
  (274, ⟨.type "function", none, fnD (stAt p 34) "_law_ways" "_law_ways" 3 [] (.none) (.none) (.none) (.str "law_uf060017_05" 508) none (.ref 273) (.none) 0, ⟨[]⟩⟩),
  (275, ⟨.type "tuple", none, .seq ⟨[]⟩ 0, ⟨[]⟩⟩),
  (277, ⟨.type "tuple", none, .seq ⟨[.str "_law_script" 565, .str "_law_many_here" 566, .str "_law_times_here" 567, .str "_law_k" 568, .str "_law_cell" 569, .str "_law_more" 570]⟩ 0, ⟨[]⟩⟩),
  (278, ⟨.type "tuple", none, .seq ⟨[]⟩ 0, ⟨[]⟩⟩),
  (280, ⟨.type "code", none, .fields ⟨[.str "_law_times" 562, .str "_law_times" 563, .str "/claim/cut.py" 564, .int (195) 0, .int (2) 0, .int (0) 0, .int (0) 0, .int (3) 0, .ref 275, .bool true, .int (181) 0, .ref 276, .none, .ref 277, .ref 278, .ref 279, .int (571) 0, .int (195) 0, .str "/claim/cut.py" 572]⟩, ⟨[]⟩⟩),
  (281, ⟨.type "function", none, fnD (stAt p 35) "_law_times" "_law_times" 3 [] (.none) (.none) (.none) (.str "law_uf060017_05" 508) none (.ref 280) (.none) 0, ⟨[]⟩⟩),
  (282, ⟨.type "tuple", none, .seq ⟨[]⟩ 0, ⟨[]⟩⟩),
  (285, ⟨.type "code", none, .fields ⟨[.str "_law_next" 574, .str "_law_next" 575, .str "/claim/cut.py" 576, .int (202) 0, .int (2) 0, .int (0) 0, .int (0) 0, .int (3) 0, .ref 282, .bool true, .int (181) 0, .ref 283, .none, .none, .none, .ref 284, .int (577) 0, .int (202) 0, .str "/claim/cut.py" 578]⟩, ⟨[]⟩⟩),
  (286, ⟨.type "function", none, fnD (stAt p 36) "_law_next" "_law_next" 3 [] (.none) (.none) (.none) (.str "law_uf060017_05" 508) none (.ref 285) (.none) 0, ⟨[]⟩⟩),
  (287, ⟨.type "tuple", none, .seq ⟨[]⟩ 0, ⟨[]⟩⟩),
  (290, ⟨.type "code", none, .fields ⟨[.str "_law_rows_good" 580, .str "_law_rows_good" 581, .str "/claim/cut.py" 582, .int (207) 0, .int (2) 0, .int (0) 0, .int (0) 0, .int (3) 0, .ref 287, .bool true, .int (181) 0, .ref 288, .none, .none, .none, .ref 289, .int (583) 0, .int (207) 0, .str "/claim/cut.py" 584]⟩, ⟨[]⟩⟩),
  (291, ⟨.type "function", none, fnD (stAt p 37) "_law_rows_good" "_law_rows_good" 3 [] (.none) (.none) (.none) (.str "law_uf060017_05" 508) none (.ref 290) (.none) 0, ⟨[]⟩⟩),
  (292, ⟨.type "tuple", none, .seq ⟨[]⟩ 0, ⟨[]⟩⟩),
  (294, ⟨.type "tuple", none, .seq ⟨[.str "_law_found" 589, .str "_law_ways_here" 590, .str "_law_times_here" 591, .str "_law_count" 592, .str "_law_due" 593, .str "_law_turn" 594, .str "_law_row" 595]⟩ 0, ⟨[]⟩⟩),
  (295, ⟨.type "tuple", none, .seq ⟨[]⟩ 0, ⟨[]⟩⟩),
  (297, ⟨.type "code", none, .fields ⟨[.str "_law_turns_good" 586, .str "_law_turns_good" 587, .str "/claim/cut.py" 588, .int (216) 0, .int (4) 0, .int (0) 0, .int (0) 0, .int (3) 0, .ref 292, .bool true, .int (181) 0, .ref 293, .none, .ref 294, .ref 295, .ref 296, .int (596) 0, .int (216) 0, .str "/claim/cut.py" 597]⟩, ⟨[]⟩⟩),
  (298, ⟨.type "function", none, fnD (stAt p 38) "_law_turns_good" "_law_turns_good" 3 [] (.none) (.none) (.none) (.str "law_uf060017_05" 508) none (.ref 297) (.none) 0, ⟨[]⟩⟩),
  (299, ⟨.type "tuple", none, .seq ⟨[]⟩ 0, ⟨[]⟩⟩),
  (302, ⟨.type "code", none, .fields ⟨[.str "_law_stirred" 599, .str "_law_stirred" 600, .str "/claim/cut.py" 601, .int (226) 0, .int (3) 0, .int (0) 0, .int (0) 0, .int (3) 0, .ref 299, .bool true, .int (181) 0, .ref 300, .none, .none, .none, .ref 301, .int (602) 0, .int (226) 0, .str "/claim/cut.py" 603]⟩, ⟨[]⟩⟩),
  (303, ⟨.type "function", none, fnD (stAt p 39) "_law_stirred" "_law_stirred" 3 [] (.none) (.none) (.none) (.str "law_uf060017_05" 508) none (.ref 302) (.none) 0, ⟨[]⟩⟩),
  (304, ⟨.type "tuple", none, .seq ⟨[]⟩ 0, ⟨[]⟩⟩),
  (307, ⟨.type "code", none, .fields ⟨[.str "law" 605, .str "law" 606, .str "/claim/cut.py" 607, .int (248) 0, .int (1) 0, .int (0) 0, .int (0) 0, .int (3) 0, .ref 304, .bool true, .int (181) 0, .ref 305, .none, .none, .none, .ref 306, .int (608) 0, .int (248) 0, .str "/claim/cut.py" 609]⟩, ⟨[]⟩⟩),
  (308, ⟨.type "function", none, fnD (stAt p 40) "law" "law" 3 [] (.none) (.none) (.none) (.str "law_uf060017_05" 508) none (.ref 307) (.none) 0, ⟨[]⟩⟩)]
noncomputable def K05 (P : Params) : Frag := kOf PySem.Challenge.pw_uf060017_05 P
noncomputable def q05 : Program := view PySem.Challenge.pw_uf060017_05 [1, 2, 3, 4, 5, 6, 7, 9, 10, 11, 12, 13, 14, 15, 17, 18, 19, 21, 22, 23, 24, 25, 27, 29, 30, 31, 32, 33, 34, 35, 36, 37, 38, 39, 40]
set_option tactic.hygienic false in
theorem ka05 : ∀ P, [2, 3, 15, 22, 23, 24, 25, 28, 35, 36, 37, 40, 47, 48, 49, 52, 59, 60, 61, 64, 71, 72, 73, 76, 83, 84, 85, 88, 95, 96, 97, 100, 102, 103, 105, 106, 107, 109, 110, 112, 113, 114, 117, 118, 126, 128, 129, 131, 132, 133, 135, 136, 138, 139, 140, 143, 144, 145, 148, 149, 150, 153, 154, 155, 157, 158, 160, 161, 162, 165, 166, 167, 168, 169, 170, 171, 174, 176, 177, 179, 180, 181, 183, 184, 186, 187, 188, 190, 191, 193, 194, 195, 197, 198, 200, 201, 202, 204, 205, 207, 208, 209, 211, 212, 214, 215, 216, 219, 220, 221, 223, 224, 226, 227, 228, 231, 232, 233, 235, 236, 238, 239, 240, 242, 243, 245, 246, 247, 249, 250, 252, 253, 254, 256, 257, 259, 260, 261, 263, 264, 266, 267, 268, 270, 271, 273, 274, 275, 277, 278, 280, 281, 282, 285, 286, 287, 290, 291, 292, 294, 295, 297, 298, 299, 302, 303, 304, 307, 308] = (K05 P).map (·.1) := fun _ => by kernel_rfl
noncomputable def hk05 : Hook := kmHook K05 [2, 3, 15, 22, 23, 24, 25, 28, 35, 36, 37, 40, 47, 48, 49, 52, 59, 60, 61, 64, 71, 72, 73, 76, 83, 84, 85, 88, 95, 96, 97, 100, 102, 103, 105, 106, 107, 109, 110, 112, 113, 114, 117, 118, 126, 128, 129, 131, 132, 133, 135, 136, 138, 139, 140, 143, 144, 145, 148, 149, 150, 153, 154, 155, 157, 158, 160, 161, 162, 165, 166, 167, 168, 169, 170, 171, 174, 176, 177, 179, 180, 181, 183, 184, 186, 187, 188, 190, 191, 193, 194, 195, 197, 198, 200, 201, 202, 204, 205, 207, 208, 209, 211, 212, 214, 215, 216, 219, 220, 221, 223, 224, 226, 227, 228, 231, 232, 233, 235, 236, 238, 239, 240, 242, 243, 245, 246, 247, 249, 250, 252, 253, 254, 256, 257, 259, 260, 261, 263, 264, 266, 267, 268, 270, 271, 273, 274, 275, 277, 278, 280, 281, 282, 285, 286, 287, 290, 291, 292, 294, 295, 297, 298, 299, 302, 303, 304, 307, 308] ka05 [269]
noncomputable def xt05 (s : Shared) : Bool := xlAt q05 [] s && recOk (RowW.records PySem.Challenge.rw_uf060017_05.row.toRowW) s
set_option tactic.hygienic false in
theorem ws05 : PySem.Challenge.rw_uf060017_05.wellSaid = true := by
 rewrite [Fast.te9446332074065402090]
 kernel_rfl
set_option tactic.hygienic false in
theorem op05 : opening PySem.Challenge.pw_uf060017_05 = plainProg PySem.Challenge.pw_uf060017_05.main.scope.names := by kernel_rfl
set_option tactic.hygienic false in
theorem fe05 : ∀ s, fenceModules? PySem.Challenge.pw_uf060017_05 s = some s := fun _ => by kernel_rfl
set_option tactic.hygienic false in
theorem run05 : ∀ w : World, (fun os : OsState => (hdRun Fast.tw6613529449190102663 Fast.tw10156331382660048174 (Fast.tw11892475500146522536 Fast.tw14364793385576792824) PySem.Challenge.pw_uf060017_05 w 11 (some (.ref 6)) 5486 (hdBoot w os) (topStub PySem.Challenge.pw_uf060017_05)).map (fun s => (hdSee PySem.Challenge.pw_uf060017_05 Fast.tw5923862056798008813 (boot_heap w.params) s.abs.heap s.abs, Fast.tw4187177175401517315 q05 [] (Fast.tw5923862056798008813 PySem.Challenge.pw_uf060017_05.main.body) xt05 true s.abs, hk05.obs s.abs))) = fun _ => some (true, openGood q05 [], hk05.val w) := fun w => by kernel_rfl
set_option tactic.hygienic false in
theorem left05 : LeftO PySem.Challenge.pw_uf060017_05 q05 [] xt05 hk05.obs hk05.val 5486 := left_of_boot op05 (by decide) fe05 run05

end Mine

set_option autoImplicit false
set_option genSizeOf false
set_option genInjectivity false
set_option bootstrap.genMatcherCode false
namespace Mine
open PySem

inductive V where
  | none | bool (b : Bool) | int (i : Int) | str (s : Str) | tup (vs : List V) | ref (l : Nat) | rng (lo hi : Int)

inductive AO where
  | lst (vs : List V)
  | dI (es : List (Int × V))
  | dT (es : List (List Int × V))
  | inst (d : Nat)
  | att (es : List (Nat × V))
  | exc (c : Nat)
  | frz (vs : List V)
  | tab (used : Bool)

noncomputable abbrev Fra := List (Option V)
noncomputable abbrev Sto := List AO

inductive RE where
  | ok (v : V) (σ : Sto) | ex (x : Nat) (σ : Sto) | bad
inductive REs where
  | ok (vs : List V) (σ : Sto) | ex (x : Nat) (σ : Sto) | bad
inductive Fl where
  | next | brk | cont | ret (v : V)
inductive RS where
  | ok (f : Fl) (fr : Fra) (σ : Sto) | ex (x : Nat) (fr : Fra) (σ : Sto) | bad

noncomputable def RE.bind (r : RE) (k : V → Sto → RE) : RE := match r with | .ok v σ => k v σ | .ex x σ => .ex x σ | .bad => .bad
noncomputable def RE.binds (r : RE) (k : V → Sto → REs) : REs := match r with | .ok v σ => k v σ | .ex x σ => .ex x σ | .bad => .bad
noncomputable def REs.bind (r : REs) (k : List V → Sto → RE) : RE := match r with | .ok v σ => k v σ | .ex x σ => .ex x σ | .bad => .bad
noncomputable def REs.binds (r : REs) (k : List V → Sto → REs) : REs := match r with | .ok v σ => k v σ | .ex x σ => .ex x σ | .bad => .bad
noncomputable def RE.bindS (r : RE) (fr : Fra) (k : V → Sto → RS) : RS := match r with | .ok v σ => k v σ | .ex x σ => .ex x fr σ | .bad => .bad
set_option tactic.hygienic false in
theorem RE.bind_ok (v : V) (σ : Sto) (k) : (RE.ok v σ).bind k = k v σ := rfl
set_option tactic.hygienic false in
theorem RE.binds_ok (v : V) (σ : Sto) (k) : (RE.ok v σ).binds k = k v σ := rfl
set_option tactic.hygienic false in
theorem REs.bind_ok (v : List V) (σ : Sto) (k) : (REs.ok v σ).bind k = k v σ := rfl
set_option tactic.hygienic false in
theorem REs.binds_ok (v : List V) (σ : Sto) (k) : (REs.ok v σ).binds k = k v σ := rfl
set_option tactic.hygienic false in
theorem RE.bindS_ok (v : V) (σ : Sto) (fr) (k) : (RE.ok v σ).bindS fr k = k v σ := rfl

inductive BN where
  | len | max | min | list | tuple | all | int | range | setLen | revl
inductive MN where
  | append | pop | clear | extend | index
inductive Ty where
  | int | bool | tuple | list | inst | exc (c : Nat)

inductive KX where
  | num (i : Int) | par | var (i : Nat) | add (a b : KX) | mul (a b : KX) | mod (a b : KX)

set_option genCtorIdx false in
inductive E where
  | none | bool (b : Bool) | int (i : Int) | str (s : Str)
  | loc (i : Nat)
  | pow (a n : Nat)
  | neg (a : E) | not (a : E)
  | and (a b : E) | or (a b : E)
  | bin (op : Operator) (a b : E)
  | cmp (op : CmpOp) (a b : E)
  | cmp2 (o1 o2 : CmpOp) (a b c : E)
  | sub (a i : E)
  | slo (a lo : E) | shi (a hi : E) | sst (a st : E)
  | attr (a : E) (x : Nat)
  | list (es : List E) | tup (es : List E)
  | dict0 | dict1 (k v : E)
  | call (f : Nat) (as : List E)
  | mk (f : Nat) (as : List E)
  | meth (a : E) (x : MN) (as : List E)
  | umeth (a : E) (f : Nat) (as : List E)
  | blt (b : BN) (as : List E)
  | maxd (a : E)
  | isi (a : E) (t : Ty)
  | join (s : Str) (a : E)
  | srt (a : E) (key : KX)
  | comp (tg : List Nat) (one : Bool) (it : E) (conds : List E) (elt : E) (frm : List (Option Nat))

inductive It where
  | e (a : E) | enum (a : E) | zip (a b : E)

set_option genCtorIdx false in
inductive S where
  | expr (a : E)
  | ret (a : E)
  | asg (i : Nat) (a : E)
  | asgT (is : List Nat) (a : E)
  | asgA (o : E) (x : Nat) (a : E)
  | asgI (o i a : E)
  | ifS (t : E) (b o : List S)
  | whileS (t : E) (b : List S)
  | forS (tg : List Nat) (one : Bool) (it : It) (b : List S)
  | raise (c : Nat)
  | tryS (b : List S) (c : Nat) (i : Nat) (h : List S)
  | pass

noncomputable def getL (σ : Sto) (l : Nat) : Option (List V) := match σ[l]? with | some (.lst xs) => some xs | _ => none
noncomputable def newL (xs : List V) (σ : Sto) : RE := if xs.length ≤ 16777216 then .ok (.ref σ.length) (σ ++ [.lst xs]) else .bad
noncomputable def ofOpt (σ : Sto) (o : Option V) : RE := match o with | some v => .ok v σ | none => .bad
noncomputable def ofOptB (σ : Sto) (o : Option Bool) : RE := match o with | some v => .ok (.bool v) σ | none => .bad

noncomputable abbrev mulOk (a b : Int) : Prop := a.natAbs < 2 ^ 64 ∨ b.natAbs < 2 ^ 64 ∨ (a.natAbs < 10 ^ 100 ∧ b.natAbs < 10 ^ 100)

noncomputable def wII (a b : V) (f : Int → Int → RE) : RE := match a with
  | .int x => (match b with | .int y => f x y | _ => .bad)
  | _ => .bad
noncomputable def addV (a b : V) (σ : Sto) : RE := match a with
  | .int x => (match b with | .int y => .ok (.int (x + y)) σ | _ => .bad)
  | .ref l => (match b with
    | .ref k => (match getL σ l with
      | some xs => (match getL σ k with | some ys => newL (xs ++ ys) σ | none => .bad)
      | none => .bad)
    | _ => .bad)
  | .str x => (match b with | .str y => if x.length + y.length ≤ 1000 then .ok (.str (x ++ y)) σ else .bad | _ => .bad)
  | _ => .bad
noncomputable def repN (o : Option (List V)) (n : Int) (σ : Sto) : RE := match o with
  | some [x] => if -1000000 ≤ n then newL (List.replicate n.toNat x) σ else .bad
  | _ => .bad
noncomputable def mulV (a b : V) (σ : Sto) : RE := match b with
  | .int n => (match a with
    | .int x => if mulOk x n then .ok (.int (x * n)) σ else .bad
    | .ref l => repN (getL σ l) n σ
    | _ => .bad)
  | _ => .bad
noncomputable def binV (op : Operator) (a b : V) (σ : Sto) : RE := match op with
  | .Add => addV a b σ
  | .Sub => wII a b fun x y => .ok (.int (x - y)) σ
  | .Mult => mulV a b σ
  | .FloorDiv => wII a b fun x y => if y ≠ 0 ∧ y.natAbs < 10 ^ 100 then .ok (.int (x.fdiv y)) σ else .bad
  | .Mod => wII a b fun x y => if y = 0 then .bad else .ok (.int (x.fmod y)) σ
  | _ => .bad

noncomputable def mapO {α β : Type} (f : α → Option β) : List α → Option (List β)
  | [] => some []
  | x :: xs => match f x, mapO f xs with | some y, some ys => some (y :: ys) | _, _ => none

noncomputable def intOf : V → Option Int | .int i => some i | _ => none
noncomputable def intsOf (xs : List V) : Option (List Int) := mapO intOf xs

noncomputable def toDX (f : V → Option PyData) (σ : Sto) (v : V) : Option PyData := match v with
  | .none => some .none
  | .bool b => some (.bool b)
  | .int i => some (.int i)
  | .str s => if PyData.strOk s then some (.str s) else none
  | .tup vs => (mapO f vs).map .tuple
  | .ref l => (match getL σ l with | some vs => (mapO f vs).map .list | none => none)
  | .rng _ _ => none
noncomputable def toD : Nat → Sto → V → Option PyData
  | 0 => fun _ _ => none
  | n + 1 => fun σ => toDX (toD n σ) σ

noncomputable def eqV (σ : Sto) (a b : V) : Option Bool := match toD 5 σ a, toD 5 σ b with | some x, some y => some (PyData.eqv x y) | _, _ => none

noncomputable def isNone : V → Bool | .none => true | _ => false

noncomputable def inV (σ : Sto) (x c : V) : Option Bool := match c with
  | .ref l => (match σ[l]?, x with
    | some (.lst vs), .int i => (intsOf vs).map fun is => decide (i ∈ is)
    | some (.dI es), .int i => some (es.any fun e => e.1 == i)
    | some (.dT es), .tup ks => (intsOf ks).map fun k => es.any fun e => e.1 == k
    | _, _ => none)
  | _ => none

noncomputable def notInV (σ : Sto) (x c : V) : Option Bool := match c with
  | .ref l => (match σ[l]?, x with
    | some (.lst vs), .int i => (intsOf vs).map fun is => !decide (i ∈ is)
    | some (.dI es), .int i => some (!es.any fun e => e.1 == i)
    | _, _ => none)
  | _ => none

noncomputable def cmpV (op : CmpOp) (a b : V) (σ : Sto) : Option Bool :=
  match op with
  | .Lt => (match a, b with | .int x, .int y => some (decide (x < y)) | _, _ => none)
  | .LtE => (match a, b with | .int x, .int y => some (decide (x ≤ y)) | _, _ => none)
  | .Gt => (match a, b with | .int x, .int y => some (decide (y < x)) | _, _ => none)
  | .GtE => (match a, b with | .int x, .int y => some (decide (y ≤ x)) | _, _ => none)
  | .Eq => (match a, b with | .int x, .int y => some (x == y) | _, _ => eqV σ a b)
  | .NotEq => (match a, b with | .int x, .int y => some (x != y) | _, _ => (eqV σ a b).map (!·))
  | .Is => (match b with | .none => some (isNone a) | _ => none)
  | .IsNot => (match b with | .none => some (!isNone a) | _ => none)
  | .In => inV σ a b
  | .NotIn => notInV σ a b

noncomputable def idxV (xs : List V) (k : Int) : Option V :=
  if 0 ≤ k then xs[k.toNat]? else if -(xs.length : Int) ≤ k then xs[(k + xs.length).toNat]? else none

noncomputable def subV (a i : V) (σ : Sto) : Option V := match a, i with
  | .tup vs, .int k => idxV vs k
  | .ref l, .int k => (match σ[l]? with
    | some (.lst vs) => idxV vs k
    | some (.frz vs) => idxV vs k
    | some (.dI es) => es.lookup k
    | _ => none)
  | .ref l, .tup ks => (match σ[l]?, intsOf ks with
    | some (.dT es), some k => es.lookup k
    | _, _ => none)
  | _, _ => none

noncomputable def lenV (a : V) (σ : Sto) : Option Int := match a with
  | .tup vs => some vs.length
  | .ref l => (match σ[l]? with | some (.lst vs) => some vs.length | some (.frz vs) => some vs.length | some (.dI es) => some es.length | _ => none)
  | _ => none

noncomputable def isiV (t : Ty) (a : V) (σ : Sto) : Option Bool := match t with
  | .int => (match a with | .int _ => some true | .bool _ => some true | .str _ => some false | .tup _ => some false | .ref l => (match σ[l]? with | some (.lst _) => some false | _ => none) | _ => none)
  | .bool => (match a with | .int _ => some false | .bool _ => some true | .str _ => some false | .tup _ => some false | .ref l => (match σ[l]? with | some (.lst _) => some false | _ => none) | _ => none)
  | .tuple => (match a with | .int _ => some false | .bool _ => some false | .str _ => some false | .tup _ => some true | .ref l => (match σ[l]? with | some (.lst _) => some false | _ => none) | _ => none)
  | .list => (match a with | .int _ => some false | .bool _ => some false | .str _ => some false | .tup _ => some false | .ref l => (match σ[l]? with | some (.lst _) => some true | _ => none) | _ => none)
  | .inst => (match a with | .ref l => (match σ[l]? with | some (.inst _) => some true | _ => none) | _ => none)
  | .exc _ => none

noncomputable def maxL : List Int → Option Int
  | [] => none
  | x :: xs => some (xs.foldl (fun a b => if a < b then b else a) x)
noncomputable def minL : List Int → Option Int
  | [] => none
  | x :: xs => some (xs.foldl (fun a b => if b < a then b else a) x)

noncomputable def rngL (lo hi : Int) : List V := (List.range (hi - lo).toNat).map fun (k : Nat) => V.int (lo + (k : Int))

noncomputable def allB : List V → Option Bool
  | [] => some true
  | .bool b :: r => (match allB r with | some c => some (b && c) | none => none)
  | _ => none

noncomputable def dedup (is : List Int) : List Int := is.foldl (fun acc v => if acc.any (· == v) then acc else acc ++ [v]) []

noncomputable def bLen (as : List V) (σ : Sto) : RE := match as with
  | [a] => ofOpt σ ((lenV a σ).map V.int)
  | _ => .bad
noncomputable def bInts (f : List Int → Option Int) (as : List V) (σ : Sto) : RE := match as with
  | [.ref l] => ofOpt σ ((((getL σ l).bind intsOf).bind f).map V.int)
  | _ => .bad
noncomputable def bMax (as : List V) (σ : Sto) : RE := match as with
  | [a, b] => (match a with
    | .int x => (match b with | .int y => .ok (.int (if x < y then y else x)) σ | _ => .bad)
    | _ => .bad)
  | _ => bInts maxL as σ
noncomputable def bList (as : List V) (σ : Sto) : RE := match as with
  | [a] => (match a with
    | .ref l => (match getL σ l with | some xs => newL xs σ | none => .bad)
    | .rng lo hi => newL (rngL lo hi) σ
    | _ => .bad)
  | _ => .bad
noncomputable def bTuple (as : List V) (σ : Sto) : RE := match as with
  | [a] => (match a with
    | .ref l => (match getL σ l with | some xs => .ok (.tup xs) σ | none => .bad)
    | _ => .bad)
  | _ => .bad
noncomputable def bAll (as : List V) (σ : Sto) : RE := match as with
  | [a] => (match a with
    | .ref l => ofOpt σ (((getL σ l).bind allB).map V.bool)
    | _ => .bad)
  | _ => .bad
noncomputable def bInt (as : List V) (σ : Sto) : RE := match as with
  | [a] => (match a with | .bool b => .ok (.int (if b then 1 else 0)) σ | _ => .bad)
  | _ => .bad
noncomputable def rngV (a b : Int) (σ : Sto) : RE := if -1000000 ≤ a ∧ a ≤ 1000000 ∧ -1000000 ≤ b ∧ b ≤ 1000000 then .ok (.rng a b) σ else .bad
noncomputable def bRange (as : List V) (σ : Sto) : RE := match as with
  | [a] => (match a with | .int n => rngV 0 n σ | _ => .bad)
  | [a, b] => (match a with | .int x => (match b with | .int y => rngV x y σ | _ => .bad) | _ => .bad)
  | _ => .bad
noncomputable def bSet (as : List V) (σ : Sto) : RE := match as with
  | [a] => (match a with
    | .ref l => (match (getL σ l).bind intsOf with | some is => if is.length ≤ 1000 then .ok (.int (dedup is).length) σ else .bad | none => .bad)
    | _ => .bad)
  | _ => .bad
noncomputable def bRev (as : List V) (σ : Sto) : RE := match as with
  | [a] => (match a with
    | .ref l => (match getL σ l with | some xs => newL xs.reverse σ | none => .bad)
    | _ => .bad)
  | _ => .bad
noncomputable def bltV (b : BN) (as : List V) (σ : Sto) : RE := match b with
  | .len => bLen as σ
  | .max => bMax as σ
  | .min => bInts minL as σ
  | .list => bList as σ
  | .tuple => bTuple as σ
  | .all => bAll as σ
  | .int => bInt as σ
  | .range => bRange as σ
  | .setLen => bSet as σ
  | .revl => bRev as σ

noncomputable def setL (σ : Sto) (l : Nat) (xs : List V) : Sto := σ.set l (.lst xs)

noncomputable def putI (k : Int) (v : V) : List (Int × V) → List (Int × V)
  | [] => [(k, v)]
  | e :: r => if e.1 == k then (e.1, v) :: r else e :: putI k v r
noncomputable def putT (k : List Int) (v : V) : List (List Int × V) → List (List Int × V)
  | [] => [(k, v)]
  | e :: r => if e.1 == k then (e.1, v) :: r else e :: putT k v r

abbrev idxOk (i : Int) (is : List Int) : Prop := i ∈ is ∧ is.length ≤ 1000 ∧ ∀ j ∈ is, j.natAbs < 1024
noncomputable def methV (x : MN) (l : Nat) (xs : List V) (as : List V) (σ : Sto) : RE := match x with
  | .append => (match as with | [v] => if xs.length < 16777216 then .ok .none (setL σ l (xs ++ [v])) else .bad | _ => .bad)
  | .pop => (match as with | [] => (match xs.getLast? with | some v => .ok v (setL σ l xs.dropLast) | none => .bad) | _ => .bad)
  | .clear => (match as with | [] => .ok .none (setL σ l []) | _ => .bad)
  | .extend => (match as with
    | [v] => (match v with
      | .ref k => (match getL σ k with | some ys => if xs.length + ys.length ≤ 16777216 ∧ k ≠ l then .ok .none (setL σ l (xs ++ ys)) else .bad | none => .bad)
      | _ => .bad)
    | _ => .bad)
  | .index => (match as with
    | [v] => (match v with
      | .int i => (match intsOf xs with | some is => if idxOk i is then .ok (.int (is.idxOf i)) σ else .bad | none => .bad)
      | _ => .bad)
    | _ => .bad)
noncomputable def lstV (v : V) (σ : Sto) (f : Nat → List V → RE) : RE := match v with
  | .ref l => (match getL σ l with | some xs => f l xs | none => .bad)
  | _ => .bad
noncomputable def instV (v : V) (σ : Sto) (r : RE) : RE := match v with
  | .ref l => (match σ[l]? with
    | some o => (match o with
      | .inst d => (match σ[d]? with | some o => (match o with | .att _ => r | _ => .bad) | none => .bad)
      | _ => .bad)
    | none => .bad)
  | _ => .bad

noncomputable def setIdx (a i v : V) (σ : Sto) : Option Sto := match a, i with
  | .ref l, .int k => (match σ[l]? with
    | some (.lst xs) => if 0 ≤ k ∧ k < xs.length then some (setL σ l (xs.set k.toNat v)) else none
    | some (.dI es) => if es.length < 1000000 then some (σ.set l (.dI (putI k v es))) else none
    | _ => none)
  | .ref l, .tup ks => (match σ[l]?, intsOf ks with
    | some (.dT es), some k => if es.length < 1000000 then some (σ.set l (.dT (putT k v es))) else none
    | _, _ => none)
  | _, _ => none

noncomputable def putA (k : Nat) (v : V) : List (Nat × V) → List (Nat × V)
  | [] => [(k, v)]
  | e :: r => if e.1 == k then (e.1, v) :: r else e :: putA k v r

noncomputable def attrV (a : V) (x : Nat) (σ : Sto) : Option V := match a with
  | .ref l => (match σ[l]? with
    | some (.inst d) => (match σ[d]? with | some (.att es) => es.lookup x | _ => none)
    | _ => none)
  | _ => none
noncomputable def setAttrV (a : V) (x : Nat) (v : V) (σ : Sto) : Option Sto := match a with
  | .ref l => (match σ[l]? with
    | some (.inst d) => (match σ[d]? with | some (.att es) => if es.length < 100 then some (σ.set d (.att (putA x v es))) else none | _ => none)
    | _ => none)
  | _ => none

noncomputable def bindT (tg : List Nat) (one : Bool) (v : V) (fr : Fra) : Option Fra :=
  if one then (match tg with | [i] => if i < fr.length then some (fr.set i (some v)) else none | _ => none)
  else match v with
    | .tup vs => if vs.length = tg.length ∧ tg.all (· < fr.length) then some ((tg.zip vs).foldl (fun f p => f.set p.1 (some p.2)) fr) else none
    | _ => none

noncomputable def subFr (fr : Fra) (frm : List (Option Nat)) : Fra := frm.map fun o => match o with | some j => (fr[j]?).join | none => none

noncomputable def insK {α : Type} (p : Int × α) : List (Int × α) → List (Int × α)
  | [] => [p]
  | q :: r => if p.1 < q.1 then p :: q :: r else q :: insK p r
noncomputable def sortK {α : Type} : List (Int × α) → List (Int × α)
  | [] => []
  | p :: r => insK p (sortK r)

noncomputable def kxV (fr : Fra) (x : Int) : KX → Option Int
  | .num i => some i
  | .par => some x
  | .var i => (match fr[i]? with | some (some (.int v)) => some v | _ => none)
  | .add a b => (kxV fr x a).bind fun p => (kxV fr x b).map fun q => p + q
  | .mul a b => (kxV fr x a).bind fun p => (kxV fr x b).bind fun q => if mulOk p q then some (p * q) else none
  | .mod a b => (kxV fr x a).bind fun p => (kxV fr x b).bind fun q => if q ≠ 0 then some (p.fmod q) else none
noncomputable def srtL (ks : Option (List Int)) (hi : Int) (σ : Sto) : RE := match ks with
  | some ks => if ks.Nodup then newL ((sortK (ks.zip (rngL 0 hi))).map (·.2)) (σ.set 1 (.tab true)) else .bad
  | none => .bad
noncomputable def srtT (o : Option AO) (r : RE) : RE := match o with
  | some (.tab false) => r
  | _ => .bad
noncomputable def srtV (key : KX) (fr : Fra) (v : V) (σ : Sto) : RE := match v with
  | .rng lo hi => if lo = 0 ∧ hi < 60 then srtT σ[1]? (srtL (mapO (fun (j : Nat) => kxV fr (j : Int) key) (List.range hi.toNat)) hi σ) else .bad
  | _ => .bad

section
variable (call : Nat → List V → Sto → RE)

noncomputable def testL (ts : List (Fra → Sto → RE)) (fr : Fra) (σ : Sto) : RE := match ts with
  | [] => .ok (.bool true) σ
  | t :: r => (t fr σ).bind fun v σ => match v with | .bool true => testL r fr σ | .bool false => .ok (.bool false) σ | _ => .bad

noncomputable def compF (tg : List Nat) (one : Bool) (cond elt : Fra → Sto → RE) (v : V) (fr : Fra) (σ : Sto) (acc : List V) : Option (Fra × List V × Sto) ⊕ (Nat × Sto) :=
  match bindT tg one v fr with
  | none => .inl none
  | some fr => match cond fr σ with
    | .ok (.bool true) σ => (match elt fr σ with
      | .ok y σ => .inl (some (fr, acc ++ [y], σ))
      | .ex x σ => .inr (x, σ)
      | .bad => .inl none)
    | .ok (.bool false) σ => .inl (some (fr, acc, σ))
    | .ex x σ => .inr (x, σ)
    | _ => .inl none

noncomputable def compV (tg : List Nat) (one : Bool) (cond elt : Fra → Sto → RE) : List V → Fra → Sto → List V → REs
  | [], _, σ, acc => .ok acc σ
  | v :: vs, fr, σ, acc => match compF tg one cond elt v fr σ acc with
    | .inl (some (fr, acc, σ)) => compV tg one cond elt vs fr σ acc
    | .inl none => .bad
    | .inr (x, σ) => .ex x σ

noncomputable def compL (tg : List Nat) (one : Bool) (cond elt : Fra → Sto → RE) (l : Nat) : Nat → Nat → Fra → Sto → List V → REs
  | 0, _, _, _, _ => .bad
  | n + 1, i, fr, σ, acc => match getL σ l with
    | none => .bad
    | some xs => match xs[i]? with
      | none => .ok acc σ
      | some v => match compF tg one cond elt v fr σ acc with
        | .inl (some (fr, acc, σ)) => compL tg one cond elt l n (i + 1) fr σ acc
        | .inl none => .bad
        | .inr (x, σ) => .ex x σ

mutual
noncomputable def evE : E → Fra → Sto → RE
  | .none => fun _ σ => .ok .none σ
  | .bool b => fun _ σ => .ok (.bool b) σ
  | .int i => fun _ σ => .ok (.int i) σ
  | .str s => fun _ σ => .ok (.str s) σ
  | .loc i => fun fr σ => match fr[i]? with | some (some v) => .ok v σ | _ => .bad
  | .pow a n => fun _ σ => .ok (.int ((a : Int) ^ n)) σ
  | .neg a => fun fr σ => (evE a fr σ).bind fun v σ => match v with | .int i => .ok (.int (-i)) σ | _ => .bad
  | .not a => fun fr σ => (evE a fr σ).bind fun v σ => match v with | .bool b => .ok (.bool (!b)) σ | _ => .bad
  | .and a b => fun fr σ => (evE a fr σ).bind fun v σ => match v with | .bool true => evE b fr σ | .bool false => .ok (.bool false) σ | _ => .bad
  | .or a b => fun fr σ => (evE a fr σ).bind fun v σ => match v with | .bool false => evE b fr σ | .bool true => .ok (.bool true) σ | _ => .bad
  | .bin op a b => fun fr σ => (evE a fr σ).bind fun x σ => (evE b fr σ).bind fun y σ => binV op x y σ
  | .cmp op a b => fun fr σ => (evE a fr σ).bind fun x σ => (evE b fr σ).bind fun y σ => ofOptB σ (cmpV op x y σ)
  | .cmp2 o1 o2 a b c => fun fr σ => (evE a fr σ).bind fun x σ => (evE b fr σ).bind fun y σ => match cmpV o1 x y σ with
      | some true => (evE c fr σ).bind fun z σ => ofOptB σ (cmpV o2 y z σ)
      | some false => .ok (.bool false) σ
      | none => .bad
  | .sub a i => fun fr σ => (evE a fr σ).bind fun x σ => (evE i fr σ).bind fun y σ => ofOpt σ (subV x y σ)
  | .slo a lo => fun fr σ => (evE a fr σ).bind fun x σ => (evE lo fr σ).bind fun y σ => match x, y with
      | .ref l, .int k => (match getL σ l with | some xs => if 0 ≤ k then newL (xs.drop k.toNat) σ else .bad | none => .bad)
      | _, _ => .bad
  | .shi a hi => fun fr σ => (evE a fr σ).bind fun x σ => (evE hi fr σ).bind fun y σ => match x, y with
      | .ref l, .int k => (match getL σ l with | some xs => if 0 ≤ k then newL (xs.take k.toNat) σ else .bad | none => .bad)
      | _, _ => .bad
  | .sst a st => fun fr σ => (evE a fr σ).bind fun x σ => (evE st fr σ).bind fun y σ => match x, y with
      | .ref l, .int k => (match getL σ l with | some xs => if k = 1 then newL xs σ else if k = -1 then newL xs.reverse σ else .bad | none => .bad)
      | _, _ => .bad
  | .attr a x => fun fr σ => (evE a fr σ).bind fun v σ => ofOpt σ (attrV v x σ)
  | .list es => fun fr σ => (evEs es fr σ).bind fun vs σ => newL vs σ
  | .tup es => fun fr σ => (evEs es fr σ).bind fun vs σ => if vs.length ≤ 1000 then .ok (.tup vs) σ else .bad
  | .dict0 => fun _ σ => .ok (.ref σ.length) (σ ++ [.dT []])
  | .dict1 k v => fun fr σ => (evE k fr σ).bind fun x σ => (evE v fr σ).bind fun y σ => match x with
      | .int i => .ok (.ref σ.length) (σ ++ [.dI [(i, y)]])
      | _ => .bad
  | .call f as => fun fr σ => (evEs as fr σ).bind fun vs σ => call f vs σ
  | .mk f as => fun fr σ => (evEs as fr σ).bind fun vs σ =>
      match call f (.ref (σ.length + 1) :: vs) (σ ++ [.att [], .inst σ.length]) with
      | .ok .none σ' => .ok (.ref (σ.length + 1)) σ'
      | .ok _ _ => .bad
      | .ex x σ' => .ex x σ'
      | .bad => .bad
  | .meth a x as => fun fr σ => (evE a fr σ).bind fun v σ => lstV v σ fun _ _ => (evEs as fr σ).bind fun vs σ => lstV v σ fun l xs => methV x l xs vs σ
  | .umeth a f as => fun fr σ => (evE a fr σ).bind fun v σ => instV v σ ((evEs as fr σ).bind fun vs σ => call f (v :: vs) σ)
  | .blt b as => fun fr σ => (evEs as fr σ).bind fun vs σ => bltV b vs σ
  | .maxd a => fun fr σ => (evE a fr σ).bind fun v σ => match v with
      | .ref l => (match (getL σ l).bind intsOf with | some [] => .ok .none σ | some is => ofOpt σ ((maxL is).map V.int) | none => .bad)
      | _ => .bad
  | .isi a t => fun fr σ => (evE a fr σ).bind fun v σ => ofOptB σ (isiV t v σ)
  | .join _ _ => fun _ _ => .bad
  | .srt a key => fun fr σ => (evE a fr σ).bind fun v σ => srtV key fr v σ
  | .comp tg one it conds elt frm => fun fr σ => (evE it fr σ).bind fun v σ => match v with
      | .ref l => (match getL σ l with
        | some xs => (compL tg one (testL (evTs conds)) (evE elt) l (xs.length + 1) 0 (subFr fr frm) σ []).bind fun ys σ => newL ys σ
        | none => .bad)
      | .tup vs => (compV tg one (testL (evTs conds)) (evE elt) vs (subFr fr frm) σ []).bind fun ys σ => newL ys σ
      | .rng lo hi => (compV tg one (testL (evTs conds)) (evE elt) (rngL lo hi) (subFr fr frm) σ []).bind fun ys σ => newL ys σ
      | _ => .bad
noncomputable def evEs : List E → Fra → Sto → REs
  | [] => fun _ σ => .ok [] σ
  | e :: es => fun fr σ => (evE e fr σ).binds fun v σ => (evEs es fr σ).binds fun vs σ => .ok (v :: vs) σ
noncomputable def evTs : List E → List (Fra → Sto → RE)
  | [] => []
  | e :: es => evE e :: evTs es
end

noncomputable def whileL (test : Fra → Sto → RE) (body : Fra → Sto → RS) : Nat → Fra → Sto → RS
  | 0, _, _ => .bad
  | n + 1, fr, σ => (test fr σ).bindS fr fun v σ => match v with
    | .bool false => .ok .next fr σ
    | .bool true => (match body fr σ with
      | .ok .next fr σ => whileL test body n fr σ
      | .ok .cont fr σ => whileL test body n fr σ
      | .ok .brk fr σ => .ok .next fr σ
      | r => r)
    | _ => .bad

noncomputable def forV (tg : List Nat) (one : Bool) (body : Fra → Sto → RS) : List V → Fra → Sto → RS
  | [], fr, σ => .ok .next fr σ
  | v :: vs, fr, σ => match bindT tg one v fr with
    | none => .bad
    | some fr => match body fr σ with
      | .ok .next fr σ => forV tg one body vs fr σ
      | .ok .cont fr σ => forV tg one body vs fr σ
      | .ok .brk fr σ => .ok .next fr σ
      | r => r

noncomputable def forL (tg : List Nat) (one : Bool) (body : Fra → Sto → RS) (l : Nat) : Nat → Nat → Fra → Sto → RS
  | 0, _, _, _ => .bad
  | n + 1, i, fr, σ => match getL σ l with
    | none => .bad
    | some xs => match xs[i]? with
      | none => .ok .next fr σ
      | some v => match bindT tg one v fr with
        | none => .bad
        | some fr => match body fr σ with
          | .ok .next fr σ => forL tg one body l n (i + 1) fr σ
          | .ok .cont fr σ => forL tg one body l n (i + 1) fr σ
          | .ok .brk fr σ => .ok .next fr σ
          | r => r

variable (wf : Nat)
mutual
noncomputable def evS : S → Fra → Sto → RS
  | .expr a => fun fr σ => (evE call a fr σ).bindS fr fun _ σ => .ok .next fr σ
  | .ret a => fun fr σ => (evE call a fr σ).bindS fr fun v σ => .ok (.ret v) fr σ
  | .asg i a => fun fr σ => (evE call a fr σ).bindS fr fun v σ => if i < fr.length then .ok .next (fr.set i (some v)) σ else .bad
  | .asgT is a => fun fr σ => (evE call a fr σ).bindS fr fun v σ => match bindT is false v fr with | some fr => .ok .next fr σ | none => .bad
  | .asgA o x a => fun fr σ => (evE call a fr σ).bindS fr fun v σ => (evE call o fr σ).bindS fr fun w σ => match setAttrV w x v σ with
      | some σ => .ok .next fr σ | none => .bad
  | .asgI o i a => fun fr σ => (evE call a fr σ).bindS fr fun v σ => (evE call o fr σ).bindS fr fun w σ => (evE call i fr σ).bindS fr fun k σ => match setIdx w k v σ with
      | some σ => .ok .next fr σ | none => .bad
  | .ifS t b o => fun fr σ => (evE call t fr σ).bindS fr fun v σ => match v with
      | .bool true => evSs b fr σ | .bool false => evSs o fr σ | _ => .bad
  | .whileS t b => fun fr σ => whileL (evE call t) (evSs b) wf fr σ
  | .forS tg one it b => fun fr σ => match it with
      | .e a => (evE call a fr σ).bindS fr fun v σ => (match v with
        | .ref l => (match getL σ l with | some xs => forL tg one (evSs b) l (xs.length + 1) 0 fr σ | none => .bad)
        | .tup vs => forV tg one (evSs b) vs fr σ
        | .rng lo hi => forV tg one (evSs b) (rngL lo hi) fr σ
        | _ => .bad)
      | _ => .bad
  | .raise _ => fun _ _ => .bad
  | .tryS _ _ _ _ => fun _ _ => .bad
  | .pass => fun fr σ => .ok .next fr σ
noncomputable def evSs : List S → Fra → Sto → RS
  | [] => fun fr σ => .ok .next fr σ
  | s :: ss => fun fr σ => match evS s fr σ with
    | .ok .next fr σ => evSs ss fr σ
    | r => r
end
end

structure Fn where
  ps : List Nat
  size : Nat
  body : List S

noncomputable def putPs : List Nat → List V → Fra → Fra
  | p :: ps, v :: vs, fr => putPs ps vs (fr.set p (some v))
  | _, _, fr => fr
noncomputable def frame0 (f : Fn) (vs : List V) : Fra := putPs f.ps vs (List.replicate f.size none)

noncomputable def evFn (P : Nat → Option Fn) (wf : Nat) : Nat → Nat → List V → Sto → RE
  | 0, _, _, _ => .bad
  | n + 1, f, vs, σ => match P f with
    | none => .bad
    | some fn => if vs.length = fn.ps.length then
        (match evSs (evFn P wf n) wf fn.body (frame0 fn vs) σ with
         | .ok (.ret v) _ σ => .ok v σ
         | .ok .next _ σ => .ok .none σ
         | .ok _ _ _ => .bad
         | .ex x _ σ => .ex x σ
         | .bad => .bad)
      else .bad

end Mine

set_option autoImplicit false
set_option genSizeOf false
set_option genInjectivity false
set_option bootstrap.genMatcherCode false
namespace Mine
open PySem

structure CE where
  names : List (Str × NameKind)
  fns : List (Str × Nat)
  clss : List (Str × Nat)
  excs : List (Str × Nat)
  mths : List (Str × Nat)
  attrs : List (Str × Nat)
  consts : List (Str × Int)
  lam : Option Nat

noncomputable def CE.loc? (c : CE) (x : Str) : Option Nat := match c.names.lookup x with
  | some .local | some .cell | some .free => c.names.findIdx? (·.1 == x)
  | _ => none
noncomputable def CE.locW? (c : CE) (x : Str) : Option Nat := match c.names.lookup x with
  | some .local | some .cell => c.names.findIdx? (·.1 == x)
  | _ => none
noncomputable def CE.glob (c : CE) (x : Str) : Bool := c.names.lookup x == some .globalImplicit
noncomputable def CE.sub (c : CE) (names : List (Str × NameKind)) : CE := { c with names := names }

noncomputable def opt2 {α β γ : Type} (f : α → β → γ) (a : Option α) (b : Option β) : Option γ := a.bind fun x => b.map fun y => f x y
noncomputable def opt3 {α β γ δ : Type} (f : α → β → γ → δ) (a : Option α) (b : Option β) (c : Option γ) : Option δ := a.bind fun x => opt2 (f x) b c
noncomputable def gd {α : Type} (b : Bool) (x : Option α) : Option α := match b with | true => x | false => none
set_option tactic.hygienic false in
theorem nn {α : Type} {z : α} {P : Prop} (h : (none : Option α) = some z) : P := nomatch h
set_option tactic.hygienic false in
theorem ft {P : Prop} (h : false = true) : P := nomatch h
set_option tactic.hygienic false in
theorem tf {P : Prop} (h : true = false) : P := nomatch h
set_option tactic.hygienic false in
theorem si {α : Type} {a b : α} {P : α → Prop} (h : some a = some b) (H : P a) : P b := Option.some.inj h ▸ H
set_option tactic.hygienic false in
theorem opt2_inv {α β γ : Type} {f : α → β → γ} {a : Option α} {b : Option β} {z : γ} : opt2 f a b = some z → ∃ x y, a = some x ∧ b = some y ∧ f x y = z :=
  Option.casesOn a nn fun x => Option.casesOn b nn fun y h => ⟨x, y, rfl, rfl, Option.some.inj h⟩
set_option tactic.hygienic false in
theorem opt3_inv {α β γ δ : Type} {f : α → β → γ → δ} {a : Option α} {b : Option β} {c : Option γ} {w : δ} : opt3 f a b c = some w → ∃ x y z, a = some x ∧ b = some y ∧ c = some z ∧ f x y z = w :=
  Option.casesOn a nn fun x => Option.casesOn b nn fun y => Option.casesOn c nn fun z h => ⟨x, y, z, rfl, rfl, rfl, Option.some.inj h⟩
set_option tactic.hygienic false in
theorem gd_inv {α : Type} {b : Bool} {x : Option α} {z : α} : gd b x = some z → b = true ∧ x = some z := Bool.casesOn b nn fun h => ⟨rfl, h⟩
set_option tactic.hygienic false in
theorem map_inv {α β : Type} {f : α → β} {a : Option α} {z : β} : a.map f = some z → ∃ x, a = some x ∧ f x = z := Option.casesOn a nn fun x h => ⟨x, rfl, Option.some.inj h⟩
set_option tactic.hygienic false in
theorem bind_inv {α β : Type} {f : α → Option β} {a : Option α} {z : β} : a.bind f = some z → ∃ x, a = some x ∧ f x = some z := Option.casesOn a nn fun x h => ⟨x, rfl, h⟩
set_option tactic.hygienic false in
theorem and_inv {a b : Bool} : (a && b) = true → a = true ∧ b = true := Bool.casesOn a ft fun h => ⟨rfl, h⟩
set_option tactic.hygienic false in
theorem not_inv {a : Bool} : (!a) = true → a = false := Bool.casesOn a (fun _ => rfl) ft

inductive EV where
  | name (x : Str) | const (k : Const) | slice (t : Option Expr × Option Expr × Option Expr) | lc | tup (ts : List Expr) | attr (t : Expr × Str × Pos) | sub (t : Expr × Expr) | call (t : Expr × List Expr × List Keyword) | bin (t : Expr × Operator × Expr) | lam (t : Arguments × Expr × Scope × Pos) | other
noncomputable def vw : Expr → EV
  | .Name x _ => .name x
  | .Constant k _ _ => .const k
  | .Slice a b c _ => .slice (a, b, c)
  | .ListComp .. => .lc
  | .Tuple ts _ _ => .tup ts
  | .Attribute o x p => .attr (o, x, p)
  | .Subscript o i _ => .sub (o, i)
  | .Call f as ks _ => .call (f, as, ks)
  | .BinOp l op r _ => .bin (l, op, r)
  | .Lambda ps e sc p => .lam (ps, e, sc, p)
  | _ => .other
def VwOk (e : Expr) : EV → Prop
  | .name x => ∃ p, e = .Name x p
  | .const k => ∃ a p, e = .Constant k a p
  | .slice t => ∃ p, e = .Slice t.1 t.2.1 t.2.2 p
  | .tup ts => ∃ k p, e = .Tuple ts k p
  | .attr t => e = .Attribute t.1 t.2.1 t.2.2
  | .sub t => ∃ p, e = .Subscript t.1 t.2 p
  | .call t => ∃ p, e = .Call t.1 t.2.1 t.2.2 p
  | .bin t => ∃ p, e = .BinOp t.1 t.2.1 t.2.2 p
  | .lam t => e = .Lambda t.1 t.2.1 t.2.2.1 t.2.2.2
  | _ => True
set_option tactic.hygienic false in
theorem vw_ok (e : Expr) : VwOk e (vw e) := by
  cases e <;> first | exact True.intro | exact ⟨_, rfl⟩ | exact ⟨_, _, rfl⟩ | rfl
set_option tactic.hygienic false in
theorem vw_of {e : Expr} {v : EV} (h : vw e = v) : VwOk e v := h ▸ vw_ok e
noncomputable def name? (e : Expr) : Option Str := match vw e with | .name x => some x | _ => none
noncomputable def constI? (e : Expr) : Option Int := match vw e with | .const (.int i) => some i | _ => none
noncomputable def isStrC (e : Expr) : Bool := match vw e with | .const (.str _) => true | _ => false
noncomputable def isLC (e : Expr) : Bool := match vw e with | .lc => true | _ => false
noncomputable def isTup (e : Expr) : Bool := match vw e with | .name _ => false | .call _ => false | _ => true
set_option tactic.hygienic false in
theorem name?_inv {e : Expr} {x : Str} (h : name? e = some x) : ∃ p, e = .Name x p := by
  unfold name? at h
  cases q : vw e <;> rw [q] at h <;> first | exact nn h | skip
  exact Option.some.inj h ▸ vw_of q
theorem constI?_inv {e : Expr} {x : Int} (h : constI? e = some x) : ∃ k p, e = .Constant (.int x) k p := by
  unfold constI? at h
  cases q : vw e <;> rw [q] at h <;> first | exact nn h | skip
  rename_i k; cases k <;> first | exact nn h | skip
  exact Option.some.inj h ▸ vw_of q
set_option tactic.hygienic false in
theorem isLC_inv {e : Expr} (h : isLC e = false) : ∀ a b c d, e ≠ .ListComp a b c d := by
  intro a b c d q; subst q; exact tf h
set_option tactic.hygienic false in
theorem isTup_inv {e : Expr} (h : isTup e = false) : (∃ x p, e = .Name x p) ∨ ∃ f as ks p, e = .Call f as ks p := by
  unfold isTup at h
  cases q : vw e <;> rw [q] at h <;> first | exact tf h | skip
  · exact .inl ⟨_, vw_of q⟩
  · exact .inr ⟨_, _, _, vw_of q⟩

noncomputable def nameIdxs (c : CE) : List Expr → Option (List Nat)
  | [] => some []
  | e :: r => opt2 List.cons ((name? e).bind c.locW?) (nameIdxs c r)

noncomputable def tgt (c : CE) (e : Expr) : Option (List Nat × Bool) := match name? e with
  | some x => (c.locW? x).map fun i => ([i], true)
  | none => (match vw e with | .tup es => (nameIdxs c es).map fun is => (is, false) | _ => none)

noncomputable def CE.locC? (c : CE) (x : Str) : Option Nat := match c.names.lookup x with
  | some .cell | some .free => c.names.findIdx? (·.1 == x)
  | _ => none
noncomputable def frm1 (c : CE) (p : Str × NameKind) : Option (Option Nat) := match p.2 with
  | .free => (c.locC? p.1).map some
  | .cell => none
  | _ => some none
noncomputable def frmOf (c : CE) (sc : Scope) : Option (List (Option Nat)) := mapO (frm1 c) sc.names
noncomputable def scOk (sc : Scope) : Bool := (match sc.kind with | .function => true | _ => false) && decide ((sc.names.map (·.1)).Nodup)

noncomputable def opOk : Operator → Bool
  | .Add | .Sub | .Mult | .FloorDiv | .Mod => true
  | _ => false

noncomputable def bltName : List (Str × BN) := [("len", .len), ("max", .max), ("min", .min), ("list", .list), ("tuple", .tuple), ("all", .all), ("int", .int), ("range", .range)]
noncomputable def bOk : BN → Bool
  | .len => true
  | .min | .list | .range => true
  | .max => true
  | .tuple => true
  | .all => true
  | .int => true
  | _ => false
noncomputable def tyName : List (Str × Ty) := [("int", .int), ("bool", .bool), ("tuple", .tuple), ("list", .list)]
noncomputable def methName : List (Str × MN) := [("append", .append), ("pop", .pop), ("index", .index)
  , ("clear", .clear), ("extend", .extend)
  ]
noncomputable def mOk : MN → Bool
  | _ => true

noncomputable def mkB (op : BoolOp) (x y : E) : E := match op with | .And => .and x y | .Or => .or x y
noncomputable def foldB (op : BoolOp) : List E → Option E
  | [] => none
  | [x] => some x
  | x :: r => (foldB op r).map fun y => mkB op x y

noncomputable def noMark (op : CmpOp) (r : Expr) : Bool := !behindInMarks op r

noncomputable def baseOk (e : Expr) : Bool := match vw e with
  | .name _ => true
  | .attr _ => true
  | .sub _ => true
  | .call t => (match vw t.1 with | .attr _ => true | _ => false)
  | _ => false
theorem base_eq {o : Expr} {x : Str} {env : Env} {act : Sem Value} (h : baseOk o = true) : attributeBase o x env act = act := by
  unfold baseOk at h
  cases q : vw o <;> rw [q] at h <;> first | exact ft h | skip
  · obtain ⟨p, rfl⟩ := vw_of q; rfl
  · have e : o = _ := vw_of q
    subst e; rfl
  · obtain ⟨p, rfl⟩ := vw_of q; rfl
  · obtain ⟨p, rfl⟩ := vw_of q
    rename_i t
    have h : (match vw t.1 with | .attr _ => true | _ => false) = true := h
    cases q2 : vw t.1 <;> rw [q2] at h <;> first | exact ft h | skip
    have e : t.1 = _ := vw_of q2
    rw [e]; rfl

inductive CK where
  | setLen (a : Expr) | revl (a : Expr) | isi (a : Expr) (t : Str) | plain

noncomputable def one? {α : Type} (f : Expr → Expr → Option α) (t : Expr × List Expr × List Keyword) : Option α := match t.2.1 with
  | [a] => (match t.2.2 with | [] => f t.1 a | _ => none)
  | _ => none
set_option tactic.hygienic false in
theorem one?_inv {α : Type} {f : Expr → Expr → Option α} {t : Expr × List Expr × List Keyword} {z : α} (h : one? f t = some z) : ∃ a, t.2 = ([a], []) ∧ f t.1 a = some z := by
  obtain ⟨fn, as, ks⟩ := t
  rcases as with _ | ⟨a, _ | ⟨b, as⟩⟩
  · exact nn h
  · cases ks with
    | nil => exact ⟨a, rfl, h⟩
    | cons => exact nn h
  · exact nn h
noncomputable def call1? (e : Expr) : Option (Str × Expr) := match vw e with
  | .call t => one? (fun f a => (name? f).map fun x => (x, a)) t
  | _ => none
theorem call1?_inv {e : Expr} {t : Str × Expr} (h : call1? e = some t) : ∃ fp p, e = .Call (.Name t.1 fp) [t.2] [] p := by
  unfold call1? at h
  cases q : vw e <;> rw [q] at h <;> first | exact nn h | skip
  rename_i u
  obtain ⟨a, h1, h2⟩ := one?_inv h
  obtain ⟨x, h3, rfl⟩ := map_inv h2
  obtain ⟨p, hp⟩ := vw_of q
  obtain ⟨fp, h4⟩ := name?_inv h3
  rw [h1, h4] at hp
  exact ⟨fp, p, hp⟩

noncomputable def ck1 (c : CE) (f : Str) (t : Str × Expr) : CK := match (f == ("len" : Str) && (t.1 == ("set" : Str) && (c.glob f && c.glob t.1))) with
  | true => .setLen t.2
  | false => (match (f == ("list" : Str) && (t.1 == ("reversed" : Str) && (c.glob f && c.glob t.1))) with | true => .revl t.2 | false => .plain)
noncomputable def ck2 (c : CE) (f : Str) (a : Expr) (t : Str) : CK := match (f == ("isinstance" : Str) && (c.glob f && (c.glob t && !(t == ("__debug__" : Str))))) with
  | true => .isi a t
  | false => .plain
noncomputable def callKind (c : CE) (f : Str) (args : List Expr) : CK := match args with
  | [a] => (match call1? a with | some t => ck1 c f t | none => .plain)
  | [a, t] => (match name? t with | some x => ck2 c f a x | none => .plain)
  | _ => .plain

noncomputable def isiTy (c : CE) (t : Str) : Option Ty := match tyName.lookup t with
  | some ty => some ty
  | none => (match c.clss.lookup t with
    | some _ => some .inst
    | none => (c.excs.lookup t).map .exc)

noncomputable def plainCall' (c : CE) (f : Str) (as : List E) : Option E := match bltName.lookup f with
  | some b => gd (bOk b) (some (.blt b as))
  | none => (match c.fns.lookup f with
    | some k => some (.call k as)
    | none => (c.clss.lookup f).map fun k => .mk k as)

noncomputable def methCall (c : CE) (x : Str) (a : E) (as : List E) : Option E := match methName.lookup x with
  | some m => some (.meth a m as)
  | none => (c.mths.lookup x).map fun f => .umeth a f as

noncomputable def cConst : Const → Option E
  | .none => some .none
  | .bool b => some (.bool b)
  | .int i => some (.int i)
  | .str s => some (.str s)
  | _ => none
noncomputable def cName (c : CE) (x : Str) : Option E := gd (!(x == ("__debug__" : Str)) && !(x == ("__classdict__" : Str))) (match c.loc? x with
  | some i => some (.loc i)
  | none => gd (c.glob x) ((c.consts.lookup x).map .int))
noncomputable def isPow : Operator → Bool | .Pow => true | _ => false
noncomputable def cBin (f : Expr → Option E) (l : Expr) (op : Operator) (r : Expr) : Option E := match opOk op with
  | true => opt2 (.bin op) (f l) (f r)
  | false => gd (isPow op) ((constI? l).bind fun a => (constI? r).bind fun b => gd (decide (0 ≤ a ∧ a ≤ 10 ∧ 0 ≤ b ∧ b ≤ 100)) (some (.pow a.toNat b.toNat)))
noncomputable def cUn (f : Expr → Option E) (op : UnaryOp) (x : Expr) : Option E := match op with
  | .Not => (f x).map .not
  | .USub => (f x).map .neg
  | _ => none
noncomputable def cCmp (f : Expr → Option E) (l : Expr) (ops : List CmpOp) (rs : List Expr) : Option E := match ops with
  | [op] => (match rs with | [r] => gd (noMark op r) (opt2 (.cmp op) (f l) (f r)) | _ => none)
  | [o1, o2] => (match rs with | [m, r] => gd (noMark o2 r) (opt3 (.cmp2 o1 o2) (f l) (f m) (f r)) | _ => none)
  | _ => none
noncomputable def cSlice (f : Expr → Option E) (v : Expr) : Option Expr → Option Expr → Option Expr → Option E
  | some lo, none, none => opt2 .slo (f v) (f lo)
  | none, some hi, none => opt2 .shi (f v) (f hi)
  | _, _, _ => none
noncomputable def cSub (f : Expr → Option E) (v i : Expr) : Option E := match vw i with
  | .slice t => cSlice f v t.1 t.2.1 t.2.2
  | _ => opt2 .sub (f v) (f i)
noncomputable def cDict (f : Expr → Option E) (ks : List (Option Expr)) (vs : List Expr) : Option E := match ks with
  | [] => (match vs with | [] => some .dict0 | _ => none)
  | [some k] => (match vs with | [v] => opt2 .dict1 (f k) (f v) | _ => none)
  | _ => none
noncomputable def cCallN (c : CE) (f : Expr → Option E) (x : Str) (args : List Expr) : Option E := match callKind c x args with
  | .setLen a => (f a).map fun x => .blt .setLen [x]
  | .revl a => (f a).map fun x => .blt .revl [x]
  | .isi a t => opt2 .isi (f a) (isiTy c t)
  | .plain => gd (decide (args.length ≤ 8) && (c.glob x && !(x == ("__debug__" : Str)))) ((mapO f args).bind fun as => plainCall' c x as)
noncomputable def kxOp (op : Operator) (a b : Option KX) : Option KX := match op with
  | .Add => opt2 .add a b
  | .Mult => opt2 .mul a b
  | .Mod => opt2 .mod a b
  | _ => none
noncomputable def kxName (c : CE) (p : Str) (sc : Scope) (x : Str) : Option KX := match (x == p) with
  | true => some .par
  | false => gd (sc.names.lookup x == some .free && !(x == ("__classdict__" : Str))) ((c.locC? x).map .var)
noncomputable def cKey : Nat → CE → Str → Scope → Expr → Option KX
  | 0, _, _, _, _ => none
  | n + 1, c, p, sc, e => match vw e with
    | .const k => (match k with | .int i => some (.num i) | _ => none)
    | .name x => gd (!(x == ("__debug__" : Str))) (kxName c p sc x)
    | .bin t => kxOp t.2.1 (cKey n c p sc t.1) (cKey n c p sc t.2.2)
    | _ => none
noncomputable def par? (ps : Arguments) : Option Str := match ps.args with
  | [a] => gd (ps.posonlyargs.isEmpty && (ps.vararg.isNone && (ps.kwonlyargs.isEmpty && (ps.kw_defaults.isEmpty && (ps.kwarg.isNone && ps.defaults.isEmpty))))) (some a.arg)
  | _ => none
noncomputable def cSort (c : CE) (f : Expr → Option E) (x : Str) (a : Expr) (kw : Option Str) (t : Arguments × Expr × Scope × Pos) : Option E :=
  gd (kw == some ("key" : Str) && (x == ("sorted" : Str) && (c.glob x && (c.lam.isSome && (scOk t.2.2.1 && (!t.2.2.1.isGenerator && (!t.2.2.1.isCoroutine && (frmOf c t.2.2.1).isSome)))))))
    ((par? t.1).bind fun p => gd (t.2.2.1.names.lookup p == some .local) (opt2 .srt (f a) (cKey 10 c p t.2.2.1 t.2.1)))
noncomputable def cCallK (c : CE) (f : Expr → Option E) (x : Str) (args : List Expr) (k : Keyword) : Option E := match args with
  | [a] => (match vw k.value with
    | .const v => (match v with | .none => gd (k.arg == some ("default" : Str) && (x == ("max" : Str) && c.glob x)) ((f a).map .maxd) | _ => none)
    | .lam t => cSort c f x a k.arg t
    | _ => none)
  | _ => none
noncomputable def cCallM (c : CE) (f : Expr → Option E) (t : Expr × Str × Pos) (args : List Expr) (pos : Pos) : Option E :=
  gd (decide (args.length ≤ 8) && (baseOk t.1 && (t.2.2.endLine == pos.line))) ((f t.1).bind fun a => (mapO f args).bind fun as => methCall c t.2.1 a as)
noncomputable def cCall (c : CE) (f : Expr → Option E) (fn : Expr) (args : List Expr) (ks : List Keyword) (pos : Pos) : Option E := match name? fn with
  | some x => (match ks with
    | [] => cCallN c f x args
    | [k] => cCallK c f x args k
    | _ => none)
  | none => (match ks with | [] => (match vw fn with | .attr t => cCallM c f t args pos | _ => none) | _ => none)
noncomputable def comp1? : List Comprehension → Option (Expr × Expr × List Expr)
  | [g] => gd (g.is_async == 0) (some (g.target, g.iter, g.ifs))
  | _ => none
noncomputable def cComp (c : CE) (rec : CE → Expr → Option E) (elt : Expr) (gens : List Comprehension) (sc : Scope) : Option E := gd (scOk sc) ((comp1? gens).bind fun t =>
  (rec c t.2.1).bind fun it => (tgt (c.sub sc.names) t.1).bind fun tg => (mapO (rec (c.sub sc.names)) t.2.2).bind fun cs => (rec (c.sub sc.names) elt).bind fun x => (frmOf c sc).map fun fr => .comp tg.1 tg.2 it cs x fr)

noncomputable def compX (rec : CE → Expr → Option E) (c : CE) (e : Expr) : Option E := match e with
  | .Constant k _ _ => cConst k
  | .Name x _ => cName c x
  | .BoolOp op vs _ => (mapO (rec c) vs).bind (foldB op)
  | .BinOp l op r _ => cBin (rec c) l op r
  | .UnaryOp op x _ => cUn (rec c) op x
  | .Compare l ops rs _ => cCmp (rec c) l ops rs
  | .Subscript v i _ => cSub (rec c) v i
  | .Attribute v x _ => gd (baseOk v) (opt2 .attr (rec c v) (c.attrs.lookup x))
  | .List es _ => gd (decide (es.length ≤ 60)) ((mapO (rec c) es).map .list)
  | .Tuple es _ _ => gd (decide (es.length ≤ 60)) ((mapO (rec c) es).map .tup)
  | .Dict ks vs _ => cDict (rec c) ks vs
  | .Call f args ks p => cCall c (rec c) f args ks p
  | .ListComp elt gens sc _ => cComp c rec elt gens sc
  | _ => none
noncomputable def compE : Nat → CE → Expr → Option E
  | 0 => fun _ _ => none
  | n + 1 => compX (compE n)

noncomputable def kindOk : Expr → Bool
  | .Constant .. | .Name .. | .BoolOp .. | .BinOp .. | .UnaryOp .. | .Compare .. | .Subscript .. | .Attribute .. | .List .. | .Tuple .. | .Dict .. | .Call .. | .ListComp .. => true
  | _ => false
set_option tactic.hygienic false in
theorem comp_kind {n : Nat} {c : CE} {e : Expr} {a : E} (h : compE n c e = some a) : kindOk e = true := by
  cases n with
  | zero => exact nn h
  | succ n => cases e <;> first | rfl | exact nn h

noncomputable def cAsg (c : CE) (t e : Expr) : Option S := match vw t with
  | .name x => opt2 .asg (c.locW? x) (compE 30 c e)
  | .tup ts => gd (!isTup e) (opt2 .asgT (nameIdxs c ts) (compE 30 c e))
  | .attr t => opt3 .asgA (compE 30 c t.1) (c.attrs.lookup t.2.1) (compE 30 c e)
  | .sub t => opt3 .asgI (compE 30 c t.1) (compE 30 c t.2) (compE 30 c e)
  | _ => none
noncomputable def raise? (e : Expr) : Option Str := match vw e with
  | .call t => one? (fun f a => gd (isStrC a) (name? f)) t
  | _ => none
noncomputable def compSX (rec : CE → Stmt → Option S) (c : CE) (s : Stmt) : Option S := match s with
  | .Expr e _ => gd (!isLC e) ((compE 30 c e).map .expr)
  | .Return v _ => v.bind fun e => (compE 30 c e).map .ret
  | .Assign ts e _ => (match ts with | [t] => cAsg c t e | _ => none)
  | .If t b o _ => opt3 .ifS (compE 30 c t) (mapO (rec c) b) (mapO (rec c) o)
  | .While t b o _ => gd o.isEmpty (opt2 .whileS (compE 30 c t) (mapO (rec c) b))
  | .For t it b o _ => gd o.isEmpty (opt3 (fun tg x y => .forS tg.1 tg.2 (.e x) y) (tgt c t) (compE 30 c it) (mapO (rec c) b))
  | .Raise (some e) none _ => (raise? e).bind fun x => gd (c.glob x) ((c.excs.lookup x).map .raise)
  | .Pass _ => some .pass
  | _ => none
noncomputable def compS : Nat → CE → Stmt → Option S
  | 0 => fun _ _ => none
  | n + 1 => compSX (compS n)

end Mine

set_option autoImplicit false
namespace Mine
open PySem PyProof.Rows

inductive F2 {α β : Type} (R : α → β → Prop) : List α → List β → Prop
  | nil : F2 R [] []
  | cons {a b as bs} : R a b → F2 R as bs → F2 R (a :: as) (b :: bs)

section
variable {α β : Type} {R R' : α → β → Prop} {as as' : List α} {bs bs' : List β}
set_option tactic.hygienic false in
theorem F2.mono (h : ∀ a b, R a b → R' a b) (f : F2 R as bs) : F2 R' as bs := by
  induction f with
  | nil => exact .nil
  | cons x _ ih => exact .cons (h _ _ x) ih
set_option tactic.hygienic false in
theorem F2.length (f : F2 R as bs) : as.length = bs.length := by
  induction f with
  | nil => rfl
  | cons _ _ ih => exact congrArg (· + 1) ih
set_option tactic.hygienic false in
theorem F2.append (f : F2 R as bs) (r : F2 R as' bs') : F2 R (as ++ as') (bs ++ bs') := by
  induction f with
  | nil => exact r
  | cons x _ ih => exact .cons x ih
set_option tactic.hygienic false in
theorem F2.get (f : F2 R as bs) : ∀ {i : Nat} {a : α}, as[i]? = some a → ∃ b, bs[i]? = some b ∧ R a b := by
  induction f with
  | nil => exact fun h => nn h
  | cons x _ ih =>
    intro i a h
    cases i with
    | zero => exact ⟨_, rfl, Option.some.inj h ▸ x⟩
    | succ i => exact ih h
set_option tactic.hygienic false in
theorem F2.drop (f : F2 R as bs) : ∀ n, F2 R (as.drop n) (bs.drop n) := by
  induction f with
  | nil => intro n; rw [List.drop_nil, List.drop_nil]; exact .nil
  | cons x r ih =>
    intro n
    cases n with
    | zero => exact .cons x r
    | succ n => exact ih n
set_option tactic.hygienic false in
theorem F2.take (f : F2 R as bs) : ∀ n, F2 R (as.take n) (bs.take n) := by
  induction f with
  | nil => intro n; rw [List.take_nil, List.take_nil]; exact .nil
  | cons x r ih =>
    intro n
    cases n with
    | zero => exact .nil
    | succ n => exact .cons x (ih n)
set_option tactic.hygienic false in
theorem F2.reverse (f : F2 R as bs) : F2 R as.reverse bs.reverse := by
  induction f with
  | nil => exact .nil
  | cons x _ ih => rw [List.reverse_cons, List.reverse_cons]; exact ih.append (.cons x .nil)
set_option tactic.hygienic false in
theorem F2.set (f : F2 R as bs) : ∀ {n : Nat} {a : α} {b : β}, R a b → F2 R (as.set n a) (bs.set n b) := by
  induction f with
  | nil => exact fun _ => .nil
  | cons x r ih =>
    intro n a b h
    cases n with
    | zero => exact .cons h r
    | succ n => exact .cons x (ih h)
set_option tactic.hygienic false in
theorem F2.replicate {a : α} {b : β} (h : R a b) (n : Nat) : F2 R (List.replicate n a) (List.replicate n b) := by
  induction n with
  | zero => exact .nil
  | succ n ih => exact .cons h ih
end

noncomputable def Imm (o : Obj) : Prop := (o.cls = .type "tuple" ∨ o.cls = .type "range") ∧ (∀ (es : Array DictEntry) (n : Nat), o.data ≠ .dict es n) ∧ ∀ v : Option Value, o.data ≠ .cell v

mutual
noncomputable def RepV (as : List Addr) (h : Heap) : V → Value → Prop
  | .none, x => x = .none
  | .bool b, x => x = .bool b
  | .int i, x => ∃ t, x = .int i t
  | .str s, x => ∃ t, x = .str s t
  | .tup vs, x => ∃ a items n, x = .ref a ∧ h.get? a = some { cls := .type "tuple", data := .seq items n } ∧ items.size ≤ 16777216 ∧ RepVs as h vs items.toList
  | .ref l, x => ∃ a, x = .ref a ∧ as[l]? = some a
  | .rng lo hi, x => ∃ a t u v, x = .ref a ∧ IsRange h a lo hi 1 t u v ∧ (-1000000 ≤ lo ∧ lo ≤ 1000000 ∧ -1000000 ≤ hi ∧ hi ≤ 1000000)
noncomputable def RepVs (as : List Addr) (h : Heap) : List V → List Value → Prop
  | [], xs => xs = []
  | v :: vs, xs => ∃ y ys, xs = y :: ys ∧ RepV as h v y ∧ RepVs as h vs ys
end

set_option tactic.hygienic false in
theorem RepVs.f2 {as : List Addr} {h : Heap} : ∀ {vs : List V} {xs : List Value}, RepVs as h vs xs ↔ F2 (RepV as h) vs xs
  | [], xs => ⟨fun e => by rw [RepVs] at e; subst e; exact .nil, fun e => by cases e; rw [RepVs]⟩
  | v :: vs, xs => ⟨fun e => by
      rw [RepVs] at e
      obtain ⟨y, ys, rfl, h1, h2⟩ := e
      exact .cons h1 (RepVs.f2.mp h2), fun e => by
      cases e with
      | cons h1 h2 => rw [RepVs]; exact ⟨_, _, rfl, h1, RepVs.f2.mpr h2⟩⟩

structure Keep (as : List Addr) (h : Heap) (as' : List Addr) (h' : Heap) : Prop where
  pre : ∀ (i : Nat) (a : Addr), as[i]? = some a → as'[i]? = some a
  imm : ∀ (a : Addr) (o : Obj), h.get? a = some o → Imm o → h'.get? a = some o

set_option tactic.hygienic false in
theorem imm_tuple {items : Array Value} {n : Nat} : Imm { cls := .type "tuple", data := .seq items n } := ⟨.inl rfl, fun _ _ e => (nomatch e), fun _ e => (nomatch e)⟩
set_option tactic.hygienic false in
theorem imm_range {vs : Array Value} : Imm { cls := .type "range", data := .fields vs } := ⟨.inr rfl, fun _ _ e => (nomatch e), fun _ e => (nomatch e)⟩

mutual
theorem RepV.keep {as as' : List Addr} {h h' : Heap} (k : Keep as h as' h') : ∀ (v : V) (x : Value), RepV as h v x → RepV as' h' v x
  | .none, x, e => by rw [RepV] at e ⊢; exact e
  | .bool b, x, e => by rw [RepV] at e ⊢; exact e
  | .int i, x, e => by rw [RepV] at e ⊢; exact e
  | .str s, x, e => by rw [RepV] at e ⊢; exact e
  | .tup vs, x, e => by
    rw [RepV] at e ⊢
    obtain ⟨a, items, n, rfl, ho, hz, hr⟩ := e
    exact ⟨a, items, n, rfl, k.imm _ _ ho imm_tuple, hz, RepVs.keep k _ _ hr⟩
  | .ref l, x, e => by
    rw [RepV] at e ⊢
    obtain ⟨a, rfl, ha⟩ := e
    exact ⟨a, rfl, k.pre _ _ ha⟩
  | .rng lo hi, x, e => by
    rw [RepV] at e ⊢
    obtain ⟨a, t, u, v, rfl, ho, hb⟩ := e
    exact ⟨a, t, u, v, rfl, k.imm _ _ ho imm_range, hb⟩
theorem RepVs.keep {as as' : List Addr} {h h' : Heap} (k : Keep as h as' h') : ∀ (vs : List V) (xs : List Value), RepVs as h vs xs → RepVs as' h' vs xs
  | [], xs, e => by rw [RepVs] at e ⊢; exact e
  | v :: vs, xs, e => by
    rw [RepVs] at e ⊢
    obtain ⟨y, ys, rfl, h1, h2⟩ := e
    exact ⟨y, ys, rfl, RepV.keep k _ _ h1, RepVs.keep k _ _ h2⟩
end

structure Cfg where
  prog : Program
  w : World
  b : Heap
  C : Addr
  at' : List (Nat × Str)
  scr : Obj
  tab : Addr

noncomputable def EntOk (g : Cfg) (as : List Addr) (h : Heap) (e : Nat × V) (d : DictEntry) : Prop :=
  ∃ x t, g.at'.lookup e.1 = some x ∧ d.key = .str x t ∧ RepV as h e.2 d.val

noncomputable def RepO (g : Cfg) (as : List Addr) (h : Heap) (o : AO) (a : Addr) : Prop := match o with
  | .lst vs => ∃ items, h.PlainList a items ∧ RepVs as h vs items.toList ∧ vs.length ≤ 16777216
  | .dI es => ∃ kvs, h.DictOf (intKind g.prog g.w) a kvs ∧ F2 (fun (e : Int × V) (x : Int × Value) => e.1 = x.1 ∧ RepV as h e.2 x.2) es kvs ∧ es.length ≤ 1000000 ∧ (a == sysModules) = false
  | .dT es => ∃ xs, h.DictOfH (tupleKind (intKind g.prog g.w)) a xs ∧ F2 (fun (e : List Int × V) (x : List Int × Addr × Value) => e.1 = x.1 ∧ RepV as h e.2 x.2.2) es xs ∧ es.length ≤ 1000000 ∧ (a == sysModules) = false
  | .inst d => ∃ dx, as[d]? = some dx ∧ h.get? a = some { cls := .ref g.C, dict := some dx, data := .plain }
  | .att es => ∃ ents n, h.get? a = some { cls := .type "dict", data := .dict (List.toArray ents) n } ∧ F2 (EntOk g as h) es ents ∧ es.length ≤ 100
  | .exc _ => False
  | .frz vs => ∃ items n, h.get? a = some g.scr ∧ g.scr = { cls := .type "list", data := .seq items n } ∧ RepVs as h vs items.toList ∧ vs.length ≤ 16777216
  | .tab b => a = g.tab ∧ ∃ ps : Array Value, h.get? a = some { cls := .none, data := .fields ps } ∧ (b = false → ps = #[])

structure Rel (g : Cfg) (as : List Addr) (σ : Sto) (h : Heap) : Prop where
  base : ∀ (a : Addr) (o : Obj), g.b.get? a = some o → h.get? a = some o
  len : as.length = σ.length
  nd : as.Nodup
  new : ∀ a ∈ as, g.b.get? a = none
  obj : ∀ (i : Nat) (a : Addr) (o : AO), as[i]? = some a → σ[i]? = some o → RepO g as h o a

structure Step (own as : List Addr) (h : Heap) (as' : List Addr) (h' : Heap) : Prop where
  pre : ∃ t, as' = as ++ t ∧ ∀ a ∈ t, h.get? a = none
  ext : ∀ (a : Addr) (o : Obj), h.get? a = some o → a ∉ own → a ∉ as → h'.get? a = some o

set_option tactic.hygienic false in
theorem Step.refl (own as : List Addr) (h : Heap) : Step own as h as h := ⟨⟨[], by simp, by simp⟩, fun _ _ e _ _ => e⟩

set_option tactic.hygienic false in
theorem Step.mem {own as as' : List Addr} {h h' : Heap} (x : Step own as h as' h') {a : Addr} (ha : a ∈ as) : a ∈ as' := by
  obtain ⟨⟨t, rfl, _⟩, _⟩ := x
  exact List.mem_append_left _ ha
set_option tactic.hygienic false in
theorem Step.get {own as as' : List Addr} {h h' : Heap} (x : Step own as h as' h') {i : Nat} {a : Addr} (ha : as[i]? = some a) : as'[i]? = some a := by
  obtain ⟨⟨t, rfl, _⟩, _⟩ := x
  rw [List.getElem?_append_left (by exact (List.getElem?_eq_some_iff.mp ha).1)]; exact ha

set_option tactic.hygienic false in
theorem Step.trans {own as as1 as2 : List Addr} {h h1 h2 : Heap} (x : Step own as h as1 h1) (y : Step own as1 h1 as2 h2) (nd : as2.Nodup) (off : ∀ a ∈ own, a ∉ as2) : Step own as h as2 h2 := by
  obtain ⟨⟨t, rfl, ht⟩, x2⟩ := x
  obtain ⟨⟨u, rfl, hu⟩, y2⟩ := y
  refine ⟨⟨t ++ u, by simp, fun a ha => ?_⟩, fun a o e h1 h3 => ?_⟩
  · rcases List.mem_append.mp ha with q | q
    · exact ht a q
    · cases e : h.get? a with
      | none => rfl
      | some o =>
        have h1' : a ∉ own := fun z => off a z (List.mem_append_right _ q)
        have h2' : a ∉ as := fun z => (List.nodup_append.mp nd).2.2 a (List.mem_append_left _ z) a q rfl
        have := x2 a o e h1' h2'
        rw [hu a q] at this; cases this
  · refine y2 a o (x2 a o e h1 h3) h1 fun q => ?_
    rcases List.mem_append.mp q with q | q
    · exact h3 q
    · rw [ht a q] at e; cases e

set_option tactic.hygienic false in
theorem Step.shrink {own own' as as' : List Addr} {h h' : Heap} (x : Step own' as h as' h') (hs : ∀ a ∈ own', a ∈ own ∨ h.get? a = none) : Step own as h as' h' :=
  ⟨x.pre, fun a o e h1 h2 => x.ext a o e (fun q => (hs a q).elim h1 fun z => by rw [z] at e; cases e) h2⟩
set_option tactic.hygienic false in
theorem Step.grow {own own' as as' : List Addr} {h h' : Heap} (x : Step own as h as' h') (hs : ∀ a ∈ own, a ∈ own') : Step own' as h as' h' :=
  ⟨x.pre, fun a o e h1 h2 => x.ext a o e (fun q => h1 (hs a q)) h2⟩
set_option tactic.hygienic false in
theorem Step.of_ext {own as : List Addr} {h h' : Heap} (k : ∀ (a : Addr) (o : Obj), h.get? a = some o → h'.get? a = some o) : Step own as h as h' :=
  ⟨⟨[], by simp, by simp⟩, fun a o e _ _ => k a o e⟩

set_option tactic.hygienic false in
theorem RepO.there {g : Cfg} {as : List Addr} {h : Heap} {o : AO} {a : Addr} (r : RepO g as h o a) : ∃ ob, h.get? a = some ob ∧ ¬ Imm ob := by
  cases o with
  | lst vs =>
    obtain ⟨items, ⟨n, e⟩, _⟩ := r
    exact ⟨_, e, fun q => by rcases q.1 with q | q <;> simp at q⟩
  | dI es =>
    obtain ⟨kvs, ⟨ob, es', ep, e, _, hd, _⟩, _⟩ := r
    exact ⟨_, e, fun q => q.2.1 _ _ hd⟩
  | dT es =>
    obtain ⟨kvs, ⟨ob, es', ep, e, _, hd, _⟩, _⟩ := r
    exact ⟨_, e, fun q => q.2.1 _ _ hd⟩
  | inst d =>
    obtain ⟨dx, _, e⟩ := r
    exact ⟨_, e, fun q => by rcases q.1 with q | q <;> simp at q⟩
  | att es =>
    obtain ⟨ents, n, e, _⟩ := r
    exact ⟨_, e, fun q => q.2.1 _ _ rfl⟩
  | exc c => exact r.elim
  | frz vs =>
    obtain ⟨items, n, e, q, _⟩ := r
    exact ⟨_, e, fun z => by rw [q] at z; rcases z.1 with z | z <;> simp at z⟩
  | tab b =>
    obtain ⟨_, ps, e, _⟩ := r
    exact ⟨_, e, fun z => by rcases z.1 with z | z <;> simp at z⟩

set_option tactic.hygienic false in
theorem Rel.there {g : Cfg} {as : List Addr} {σ : Sto} {h : Heap} (R : Rel g as σ h) {a : Addr} (ha : a ∈ as) : ∃ ob, h.get? a = some ob ∧ ¬ Imm ob := by
  obtain ⟨i, hi, rfl⟩ := List.getElem_of_mem ha
  have hi' : i < σ.length := R.len ▸ hi
  exact (R.obj i as[i] σ[i] (by simp [hi]) (by simp [hi'])).there

set_option tactic.hygienic false in
theorem Rel.keep {g : Cfg} {own as as' : List Addr} {σ : Sto} {h h' : Heap} (R : Rel g as σ h) (x : Step own as h as' h') (ho : ∀ a ∈ own, ∀ o, h.get? a = some o → ¬ Imm o) : Keep as h as' h' :=
  ⟨fun _ _ => x.get, fun a o e hi => x.ext a o e (fun q => ho a q o e hi) fun q => by
    obtain ⟨ob, e', hn⟩ := R.there q
    rw [e] at e'; cases e'; exact hn hi⟩
set_option tactic.hygienic false in
theorem Rel.keep0 {g : Cfg} {as as' : List Addr} {σ : Sto} {h h' : Heap} (R : Rel g as σ h) (x : Step [] as h as' h') : Keep as h as' h' := R.keep x (by simp)

set_option tactic.hygienic false in
theorem RepO.keep {g : Cfg} {as as' : List Addr} {h h' : Heap} {o : AO} {a : Addr} (r : RepO g as h o a) (k : Keep as h as' h') (hk : ∀ ob, h.get? a = some ob → h'.get? a = some ob) : RepO g as' h' o a := by
  cases o with
  | lst vs =>
    obtain ⟨items, p, q, z⟩ := r
    exact ⟨items, p.at hk, RepVs.keep k _ _ q, z⟩
  | dI es =>
    obtain ⟨kvs, p, q, z⟩ := r
    exact ⟨kvs, p.at hk, q.mono fun _ _ y => ⟨y.1, RepV.keep k _ _ y.2⟩, z⟩
  | dT es =>
    obtain ⟨xs, ⟨ob, es', ep, e, p1, p2, p3, p4, p5⟩, q, z⟩ := r
    refine ⟨xs, ⟨ob, es', ep, hk _ e, p1, p2, p3, fun x hx => ?_, p5⟩, q.mono fun _ _ y => ⟨y.1, RepV.keep k _ _ y.2⟩, z⟩
    obtain ⟨o1, its, n1, e1, c1, d1, r1⟩ := p4 x hx
    exact ⟨o1, its, n1, k.imm _ _ e1 ⟨.inl c1, ⟨fun _ _ z => (by rw [d1] at z; cases z), fun _ z => (by rw [d1] at z; cases z)⟩⟩, c1, d1, r1⟩
  | inst d =>
    obtain ⟨dx, p, q⟩ := r
    exact ⟨dx, k.pre _ _ p, hk _ q⟩
  | att es =>
    obtain ⟨ents, n, p, q, z⟩ := r
    exact ⟨ents, n, hk _ p, q.mono fun _ _ ⟨x, t, y1, y2, y3⟩ => ⟨x, t, y1, y2, RepV.keep k _ _ y3⟩, z⟩
  | exc c => exact r.elim
  | frz vs =>
    obtain ⟨items, n, e, q, w, z⟩ := r
    exact ⟨items, n, hk _ e, q, RepVs.keep k _ _ w, z⟩
  | tab b =>
    obtain ⟨e0, ps, e, q⟩ := r
    exact ⟨e0, ps, hk _ e, q⟩

set_option tactic.hygienic false in
theorem Rel.ext {g : Cfg} {as : List Addr} {σ : Sto} {h h' : Heap} (R : Rel g as σ h) (k : ∀ (a : Addr) (o : Obj), h.get? a = some o → h'.get? a = some o) : Rel g as σ h' :=
  ⟨fun a o e => k a o (R.base a o e), R.len, R.nd, R.new, fun i a o h1 h2 => (R.obj i a o h1 h2).keep ⟨fun _ _ e => e, fun a o e _ => k a o e⟩ fun ob e => k a ob e⟩

set_option tactic.hygienic false in
theorem Rel.push {g : Cfg} {as : List Addr} {σ : Sto} {h h' : Heap} {o : AO} {a : Addr} (R : Rel g as σ h) (k : ∀ (a : Addr) (o : Obj), h.get? a = some o → h'.get? a = some o) (hn : h.get? a = none) (ho : RepO g (as ++ [a]) h' o a) : Rel g (as ++ [a]) (σ ++ [o]) h' := by
  have R' := R.ext k
  have hna : a ∉ as := fun q => by obtain ⟨ob, e, _⟩ := R.there q; rw [hn] at e; cases e
  refine ⟨R'.base, by simp [R.len], ?_, fun b hb => ?_, fun i b ob h1 h2 => ?_⟩
  · exact List.nodup_append.mpr ⟨R.nd, by simp, fun x hx y hy e => by simp at hy; subst hy; subst e; exact hna hx⟩
  · rcases List.mem_append.mp hb with q | q
    · exact R.new b q
    · simp at q; subst q
      cases e : g.b.get? b with
      | none => rfl
      | some o => have := R.base b o e; rw [hn] at this; cases this
  · rcases Nat.lt_trichotomy i as.length with hi | hi | hi
    · rw [List.getElem?_append_left hi] at h1
      rw [List.getElem?_append_left (R.len ▸ hi)] at h2
      exact (R'.obj i b ob h1 h2).keep ⟨fun j c e => by rw [List.getElem?_append_left (List.getElem?_eq_some_iff.mp e).1]; exact e, fun _ _ e _ => e⟩ fun _ e => e
    · subst hi
      rw [R.len] at h2
      simp at h1 h2; subst h1; subst h2; exact ho
    · rw [List.getElem?_eq_none (by simp; lia)] at h1; cases h1
set_option tactic.hygienic false in
theorem step_push {as : List Addr} {h h' : Heap} {a : Addr} (k : ∀ (a : Addr) (o : Obj), h.get? a = some o → h'.get? a = some o) (hn : h.get? a = none) : Step [] as h (as ++ [a]) h' :=
  ⟨⟨[a], rfl, fun b hb => by simp at hb; subst hb; exact hn⟩, fun b o e _ _ => k b o e⟩

set_option tactic.hygienic false in
theorem Rel.upd {g : Cfg} {as : List Addr} {σ : Sto} {h h' : Heap} {o : AO} {a : Addr} {l : Nat} (R : Rel g as σ h) (hl : as[l]? = some a) (k : ∀ (b : Addr) (o : Obj), b ≠ a → h.get? b = some o → h'.get? b = some o)
    (ho : Keep as h as h' → RepO g as h' o a) : Keep as h as h' ∧ Rel g as (σ.set l o) h' ∧ Step [] as h as h' := by
  have ha : a ∈ as := List.mem_of_getElem? hl
  obtain ⟨oa, ea, na⟩ := R.there ha
  have K : Keep as h as h' := ⟨fun _ _ e => e, fun b ob e hi => k b ob (fun q => by subst q; rw [ea] at e; cases e; exact na hi) e⟩
  refine ⟨K, ⟨fun b ob e => k b ob (fun q => ?_) (R.base b ob e), by simp [R.len], R.nd, R.new, fun i b ob h1 h2 => ?_⟩, ⟨⟨[], by simp, by simp⟩, fun b ob e _ q => k b ob (fun z => q (z ▸ ha)) e⟩⟩
  · subst q; rw [R.new _ ha] at e; cases e
  · by_cases hi : i = l
    · subst hi
      rw [hl] at h1; cases h1
      have hlt : i < σ.length := by
        have := (List.getElem?_eq_some_iff.mp hl).1; rw [R.len] at this; exact this
      rw [List.getElem?_set_self hlt] at h2; cases h2
      exact ho K
    · rw [List.getElem?_set_ne (Ne.symm hi)] at h2
      refine (R.obj i b ob h1 h2).keep K fun oc e => k b oc (fun q => hi ?_) e
      subst q
      obtain ⟨j1, j2⟩ := List.getElem?_eq_some_iff.mp h1
      obtain ⟨j3, j4⟩ := List.getElem?_eq_some_iff.mp hl
      exact (List.getElem_inj R.nd).mp (j2.trans j4.symm)

structure FrRel (g : Cfg) (env : Env) (as : List Addr) (fr : Fra) (h : Heap) : Prop where
  kind : env.scope.kind = .function
  above : g.b.objs.size ≤ env.locals
  glob : env.globals = mainGlobals
  blt : env.builtins = builtinsNs
  len : fr.length = env.scope.names.length
  nd : (env.scope.names.map (·.1)).Nodup
  ns : ∃ m, h.Ns env.locals m ∧ ∀ (i : Nat) (x : Str) (v : V), env.scope.names[i]? = some (x, .local) → fr[i]? = some (some v) → ∃ val, m x = some val ∧ RepV as h v val
  cells : ∀ (i : Nat) (x : Str) (k : NameKind), env.scope.names[i]? = some (x, k) → (k = .cell ∨ k = .free) →
    ∃ c cv, env.cells.lookup x = some c ∧ h.IsCell c cv ∧ (∀ v, fr[i]? = some (some v) → ∃ val, cv = some val ∧ RepV as h v val)
  off : env.locals ∉ as
  offc : ∀ x c, env.cells.lookup x = some c → c ∉ as ∧ c ≠ env.locals ∧ ∃ cv, h.IsCell c cv
  apart : ∀ x y c, env.cells.lookup x = some c → env.cells.lookup y = some c → x = y
  newc : ∀ x c, env.cells.lookup x = some c → g.b.get? c = none

noncomputable def ownOf (env : Env) : List Addr := env.locals :: env.cells.filterMap (fun p => env.cells.lookup p.1)

theorem lookup_mem' {α β : Type} [BEq α] [LawfulBEq α] {l : List (α × β)} {x : α} {y : β} (e : l.lookup x = some y) : (x, y) ∈ l := by
  induction l with
  | nil => cases e
  | cons p r ih =>
    obtain ⟨a, b⟩ := p
    rw [List.lookup_cons] at e
    split at e
    · rename_i q; cases e; rw [eq_of_beq q]; exact .head _
    · exact .tail _ (ih e)
set_option tactic.hygienic false in
theorem mem_own {env : Env} {x : Str} {c : Addr} (e : env.cells.lookup x = some c) : c ∈ ownOf env := .tail _ (List.mem_filterMap.mpr ⟨(x, c), lookup_mem' e, e⟩)
set_option tactic.hygienic false in
theorem own_cases {env : Env} {a : Addr} (h : a ∈ ownOf env) : a = env.locals ∨ ∃ x, env.cells.lookup x = some a := by
  rcases List.mem_cons.mp h with q | q
  · exact .inl q
  · obtain ⟨p, _, e⟩ := List.mem_filterMap.mp q
    exact .inr ⟨_, e⟩
set_option tactic.hygienic false in
theorem FrRel.offs {g : Cfg} {env : Env} {as : List Addr} {fr : Fra} {h : Heap} (F : FrRel g env as fr h) : ∀ a ∈ ownOf env, a ∉ as := fun a ha => by
  rcases own_cases ha with rfl | ⟨x, e⟩
  · exact F.off
  · exact (F.offc _ _ e).1

theorem FrRel.keep {g : Cfg} {own : List Addr} {env : Env} {as as' : List Addr} {fr : Fra} {h h' : Heap} (F : FrRel g env as fr h) (K : Keep as h as' h') (x : Step own as h as' h') (ho : ∀ a ∈ ownOf env, a ∉ own) : FrRel g env as' fr h' := by
  obtain ⟨⟨t, ht, hf⟩, hx⟩ := x
  obtain ⟨m, hm, hv⟩ := F.ns
  refine ⟨F.kind, F.above, F.glob, F.blt, F.len, F.nd, ⟨m, hm.at' fun o e => hx _ o e (ho _ (.head _)) F.off, fun i x v h1 h2 => ?_⟩, fun i x k h1 h2 => ?_, fun q => ?_, fun x c hc => ⟨fun q => ?_, (F.offc _ _ hc).2.1, ?_⟩, F.apart, F.newc⟩
  · obtain ⟨val, e1, e2⟩ := hv i x v h1 h2
    exact ⟨val, e1, RepV.keep K _ _ e2⟩
  · obtain ⟨c, cv, e1, ⟨o, e2, e2'⟩, e3⟩ := F.cells i x k h1 h2
    have hc : c ∈ ownOf env := mem_own e1
    refine ⟨c, cv, e1, ⟨o, hx _ _ e2 (ho _ hc) (F.offc _ _ e1).1, e2'⟩, fun v e => ?_⟩
    obtain ⟨val, e4, e5⟩ := e3 v e
    exact ⟨val, e4, RepV.keep K _ _ e5⟩
  · rw [ht] at q
    rcases List.mem_append.mp q with q | q
    · exact F.off q
    · obtain ⟨o, es, ep, e, _⟩ := hm; rw [hf _ q] at e; cases e
  · rw [ht] at q
    rcases List.mem_append.mp q with q | q
    · exact (F.offc _ _ hc).1 q
    · obtain ⟨cv, o, e, _⟩ := (F.offc _ _ hc).2.2; rw [hf _ q] at e; cases e
  · obtain ⟨cv, o, e, e'⟩ := (F.offc _ _ hc).2.2
    exact ⟨cv, o, hx _ _ e (ho _ (mem_own hc)) (F.offc _ _ hc).1, e'⟩
where
  lookup_mem {α β : Type} [BEq α] [LawfulBEq α] {l : List (α × β)} {x : α} {y : β} (e : l.lookup x = some y) : (x, y) ∈ l := by
    induction l with
    | nil => cases e
    | cons p r ih =>
      obtain ⟨a, b⟩ := p
      rw [List.lookup_cons] at e
      split at e
      · rename_i q; cases e; rw [eq_of_beq q]; exact .head _
      · exact .tail _ (ih e)

noncomputable def newsOf (b : Heap) (L : Addr) (h : Heap) : List (Addr × Obj) :=
  (List.range h.objs.size).filterMap fun a => if a ≠ L ∧ b.get? a = none then (h.get? a).map fun o => (a, o) else none
theorem mem_newsOf {b : Heap} {L : Addr} {h : Heap} {p : Addr × Obj} : p ∈ newsOf b L h ↔ h.get? p.1 = some p.2 ∧ p.1 ≠ L ∧ b.get? p.1 = none := by
  unfold newsOf
  rw [List.mem_filterMap]
  constructor
  · rintro ⟨a, _, e⟩
    split at e
    · rename_i hc
      obtain ⟨o, e1, e2⟩ := Option.map_eq_some_iff.mp e
      subst e2
      exact ⟨e1, hc⟩
    · cases e
  · rintro ⟨e1, e2⟩
    refine ⟨p.1, List.mem_range.mpr (Heap.lt_size e1), ?_⟩
    rw [if_pos e2, e1]; rfl
set_option tactic.hygienic false in
theorem news_all (b : Heap) (L : Addr) (h : Heap) : News b L h (newsOf b L h) := fun _ hp => mem_newsOf.mp hp
set_option tactic.hygienic false in
theorem FrRel.fr {g : Cfg} {env : Env} {as : List Addr} {fr : Fra} {σ : Sto} {h : Heap} (F : FrRel g env as fr h) (R : Rel g as σ h) : ∃ m, Fr g.b env.locals h m ∧ ∀ (i : Nat) (x : Str) (v : V), env.scope.names[i]? = some (x, .local) → fr[i]? = some (some v) → ∃ val, m x = some val ∧ RepV as h v val :=
  let ⟨m, hm, hv⟩ := F.ns; ⟨m, ⟨hm, R.base, F.above⟩, hv⟩
set_option tactic.hygienic false in
theorem ext_of_news {b h h' : Heap} {L : Addr} {m : Str → Option Value} {news : List (Addr × Obj)} (Fr' : Fr b L h' m) (N : News b L h' news) (hs : ∀ p ∈ newsOf b L h, p ∈ news) (hb : ∀ (a : Addr) (o : Obj), b.get? a = some o → h.get? a = some o) :
    ∀ (a : Addr) (o : Obj), a ≠ L → h.get? a = some o → h'.get? a = some o := fun a o hL e => by
  cases q : b.get? a with
  | none => exact (N (a, o) (hs _ (mem_newsOf.mpr ⟨e, hL, q⟩))).1
  | some o' =>
    have := hb a o' q
    rw [e] at this; cases this
    exact Fr'.keep _ _ q

set_option tactic.hygienic false in
theorem FrRel.notImm {g : Cfg} {env : Env} {as : List Addr} {fr : Fra} {h : Heap} (F : FrRel g env as fr h) : ∀ a ∈ [env.locals], ∀ o, h.get? a = some o → ¬ Imm o := fun a ha o e hi => by
  simp at ha; subst ha
  obtain ⟨m, ⟨o', es, ep, e', d, _⟩, _⟩ := F.ns
  rw [e] at e'; cases e'
  exact hi.2.1 _ _ d

end Mine

set_option autoImplicit false
namespace Mine
open PySem PyProof.Rows

noncomputable def EPost (g : Cfg) (env : Env) (as : List Addr) (fr : Fra) (s : Shared) (v : V) (σ' : Sto) (Q : Value → Shared → Prop) : Prop :=
  ∀ (val : Value) (as' : List Addr) (h' : Heap) (tk : Nat), Step [env.locals] as s.heap as' h' → Rel g as' σ' h' → FrRel g env as' fr h' → RepV as' h' v val → Q val { s with heap := h', toks := tk }

structure At (g : Cfg) (env : Env) (as : List Addr) (fr : Fra) (σ : Sto) (s : Shared) : Prop where
  F : FrRel g env as fr s.heap
  R : Rel g as σ s.heap

theorem mul_ok {a b : Int} (h : mulOk a b) : IntMulOk a b := by
  have key : ∀ (x : Int) (k : Nat), x.natAbs < 2 ^ k → Builtin.Int.intBits x ≤ k := fun x k hx => by
    unfold Builtin.Int.intBits
    split
    · exact Nat.zero_le _
    · rename_i h0
      have h0' : x.natAbs ≠ 0 := by intro q; apply h0; simp; lia
      exact (Nat.log2_lt h0').mpr hx
  unfold IntMulOk
  rcases h with h | h | ⟨h, h'⟩
  · have := key a 64 h
    have e : decide (Builtin.Int.intBits a > shortFactorBits) = false := decide_eq_false (Nat.not_lt.mpr this)
    rw [e]; simp
  · have := key b 64 h
    have e : decide (Builtin.Int.intBits b > shortFactorBits) = false := decide_eq_false (Nat.not_lt.mpr this)
    rw [e]; simp
  · have h1 := key a 333 (Nat.lt_of_lt_of_le h (by decide +kernel))
    have h2 := key b 333 (Nat.lt_of_lt_of_le h' (by decide +kernel))
    have e : Builtin.Int.intTooBig (Builtin.Int.intBits a + Builtin.Int.intBits b) = false := by
      unfold Builtin.Int.intTooBig bitsLine
      exact decide_eq_false (by have : (2 : Nat) ^ 27 = 134217728 := by decide +kernel
                                lia)
    rw [e]; simp

theorem div_ok {x y : Int} (h : y.natAbs < 10 ^ 100) : Builtin.divisionGoesByPylong x y = false := by
  unfold Builtin.divisionGoesByPylong
  have h1 : (if (y == 0) = true then 0 else y.natAbs.log2 / 30 + 1) ≤ 300 := by
    split
    · exact Nat.zero_le _
    · rename_i h0
      have h0' : y.natAbs ≠ 0 := by intro q; apply h0; simp; lia
      have : y.natAbs.log2 < 333 := (Nat.log2_lt h0').mpr (Nat.lt_of_lt_of_le h (by decide +kernel))
      lia
  simp only [gt_iff_lt, decide_eq_false (Nat.not_lt.mpr h1), Bool.false_and]

set_option tactic.hygienic false in
theorem keeps_push (h : Heap) (o : Obj) : ∀ (a : Addr) (o' : Obj), h.get? a = some o' → (h.push o).get? a = some o' := fun _ _ e => Heap.get?_push_of_some _ e
set_option tactic.hygienic false in
theorem new_none (h : Heap) : h.get? h.objs.size = none := by
  cases e : h.get? h.objs.size with
  | none => rfl
  | some o => exact absurd (Heap.lt_size e) (Nat.lt_irrefl _)

section
variable {g : Cfg} {env : Env} {A : Around} {X : Value → Shared → Prop} {s : Shared} {as : List Addr} {fr : Fra} {σ σ' : Sto} {Q : Value → Shared → Prop}

set_option tactic.hygienic false in
theorem At.frame (T : At g env as fr σ s) {as' : List Addr} {h' : Heap} (x : Step [] as s.heap as' h') : FrRel g env as' fr h' :=
  T.F.keep (T.R.keep0 x) x (by simp)
set_option tactic.hygienic false in
theorem EPost.use {v : V} (hQ : EPost g env as fr s v σ' Q) (T : At g env as fr σ s) {val : Value} {as' : List Addr} {h' : Heap} {tk : Nat} (x : Step [] as s.heap as' h') (R' : Rel g as' σ' h') (r : RepV as' h' v val) :
    Q val { s with heap := h', toks := tk } := hQ val as' h' tk (x.grow (by simp)) R' (T.frame x) r
set_option tactic.hygienic false in
theorem EPost.same {v : V} (hQ : EPost g env as fr s v σ Q) (T : At g env as fr σ s) {val : Value} {tk : Nat} (r : RepV as s.heap v val) : Q val { s with toks := tk } := hQ.use T (Step.refl _ _ _) T.R r
set_option tactic.hygienic false in
theorem EPost.same' {v : V} (hQ : EPost g env as fr s v σ Q) (T : At g env as fr σ s) {val : Value} (r : RepV as s.heap v val) : Q val s := hQ.same (tk := s.toks) T r
set_option tactic.hygienic false in
theorem EPost.int {i : Int} (hQ : EPost g env as fr s (.int i) σ Q) (T : At g env as fr σ s) {t : Tok} {tk : Nat} : Q (.int i t) { s with toks := tk } := hQ.same T (by rw [RepV]; exact ⟨_, rfl⟩)
set_option tactic.hygienic false in
theorem EPost.bool {b : Bool} (hQ : EPost g env as fr s (.bool b) σ Q) (T : At g env as fr σ s) {tk : Nat} : Q (.bool b) { s with toks := tk } := hQ.same T (by rw [RepV])
set_option tactic.hygienic false in
theorem EPost.bool' {b : Bool} (hQ : EPost g env as fr s (.bool b) σ Q) (T : At g env as fr σ s) : Q (.bool b) s := hQ.bool (tk := s.toks) T

theorem EPost.new {xs : List V} {items : Array Value} {v : V} {tk : Nat} {h' : Heap} {a : Addr} (hQ : EPost g env as fr s v σ' Q) (T : At g env as fr σ s) (k : ∀ (a : Addr) (o' : Obj), s.heap.get? a = some o' → h'.get? a = some o') (hn : s.heap.get? a = none)
    (hp : h'.PlainList a items) (r : RepVs as s.heap xs items.toList) (e : newL xs σ = .ok v σ') : Q (.ref a) { s with heap := h', toks := tk } := by
  unfold newL at e
  split at e
  · rename_i hz
    cases e
    have K : Keep as s.heap (as ++ [a]) h' := ⟨fun i b e => by rw [List.getElem?_append_left (List.getElem?_eq_some_iff.mp e).1]; exact e, fun a o e _ => k a o e⟩
    refine hQ.use T (step_push k hn) (T.R.push k hn ⟨items, hp, RepVs.keep K _ _ r, hz⟩) ?_
    rw [RepV]
    exact ⟨_, rfl, by rw [← T.R.len]; simp⟩
  · cases e
set_option tactic.hygienic false in
theorem newL_len {xs : List V} {v : V} (e : newL xs σ = .ok v σ') : xs.length ≤ 16777216 := by
  unfold newL at e; split at e
  · assumption
  · cases e

set_option tactic.hygienic false in
theorem EPost.newH {xs : List V} {items : Array Value} {v : V} {tk : Nat} (hQ : EPost g env as fr s v σ' Q) (T : At g env as fr σ s)
    (r : RepVs as s.heap xs items.toList) (e : newL xs σ = .ok v σ') : Q (.ref s.heap.objs.size) { s with heap := s.heap.push { cls := .type "list", data := .seq items }, toks := tk } :=
  hQ.new T (keeps_push _ _) (new_none _) ⟨0, Heap.get?_push_size _ rfl⟩ r e

theorem EPost.newN {xs : List V} {items : Array Value} {v : V} {tk n : Nat} {h' : Heap} {a : Addr} {m m' : Str → Option Value} {news : List (Addr × Obj)} (hQ : EPost g env as fr s v σ' Q) (T : At g env as fr σ s) (hm : s.heap.Ns env.locals m)
    (F' : Fr g.b env.locals h' m') (hm' : m' = m) (N' : News g.b env.locals h' news) (hs : ∀ p ∈ newsOf g.b env.locals s.heap, p ∈ news) (hin : (a, ({ cls := .type "list", data := .seq items n } : Obj)) ∈ news) (hn : s.heap.get? a = none)
    (r : RepVs as s.heap xs items.toList) (e : newL xs σ = .ok v σ') : Q (.ref a) { s with heap := h', toks := tk } := by
  subst hm'
  have ext := ext_of_news F' N' hs T.R.base
  unfold newL at e
  split at e
  · rename_i hz
    cases e
    have x : Step [env.locals] as s.heap (as ++ [a]) h' := ⟨⟨[a], rfl, fun b hb => by simp at hb; subst hb; exact hn⟩, fun b o e h1 _ => ext b o (by simpa using h1) e⟩
    have K := T.R.keep x T.F.notImm
    have hpl : h'.PlainList a items := ⟨n, (N' _ hin).1⟩
    have hL : env.locals ≠ a := fun q => (N' _ hin).2.1 q.symm
    have obj' : ∀ (i : Nat) (b : Addr) (o : AO), as[i]? = some b → σ[i]? = some o → RepO g (as ++ [a]) h' o b := fun i b o h1 h2 =>
      (T.R.obj i b o h1 h2).keep K fun ob e => ext b ob (fun q => T.F.off (q ▸ List.mem_of_getElem? h1)) e
    have hna : a ∉ as := fun q => by obtain ⟨ob, e, _⟩ := T.R.there q; rw [hn] at e; cases e
    have R' : Rel g (as ++ [a]) (σ ++ [.lst xs]) h' := by
      refine ⟨F'.keep, by simp [T.R.len], ?_, fun b hb => ?_, fun i b ob h1 h2 => ?_⟩
      · exact List.nodup_append.mpr ⟨T.R.nd, by simp, fun x hx y hy e => by simp at hy; subst hy; subst e; exact hna hx⟩
      · rcases List.mem_append.mp hb with q | q
        · exact T.R.new b q
        · simp at q; subst q; exact (N' _ hin).2.2
      · rcases Nat.lt_trichotomy i as.length with hi | hi | hi
        · rw [List.getElem?_append_left hi] at h1
          rw [List.getElem?_append_left (T.R.len ▸ hi)] at h2
          exact obj' i b ob h1 h2
        · subst hi
          rw [T.R.len] at h2
          simp at h1 h2; subst h1; subst h2
          exact ⟨items, hpl, RepVs.keep K _ _ r, hz⟩
        · rw [List.getElem?_eq_none (by simp; lia)] at h1; cases h1
    refine hQ (.ref a) (as ++ [a]) h' tk x R' ?_ ?_
    · obtain ⟨m0, hm0, hv⟩ := T.F.ns
      have hmm : ∀ x, m0 x = m' x := fun x => hm0.agree hm x
      refine ⟨T.F.kind, T.F.above, T.F.glob, T.F.blt, T.F.len, T.F.nd, ⟨m', F'.ns, fun i x v h1 h2 => ?_⟩, fun i x k h1 h2 => ?_, fun q => ?_, fun x c hc => ⟨fun q => ?_, (T.F.offc _ _ hc).2.1, ?_⟩, T.F.apart, T.F.newc⟩
      · obtain ⟨val, e1, e2⟩ := hv i x v h1 h2
        exact ⟨val, by rw [← hmm]; exact e1, RepV.keep K _ _ e2⟩
      · obtain ⟨c, cv, e1, ⟨o, e2, e2'⟩, e3⟩ := T.F.cells i x k h1 h2
        refine ⟨c, cv, e1, ⟨o, ext _ _ (T.F.offc _ _ e1).2.1 e2, e2'⟩, fun v e => ?_⟩
        obtain ⟨val, e4, e5⟩ := e3 v e
        exact ⟨val, e4, RepV.keep K _ _ e5⟩
      · rcases List.mem_append.mp q with q | q
        · exact T.F.off q
        · simp at q; exact hL q
      · rcases List.mem_append.mp q with q | q
        · exact (T.F.offc _ _ hc).1 q
        · simp at q; subst q
          obtain ⟨cv, o, e, _⟩ := (T.F.offc _ _ hc).2.2; rw [hn] at e; cases e
      · obtain ⟨cv, o, e, e'⟩ := (T.F.offc _ _ hc).2.2
        exact ⟨cv, o, ext _ _ (T.F.offc _ _ hc).2.1 e, e'⟩
    · rw [RepV]; exact ⟨_, rfl, by rw [← T.R.len]; simp⟩
  · cases e

set_option tactic.hygienic false in
theorem At.byNews {h' : Heap} {m : Str → Option Value} {news : List (Addr × Obj)} (T : At g env as fr σ s) (hm : s.heap.Ns env.locals m) (F' : Fr g.b env.locals h' m) (N' : News g.b env.locals h' news)
    (hs : ∀ p ∈ newsOf g.b env.locals s.heap, p ∈ news) : Keep as s.heap as h' ∧ Step [env.locals] as s.heap as h' ∧ Rel g as σ h' ∧ FrRel g env as fr h' := by
  have ext := ext_of_news F' N' hs T.R.base
  have x : Step [env.locals] as s.heap as h' := ⟨⟨[], by simp, by simp⟩, fun b o e h1 _ => ext b o (by simpa using h1) e⟩
  have K := T.R.keep x T.F.notImm
  refine ⟨K, x, ⟨F'.keep, T.R.len, T.R.nd, T.R.new, fun i b o h1 h2 => (T.R.obj i b o h1 h2).keep K fun ob e => ext b ob (fun q => T.F.off (q ▸ List.mem_of_getElem? h1)) e⟩, ?_⟩
  obtain ⟨m0, hm0, hv⟩ := T.F.ns
  have hmm : ∀ x, m0 x = m x := fun x => hm0.agree hm x
  refine ⟨T.F.kind, T.F.above, T.F.glob, T.F.blt, T.F.len, T.F.nd, ⟨m, F'.ns, fun i x v h1 h2 => ?_⟩, fun i x k h1 h2 => ?_, T.F.off, fun x c hc => ⟨(T.F.offc _ _ hc).1, (T.F.offc _ _ hc).2.1, ?_⟩, T.F.apart, T.F.newc⟩
  · obtain ⟨val, e1, e2⟩ := hv i x v h1 h2
    exact ⟨val, by rw [← hmm]; exact e1, RepV.keep K _ _ e2⟩
  · obtain ⟨c, cv, e1, ⟨o, e2, e2'⟩, e3⟩ := T.F.cells i x k h1 h2
    refine ⟨c, cv, e1, ⟨o, ext _ _ (T.F.offc _ _ e1).2.1 e2, e2'⟩, fun v e => ?_⟩
    obtain ⟨val, e4, e5⟩ := e3 v e
    exact ⟨val, e4, RepV.keep K _ _ e5⟩
  · obtain ⟨cv, o, e, e'⟩ := (T.F.offc _ _ hc).2.2
    exact ⟨cv, o, ext _ _ (T.F.offc _ _ hc).2.1 e, e'⟩

inductive RepL (as : List Addr) (h : Heap) (l : Nat) (vs : List V) : Value → Prop
  | mk (a : Addr) (items : Array Value) (n : Nat) (hl : as[l]? = some a) (ho : IsL h a items n) (hr : RepVs as h vs items.toList) (hz : vs.length ≤ 16777216) (hs : items.size = vs.length) : RepL as h l vs (.ref a)
set_option tactic.hygienic false in
theorem rep_lst {l : Nat} {x : Value} {vs : List V} {h : Heap} (R : Rel g as σ h) (r : RepV as h (.ref l) x) (e : getL σ l = some vs) : RepL as h l vs x := by
  rw [RepV] at r
  obtain ⟨a, rfl, ha⟩ := r
  unfold getL at e
  cases q : σ[l]? with
  | none => rw [q] at e; exact nn e
  | some o =>
    rw [q] at e
    cases o <;> first | exact nn e | skip
    cases Option.some.inj e
    obtain ⟨items, ⟨n, p⟩, hr, z⟩ := R.obj l a _ ha q
    exact ⟨a, items, n, ha, p, hr, z, by have := (RepVs.f2.mp hr).length; rw [this, Array.length_toList]⟩
set_option tactic.hygienic false in
theorem rep_list {l : Nat} {x : Value} {vs : List V} (R : Rel g as σ s.heap) (r : RepV as s.heap (.ref l) x) (e : getL σ l = some vs) :
    ∃ a items n, x = .ref a ∧ as[l]? = some a ∧ IsL s.heap a items n ∧ RepVs as s.heap vs items.toList ∧ vs.length ≤ 16777216 ∧ items.size = vs.length := by
  cases rep_lst R r e with
  | mk a items n hl ho hr hz hs => exact ⟨a, items, n, rfl, hl, ho, hr, hz, hs⟩
set_option tactic.hygienic false in
theorem getL_of {l : Nat} {vs : List V} (e : σ[l]? = some (.lst vs)) : getL σ l = some vs := by unfold getL; rw [e]

set_option tactic.hygienic false in
theorem foldl_rep (x : Value) : ∀ (n : Nat) (acc : Array Value), (List.foldl (fun x1 x2 => x1 ++ x2) acc (List.replicate n #[x])).toList = acc.toList ++ List.replicate n x
  | 0, acc => by simp
  | n + 1, acc => by rw [List.replicate_succ, List.foldl_cons, foldl_rep x n]; simp [List.replicate_succ]

set_option tactic.hygienic false in
theorem bad_ok {v : V} {σ' : Sto} {P : Prop} (h : RE.bad = .ok v σ') : P := nomatch h
set_option tactic.hygienic false in
theorem rep_int {h : Heap} {i : Int} {x : Value} (r : RepV as h (.int i) x) : ∃ t, x = .int i t := by rw [RepV] at r; exact r
set_option tactic.hygienic false in
theorem wII_inv {a b v : V} {f : Int → Int → RE} (e : wII a b f = .ok v σ') : ∃ x y, a = .int x ∧ b = .int y ∧ f x y = .ok v σ' := by
  cases a <;> first | exact bad_ok e | skip
  cases b <;> first | exact bad_ok e | exact ⟨_, _, rfl, rfl, e⟩
set_option tactic.hygienic false in
theorem gL_inv {o : Option (List V)} {f : List V → RE} {v : V} (e : (match o with | some xs => f xs | none => .bad) = .ok v σ') : ∃ xs, o = some xs ∧ f xs = .ok v σ' := by
  cases o with
  | none => exact bad_ok e
  | some xs => exact ⟨xs, rfl, e⟩
set_option tactic.hygienic false in
theorem if_inv {c : Prop} [Decidable c] {v : V} {r : RE} (e : (if c then r else .bad) = .ok v σ') : c ∧ r = .ok v σ' := by
  by_cases h : c
  · rw [if_pos h] at e; exact ⟨h, e⟩
  · rw [if_neg h] at e; exact bad_ok e
set_option tactic.hygienic false in
theorem ok_inj {v w : V} {τ : Sto} (e : RE.ok v τ = .ok w σ') : w = v ∧ σ' = τ := by cases e; exact ⟨rfl, rfl⟩

set_option tactic.hygienic false in
theorem o_add {a b v : V} {x y : Value} (T : At g env as fr σ s) (ha : RepV as s.heap a x) (hb : RepV as s.heap b y)
    (e : addV a b σ = .ok v σ') (hQ : EPost g env as fr s v σ' Q) : wpAny (model g.prog g.w) A (binaryOp .Add x y) Q X s := by
  cases a <;> first | exact bad_ok e | skip
  · cases b <;> first | exact bad_ok e | skip
    obtain ⟨rfl, rfl⟩ := ok_inj e
    obtain ⟨t, rfl⟩ := rep_int ha; obtain ⟨u, rfl⟩ := rep_int hb
    exact PyProof.Rows.add_int (hQ.int T)
  · cases b <;> first | exact bad_ok e | skip
    obtain ⟨hz, e⟩ := if_inv e
    obtain ⟨rfl, rfl⟩ := ok_inj e
    rw [RepV] at ha hb; obtain ⟨t, rfl⟩ := ha; obtain ⟨u, rfl⟩ := hb
    refine PyProof.Rows.add_str (fun t' tk => hQ.same T (by rw [RepV]; exact ⟨_, rfl⟩)) (Nat.le_trans hz (by decide))
  · cases b <;> first | exact bad_ok e | skip
    obtain ⟨xs, e1, e⟩ := gL_inv e
    obtain ⟨ys, e2, e⟩ := gL_inv e
    obtain ⟨a1, i1, n1, rfl, _, p1, q1, _, z1⟩ := rep_list T.R ha e1
    obtain ⟨a2, i2, n2, rfl, _, p2, q2, _, z2⟩ := rep_list T.R hb e2
    have hz := newL_len e
    refine P.add_list p1 p2 (hQ.newH (tk := s.toks) (xs := xs ++ ys) T ?_ e) ?_
    · rw [Array.toList_append]; exact RepVs.f2.mpr ((RepVs.f2.mp q1).append (RepVs.f2.mp q2))
    · rw [z1, z2]; show _ ≤ 2 ^ 24; simpa using hz
theorem o_mul {a b v : V} {x y : Value} (T : At g env as fr σ s) (ha : RepV as s.heap a x) (hb : RepV as s.heap b y)
    (e : mulV a b σ = .ok v σ') (hQ : EPost g env as fr s v σ' Q) : wpAny (model g.prog g.w) A (binaryOp .Mult x y) Q X s := by
  cases b <;> first | exact bad_ok e | skip
  rename_i n
  obtain ⟨u, rfl⟩ := rep_int hb
  cases a <;> first | exact bad_ok e | skip
  · obtain ⟨hm, e⟩ := if_inv e
    obtain ⟨rfl, rfl⟩ := ok_inj e
    obtain ⟨t, rfl⟩ := rep_int ha
    exact PyProof.Rows.mul_int (hQ.int T) (mul_ok hm)
  · rename_i l
    have e : repN (getL σ l) n σ = .ok v σ' := e
    rcases e1 : getL σ l with _ | ⟨_ | ⟨x1, _ | ⟨x2, xs⟩⟩⟩ <;> rw [e1] at e
    · exact bad_ok e
    · exact bad_ok e
    · obtain ⟨hlo, e⟩ := if_inv e
      obtain ⟨a1, i1, n1, rfl, _, p1, q1, _, z1⟩ := rep_list T.R ha e1
      have hz := newL_len e
      rw [List.length_replicate] at hz
      obtain ⟨m, hF, _⟩ := T.F.fr T.R
      have hz1 : i1.size = 1 := by simpa using z1
      refine mul_list hF (news_all _ _ _) p1 (by lia) (by lia) (by rw [hz1]; lia) fun h' F' N' => ?_
      rw [RepVs] at q1
      obtain ⟨y, ys, q2, q3, q4⟩ := q1
      rw [RepVs] at q4; subst q4
      have hi : i1 = #[y] := by apply Array.ext'; simpa using q2
      subst hi
      refine hQ.newN (tk := s.toks) (xs := List.replicate n.toNat x1) T hF.ns F' rfl N' (fun p hp => .tail _ hp) (.head _) (new_none _) ?_ e
      have : (if (#[y] : Array Value).isEmpty = true then 0 else n.toNat) = n.toNat := by simp
      rw [this, foldl_rep]
      simpa using RepVs.f2.mpr (F2.replicate q3 n.toNat)
    · exact bad_ok e
set_option tactic.hygienic false in
theorem o_bin {op : Operator} {a b v : V} {x y : Value} (T : At g env as fr σ s) (ha : RepV as s.heap a x) (hb : RepV as s.heap b y)
    (e : binV op a b σ = .ok v σ') (hQ : EPost g env as fr s v σ' Q) : wpAny (model g.prog g.w) A (binaryOp op x y) Q X s := by
  cases op <;> first | exact bad_ok e | exact o_add T ha hb e hQ | exact o_mul T ha hb e hQ | skip
  · obtain ⟨i, j, rfl, rfl, e'⟩ := wII_inv e
    obtain ⟨rfl, rfl⟩ := ok_inj e'
    obtain ⟨t, rfl⟩ := rep_int ha; obtain ⟨u, rfl⟩ := rep_int hb
    exact PyProof.Rows.sub_int (hQ.int T)
  · obtain ⟨i, j, rfl, rfl, e'⟩ := wII_inv e
    by_cases hm : j = 0
    · rw [if_pos hm] at e'; exact bad_ok e'
    · rw [if_neg hm] at e'
      obtain ⟨rfl, rfl⟩ := ok_inj e'
      obtain ⟨t, rfl⟩ := rep_int ha; obtain ⟨u, rfl⟩ := rep_int hb
      exact PyProof.Rows.mod_int hm (hQ.int T)
  · obtain ⟨i, j, rfl, rfl, e'⟩ := wII_inv e
    obtain ⟨hm, e'⟩ := if_inv e'
    obtain ⟨rfl, rfl⟩ := ok_inj e'
    obtain ⟨t, rfl⟩ := rep_int ha; obtain ⟨u, rfl⟩ := rep_int hb
    exact PyProof.Rows.floordiv_int hm.1 (hQ.int T) (.inl (div_ok hm.2))
end
end Mine

set_option autoImplicit false
namespace Mine
open PySem PyProof.Rows

structure Room (A : Around) (n : Nat) : Prop where
  units : A.units + 20 * n + 60 ≤ 9900
  depth : A.depth + 4 * n + 20 ≤ 1000
  handled : A.handled = none

theorem mapO_cons {α β : Type} {f : α → Option β} {x : α} {xs : List α} {ys : List β} (e : mapO f (x :: xs) = some ys) : ∃ y r, f x = some y ∧ mapO f xs = some r ∧ ys = y :: r := by
  rw [mapO] at e
  split at e
  · rename_i y r h1 h2; cases e; exact ⟨y, r, h1, h2, rfl⟩
  · cases e

section
variable {g : Cfg} {as : List Addr} {σ : Sto} {h : Heap}

set_option tactic.hygienic false in
theorem readsAll_of {f : V → Option PyData} {n : Nat} (hf : ∀ v d x, f v = some d → RepV as h v x → ∃ bs, Reads h x d bs ∧ d.canLay0 = true ∧ d.depth ≤ n) :
    ∀ (vs : List V) (ds : List PyData) (xs : List Value), mapO f vs = some ds → RepVs as h vs xs → ∃ bs, ReadsAll h xs ds bs ∧ PyData.canLayAll0 ds = true ∧ PyData.depthAll ds ≤ n
  | [], ds, xs, e, r => by
    rw [mapO] at e; cases e; rw [RepVs] at r; subst r
    exact ⟨_, .nil, rfl, by simp [PyData.depthAll]⟩
  | v :: vs, ds, xs, e, r => by
    obtain ⟨d, r', e1, e2, rfl⟩ := mapO_cons e
    rw [RepVs] at r
    obtain ⟨y, ys, rfl, r1, r2⟩ := r
    obtain ⟨b1, h1, h2, h3⟩ := hf v d y e1 r1
    obtain ⟨b2, h4, h5, h6⟩ := readsAll_of hf vs r' ys e2 r2
    exact ⟨_, .cons h1 h4, by simp [PyData.canLayAll0, h2, h5], by simp [PyData.depthAll]; lia⟩

theorem reads_of (R : Rel g as σ h) : ∀ (n : Nat) (v : V) (d : PyData) (x : Value), toD n σ v = some d → RepV as h v x → ∃ bs, Reads h x d bs ∧ d.canLay0 = true ∧ d.depth ≤ n
  | 0, _, _, _, e, _ => nn e
  | n + 1, v, d, x, e, r => by
    have ih := reads_of R n
    have e : toDX (toD n σ) σ v = some d := e
    cases v with
    | none => cases e; rw [RepV] at r; subst r; exact ⟨_, .none, rfl, Nat.zero_le _⟩
    | bool b => cases e; rw [RepV] at r; subst r; exact ⟨_, .bool b, rfl, Nat.zero_le _⟩
    | int i => cases e; rw [RepV] at r; obtain ⟨t, rfl⟩ := r; exact ⟨_, .int i t, rfl, Nat.zero_le _⟩
    | str s =>
      have e : (if PyData.strOk s then some (PyData.str s) else none) = some d := e
      split at e
      · rename_i ho; cases e; rw [RepV] at r; obtain ⟨t, rfl⟩ := r; exact ⟨_, .str s t, by simpa [PyData.canLay0] using ho, Nat.zero_le _⟩
      · cases e
    | tup vs =>
      obtain ⟨ds, e1, rfl⟩ := map_inv e
      rw [RepV] at r
      obtain ⟨a, items, k, rfl, ho, _, hr⟩ := r
      obtain ⟨bs, h1, h2, h3⟩ := readsAll_of ih vs ds _ e1 hr
      exact ⟨_, .tuple ho rfl rfl h1, h2, Nat.succ_le_succ h3⟩
    | ref l =>
      have e : (match getL σ l with | some vs => (mapO (toD n σ) vs).map PyData.list | none => none) = some d := e
      cases hl : getL σ l with
      | none => rw [hl] at e; exact nn e
      | some vs =>
        rw [hl] at e
        obtain ⟨ds, e1, rfl⟩ := map_inv e
        obtain ⟨a, items, k, rfl, _, ho, hr, _⟩ := rep_list (s := { heap := h }) R r hl
        obtain ⟨bs, h1, h2, h3⟩ := readsAll_of ih vs ds _ e1 hr
        exact ⟨_, .list ho rfl rfl h1, h2, Nat.succ_le_succ h3⟩
    | rng lo hi => exact nn e
end

set_option tactic.hygienic false in
theorem intsAre_of {as : List Addr} {h : Heap} : ∀ {vs : List V} {is : List Int} {xs : List Value}, intsOf vs = some is → RepVs as h vs xs → IntsAre xs is
  | [], is, xs, e, r => by
    unfold intsOf at e; rw [mapO] at e; cases e; rw [RepVs] at r; subst r; exact .nil
  | v :: vs, is, xs, e, r => by
    unfold intsOf at e
    obtain ⟨i, r', e1, e2, rfl⟩ := mapO_cons e
    rw [RepVs] at r
    obtain ⟨y, ys, rfl, r1, r2⟩ := r
    cases v with
    | int j => cases e1; rw [RepV] at r1; obtain ⟨t, rfl⟩ := r1; exact .cons _ _ (intsAre_of (vs := vs) e2 r2)
    | _ => cases e1

section
variable {g : Cfg} {env : Env} {A : Around} {X : Value → Shared → Prop} {s : Shared} {as : List Addr} {fr : Fra} {σ σ' : Sto} {Q : Value → Shared → Prop}

theorem o_eq {a b : V} {x y : Value} {r : Bool} {n : Nat} (T : At g env as fr σ s) (hA : Room A n) (ha : RepV as s.heap a x) (hb : RepV as s.heap b y)
    (e : eqV σ a b = some r) (hQ : Q (.bool r) s) : wpAny (model g.prog g.w) A (compareOp .Eq x y) Q X s := by
  unfold eqV at e
  split at e
  · rename_i da db e1 e2
    cases e
    obtain ⟨_, r1, c1, d1⟩ := reads_of T.R 5 a da x e1 ha
    obtain ⟨_, r2, c2, d2⟩ := reads_of T.R 5 b db y e2 hb
    exact SeqAt.compareEq_reads r1 r2 c1 c2 (by have := hA.units; show _ < 9900; lia) hQ
  · cases e
theorem o_ne {a b : V} {x y : Value} {r : Bool} {n : Nat} (T : At g env as fr σ s) (hA : Room A n) (ha : RepV as s.heap a x) (hb : RepV as s.heap b y)
    (e : eqV σ a b = some r) (hQ : Q (.bool (!r)) s) : wpAny (model g.prog g.w) A (compareOp .NotEq x y) Q X s := by
  unfold eqV at e
  split at e
  · rename_i da db e1 e2
    cases e
    obtain ⟨_, r1, c1, d1⟩ := reads_of T.R 5 a da x e1 ha
    obtain ⟨_, r2, c2, d2⟩ := reads_of T.R 5 b db y e2 hb
    exact SeqAt.compareNe_reads r1 r2 c1 c2 (by have := hA.units; show _ < 9900; lia) hQ
  · cases e
set_option tactic.hygienic false in
theorem any_eq {is : List Int} {i : Int} : is.any (· == i) = decide (i ∈ is) := by
  induction is with
  | nil => rfl
  | cons j r ih =>
    rw [List.any_cons, ih]
    by_cases h : j = i
    · subst h; simp
    · have h' : ¬ i = j := fun q => h q.symm
      simp [h, h']

structure Sys (g : Cfg) : Prop where
  sys : sysModules < g.b.objs.size

set_option tactic.hygienic false in
theorem kv_at {h : Heap} {i : Int} : ∀ {es : List (Int × V)} {kvs : List (Int × Value)}, F2 (fun (e : Int × V) (x : Int × Value) => e.1 = x.1 ∧ RepV as h e.2 x.2) es kvs →
    (valueAt kvs i).isSome = es.any (fun e => e.1 == i) ∧ ∀ v, es.lookup i = some v → ∃ y, valueAt kvs i = some y ∧ RepV as h v y := by
  intro es kvs f
  induction f with
  | nil => exact ⟨rfl, fun v e => by cases e⟩
  | @cons a b as' bs x r ih =>
    obtain ⟨h1, h2⟩ := x
    obtain ⟨k, v0⟩ := a
    obtain ⟨k', y0⟩ := b
    have h1' : k = k' := h1
    subst h1'
    have e0 : valueAt ((k, y0) :: bs) i = if k = i then some y0 else valueAt bs i := by
      unfold valueAt
      rw [List.find?_cons]
      by_cases hk : k = i <;> simp [hk]
    rw [e0, List.lookup_cons, List.any_cons]
    by_cases hk : k = i
    · subst hk; simpa using h2
    · simp only [hk, if_false, Bool.false_or, beq_eq_false_iff_ne.mpr hk, show (i == k) = false from beq_eq_false_iff_ne.mpr (Ne.symm hk)]
      exact ih

set_option tactic.hygienic false in
theorem tk_at {h : Heap} {i : List Int} : ∀ {es : List (List Int × V)} {xs : List (List Int × Addr × Value)}, F2 (fun (e : List Int × V) (x : List Int × Addr × Value) => e.1 = x.1 ∧ RepV as h e.2 x.2.2) es xs →
    (atKey xs i).isSome = es.any (fun e => e.1 == i) ∧ ∀ v, es.lookup i = some v → ∃ p, atKey xs i = some p ∧ RepV as h v p.2 := by
  intro es xs f
  induction f with
  | nil => exact ⟨rfl, fun v e => by cases e⟩
  | @cons a b as' bs x r ih =>
    obtain ⟨h1, h2⟩ := x
    obtain ⟨k, v0⟩ := a
    obtain ⟨k', y0⟩ := b
    have h1' : k = k' := h1
    subst h1'
    have e0 : atKey ((k, y0) :: bs) i = if k = i then some y0 else atKey bs i := by
      unfold atKey
      rw [List.find?_cons]
      by_cases hk : k = i <;> simp [hk]
    rw [e0, List.lookup_cons, List.any_cons]
    by_cases hk : k = i
    · subst hk; simpa using h2
    · simp only [hk, if_false, Bool.false_or, beq_eq_false_iff_ne.mpr hk, show (i == k) = false from beq_eq_false_iff_ne.mpr (Ne.symm hk)]
      exact ih

set_option tactic.hygienic false in
theorem tupKey_of {ks : List V} {k : List Int} {x : Value} {h : Heap} (r : RepV as h (.tup ks) x) (e : intsOf ks = some k) : ∃ a, x = .ref a ∧ IsTupleKey (intKind g.prog g.w) h k a := by
  rw [RepV] at r
  obtain ⟨a, items, n, rfl, ho, _, hr⟩ := r
  refine ⟨a, rfl, _, items, n, ho, rfl, rfl, ?_⟩
  have := intsAre_of e hr
  clear ho hr e
  generalize items.toList = xs at this
  induction this with
  | nil => exact .nil
  | cons n t _ ih => exact .cons (intKind_is _ _ _ _) ih

theorem o_in {a c : V} {x y : Value} {r : Bool} {n : Nat} (G : Sys g) (T : At g env as fr σ s) (hA : Room A n) (ha : RepV as s.heap a x) (hc : RepV as s.heap c y)
    (e : inV σ a c = some r) (hQ : EPost g env as fr s (.bool r) σ Q) : wpAny (model g.prog g.w) A (compareOp .In x y) Q X s := by
  unfold inV at e
  split at e
  · rename_i l
    split at e
    · rename_i vs i hl
      obtain ⟨is, e1, e2⟩ := Option.map_eq_some_iff.mp e
      obtain ⟨a1, items, k, rfl, _, ho, hr, _⟩ := rep_list T.R hc (getL_of hl)
      rw [RepV] at ha; obtain ⟨t, rfl⟩ := ha
      have hi := intsAre_of e1 hr
      refine in_list_ints (vs := items.toList) (by simpa using ho.isList) hi ?_
      rw [any_eq, e2]; exact hQ.bool' T
    · rename_i es i hl
      cases e
      rw [RepV] at ha; rw [RepV] at hc; obtain ⟨t, rfl⟩ := ha; obtain ⟨d, rfl, hd⟩ := hc
      obtain ⟨kvs, hk, hf, _, hns⟩ := T.R.obj _ _ _ hd hl
      refine wpAny_in_of (intKind_is _ _ i t) hns hk.mapOf ?_
      rw [(kv_at hf).1]; exact hQ.bool T
    · rename_i es ks hl
      obtain ⟨k, e1, e2⟩ := Option.map_eq_some_iff.mp e
      obtain ⟨ta, rfl, hk⟩ := tupKey_of (g := g) ha e1
      rw [RepV] at hc; obtain ⟨d, rfl, hd⟩ := hc
      obtain ⟨xs, hx, hf, _, hns⟩ := T.R.obj _ _ _ hd hl
      refine wpAny_in_heap (knd := tupleKind (intKind g.prog g.w)) (tupleKind_room_in1 (by have := hA.units; show _ < 9900; lia)) hk hns hx ?_
      rw [(tk_at hf).1, e2]; exact hQ.bool T
    · cases e
  · cases e
theorem o_notIn {a c : V} {x y : Value} {r : Bool} (G : Sys g) (T : At g env as fr σ s) (ha : RepV as s.heap a x) (hc : RepV as s.heap c y)
    (e : notInV σ a c = some r) (hQ : EPost g env as fr s (.bool r) σ Q) : wpAny (model g.prog g.w) A (compareOp .NotIn x y) Q X s := by
  unfold notInV at e
  split at e
  · rename_i l
    split at e
    · rename_i vs i hl
      obtain ⟨is, e1, e2⟩ := Option.map_eq_some_iff.mp e
      obtain ⟨a1, items, k, rfl, _, ho, hr, _⟩ := rep_list T.R hc (getL_of hl)
      rw [RepV] at ha; obtain ⟨t, rfl⟩ := ha
      have hi := intsAre_of e1 hr
      refine notin_list_ints (vs := items.toList) (by simpa using ho.isList) hi ?_
      rw [any_eq, e2]; exact hQ.bool' T
    · rename_i es i hl
      cases e
      rw [RepV] at ha; rw [RepV] at hc; obtain ⟨t, rfl⟩ := ha; obtain ⟨d, rfl, hd⟩ := hc
      obtain ⟨kvs, hk, hf, _, hns⟩ := T.R.obj _ _ _ hd hl
      refine wpAny_notIn_of (intKind_is _ _ i t) hns hk.mapOf ?_
      rw [(kv_at hf).1]; exact hQ.bool T
    · cases e
  · cases e

set_option tactic.hygienic false in
theorem isNone_rep {h : Heap} {v : V} {x : Value} (r : RepV as h v x) : (x == Value.none) = isNone v := by
  cases v with
  | none => rw [RepV] at r; subst r; rfl
  | bool b => rw [RepV] at r; subst r; rfl
  | int i => rw [RepV] at r; obtain ⟨t, rfl⟩ := r; rfl
  | str i => rw [RepV] at r; obtain ⟨t, rfl⟩ := r; rfl
  | tup i => rw [RepV] at r; obtain ⟨t, _, _, rfl, _⟩ := r; rfl
  | ref i => rw [RepV] at r; obtain ⟨t, rfl, _⟩ := r; rfl
  | rng i j => rw [RepV] at r; obtain ⟨t, _, _, _, rfl, _⟩ := r; rfl

set_option tactic.hygienic false in
theorem o_cmp {op : CmpOp} {a b : V} {x y : Value} {r : Bool} {n : Nat} (G : Sys g) (T : At g env as fr σ s) (hA : Room A n) (ha : RepV as s.heap a x) (hb : RepV as s.heap b y)
    (e : cmpV op a b σ = some r) (hQ : EPost g env as fr s (.bool r) σ Q) : wpAny (model g.prog g.w) A (compareOp op x y) Q X s := by
  unfold cmpV at e
  cases op with
  | Lt =>
    dsimp only at e; split at e
    · cases e; rw [RepV] at ha hb; obtain ⟨t, rfl⟩ := ha; obtain ⟨u, rfl⟩ := hb; exact PyProof.Rows.lt_int (hQ.bool' T)
    · cases e
  | LtE =>
    dsimp only at e; split at e
    · cases e; rw [RepV] at ha hb; obtain ⟨t, rfl⟩ := ha; obtain ⟨u, rfl⟩ := hb; exact PyProof.Rows.le_int (hQ.bool' T)
    · cases e
  | Gt =>
    dsimp only at e; split at e
    · cases e; rw [RepV] at ha hb; obtain ⟨t, rfl⟩ := ha; obtain ⟨u, rfl⟩ := hb; exact PyProof.Rows.gt_int (hQ.bool' T)
    · cases e
  | GtE =>
    dsimp only at e; split at e
    · cases e; rw [RepV] at ha hb; obtain ⟨t, rfl⟩ := ha; obtain ⟨u, rfl⟩ := hb; exact PyProof.Rows.ge_int (hQ.bool' T)
    · cases e
  | Eq =>
    dsimp only at e; split at e
    · cases e; rw [RepV] at ha hb; obtain ⟨t, rfl⟩ := ha; obtain ⟨u, rfl⟩ := hb; exact PyProof.Rows.eq_int (hQ.bool' T)
    · exact o_eq T hA ha hb e (hQ.bool' T)
  | NotEq =>
    dsimp only at e; split at e
    · cases e; rw [RepV] at ha hb; obtain ⟨t, rfl⟩ := ha; obtain ⟨u, rfl⟩ := hb; exact PyProof.Rows.ne_int (hQ.bool' T)
    · obtain ⟨r', e1, rfl⟩ := Option.map_eq_some_iff.mp e
      exact o_ne T hA ha hb e1 (hQ.bool' T)
  | Is =>
    dsimp only at e; split at e
    · cases e; rw [RepV] at hb; subst hb
      exact is_none_gen (by rw [isNone_rep ha]; exact hQ.bool' T)
    · cases e
  | IsNot =>
    dsimp only at e; split at e
    · cases e; rw [RepV] at hb; subst hb
      exact isnot_none_gen (by rw [isNone_rep ha]; exact hQ.bool' T)
    · cases e
  | In => exact o_in G T hA ha hb e hQ
  | NotIn => exact o_notIn G T ha hb e hQ
end
end Mine

set_option autoImplicit false
namespace Mine
open PySem PyProof.Rows

section
variable {g : Cfg} {env : Env} {A : Around} {X : Value → Shared → Prop} {s : Shared} {as : List Addr} {fr : Fra} {σ σ' : Sto} {Q : Value → Shared → Prop}

set_option tactic.hygienic false in
theorem idx_rep {h : Heap} {vs : List V} {xs : List Value} {k : Int} {v : V} (r : RepVs as h vs xs) (e : idxV vs k = some v) :
    ∃ y, RepV as h v y ∧ ((0 ≤ k ∧ k < vs.length ∧ xs[k.toNat]? = some y) ∨ (k < 0 ∧ -(vs.length : Int) ≤ k ∧ xs[(k + vs.length).toNat]? = some y)) := by
  unfold idxV at e
  split at e
  · obtain ⟨y, h1, h2⟩ := (RepVs.f2.mp r).get e
    have := (List.getElem?_eq_some_iff.mp e).1
    exact ⟨y, h2, .inl ⟨by assumption, by lia, h1⟩⟩
  · split at e
    · obtain ⟨y, h1, h2⟩ := (RepVs.f2.mp r).get e
      exact ⟨y, h2, .inr ⟨by lia, by assumption, h1⟩⟩
    · cases e

set_option tactic.hygienic false in
theorem rep_frz {l : Nat} {x : Value} {vs : List V} (R : Rel g as σ s.heap) (r : RepV as s.heap (.ref l) x) (e : σ[l]? = some (.frz vs)) :
    ∃ a items n, x = .ref a ∧ as[l]? = some a ∧ IsL s.heap a items n ∧ RepVs as s.heap vs items.toList ∧ vs.length ≤ 16777216 ∧ items.size = vs.length := by
  rw [RepV] at r
  obtain ⟨a, rfl, ha⟩ := r
  obtain ⟨items, n, e1, e2, q, z⟩ := R.obj l a _ ha e
  rw [e2] at e1
  exact ⟨a, items, n, rfl, ha, e1, q, z, by have := (RepVs.f2.mp q).length; simpa using this.symm⟩

theorem o_getItem {a i v : V} {x y : Value} {n : Nat} (T : At g env as fr σ s) (hA : Room A n) (ha : RepV as s.heap a x) (hi : RepV as s.heap i y)
    (e : subV a i σ = some v) (hQ : EPost g env as fr s v σ Q) : wpAny (model g.prog g.w) A (getItem x y) Q X s := by
  unfold subV at e
  split at e
  · rename_i vs k
    rw [RepV] at ha; rw [RepV] at hi
    obtain ⟨t, rfl⟩ := hi
    obtain ⟨ad, items, m, rfl, ho, hz, hr⟩ := ha
    obtain ⟨y, r, hh⟩ := idx_rep hr e
    have hl : vs.length = items.size := by have := (RepVs.f2.mp hr).length; simpa using this
    refine PyProof.Rows.getItem_tuple (j := if 0 ≤ k then k.toNat else (k + vs.length).toNat) (x := y) ⟨_, ho, rfl, m, rfl⟩ ?_ ?_ ?_ ?_ (hQ.same' T r)
    · rcases hh with hh | hh <;> lia
    · rcases hh with hh | hh <;> lia
    · unfold seqIndex?
      rcases hh with ⟨h1, h2, h3⟩ | ⟨h1, h2, h3⟩
      · simp only [show ¬ k < 0 by lia, if_false, h1, if_true]
        rw [if_pos (by simp; lia)]
      · simp only [h1, if_true, show ¬ 0 ≤ k by lia, if_false, ← hl]
        rw [if_pos (by simp; lia)]
    · rcases hh with ⟨h1, h2, h3⟩ | ⟨h1, h2, h3⟩
      · rw [if_pos h1]; simpa using h3
      · rw [if_neg (by lia)]; simpa using h3
  · rename_i l k
    split at e
    · rename_i vs hl
      obtain ⟨ad, items, m, rfl, _, ho, hr, hz, hsz⟩ := rep_list T.R ha (getL_of hl)
      rw [RepV] at hi; obtain ⟨t, rfl⟩ := hi
      obtain ⟨y, r, hh⟩ := idx_rep hr e
      rcases hh with ⟨h1, h2, h3⟩ | ⟨h1, h2, h3⟩
      · exact wpAny_getItem_list ho.isList h1 (by lia) (by simpa using h3) (hQ.same' T r)
      · exact wpAny_getItem_list_neg ho.isList h1 (by lia) (by lia) (by rw [hsz]; simpa using h3) (hQ.same' T r)
    · rename_i vs hl
      obtain ⟨ad, items, m, rfl, _, ho, hr, hz, hsz⟩ := rep_frz T.R ha hl
      rw [RepV] at hi; obtain ⟨t, rfl⟩ := hi
      obtain ⟨y, r, hh⟩ := idx_rep hr e
      rcases hh with ⟨h1, h2, h3⟩ | ⟨h1, h2, h3⟩
      · exact wpAny_getItem_list ho.isList h1 (by lia) (by simpa using h3) (hQ.same' T r)
      · exact wpAny_getItem_list_neg ho.isList h1 (by lia) (by lia) (by rw [hsz]; simpa using h3) (hQ.same' T r)
    · rename_i es hl
      rw [RepV] at ha; rw [RepV] at hi
      obtain ⟨t, rfl⟩ := hi
      obtain ⟨d, rfl, hd⟩ := ha
      obtain ⟨kvs, hk, hf, _⟩ := T.R.obj _ _ _ hd hl
      obtain ⟨y, h1, h2⟩ := (kv_at hf).2 v e
      exact wpAny_getItem_of (intKind_is _ _ k t) hk.mapOf h1 (hQ.same T h2)
    · cases e
  · rename_i l ks
    split at e
    · rename_i es k hl he
      obtain ⟨ta, rfl, hk⟩ := tupKey_of (g := g) hi he
      rw [RepV] at ha; obtain ⟨d, rfl, hd⟩ := ha
      obtain ⟨xs, hx, hf, _⟩ := T.R.obj _ _ _ hd hl
      obtain ⟨p, h1, h2⟩ := (tk_at hf).2 v e
      exact wpAny_getItem_heap (knd := tupleKind (intKind g.prog g.w)) (tupleKind_room_in1 (by have := hA.units; show _ < 9900; lia)) hk hx h1 (hQ.same T h2)
    · cases e
  · cases e

theorem o_sub {a i v : V} {x y : Value} {n : Nat} {ve ie : Expr} (T : At g env as fr σ s) (hA : Room A n) (ha : RepV as s.heap a x) (hi : RepV as s.heap i y)
    (hs : ∀ o i, subscripted ie false o i = operate [o, i] (getItem o i))
    (e : subV a i σ = some v) (hQ : EPost g env as fr s v σ Q) : wpAny (model g.prog g.w) A (subscriptTail ve ie x y) Q X s := by
  have hg := o_getItem (X := X) T hA ha hi e hQ
  unfold subV at e
  split at e
  · rw [RepV] at ha
    obtain ⟨ad, items, m, rfl, ho, hz, hr⟩ := ha
    exact tail_any (T := "tuple") ⟨_, ho, rfl⟩ F.slot_tuple_getitem.lookup hg (hs _ _)
  · split at e
    · rename_i vs hl
      obtain ⟨ad, items, m, rfl, _, ho, _⟩ := rep_list T.R ha (getL_of hl)
      exact tail_any (T := "list") ⟨_, ho, rfl⟩ slot_list_getitem.lookup hg (hs _ _)
    · rename_i vs hl
      obtain ⟨ad, items, m, rfl, _, ho, _⟩ := rep_frz T.R ha hl
      exact tail_any (T := "list") ⟨_, ho, rfl⟩ slot_list_getitem.lookup hg (hs _ _)
    · rename_i es hl
      rw [RepV] at ha; obtain ⟨d, rfl, hd⟩ := ha
      obtain ⟨kvs, hk, hf, _⟩ := T.R.obj _ _ _ hd hl
      exact tail_any (T := "dict") hk.typeIs slot_dict_getitem.lookup hg (hs _ _)
    · cases e
  · split at e
    · rename_i es k hl he
      rw [RepV] at ha; obtain ⟨d, rfl, hd⟩ := ha
      obtain ⟨xs, hx, hf, _⟩ := T.R.obj _ _ _ hd hl
      exact tail_any (T := "dict") hx.typeIs slot_dict_getitem.lookup hg (hs _ _)
    · cases e
  · cases e

theorem o_len {a : V} {x : Value} {i : Int} (G : Sys g) (T : At g env as fr σ s) (ha : RepV as s.heap a x) (e : lenV a σ = some i) (hQ : EPost g env as fr s (.int i) σ Q) :
    wpAny (model g.prog g.w) A (call (.builtin "len") [x]) Q X s := by
  unfold lenV at e
  split at e
  · rename_i vs
    cases e
    rw [RepV] at ha
    obtain ⟨ad, items, m, rfl, ho, hz, hr⟩ := ha
    have hl : vs.length = items.size := by have := (RepVs.f2.mp hr).length; simpa using this
    refine P.len_tuple ho (by lia) ?_
    rw [← hl]; exact hQ.int T
  · split at e
    · rename_i vs hl
      cases e
      obtain ⟨ad, items, m, rfl, _, ho, hr, hz, hsz⟩ := rep_list T.R ha (getL_of hl)
      refine Calls.call_len_list ho.isList (by lia) ?_
      rw [hsz]; exact hQ.int T
    · rename_i vs hl
      cases e
      obtain ⟨ad, items, m, rfl, _, ho, hr, hz, hsz⟩ := rep_frz T.R ha hl
      refine Calls.call_len_list ho.isList (by lia) ?_
      rw [hsz]; exact hQ.int T
    · rename_i es hl
      cases e
      rw [RepV] at ha; obtain ⟨d, rfl, hd⟩ := ha
      obtain ⟨kvs, hk, hf, hz⟩ := T.R.obj _ _ _ hd hl
      have := hf.length
      refine call_len_dict hz.2 hk (by have := hz.1; lia) ?_
      rw [← this]; exact hQ.int T
    · cases e
  · cases e

end
end Mine

set_option autoImplicit false
namespace Mine
open PySem PyProof.Rows

noncomputable def tyVal : Ty → Option Value
  | .int => some (.type "int") | .bool => some (.type "bool") | .tuple => some (.type "tuple") | .list => some (.type "list")
  | _ => none

section
variable {g : Cfg} {env : Env} {A : Around} {X : Value → Shared → Prop} {s : Shared} {as : List Addr} {fr : Fra} {σ σ' : Sto} {Q : Value → Shared → Prop}

theorem o_isi {t : Ty} {a : V} {x y : Value} {r : Bool} (T : At g env as fr σ s) (ha : RepV as s.heap a x) (e : isiV t a σ = some r) (ht : tyVal t = some y) (hQ : EPost g env as fr s (.bool r) σ Q) :
    wpAny (model g.prog g.w) A (call (.builtin "isinstance") [x, y]) Q X s := by
  have hq := fun tk => hQ.bool (tk := tk) T
  have hq0 := hQ.bool' T
  cases t with
  | int =>
    cases ht
    unfold isiV at e; dsimp only at e
    split at e
    · cases e; rw [RepV] at ha; obtain ⟨u, rfl⟩ := ha; exact IsiPair.int_int hq0
    · cases e; rw [RepV] at ha; subst ha; exact IsiPair.bool_int hq0
    · cases e; rw [RepV] at ha; obtain ⟨u, rfl⟩ := ha; exact IsiPair.str_int (hq _)
    · cases e; rw [RepV] at ha; obtain ⟨ad, items, n, rfl, ho, _⟩ := ha; exact IsiPair.tuple_int ho rfl (hq _)
    · split at e
      · rename_i l vs hl
        cases e; obtain ⟨ad, items, n, rfl, _, ho, _⟩ := rep_list T.R ha (getL_of hl); exact IsiPair.list_int ho rfl (hq _)
      · cases e
    · cases e
  | bool =>
    cases ht
    unfold isiV at e; dsimp only at e
    split at e
    · cases e; rw [RepV] at ha; obtain ⟨u, rfl⟩ := ha; exact IsiPair.int_bool (hq _)
    · cases e; rw [RepV] at ha; subst ha; exact IsiPair.bool_bool hq0
    · cases e; rw [RepV] at ha; obtain ⟨u, rfl⟩ := ha; exact IsiPair.str_bool (hq _)
    · cases e; rw [RepV] at ha; obtain ⟨ad, items, n, rfl, ho, _⟩ := ha; exact IsiPair.tuple_bool ho rfl (hq _)
    · split at e
      · rename_i l vs hl
        cases e; obtain ⟨ad, items, n, rfl, _, ho, _⟩ := rep_list T.R ha (getL_of hl); exact IsiPair.list_bool ho rfl (hq _)
      · cases e
    · cases e
  | tuple =>
    cases ht
    unfold isiV at e; dsimp only at e
    split at e
    · cases e; rw [RepV] at ha; obtain ⟨u, rfl⟩ := ha; exact IsiPair.int_tuple (hq _)
    · cases e; rw [RepV] at ha; subst ha; exact IsiPair.bool_tuple (hq _)
    · cases e; rw [RepV] at ha; obtain ⟨u, rfl⟩ := ha; exact IsiPair.str_tuple (hq _)
    · cases e; rw [RepV] at ha; obtain ⟨ad, items, n, rfl, ho, _⟩ := ha; exact IsiPair.tuple_tuple ho rfl hq0
    · split at e
      · rename_i l vs hl
        cases e; obtain ⟨ad, items, n, rfl, _, ho, _⟩ := rep_list T.R ha (getL_of hl); exact IsiPair.list_tuple ho rfl (hq _)
      · cases e
    · cases e
  | list =>
    cases ht
    unfold isiV at e; dsimp only at e
    split at e
    · cases e; rw [RepV] at ha; obtain ⟨u, rfl⟩ := ha; exact IsiPair.int_list (hq _)
    · cases e; rw [RepV] at ha; subst ha; exact IsiPair.bool_list (hq _)
    · cases e; rw [RepV] at ha; obtain ⟨u, rfl⟩ := ha; exact IsiPair.str_list (hq _)
    · cases e; rw [RepV] at ha; obtain ⟨ad, items, n, rfl, ho, _⟩ := ha; exact IsiPair.tuple_list ho rfl (hq _)
    · split at e
      · rename_i l vs hl
        cases e; obtain ⟨ad, items, n, rfl, _, ho, _⟩ := rep_list T.R ha (getL_of hl); exact IsiPair.list_list ho rfl hq0
      · cases e
    · cases e
  | inst => cases ht
  | exc c => cases ht

noncomputable def at0 (l : List Int) (i : Nat) : Int := l.getD i 0
set_option tactic.hygienic false in
theorem ints_get {xs : List Value} {is : List Int} (h : IntsAre xs is) (i : Nat) {v : Value} (e : xs[i]? = some v) : ∃ t, v = .int (at0 is i) t := by
  induction h generalizing i with
  | nil => simp at e
  | cons n t _ ih =>
    cases i with
    | zero => simp at e; subst e; exact ⟨t, rfl⟩
    | succ i => simpa [at0] using ih i (by simpa using e)

theorem argBest_max (is : List Int) (x : Int) : ∀ k, k ≤ is.length →
    at0 (x :: is) (argBest (fun i j => decide (at0 (x :: is) j < at0 (x :: is) i)) k) = (is.take k).foldl (fun a b => if a < b then b else a) x
  | 0, _ => by simp [argBest, at0]
  | k + 1, hk => by
    have ih := argBest_max is x k (by lia)
    have hlt : k < is.length := by lia
    rw [List.take_succ_eq_append_getElem hlt, List.foldl_append, ← ih]
    simp only [argBest, List.foldl_cons, List.foldl_nil]
    have e0 : at0 (x :: is) (k + 1) = is[k] := by simp [at0, hlt]
    split
    · rename_i h
      have h' := of_decide_eq_true h
      rw [e0] at h'
      rw [if_pos h']; exact e0
    · rename_i h
      have h' := of_decide_eq_false (Bool.eq_false_iff.mpr h)
      rw [e0] at h'
      rw [if_neg h']
theorem argBest_min (is : List Int) (x : Int) : ∀ k, k ≤ is.length →
    at0 (x :: is) (argBest (fun i j => decide (at0 (x :: is) i < at0 (x :: is) j)) k) = (is.take k).foldl (fun a b => if b < a then b else a) x
  | 0, _ => by simp [argBest, at0]
  | k + 1, hk => by
    have ih := argBest_min is x k (by lia)
    have hlt : k < is.length := by lia
    rw [List.take_succ_eq_append_getElem hlt, List.foldl_append, ← ih]
    simp only [argBest, List.foldl_cons, List.foldl_nil]
    have e0 : at0 (x :: is) (k + 1) = is[k] := by simp [at0, hlt]
    split
    · rename_i h
      have h' := of_decide_eq_true h
      rw [e0] at h'
      rw [if_pos h']; exact e0
    · rename_i h
      have h' := of_decide_eq_false (Bool.eq_false_iff.mpr h)
      rw [e0] at h'
      rw [if_neg h']

set_option tactic.hygienic false in
theorem step_wr {h h' h2 : Heap} {wr : List Addr} (k1 : ∀ (a : Addr) (o : Obj), h.get? a = some o → h2.get? a = some o) (k : ∀ (b : Addr) (o : Obj), b ∉ wr → h2.get? b = some o → h'.get? b = some o) (hw : ∀ b ∈ wr, h.get? b = none) :
    ∀ (a : Addr) (o : Obj), h.get? a = some o → h'.get? a = some o := fun a o e => k a o (fun q => by rw [hw a q] at e; cases e) (k1 a o e)

set_option tactic.hygienic false in
theorem o_max {l : Nat} {x : Value} {is : List Int} {v : Int} {n : Nat} (T : At g env as fr σ s) (hA : Room A n) (ha : RepV as s.heap (.ref l) x) (e1 : (getL σ l).bind intsOf = some is) (e2 : maxL is = some v)
    (hQ : EPost g env as fr s (.int v) σ Q) : wpAny (model g.prog g.w) A (call (.builtin "max") [x]) Q X s := by
  obtain ⟨vs, e3, e4⟩ := Option.bind_eq_some_iff.mp e1
  obtain ⟨ad, items, m, rfl, hd, ho, hr, hz, hsz⟩ := rep_list T.R ha e3
  have hi := intsAre_of e4 hr
  cases is with
  | nil => cases e2
  | cons y ys =>
    cases e2
    have hlen := hi.length
    simp at hlen
    have hne : ad ≠ s.heap.objs.size := Nat.ne_of_lt (Heap.lt_size ho)
    refine call_max_walk (wpAny_pyIter_list ho.isList ?_)
    refine ⟨s.heap.objs.size, _, _, items.size, _, _, fun i j => decide (at0 (y :: ys) j < at0 (y :: ys) i), rfl, Walks.list (A := A.in1) hA.handled s.heap.objs.size ad hne items, ⟨⟨_, Heap.get?_push_size _ rfl, rfl, rfl⟩, ho.isList.push _⟩, ?_, by lia, ?_, ?_⟩
    · intro b hb
      rcases List.mem_cons.mp hb with rfl | hb
      · rw [Heap.size_push]; exact Nat.lt_succ_self _
      · rw [List.mem_singleton.mp hb, Heap.size_push]; exact Nat.lt_succ_of_lt (Heap.lt_size ho)
    · intro i j vi vj s' Q' E' hvi hvj hq
      obtain ⟨t, rfl⟩ := ints_get hi i (by simpa using hvi)
      obtain ⟨u, rfl⟩ := ints_get hi j (by simpa using hvj)
      exact PyProof.Rows.gt_int hq
    · intro v h' tk hv hk
      obtain ⟨t, rfl⟩ := ints_get hi _ (by simpa using hv)
      have e5 := argBest_max ys y (items.size - 1) (by lia)
      rw [List.take_of_length_le (by lia)] at e5
      rw [e5]
      have kk := step_wr (h := s.heap) (keeps_push _ _) hk (by intro b hb; rw [List.mem_singleton.mp hb]; exact new_none _)
      exact hQ.use T (Step.of_ext kk) (T.R.ext kk) (by rw [RepV]; exact ⟨_, rfl⟩)
set_option tactic.hygienic false in
theorem o_min {l : Nat} {x : Value} {is : List Int} {v : Int} {n : Nat} (T : At g env as fr σ s) (hA : Room A n) (ha : RepV as s.heap (.ref l) x) (e1 : (getL σ l).bind intsOf = some is) (e2 : minL is = some v)
    (hQ : EPost g env as fr s (.int v) σ Q) : wpAny (model g.prog g.w) A (call (.builtin "min") [x]) Q X s := by
  obtain ⟨vs, e3, e4⟩ := Option.bind_eq_some_iff.mp e1
  obtain ⟨ad, items, m, rfl, hd, ho, hr, hz, hsz⟩ := rep_list T.R ha e3
  have hi := intsAre_of e4 hr
  cases is with
  | nil => cases e2
  | cons y ys =>
    cases e2
    have hlen := hi.length
    simp at hlen
    have hne : ad ≠ s.heap.objs.size := Nat.ne_of_lt (Heap.lt_size ho)
    refine call_min_walk (wpAny_pyIter_list ho.isList ?_)
    refine ⟨s.heap.objs.size, _, _, items.size, _, _, fun i j => decide (at0 (y :: ys) i < at0 (y :: ys) j), rfl, Walks.list (A := A.in1) hA.handled s.heap.objs.size ad hne items, ⟨⟨_, Heap.get?_push_size _ rfl, rfl, rfl⟩, ho.isList.push _⟩, ?_, by lia, ?_, ?_⟩
    · intro b hb
      rcases List.mem_cons.mp hb with rfl | hb
      · rw [Heap.size_push]; exact Nat.lt_succ_self _
      · rw [List.mem_singleton.mp hb, Heap.size_push]; exact Nat.lt_succ_of_lt (Heap.lt_size ho)
    · intro i j vi vj s' Q' E' hvi hvj hq
      obtain ⟨t, rfl⟩ := ints_get hi i (by simpa using hvi)
      obtain ⟨u, rfl⟩ := ints_get hi j (by simpa using hvj)
      exact PyProof.Rows.lt_int hq
    · intro v h' tk hv hk
      obtain ⟨t, rfl⟩ := ints_get hi _ (by simpa using hv)
      have e5 := argBest_min ys y (items.size - 1) (by lia)
      rw [List.take_of_length_le (by lia)] at e5
      rw [e5]
      have kk := step_wr (h := s.heap) (keeps_push _ _) hk (by intro b hb; rw [List.mem_singleton.mp hb]; exact new_none _)
      exact hQ.use T (Step.of_ext kk) (T.R.ext kk) (by rw [RepV]; exact ⟨_, rfl⟩)
end
end Mine

set_option autoImplicit false
set_option maxRecDepth 100000
namespace Mine
open PySem PyProof.Rows PySem.W

set_option tactic.hygienic false in
theorem rv_nolen : typeLookup (.type "list_reverseiterator") "__len__" = pure none := by rw [typeLookup_type, builtinLookup_eq_fast]; kernel_rfl
set_option tactic.hygienic false in
theorem rv_hint : typeLookup (.type "list_reverseiterator") "__length_hint__" = pure (some (.builtin "list_reverseiterator.__length_hint__")) := by rw [typeLookup_type, builtinLookup_eq_fast]; kernel_rfl

section
variable {prog : Program} {w : World} {A : Around} {E : Value → Shared → Prop} {s : Shared} {r : Addr}
set_option tactic.hygienic false in
theorem hint_rev {Q : Bool → Shared → Prop} (hT : s.TypeIs (.ref r) "list_reverseiterator") (h : Q false s) : wpAny (model prog w) A (Builtin.List.listLengthHint (.ref r)) Q E s := by
  unfold Builtin.List.listLengthHint
  refine wpAny_bind (wpAny_specialOf hT rv_nolen ?_)
  refine wpAny_ite_split (fun hab => absurd hab (by decide +kernel)) (fun _ => ?_)
  refine wpAny_ite_split (fun hab => absurd hab (by decide +kernel)) (fun _ => ?_)
  refine wpAny_bind (wpAny_specialOf hT rv_hint ?_)
  generalize hid : ("list_reverseiterator.__length_hint__" : String) = id0
  wp_delta
  rw [show splitId id0 = some ("list_reverseiterator", "__length_hint__") from by subst hid; decide +kernel]
  subst hid
  refine wpAny_bind (wpAny_isInstance (T := "list_reverseiterator") (b := true) hT (by rw [isSubtype_type]; kernel_rfl) ?_)
  refine wpAny_ite_split (fun hab => absurd hab (by decide)) (fun _ => ?_)
  refine wpAny_ite_split (fun _ => ?_) (fun hab => absurd (by decide +kernel) hab)
  refine wpAny_ite_split (fun hab => absurd hab (by decide +kernel)) (fun _ => ?_)
  exact wpAny_pure h

set_option tactic.hygienic false in
theorem rev_items {items acc : Array Value} (h : ItemsOf (fun i v => items[items.size - 1 - i]? = some v) acc items.size) : acc.toList = items.toList.reverse := by
  apply List.ext_getElem?
  intro i
  by_cases hi : i < items.size
  · have h1 : i < acc.size := by rw [h.1]; exact hi
    have h2 := h.2 i acc[i] (by simp [h1])
    rw [List.getElem?_reverse (by simpa using hi)]
    simp only [Array.getElem?_toList, Array.length_toList]
    rw [h2]; simp [h1]
  · rw [List.getElem?_eq_none (by simp; have := h.1; lia), List.getElem?_eq_none (by simp; lia)]

set_option tactic.hygienic false in
theorem call_list_rev {l : Addr} {items : Array Value} {Q : Value → Shared → Prop} (hh : A.handled = none) (hr : s.heap.IsRevIter r l ((items.size : Int) - 1)) (hl : s.heap.IsList l items) (hz : items.size ≤ sizeLine)
    (hQ : ∀ h' tk acc c', (∀ (b : Addr) (o : Obj), b ≠ r → s.heap.get? b = some o → h'.get? b = some o) → h'.get? s.heap.objs.size = some { cls := .type "list", dict := none, data := .seq acc c', slots := #[] } → acc.toList = items.toList.reverse →
      Q (.ref s.heap.objs.size) { s with heap := h', toks := tk }) : wpAny (model prog w) A (call (.type "list") [.ref r]) Q E s := by
  have hrl : r < s.heap.objs.size := by obtain ⟨o, e, _⟩ := hr; exact Heap.lt_size e
  have hll : l < s.heap.objs.size := by obtain ⟨o, e, _⟩ := hl; exact Heap.lt_size e
  have hne : l ≠ r := fun q => by
    obtain ⟨o, e, c, _⟩ := hr; obtain ⟨o', e', c', _⟩ := hl
    subst q; rw [e] at e'; cases e'; rw [c] at c'; simp at c'
  refine callType_codes (Q₁ := fun obj s₁ => obj = .ref s.heap.objs.size ∧ s₁ = { s with heap := s.heap.push { cls := .type "list", data := .seq #[] } }) PySem.F.called_list (PySem.F.typeCall_list_1 _) PySem.F.entry_list_init
    (code_list_new _ ⟨rfl, rfl⟩) fun obj s₁ h₁ => ?_
  obtain ⟨rfl, rfl⟩ := h₁
  generalize hS0 : s.heap.objs.size = S at *
  have hS : (s.heap.push { cls := .type "list", data := .seq #[] }).get? S = some { cls := .type "list", data := .seq #[] } := by rw [← hS0]; exact Heap.get?_push_size _ rfl
  refine ⟨⟨_, hS, rfl⟩, PySem.F.args_list_init_2 _ _, ?_⟩
  show wpAny _ _ (do let old ← Builtin.List.listItems (.ref S); Builtin.List.listUpdate (.ref S) (fun _ => #[]); letGo old.toList.reverse; Builtin.List.listExtendWith (.ref S) (.ref r) .none) _ _ _
  refine wpAny_bind ?_
  unfold Builtin.List.listItems
  refine wpAny_bind (wpAny_seqItems hS rfl (wpAny_pure ?_))
  show wpAny _ _ (updateSeq S (fun _ => #[]) >>= fun _ => letGo (#[] : Array Value).toList.reverse >>= fun _ => Builtin.List.listExtendWith (.ref S) (.ref r) .none) _ _ _
  refine wpAny_bind (wpAny_updateSeq hS rfl ?_)
  have hS₂ := Heap.get?_update_self (Obj.mapSeq (fun _ => (#[] : Array Value))) hS rfl
  refine wpAny_bind (wpAny_letGo ?_)
  generalize hH : ((s.heap.push { cls := .type "list", data := .seq #[] }).update S (Obj.mapSeq (fun _ => (#[] : Array Value)))) = H at *
  have k0 : ∀ (b : Addr) (o : Obj), s.heap.get? b = some o → H.get? b = some o := fun b o e => by
    rw [← hH, Heap.get?_update_other _ _ (by rw [← hS0]; exact Nat.ne_of_gt (Heap.lt_size e))]
    exact Heap.get?_push_of_some _ e
  have hrH : H.IsRevIter r l ((items.size : Int) - 1) := hr.at fun o e => k0 _ o e
  have hlH : H.IsList l items := hl.at fun o e => k0 _ o e
  unfold Builtin.List.listExtendWith
  refine wpAny_bind (wpAny_typeOf (T := "list_reverseiterator") hrH.typeIs ?_)
  have h1 : Builtin.List.listSameRef (.ref S) (.ref r) = false := by simp [Builtin.List.listSameRef]; exact Nat.ne_of_gt hrl
  have h2 : (Value.type "list_reverseiterator" == Value.type "list") = false := by decide
  have h3 : (Value.type "list_reverseiterator" == Value.type "tuple") = false := by decide
  simp only [h1, h2, h3, Bool.or_false, Bool.false_eq_true, if_false]
  refine wpAny_bind (wpAny_pyIter_revIter hrH ?_)
  refine wpAny_bind (wpAny_holding (hint_rev hrH.typeIs ?_))
  have W := (Walks.listRev (prog := prog) (w := w) (A := A.in1.in1) hh r l hne items).toS
  have hSf : S ∉ [r, l] := by
    intro hm
    rcases List.mem_cons.mp hm with e | hm
    · exact absurd hrl (by rw [e]; exact Nat.lt_irrefl _)
    · exact absurd hll (by rw [List.mem_singleton.mp hm]; exact Nat.lt_irrefl _)
  have key : ∀ (R : Result → Shared → Prop) (h : Heap) (c₁ tk : Nat), (∀ h' tk acc c', (∀ (b : Addr) (o : Obj), b ≠ r → s.heap.get? b = some o → h'.get? b = some o) → h'.get? S = some { cls := .type "list", dict := none, data := .seq acc c', slots := #[] } → acc.toList = items.toList.reverse →
      R (.ok (.ret .none)) { s with heap := h', toks := tk }) → (0 ≤ items.size ∧ h.IsRevIter r l ((items.size : Int) - 1 - ((0 : Nat) : Int)) ∧ h.IsList l items) → (∀ (b : Addr) (o : Obj), b ≠ S → H.get? b = some o → h.get? b = some o) →
      h.get? S = some { cls := .type "list", data := .seq #[] c₁ } → codeAny (model prog w) A.in1 (.builtin "list.extend.loop" ⟨[.ref S, .ref r, .none], []⟩) R { s with heap := h, toks := tk } := by
    intro R h c₁ tk hR hst hk hS₁
    refine codeAny_extend_loopS W hz S hSf .none items.size 0 _ #[] c₁ rfl (Nat.zero_le _) hst hS₁ (ItemsOf.nil _) fun s' acc' c' hm hS' hacc => ?_
    rw [Moved.eq_with hm]
    refine hR s'.heap s'.toks acc' c' (fun b o hb e => hm.heap b o (fun hmem => ?_) (hk b o ?_ (k0 b o e))) hS' (rev_items hacc)
    · rcases List.mem_cons.mp hmem with e' | hmem
      · rw [e'] at e; exact absurd (Heap.lt_size e) (by rw [← hS0]; exact Nat.lt_irrefl _)
      · exact hb (List.mem_singleton.mp hmem)
    · rw [← hS0]; exact Nat.ne_of_lt (Heap.lt_size e)
  have st0 : 0 ≤ items.size ∧ H.IsRevIter r l ((items.size : Int) - 1 - ((0 : Nat) : Int)) ∧ H.IsList l items := ⟨Nat.zero_le _, by simpa using hrH, hlH⟩
  refine wpAny_ite_split (fun _ => ?_) (fun _ => wpAny_pure ⟨plainId_quiet PySem.F.plain_extend_loop _, key _ _ _ _ (fun h' tk acc c' k e q => ⟨rfl, hQ h' tk acc c' k e q⟩) st0 (fun b o _ e => e) hS₂⟩)
  refine wpAny_bind (wpAny_rule (wpAny_bind ?_))
  show wpAny _ _ (updateSeq S (·.push .none) >>= fun _ => updateSeq S (·.pop)) _ _ _
  refine wpAny_bind (wpAny_updateSeq hS₂ rfl ?_)
  have hS₃ := Heap.get?_update_self (Obj.mapSeq (·.push Value.none)) hS₂ rfl
  refine wpAny_updateSeq (hz := by seq_fits) hS₃ rfl ?_
  have hS₄ := Heap.get?_update_self (Obj.mapSeq (·.pop)) hS₃ rfl
  have oth : ∀ (b : Addr) (o : Obj), b ≠ S → H.get? b = some o → ((H.update S (Obj.mapSeq (·.push Value.none))).update S (Obj.mapSeq (·.pop))).get? b = some o := fun b o hb e => by
    rw [Heap.get?_update_other _ _ (Ne.symm hb), Heap.get?_update_other _ _ (Ne.symm hb)]; exact e
  refine wpAny_pure ⟨plainId_quiet PySem.F.plain_extend_loop _, key _ _ _ _ (fun h' tk acc c' k e q => ⟨rfl, hQ h' tk acc c' k e q⟩) ⟨st0.1, st0.2.1.at fun o e => oth _ o (Nat.ne_of_lt hrl) e, st0.2.2.at fun o e => oth _ o (Nat.ne_of_lt hll) e⟩ oth hS₄⟩
end

end Mine

set_option autoImplicit false
set_option maxRecDepth 100000
namespace Mine
open PySem PyProof.Rows

noncomputable def bltVal : BN → Value
  | .len => .builtin "len" | .max => .builtin "max" | .min => .builtin "min" | .all => .builtin "all"
  | .list => .type "list" | .tuple => .type "tuple" | .int => .type "int" | .range => .type "range"
  | _ => .none

section
variable {g : Cfg} {env : Env} {A : Around} {X : Value → Shared → Prop} {s : Shared} {as : List Addr} {fr : Fra} {σ σ' : Sto} {Q : Value → Shared → Prop}

set_option tactic.hygienic false in
theorem rng_size {lo hi : Int} (h : -1000000 ≤ lo ∧ lo ≤ 1000000 ∧ -1000000 ≤ hi ∧ hi ≤ 1000000) : Builtin.Range.rangeSize lo hi 1 = (((hi - lo).toNat : Nat) : Int) ∧ Builtin.Range.small lo hi 1 = true := by
  constructor
  · unfold Builtin.Range.rangeSize
    simp only [show (1 : Int) > 0 from by lia, if_true]
    split
    · rw [Int.toNat_of_nonneg (by lia)]; lia
    · rw [Int.toNat_of_nonpos (by lia)]; rfl
  · exact small_one (by lia) (by lia) (by lia) (by lia)

set_option tactic.hygienic false in
theorem rng_rep {h : Heap} {lo hi : Int} {acc : Array Value} (hacc : ItemsOf (fun i v => ∃ t, v = Value.int (lo + (i : Int) * 1) t) acc (hi - lo).toNat) : RepVs as h (rngL lo hi) acc.toList := by
  rw [RepVs.f2]
  have key : ∀ (n k : Nat) (xs : List Value), xs.length = n → (∀ j v, xs[j]? = some v → ∃ t, v = Value.int (lo + ((k + j : Nat) : Int)) t) → F2 (RepV as h) ((List.range' k n).map fun (k : Nat) => V.int (lo + (k : Int))) xs := by
    intro n
    induction n with
    | zero => intro k xs h1 _; simp at h1; subst h1; exact .nil
    | succ n ih =>
      intro k xs h1 h2
      cases xs with
      | nil => simp at h1
      | cons x xs =>
        rw [List.range'_succ, List.map_cons]
        refine .cons ?_ (ih (k + 1) xs (by simpa using h1) fun j v e => ?_)
        · obtain ⟨t, rfl⟩ := h2 0 x rfl
          rw [RepV]; exact ⟨t, by simp⟩
        · obtain ⟨t, rfl⟩ := h2 (j + 1) v (by simpa using e)
          exact ⟨t, by congr 2; lia⟩
  unfold rngL
  rw [List.range_eq_range']
  refine key _ 0 _ (by simpa using hacc.1) fun j v e => ?_
  obtain ⟨t, rfl⟩ := hacc.2 j v (by simpa using e)
  exact ⟨t, by simp⟩

theorem all_get : ∀ {vs : List V} {xs : List Value} {h : Heap} {b : Bool}, allB vs = some b → RepVs as h vs xs →
    ∃ bs : List Bool, xs = bs.map Value.bool ∧ b = bs.all id
  | [], xs, h, b, e, r => by rw [allB] at e; cases e; rw [RepVs] at r; subst r; exact ⟨[], rfl, rfl⟩
  | v :: vs, xs, h, b, e, r => by
    rw [RepVs] at r
    obtain ⟨y, ys, rfl, r1, r2⟩ := r
    cases v with
    | bool c =>
      rw [allB] at e
      split at e
      · rename_i d hd
        cases e
        obtain ⟨bs, rfl, rfl⟩ := all_get hd r2
        rw [RepV] at r1; subst r1
        exact ⟨c :: bs, rfl, by simp⟩
      · cases e
    | _ => simp [allB] at e

set_option tactic.hygienic false in
theorem range_all (bs : List Bool) : (List.range bs.length).all (fun i => bs.getD i true) = bs.all id := by
  rw [Bool.eq_iff_iff, List.all_eq_true, List.all_eq_true]
  constructor
  · intro h b hb
    obtain ⟨i, hi, rfl⟩ := List.getElem_of_mem hb
    have := h i (List.mem_range.mpr hi)
    simpa [hi] using this
  · intro h i hi
    have hi' := List.mem_range.mp hi
    have := h bs[i] (List.getElem_mem hi')
    simpa [hi'] using this

set_option tactic.hygienic false in
theorem one_rep {h : Heap} {a : V} {xs : List Value} (r : RepVs as h [a] xs) : ∃ x, xs = [x] ∧ RepV as h a x := by
  rw [RepVs] at r; obtain ⟨y, ys, rfl, r1, r2⟩ := r; rw [RepVs] at r2; subst r2; exact ⟨y, rfl, r1⟩
set_option tactic.hygienic false in
theorem two_rep {h : Heap} {a c : V} {xs : List Value} (r : RepVs as h [a, c] xs) : ∃ x y, xs = [x, y] ∧ RepV as h a x ∧ RepV as h c y := by
  rw [RepVs] at r; obtain ⟨y, ys, rfl, r1, r2⟩ := r; obtain ⟨z, rfl, r3⟩ := one_rep r2; exact ⟨y, z, rfl, r1, r3⟩
set_option tactic.hygienic false in
theorem ofOpt_inv {o : Option V} {v : V} (e : ofOpt σ o = .ok v σ') : o = some v ∧ σ' = σ := by
  cases o with
  | none => exact bad_ok e
  | some w => cases e; exact ⟨rfl, rfl⟩
section
variable {vs : List V} {xs : List Value} {v : V} {n : Nat}
set_option tactic.hygienic false in
theorem b_len (G : Sys g) (T : At g env as fr σ s) (ha : RepVs as s.heap vs xs) (e : bLen vs σ = .ok v σ') (hQ : EPost g env as fr s v σ' Q) : wpAny (model g.prog g.w) A (call (.builtin "len") xs) Q X s := by
  rcases vs with _ | ⟨a, _ | ⟨b, vs⟩⟩ <;> first | exact bad_ok e | skip
  obtain ⟨h, rfl⟩ := ofOpt_inv e
  obtain ⟨x, rfl, r⟩ := one_rep ha
  obtain ⟨i, h1, rfl⟩ := map_inv h
  exact o_len G T r h1 hQ
set_option tactic.hygienic false in
theorem ints_inv {f : List Int → Option Int} (e : bInts f vs σ = .ok v σ') : ∃ l is i, vs = [.ref l] ∧ (getL σ l).bind intsOf = some is ∧ f is = some i ∧ v = .int i ∧ σ' = σ := by
  rcases vs with _ | ⟨a, _ | ⟨b, vs⟩⟩
  · exact bad_ok e
  · cases a <;> first | exact bad_ok e | skip
    obtain ⟨h, rfl⟩ := ofOpt_inv e
    obtain ⟨i, h1, rfl⟩ := map_inv h
    obtain ⟨is, h2, h3⟩ := bind_inv h1
    exact ⟨_, is, i, rfl, h2, h3, rfl, rfl⟩
  · cases a <;> exact bad_ok e
set_option tactic.hygienic false in
theorem b_max (T : At g env as fr σ s) (hA : Room A n) (ha : RepVs as s.heap vs xs) (e : bMax vs σ = .ok v σ') (hQ : EPost g env as fr s v σ' Q) : wpAny (model g.prog g.w) A (call (.builtin "max") xs) Q X s := by
  have one : bInts maxL vs σ = .ok v σ' → wpAny (model g.prog g.w) A (call (.builtin "max") xs) Q X s := fun e => by
    obtain ⟨l, is, i, rfl, h1, h2, rfl, rfl⟩ := ints_inv e
    obtain ⟨x, rfl, r⟩ := one_rep ha
    exact o_max T hA r h1 h2 hQ
  rcases vs with _ | ⟨a, _ | ⟨b, _ | ⟨c, vs⟩⟩⟩
  · exact one e
  · exact one e
  · cases a <;> first | exact bad_ok e | skip
    cases b <;> first | exact bad_ok e | skip
    obtain ⟨x, y, rfl, r1, r2⟩ := two_rep ha
    cases e
    rw [RepV] at r1 r2; obtain ⟨t, rfl⟩ := r1; obtain ⟨u, rfl⟩ := r2
    obtain ⟨m, hF, _⟩ := T.F.fr T.R
    refine max_two_N hA.handled hF (news_all _ _ _) fun h' tk F' N' => ?_
    obtain ⟨K, x, R', FF⟩ := T.byNews hF.ns F' N' fun _ hp => hp
    exact hQ _ _ _ tk x R' FF (by rw [RepV]; exact ⟨_, rfl⟩)
  · exact one e
set_option tactic.hygienic false in
theorem b_min (T : At g env as fr σ s) (hA : Room A n) (ha : RepVs as s.heap vs xs) (e : bInts minL vs σ = .ok v σ') (hQ : EPost g env as fr s v σ' Q) : wpAny (model g.prog g.w) A (call (.builtin "min") xs) Q X s := by
  obtain ⟨l, is, i, rfl, h1, h2, rfl, rfl⟩ := ints_inv e
  obtain ⟨x, rfl, r⟩ := one_rep ha
  exact o_min T hA r h1 h2 hQ
theorem b_list (T : At g env as fr σ s) (hA : Room A n) (ha : RepVs as s.heap vs xs) (e : bList vs σ = .ok v σ') (hQ : EPost g env as fr s v σ' Q) : wpAny (model g.prog g.w) A (call (.type "list") xs) Q X s := by
  rcases vs with _ | ⟨a, _ | ⟨b, vs⟩⟩ <;> first | exact bad_ok e | skip
  obtain ⟨x, rfl, r⟩ := one_rep ha
  cases a <;> first | exact bad_ok e | skip
  · rename_i l
    obtain ⟨ys, h, e⟩ := gL_inv (o := getL σ l) (f := fun xs => newL xs σ) e
    obtain ⟨ad, items, m, rfl, hd, ho, hr, hz, hsz⟩ := rep_list T.R r h
    refine call_list_seq ad (T := "list") (.inl rfl) ho rfl rfl (fun h' c' k hn => ?_) (by show _ ≤ 2 ^ 24; lia)
    exact hQ.new (tk := s.toks) T k (new_none _) ⟨c', hn⟩ hr e
  · rw [RepV] at r
    obtain ⟨ad, t, u, v', rfl, ho, hb⟩ := r
    obtain ⟨h1, h2⟩ := rng_size hb
    refine call_list_range hA.handled ho h2 h1 (by lia) fun h' tk acc c' k hn hacc => ?_
    exact hQ.new T k (new_none _) ⟨c', hn⟩ (rng_rep hacc) e
theorem b_tuple (T : At g env as fr σ s) (ha : RepVs as s.heap vs xs) (e : bTuple vs σ = .ok v σ') (hQ : EPost g env as fr s v σ' Q) : wpAny (model g.prog g.w) A (call (.type "tuple") xs) Q X s := by
  rcases vs with _ | ⟨a, _ | ⟨b, vs⟩⟩ <;> first | exact bad_ok e | skip
  obtain ⟨x, rfl, r⟩ := one_rep ha
  cases a <;> first | exact bad_ok e | skip
  rename_i l
  obtain ⟨ys, h, e⟩ := gL_inv (o := getL σ l) (f := fun xs => .ok (.tup xs) σ) e
  obtain ⟨rfl, rfl⟩ := ok_inj e
  obtain ⟨ad, items, m, rfl, hd, ho, hr, hz, hsz⟩ := rep_list T.R r h
  refine call_tuple_list ho.isList (fun h' k => ?_) (by show _ ≤ 2 ^ 24; lia)
  have kk : ∀ (a : Addr) (o : Obj), s.heap.get? a = some o → (h'.push { cls := .type "tuple", data := .seq items }).get? a = some o := fun a o e => Heap.get?_push_of_some _ (k a o e)
  refine hQ.use (tk := s.toks) T (Step.of_ext kk) (T.R.ext kk) ?_
  rw [RepV]
  exact ⟨_, items, 0, rfl, Heap.get?_push_size _ rfl, by lia, RepVs.keep ⟨fun _ _ e => e, fun a o e _ => kk a o e⟩ _ _ hr⟩
set_option tactic.hygienic false in
theorem b_all (T : At g env as fr σ s) (hA : Room A n) (ha : RepVs as s.heap vs xs) (e : bAll vs σ = .ok v σ') (hQ : EPost g env as fr s v σ' Q) : wpAny (model g.prog g.w) A (call (.builtin "all") xs) Q X s := by
  rcases vs with _ | ⟨a, _ | ⟨b, vs⟩⟩ <;> first | exact bad_ok e | skip
  obtain ⟨x, rfl, r⟩ := one_rep ha
  cases a <;> first | exact bad_ok e | skip
  obtain ⟨h, rfl⟩ := ofOpt_inv e
  obtain ⟨bb, h1, rfl⟩ := map_inv h
  obtain ⟨ys, h2, h3⟩ := bind_inv h1
  obtain ⟨ad, items, m, rfl, hd, ho, hr, hz, hsz⟩ := rep_list T.R r h2
  obtain ⟨bs, hbs, rfl⟩ := all_get h3 hr
  have hne : ad ≠ s.heap.objs.size := Nat.ne_of_lt (Heap.lt_size ho)
  have hlen : items.size = bs.length := by have := congrArg List.length hbs; simpa using this
  refine call_all_walk (wpAny_pyIter_list ho.isList ?_)
  refine ⟨s.heap.objs.size, _, _, items.size, _, _, fun i => bs.getD i true, rfl, Walks.list (A := A.in1) hA.handled s.heap.objs.size ad hne items, ⟨⟨_, Heap.get?_push_size _ rfl, rfl, rfl⟩, ho.isList.push _⟩, ?_, ?_⟩
  · intro i v s' Q' E' hv hq
    have : (bs.map Value.bool)[i]? = some v := by rw [← hbs]; simpa using hv
    rw [List.getElem?_map] at this
    obtain ⟨b, hb, rfl⟩ := map_inv this
    have e6 : bs.getD i true = b := by simp [hb]
    exact wpAny_truthy_bool (by rw [← e6]; exact hq)
  · intro h' tk hk
    rw [hlen, range_all]
    have kk := step_wr (h := s.heap) (keeps_push _ _) hk (by intro b hb; rw [List.mem_singleton.mp hb]; exact new_none _)
    exact hQ.use T (Step.of_ext kk) (T.R.ext kk) (by rw [RepV])
set_option tactic.hygienic false in
theorem b_int (T : At g env as fr σ s) (ha : RepVs as s.heap vs xs) (e : bInt vs σ = .ok v σ') (hQ : EPost g env as fr s v σ' Q) : wpAny (model g.prog g.w) A (call (.type "int") xs) Q X s := by
  rcases vs with _ | ⟨a, _ | ⟨b, vs⟩⟩ <;> first | exact bad_ok e | skip
  obtain ⟨x, rfl, r⟩ := one_rep ha
  cases a <;> first | exact bad_ok e | skip
  cases e
  rw [RepV] at r; subst r
  exact call_int_bool (hQ.int T)
theorem rngV_inv {lo hi : Int} (e : rngV lo hi σ = .ok v σ') : (-1000000 ≤ lo ∧ lo ≤ 1000000 ∧ -1000000 ≤ hi ∧ hi ≤ 1000000) ∧ v = .rng lo hi ∧ σ' = σ := by
  unfold rngV at e
  split at e
  · rename_i h; cases e; exact ⟨h, rfl, rfl⟩
  · exact bad_ok e
set_option tactic.hygienic false in
theorem b_range (T : At g env as fr σ s) (ha : RepVs as s.heap vs xs) (e : bRange vs σ = .ok v σ') (hQ : EPost g env as fr s v σ' Q) : wpAny (model g.prog g.w) A (call (.type "range") xs) Q X s := by
  rcases vs with _ | ⟨a, _ | ⟨b, _ | ⟨c, vs⟩⟩⟩
  · exact bad_ok e
  · cases a <;> first | exact bad_ok e | skip
    obtain ⟨x, rfl, r⟩ := one_rep ha
    obtain ⟨hz, rfl, rfl⟩ := rngV_inv e
    rw [RepV] at r; obtain ⟨t, rfl⟩ := r
    refine call_range_1 ?_
    refine hQ.use T (Step.of_ext (keeps_push _ _)) (T.R.ext (keeps_push _ _)) ?_
    rw [RepV]; exact ⟨_, _, _, _, rfl, Heap.get?_push_size _ rfl, hz⟩
  · cases a <;> first | exact bad_ok e | skip
    cases b <;> first | exact bad_ok e | skip
    obtain ⟨x, y, rfl, r1, r2⟩ := two_rep ha
    obtain ⟨hz, rfl, rfl⟩ := rngV_inv e
    rw [RepV] at r1 r2; obtain ⟨t, rfl⟩ := r1; obtain ⟨u, rfl⟩ := r2
    refine call_range_2 ?_
    refine hQ.use T (Step.of_ext (keeps_push _ _)) (T.R.ext (keeps_push _ _)) ?_
    rw [RepV]; exact ⟨_, _, _, _, rfl, Heap.get?_push_size _ rfl, hz⟩
  · exact bad_ok e
end

set_option tactic.hygienic false in
theorem o_blt {b : BN} {vs : List V} {xs : List Value} {v : V} {n : Nat} (G : Sys g) (T : At g env as fr σ s) (hA : Room A n) (ha : RepVs as s.heap vs xs) (hb : bOk b = true)
    (e : bltV b vs σ = .ok v σ') (hQ : EPost g env as fr s v σ' Q) : wpAny (model g.prog g.w) A (call (bltVal b) xs) Q X s := by
  cases b with
  | len => exact b_len G T ha e hQ
  | max => exact b_max T hA ha e hQ
  | min => exact b_min T hA ha e hQ
  | list => exact b_list T hA ha e hQ
  | tuple => exact b_tuple T ha e hQ
  | all => exact b_all T hA ha e hQ
  | int => exact b_int T ha e hQ
  | range => exact b_range T ha e hQ
  | _ => exact ft hb
end
end Mine

set_option autoImplicit false
set_option maxRecDepth 100000
namespace Mine
open PySem PyProof.Rows PySem.W

noncomputable def GV (g : Cfg) (x : Str) (v : Value) : Prop :=
  ∃ mg mb, g.b.Ns mainGlobals mg ∧ g.b.Ns builtinsNs mb ∧ (mg x = some v ∨ (mg x = none ∧ mb x = some v))

noncomputable def CallOk (g : Cfg) (fa : Nat → Option Addr) (call : Nat → List V → Sto → RE) (n : Nat) : Prop :=
  ∀ (k : Nat) (a : Addr) (vs : List V) (σ σ' : Sto) (v : V), fa k = some a → call k vs σ = .ok v σ' →
  ∀ (A : Around) (s : Shared) (as : List Addr) (xs : List Value) (R : Result → Shared → Prop), Room A n → Rel g as σ s.heap → g.b.objs.size ≤ s.heap.objs.size → RepVs as s.heap vs xs →
    (∀ (val : Value) (as' : List Addr) (h' : Heap) (tk : Nat), Step [] as s.heap as' h' → Rel g as' σ' h' → RepV as' h' v val → R (.ok (.ret val)) { s with heap := h', toks := tk }) →
    codeAny (model g.prog g.w) A (.call (.ref a) ⟨xs, []⟩) R s

structure Glob (g : Cfg) (K : Frag) (c : CE) (fa : Nat → Option Addr) : Prop where
  sys : Sys g
  kin : K.In g.b
  const : ∀ x i, c.consts.lookup x = some i → ∃ t, GV g x (.int i t)
  fn : ∀ x k, c.fns.lookup x = some k → ∃ a, GV g x (.ref a) ∧ fa k = some a ∧ keepIn K (.ref a) = true
  cls : ∀ x k, c.clss.lookup x = some k → ∃ fI, GV g x (.ref g.C) ∧ fa k = some fI ∧ keepIn K (.ref g.C) = true ∧ makesIn K g.C = true ∧ findIn K (.ref g.C) "__init__" = some (some (.ref fI)) ∧ isFn K (.ref fI) = true
  clsO : ∀ x k, c.clss.lookup x = some k → isIn K (.ref g.C) g.C = true
  blt : ∀ x b, bltName.lookup x = some b → GV g x (bltVal b)
  typ : ∀ x t y, tyName.lookup x = some t → tyVal t = some y → GV g x y
  set : GV g "set" (.type "set")
  rev : GV g "reversed" (.type "reversed")
  sorted : GV g "sorted" (.builtin "sorted")
  isi : GV g "isinstance" (.builtin "isinstance")
  att : ∀ x k, c.attrs.lookup x = some k → g.at'.lookup k = some x ∧ plainGet K g.C x = true ∧ ∃ at', findIn K (.ref g.C) x = some at' ∧ noGet K at' = true ∧ takerIn K g.C x = some none
  hasD : ∀ x k, c.attrs.lookup x = some k → hasDictIn K g.C = true
  setA : ∀ x k, c.attrs.lookup x = some k → findIn K (.ref g.C) "__setattr__" = some (some (.builtin "object.__setattr__")) ∧ plainOver K g.C = true
  lam : ∀ a, c.lam = some a → ∃ mg, g.b.Ns mainGlobals mg ∧ CodeHd g.b a g.tab ∧ g.b.NoLimit ∧ g.b.BuiltinsAt mg g.tab ∧ mainGlobals ≠ g.tab
  mth : ∀ x f, c.mths.lookup x = some f → ∃ a, fa f = some a ∧ plainGet K g.C x = true ∧ findIn K (.ref g.C) x = some (some (.ref a)) ∧ isFn K (.ref a) = true ∧ keepIn K (.ref a) = true ∧ ∀ k, g.at'.lookup k ≠ some x

structure NamesOk (c : CE) (env : Env) : Prop where
  f2 : F2 (fun (p q : Str × NameKind) => p.1 = q.1 ∧ (p.2 = q.2 ∨ (p.2 = .free ∧ q.2 = .cell))) c.names env.scope.names
  code : ∀ a, c.lam = some a → env.code = .ref a

set_option tactic.hygienic false in
theorem lookup_get {l : List (Str × NameKind)} {x : Str} {k : NameKind} (e : l.lookup x = some k) : ∃ i, l.findIdx? (fun p => p.1 == x) = some i ∧ l[i]? = some (x, k) := by
  induction l with
  | nil => cases e
  | cons p r ih =>
    obtain ⟨y, kk⟩ := p
    rw [List.lookup_cons] at e
    rw [List.findIdx?_cons]
    by_cases h : (x == y) = true
    · rw [h] at e; simp only [Option.some.injEq] at e; subst e
      have h' := eq_of_beq h; subst h'
      exact ⟨0, by simp, rfl⟩
    · simp only [h] at e
      obtain ⟨i, h1, h2⟩ := ih e
      have hb : (y == x) = false := by
        cases q : y == x with
        | false => rfl
        | true => exact absurd (by rw [eq_of_beq q]; simp) h
      exact ⟨i + 1, by simp only [hb]; simp [h1], by simpa using h2⟩

set_option tactic.hygienic false in
theorem nodup_lookup {l : List (Str × NameKind)} (nd : (l.map (·.1)).Nodup) {i : Nat} {x : Str} {k : NameKind} (e : l[i]? = some (x, k)) : l.lookup x = some k := by
  induction l generalizing i with
  | nil => simp at e
  | cons p r ih =>
    obtain ⟨y, kk⟩ := p
    rw [List.lookup_cons]
    cases i with
    | zero => simp at e; obtain ⟨rfl, rfl⟩ := e; simp
    | succ i =>
      simp at e nd
      have : (x == y) = false := by
        cases q : x == y with
        | false => rfl
        | true => have q' := eq_of_beq q; subst q'; exact absurd (List.mem_of_getElem? e) (nd.1 k)
      rw [this]
      exact ih nd.2 e

set_option tactic.hygienic false in
theorem NamesOk.get {c : CE} {env : Env} (N : NamesOk c env) {i : Nat} {x : Str} {k : NameKind} (e : c.names[i]? = some (x, k)) : ∃ k', env.scope.names[i]? = some (x, k') ∧ (k = k' ∨ (k = .free ∧ k' = .cell)) := by
  obtain ⟨⟨y, k'⟩, h1, h2, h3⟩ := F2.get N.f2 e
  have : x = y := h2
  subst this
  exact ⟨k', h1, h3⟩

set_option tactic.hygienic false in
theorem NamesOk.map {c : CE} {env : Env} (N : NamesOk c env) : c.names.map (·.1) = env.scope.names.map (·.1) := by
  have : ∀ {a b : List (Str × NameKind)}, F2 (fun (p q : Str × NameKind) => p.1 = q.1 ∧ (p.2 = q.2 ∨ (p.2 = .free ∧ q.2 = .cell))) a b → a.map (·.1) = b.map (·.1) := by
    intro a b h
    induction h with
    | nil => rfl
    | cons x _ ih => simp only [List.map_cons, ih]; rw [x.1]
  exact this N.f2

theorem loc_get {c : CE} {x : Str} {i : Nat} (e : c.loc? x = some i) : ∃ k, c.names[i]? = some (x, k) ∧ (k = .local ∨ k = .cell ∨ k = .free) := by
  unfold CE.loc? at e
  split at e
  · rename_i h; obtain ⟨j, h1, h2⟩ := lookup_get h; rw [h1] at e; cases e; exact ⟨_, h2, .inl rfl⟩
  · rename_i h; obtain ⟨j, h1, h2⟩ := lookup_get h; rw [h1] at e; cases e; exact ⟨_, h2, .inr (.inl rfl)⟩
  · rename_i h; obtain ⟨j, h1, h2⟩ := lookup_get h; rw [h1] at e; cases e; exact ⟨_, h2, .inr (.inr rfl)⟩
  · cases e

section
variable {g : Cfg} {K : Frag} {c : CE} {fa : Nat → Option Addr} {env : Env} {A : Around} {X : Value → Shared → Prop} {s : Shared} {as : List Addr} {fr : Fra} {σ σ' : Sto} {Q : Value → Shared → Prop}

set_option tactic.hygienic false in
theorem o_glob {x : Str} {v : Value} (T : At g env as fr σ s) (N : NamesOk c env) (hg : c.glob x = true) (hd : (x == ("__debug__" : Str)) = false) (G : GV g x v) (h : Q v s) {pos : Pos} : wpAny (model g.prog g.w) A (eval (.Name x pos) env) Q X s := by
  unfold CE.glob at hg
  have hl : c.names.lookup x = some .globalImplicit := eq_of_beq hg
  obtain ⟨i, _, h2⟩ := lookup_get hl
  obtain ⟨k', h3, h4⟩ := N.get h2
  have hk : k' = .globalImplicit := by
    rcases h4 with h4 | h4
    · exact h4.symm
    · cases h4.1
  subst hk
  have hx : env.kindOf x = some .globalImplicit := nodup_lookup T.F.nd h3
  obtain ⟨mg, mb, g1, g2, g3⟩ := G
  refine Calls.Name_function_global T.F.kind hx ?_ hd
  rcases g3 with g3 | ⟨g3, g4⟩
  · exact Calls.loadGlobal_global (by rw [T.F.glob]; exact g1.keeps T.R.base) g3 h
  · exact Calls.loadGlobal_builtin (by rw [T.F.glob]; exact g1.keeps T.R.base) g3 (by rw [T.F.blt]; exact g2.keeps T.R.base) g4 h

set_option tactic.hygienic false in
theorem o_loc {x : Str} {i : Nat} {v : V} (T : At g env as fr σ s) (N : NamesOk c env) (hl : c.loc? x = some i) (hd : (x == ("__debug__" : Str)) = false) (hc : (x == ("__classdict__" : Str)) = false) (e : fr[i]? = some (some v))
    (hQ : EPost g env as fr s v σ Q) {pos : Pos} : wpAny (model g.prog g.w) A (eval (.Name x pos) env) Q X s := by
  obtain ⟨k, h1, h2⟩ := loc_get hl
  obtain ⟨k', h3, h4⟩ := N.get h1
  have hx : env.kindOf x = some k' := nodup_lookup T.F.nd h3
  refine wpAny_Name ?_ hd
  have hk : k' = .local ∨ k' = .cell ∨ k' = .free := by
    rcases h4 with h4 | h4
    · subst h4; exact h2
    · exact .inr (.inl h4.2)
  rcases hk with rfl | rfl | rfl
  · obtain ⟨m, hm, hv⟩ := T.F.ns
    obtain ⟨val, e1, e2⟩ := hv i x v h3 e
    exact wpAny_loadName_local T.F.kind hx hm e1 (hQ.same' T e2)
  · obtain ⟨cc, cv, e1, e2, e3⟩ := T.F.cells i x _ h3 (.inl rfl)
    obtain ⟨val, rfl, e5⟩ := e3 v e
    exact wpAny_loadName_cell T.F.kind hx e1 e2 (hQ.same' T e5)
  · obtain ⟨cc, cv, e1, e2, e3⟩ := T.F.cells i x _ h3 (.inr rfl)
    obtain ⟨val, rfl, e5⟩ := e3 v e
    exact wpAny_loadName_free T.F.kind hx e1 e2 (hQ.same' T e5) hc
end
end Mine

set_option autoImplicit false
set_option maxRecDepth 100000
set_option linter.unusedVariables false
namespace Mine
open PySem PyProof.Rows PySem.W

noncomputable def SndE (g : Cfg) (c0 : CE) (call : Nat → List V → Sto → RE) (r n : Nat) : Prop :=
  ∀ (names : List (Str × NameKind)) (e : Expr) (e' : E), compE n (c0.sub names) e = some e' →
  ∀ (env : Env) (A : Around) (X : Value → Shared → Prop) (s : Shared) (as : List Addr) (fr : Fra) (σ σ' : Sto) (v : V) (Q : Value → Shared → Prop),
    NamesOk (c0.sub names) env → Room A (r + 1) → At g env as fr σ s → evE call e' fr σ = .ok v σ' → EPost g env as fr s v σ' Q → wpAny (model g.prog g.w) A (eval e env) Q X s

noncomputable def BPost (g : Cfg) (env : Env) (as : List Addr) (fr : Fra) (s : Shared) (b : Bool) (σ' : Sto) (Q : Bool → Shared → Prop) : Prop :=
  ∀ (as' : List Addr) (h' : Heap) (tk : Nat), Step [env.locals] as s.heap as' h' → Rel g as' σ' h' → FrRel g env as' fr h' → Q b { s with heap := h', toks := tk }

noncomputable def SndT (g : Cfg) (c0 : CE) (call : Nat → List V → Sto → RE) (r n : Nat) : Prop :=
  ∀ (names : List (Str × NameKind)) (e : Expr) (e' : E), compE n (c0.sub names) e = some e' →
  ∀ (env : Env) (A : Around) (X : Value → Shared → Prop) (s : Shared) (as : List Addr) (fr : Fra) (σ σ' : Sto) (b : Bool) (Q : Bool → Shared → Prop),
    NamesOk (c0.sub names) env → Room A (r + 1) → At g env as fr σ s → evE call e' fr σ = .ok (.bool b) σ' → BPost g env as fr s b σ' Q → wpAny (model g.prog g.w) A (isTrue e env (eval e env)) Q X s

set_option tactic.hygienic false in
theorem bind_ok {r : RE} {k : V → Sto → RE} {v : V} {σ' : Sto} (e : r.bind k = .ok v σ') : ∃ u τ, r = .ok u τ ∧ k u τ = .ok v σ' := by
  cases r with
  | ok u τ => exact ⟨u, τ, rfl, e⟩
  | ex x τ => cases e
  | bad => cases e
set_option tactic.hygienic false in
theorem binds_ok {r : RE} {k : V → Sto → REs} {v : List V} {σ' : Sto} (e : r.binds k = .ok v σ') : ∃ u τ, r = .ok u τ ∧ k u τ = .ok v σ' := by
  cases r with
  | ok u τ => exact ⟨u, τ, rfl, e⟩
  | ex x τ => cases e
  | bad => cases e
set_option tactic.hygienic false in
theorem sbind_ok {r : REs} {k : List V → Sto → RE} {v : V} {σ' : Sto} (e : r.bind k = .ok v σ') : ∃ u τ, r = .ok u τ ∧ k u τ = .ok v σ' := by
  cases r with
  | ok u τ => exact ⟨u, τ, rfl, e⟩
  | ex x τ => cases e
  | bad => cases e
set_option tactic.hygienic false in
theorem sbinds_ok {r : REs} {k : List V → Sto → REs} {v : List V} {σ' : Sto} (e : r.binds k = .ok v σ') : ∃ u τ, r = .ok u τ ∧ k u τ = .ok v σ' := by
  cases r with
  | ok u τ => exact ⟨u, τ, rfl, e⟩
  | ex x τ => cases e
  | bad => cases e

set_option tactic.hygienic false in
theorem bind_el {r : RE} {k : V → Sto → RE} {v : V} {σ' : Sto} {P : Prop} (e : r.bind k = .ok v σ') (h : ∀ u τ, r = .ok u τ → k u τ = .ok v σ' → P) : P := let ⟨u, τ, h1, h2⟩ := bind_ok e; h u τ h1 h2
set_option tactic.hygienic false in
theorem binds_el {r : RE} {k : V → Sto → REs} {v : List V} {σ' : Sto} {P : Prop} (e : r.binds k = .ok v σ') (h : ∀ u τ, r = .ok u τ → k u τ = .ok v σ' → P) : P := let ⟨u, τ, h1, h2⟩ := binds_ok e; h u τ h1 h2
set_option tactic.hygienic false in
theorem sbind_el {r : REs} {k : List V → Sto → RE} {v : V} {σ' : Sto} {P : Prop} (e : r.bind k = .ok v σ') (h : ∀ u τ, r = .ok u τ → k u τ = .ok v σ' → P) : P := let ⟨u, τ, h1, h2⟩ := sbind_ok e; h u τ h1 h2
set_option tactic.hygienic false in
theorem sbinds_el {r : REs} {k : List V → Sto → REs} {v : List V} {σ' : Sto} {P : Prop} (e : r.binds k = .ok v σ') (h : ∀ u τ, r = .ok u τ → k u τ = .ok v σ' → P) : P := let ⟨u, τ, h1, h2⟩ := sbinds_ok e; h u τ h1 h2

section
variable {g : Cfg} {K : Frag} {c0 : CE} {fa : Nat → Option Addr} {call : Nat → List V → Sto → RE} {env : Env} {A : Around} {X : Value → Shared → Prop} {s : Shared} {as : List Addr} {fr : Fra} {σ σ' : Sto} {r n : Nat}
  {names : List (Str × NameKind)}

set_option tactic.hygienic false in
theorem At.step (T : At g env as fr σ s) {as' : List Addr} {h' : Heap} {tk : Nat} {σ' : Sto} (R' : Rel g as' σ' h') (F' : FrRel g env as' fr h') : At g env as' fr σ' { s with heap := h', toks := tk } := ⟨F', R'⟩
set_option tactic.hygienic false in
theorem At.keep (T : At g env as fr σ s) {as' : List Addr} {h' : Heap} (x : Step [env.locals] as s.heap as' h') : Keep as s.heap as' h' := T.R.keep x T.F.notImm
set_option tactic.hygienic false in
theorem step_trans {as as1 as2 : List Addr} {h h1 h2 : Heap} {σ2 : Sto} (x : Step [env.locals] as h as1 h1) (y : Step [env.locals] as1 h1 as2 h2) (R2 : Rel g as2 σ2 h2) (F2' : FrRel g env as2 fr h2) : Step [env.locals] as h as2 h2 :=
  x.trans y R2.nd (by intro a ha; simp at ha; subst ha; exact F2'.off)

set_option tactic.hygienic false in
theorem two {e1 e2 : Expr} {a b : E} {u v : V} {τ : Sto} {Q : Value → Value → Shared → Prop} (IH : SndE g c0 call r n) (h1 : compE n (c0.sub names) e1 = some a) (h2 : compE n (c0.sub names) e2 = some b)
    (N : NamesOk (c0.sub names) env) (hA : Room A (r + 1)) (T : At g env as fr σ s) (ev1 : evE call a fr σ = .ok u τ) (ev2 : evE call b fr τ = .ok v σ')
    (hQ : ∀ (x y : Value) (as' : List Addr) (h' : Heap) (tk : Nat), Step [env.locals] as s.heap as' h' → Rel g as' σ' h' → FrRel g env as' fr h' → RepV as' h' u x → RepV as' h' v y → Q x y { s with heap := h', toks := tk }) :
    wpAny (model g.prog g.w) A (eval e1 env) (fun x s1 => wpAny (model g.prog g.w) A (eval e2 env) (fun y s2 => Q x y s2) X s1) X s := by
  refine IH names e1 a h1 env A X s as fr σ τ u _ N hA T ev1 fun x as1 k1 tk1 st1 R1 F1 r1 => ?_
  refine IH names e2 b h2 env A X _ as1 fr τ σ' v _ N hA ⟨F1, R1⟩ ev2 fun y as2 k2 tk2 st2 R2 F2' r2 => ?_
  exact hQ x y as2 k2 tk2 (step_trans st1 st2 R2 F2') R2 F2' (RepV.keep (At.keep (s := { s with heap := k1, toks := tk1 }) ⟨F1, R1⟩ st2) _ _ r1) r2

set_option tactic.hygienic false in
theorem epost_of {v : V} {Q : Value → Shared → Prop} {as' : List Addr} {h' : Heap} {tk : Nat} {τ : Sto} (hQ : EPost g env as fr s v σ' Q) (x : Step [env.locals] as s.heap as' h') (R' : Rel g as' τ h') (F' : FrRel g env as' fr h') :
    EPost g env as' fr { s with heap := h', toks := tk } v σ' Q := fun val as2 h2 tk2 st2 R2 F2' r2 => hQ val as2 h2 tk2 (step_trans x st2 R2 F2') R2 F2' r2
set_option tactic.hygienic false in
theorem bpost_of {b : Bool} {Q : Bool → Shared → Prop} {as' : List Addr} {h' : Heap} {tk : Nat} {τ : Sto} (hQ : BPost g env as fr s b σ' Q) (x : Step [env.locals] as s.heap as' h') (R' : Rel g as' τ h') (F' : FrRel g env as' fr h') :
    BPost g env as' fr { s with heap := h', toks := tk } b σ' Q := fun as2 h2 tk2 st2 R2 F2' => hQ as2 h2 tk2 (step_trans x st2 R2 F2') R2 F2'

set_option tactic.hygienic false in
theorem notStarred {e : Expr} {e' : E} {c : CE} (h : compE n c e = some e') : ∀ rest env, starEach (e :: rest) env = (false, eval e env) :: starEach rest env := by
  intro rest env
  have hk := comp_kind h
  cases e <;> first | rfl | exact ft hk

set_option tactic.hygienic false in
theorem args_snd (IH : SndE g c0 call r n) {pos : Pos} : ∀ (es : List Expr) (es' : List E) (s : Shared) (as : List Addr) (σ σ' : Sto) (vs : List V) (Q : List Value → Shared → Prop),
    mapO (compE n (c0.sub names)) es = some es' → NamesOk (c0.sub names) env → Room A (r + 1) → At g env as fr σ s → evEs call es' fr σ = .ok vs σ' →
    (∀ (xs : List Value) (as' : List Addr) (h' : Heap) (tk : Nat), Step [env.locals] as s.heap as' h' → Rel g as' σ' h' → FrRel g env as' fr h' → RepVs as' h' vs xs → Q xs { s with heap := h', toks := tk }) →
    wpAny (model g.prog g.w) A (spliced (backTo pos (starEach es env))) Q X s
  | [], es', s, as, σ, σ', vs, Q, h, N, hA, T, ev, hQ => by
    rw [mapO] at h; cases h; rw [evEs] at ev; cases ev
    exact wpAny_items_nil (hQ [] as s.heap s.toks (Step.refl _ _ _) T.R T.F (by rw [RepVs]))
  | e :: es, es', s, as, σ, σ', vs, Q, h, N, hA, T, ev, hQ => by
    obtain ⟨a, as', h1, h2, rfl⟩ := mapO_cons h
    rw [evEs] at ev
    refine binds_el ev fun u τ e1 e2 => ?_
    refine sbinds_el e2 fun us τ' e3 e4 => ?_
    cases e4
    refine wpAny_items_cons ?_ (notStarred h1 _ _)
    refine IH names e a h1 env A X s as fr σ τ u _ N hA T e1 fun x as1 k1 tk1 st1 R1 F1 r1 => ?_
    refine args_snd IH es as' _ as1 τ σ' us _ h2 N hA ⟨F1, R1⟩ e3 fun xs as2 k2 tk2 st2 R2 F2' r2 => ?_
    refine hQ (x :: xs) as2 k2 tk2 (step_trans st1 st2 R2 F2') R2 F2' ?_
    rw [RepVs]
    exact ⟨x, xs, rfl, RepV.keep (At.keep (s := { s with heap := k1, toks := tk1 }) ⟨F1, R1⟩ st2) _ _ r1, r2⟩

set_option tactic.hygienic false in
theorem boolOp_snd (IH : SndE g c0 call r n) {pos : Pos} {op : BoolOp} : ∀ (es : List Expr) (es' : List E) (b' : E) (s : Shared) (as : List Addr) (σ σ' : Sto) (v : V) (Q : Value → Shared → Prop),
    mapO (compE n (c0.sub names)) es = some es' → foldB op es' = some b' → NamesOk (c0.sub names) env → Room A (r + 1) → At g env as fr σ s → evE call b' fr σ = .ok v σ' → EPost g env as fr s v σ' Q →
    wpAny (model g.prog g.w) A (boolOp pos op (evalEach es env)) Q X s
  | [], es', b', s, as, σ, σ', v, Q, h, hf, N, hA, T, ev, hQ => by rw [mapO] at h; cases h; cases hf
  | [e], es', b', s, as, σ, σ', v, Q, h, hf, N, hA, T, ev, hQ => by
    obtain ⟨a, as', h1, h2, rfl⟩ := mapO_cons h
    rw [mapO] at h2; cases h2
    simp only [foldB, Option.some.injEq] at hf; subst hf
    show wpAny _ A (eval e env) Q X s
    exact IH names e a h1 env A X s as fr σ σ' v _ N hA T ev hQ
  | e :: e2 :: es, es', b', s, as, σ, σ', v, Q, h, hf, N, hA, T, ev, hQ => by
    obtain ⟨a, as', h1, h2, rfl⟩ := mapO_cons h
    obtain ⟨a2, as2', h3, h4, rfl⟩ := mapO_cons h2
    have hf' : ∃ y, foldB op (a2 :: as2') = some y ∧ b' = mkB op a y := by
      have : foldB op (a :: a2 :: as2') = (foldB op (a2 :: as2')).map fun y => mkB op a y := rfl
      rw [this] at hf
      obtain ⟨y, q1, q2⟩ := Option.map_eq_some_iff.mp hf
      exact ⟨y, q1, q2.symm⟩
    obtain ⟨y, hy, rfl⟩ := hf'
    show wpAny _ A (do
      let v ← eval e env
      standAt pos
      let t ← holding [v] (truthy v)
      match op, t with
      | .And, false | .Or, true => pure v
      | _, _ => boolOp pos op (evalEach (e2 :: es) env)) Q X s
    cases op with
    | And =>
      dsimp only [mkB] at ev
      refine bind_el ev fun u τ e5 e6 => ?_
      refine wpAny_bind (IH names e a h1 env A X s as fr σ τ u _ N hA T e5 fun x as1 k1 tk1 st1 R1 F1 r1 => wpAny_bind (wpAny_standAt (wpAny_bind (wpAny_holding ?_))))
      split at e6
      · rw [RepV] at r1; subst r1
        refine wpAny_truthy_bool ?_
        exact boolOp_snd IH (e2 :: es) (a2 :: as2') y _ as1 τ σ' v Q h2 hy N hA ⟨F1, R1⟩ e6 (epost_of hQ st1 R1 F1)
      · cases e6
        rw [RepV] at r1; subst r1
        refine wpAny_truthy_bool (wpAny_pure ?_)
        exact hQ _ as1 k1 tk1 st1 R1 F1 (by rw [RepV])
      · cases e6
    | Or =>
      dsimp only [mkB] at ev
      refine bind_el ev fun u τ e5 e6 => ?_
      refine wpAny_bind (IH names e a h1 env A X s as fr σ τ u _ N hA T e5 fun x as1 k1 tk1 st1 R1 F1 r1 => wpAny_bind (wpAny_standAt (wpAny_bind (wpAny_holding ?_))))
      split at e6
      · rw [RepV] at r1; subst r1
        refine wpAny_truthy_bool ?_
        exact boolOp_snd IH (e2 :: es) (a2 :: as2') y _ as1 τ σ' v Q h2 hy N hA ⟨F1, R1⟩ e6 (epost_of hQ st1 R1 F1)
      · cases e6
        rw [RepV] at r1; subst r1
        refine wpAny_truthy_bool (wpAny_pure ?_)
        exact hQ _ as1 k1 tk1 st1 R1 F1 (by rw [RepV])
      · cases e6

set_option tactic.hygienic false in
theorem allTrue_snd (IH : SndT g c0 call r n) {op : BoolOp} : ∀ (es : List Expr) (es' : List E) (b' : E) (s : Shared) (as : List Addr) (σ σ' : Sto) (v : Bool) (Q : Bool → Shared → Prop),
    mapO (compE n (c0.sub names)) es = some es' → foldB op es' = some b' → NamesOk (c0.sub names) env → Room A (r + 1) → At g env as fr σ s → evE call b' fr σ = .ok (.bool v) σ' → BPost g env as fr s v σ' Q →
    wpAny (model g.prog g.w) A (allTrue op es env) Q X s
  | [], es', b', s, as, σ, σ', v, Q, h, hf, N, hA, T, ev, hQ => by rw [mapO] at h; cases h; cases hf
  | [e], es', b', s, as, σ, σ', v, Q, h, hf, N, hA, T, ev, hQ => by
    obtain ⟨a, as', h1, h2, rfl⟩ := mapO_cons h
    rw [mapO] at h2; cases h2
    simp only [foldB, Option.some.injEq] at hf; subst hf
    show wpAny _ A (do
      match op, ← isTrue e env (eval e env) with
      | .And, false => pure false
      | .Or, true => pure true
      | _, _ => allTrue op [] env) Q X s
    refine wpAny_bind (IH names e a h1 env A X s as fr σ σ' v _ N hA T ev fun as1 k1 tk1 st1 R1 F1 => ?_)
    have hq := hQ as1 k1 tk1 st1 R1 F1
    cases op <;> cases v <;> exact wpAny_pure hq
  | e :: e2 :: es, es', b', s, as, σ, σ', v, Q, h, hf, N, hA, T, ev, hQ => by
    obtain ⟨a, as', h1, h2, rfl⟩ := mapO_cons h
    obtain ⟨a2, as2', h3, h4, rfl⟩ := mapO_cons h2
    have hf' : ∃ y, foldB op (a2 :: as2') = some y ∧ b' = mkB op a y := by
      have : foldB op (a :: a2 :: as2') = (foldB op (a2 :: as2')).map fun y => mkB op a y := rfl
      rw [this] at hf
      obtain ⟨y, q1, q2⟩ := Option.map_eq_some_iff.mp hf
      exact ⟨y, q1, q2.symm⟩
    obtain ⟨y, hy, rfl⟩ := hf'
    show wpAny _ A (do
      match op, ← isTrue e env (eval e env) with
      | .And, false => pure false
      | .Or, true => pure true
      | _, _ => allTrue op (e2 :: es) env) Q X s
    cases op with
    | And =>
      dsimp only [mkB] at ev
      refine bind_el ev fun u τ e5 e6 => ?_
      split at e6
      · refine wpAny_bind (IH names e a h1 env A X s as fr σ τ true _ N hA T e5 fun as1 k1 tk1 st1 R1 F1 => ?_)
        exact allTrue_snd IH (e2 :: es) (a2 :: as2') y _ as1 τ σ' v Q h2 hy N hA ⟨F1, R1⟩ e6 (bpost_of hQ st1 R1 F1)
      · cases e6
        refine wpAny_bind (IH names e a h1 env A X s as fr σ _ false _ N hA T e5 fun as1 k1 tk1 st1 R1 F1 => wpAny_pure ?_)
        exact hQ as1 k1 tk1 st1 R1 F1
      · cases e6
    | Or =>
      dsimp only [mkB] at ev
      refine bind_el ev fun u τ e5 e6 => ?_
      split at e6
      · refine wpAny_bind (IH names e a h1 env A X s as fr σ τ false _ N hA T e5 fun as1 k1 tk1 st1 R1 F1 => ?_)
        exact allTrue_snd IH (e2 :: es) (a2 :: as2') y _ as1 τ σ' v Q h2 hy N hA ⟨F1, R1⟩ e6 (bpost_of hQ st1 R1 F1)
      · cases e6
        refine wpAny_bind (IH names e a h1 env A X s as fr σ _ true _ N hA T e5 fun as1 k1 tk1 st1 R1 F1 => wpAny_pure ?_)
        exact hQ as1 k1 tk1 st1 R1 F1
      · cases e6
end
end Mine

set_option autoImplicit false
set_option maxRecDepth 100000
set_option linter.unusedVariables false
namespace Mine
open PySem PyProof.Rows PySem.W

noncomputable def methId : MN → String
  | .append => "list.append" | .pop => "list.pop" | .clear => "list.clear" | .extend => "list.extend" | .index => "list.index"

section
variable {g : Cfg} {K : Frag} {env : Env} {A : Around} {X : Value → Shared → Prop} {s : Shared} {as : List Addr} {fr : Fra} {σ σ' : Sto} {Q : Value → Shared → Prop}

set_option tactic.hygienic false in
theorem EPost.upd {v : V} {val : Value} {l : Nat} {a : Addr} {h' : Heap} {tk : Nat} {ys : List V} {items : Array Value} (hQ : EPost g env as fr s v (setL σ l ys) Q) (T : At g env as fr σ s) (hl : as[l]? = some a)
    (k : ∀ (b : Addr) (o : Obj), b ≠ a → s.heap.get? b = some o → h'.get? b = some o) (hp : h'.PlainList a items) (r : Keep as s.heap as h' → RepVs as h' ys items.toList) (hz : ys.length ≤ 16777216) (rv : Keep as s.heap as h' → RepV as h' v val) :
    Q val { s with heap := h', toks := tk } := by
  obtain ⟨K, R', x⟩ := T.R.upd (o := .lst ys) hl k fun K => ⟨items, hp, r K, hz⟩
  exact hQ.use T x R' (rv K)

set_option tactic.hygienic false in
theorem upd_keeps (h : Heap) (a : Addr) (f : Obj → Obj) : ∀ (b : Addr) (o : Obj), b ≠ a → h.get? b = some o → (h.update a f).get? b = some o := fun b o hb e => by rw [Heap.get?_update_other _ _ (Ne.symm hb)]; exact e
set_option tactic.hygienic false in
theorem upd_plain {h : Heap} {a : Addr} {items : Array Value} {n : Nat} (ho : IsL h a items n) (f : Array Value → Array Value) : (h.update a (Obj.mapSeq f)).PlainList a (f items) := ⟨_, ho.update f⟩

theorem lay_ints {is : List Int} (h1 : is.length ≤ 1000) (h2 : ∀ j ∈ is, j.natAbs < 1024) : PyData.layable0 (.list (is.map .int)) = true := by
  have key : ∀ is : List Int, (∀ j ∈ is, j.natAbs < 1024) → PyData.canLayAll0 (is.map .int) = true ∧ PyData.depthAll (is.map .int) = 0 ∧ PyData.weightAll (is.map .int) ≤ 11 * is.length := by
    intro is
    induction is with
    | nil => intro _; exact ⟨rfl, rfl, Nat.le_refl _⟩
    | cons j r ih =>
      intro h
      obtain ⟨a, b, c⟩ := ih fun k hk => h k (.tail _ hk)
      have hj := h j (.head _)
      refine ⟨by simp [PyData.canLayAll0, PyData.canLay0, a], by simp [PyData.depthAll, PyData.depth, b], ?_⟩
      simp only [List.map_cons, PyData.weightAll, PyData.weight, List.length_cons]
      have : (if (j == 0) = true then 0 else j.natAbs.log2 + 1) ≤ 10 := by
        split
        · lia
        · rename_i h0
          have h0' : j.natAbs ≠ 0 := by intro q; apply h0; simp; lia
          exact (Nat.log2_lt h0').mpr hj
      lia
  obtain ⟨a, b, c⟩ := key is h2
  unfold PyData.layable0
  simp only [PyData.canLay0, a, PyData.depth, b, PyData.weight, Bool.true_and, Bool.and_eq_true, decide_eq_true_eq]
  have h20 : (2 : Nat) ^ 20 = 1048576 := by decide +kernel
  refine ⟨by lia, decide_eq_true ?_⟩
  rw [h20]; lia

section
variable {l : Nat} {ys vs : List V} {x : Value} {xs : List Value} {v : V} {n : Nat}
set_option tactic.hygienic false in
theorem m_append (T : At g env as fr σ s) (L : RepL as s.heap l ys x) (hs : RepVs as s.heap vs xs) (e : methV .append l ys vs σ = .ok v σ') (hQ : EPost g env as fr s v σ' Q) : wpAny (model g.prog g.w) A (call (.builtin "list.append") (x :: xs)) Q X s := by
  rcases vs with _ | ⟨v0, _ | ⟨v1, vs⟩⟩ <;> first | exact bad_ok e | skip
  obtain ⟨hz, e⟩ := if_inv e
  obtain ⟨rfl, rfl⟩ := ok_inj e
  obtain ⟨y, rfl, r1⟩ := one_rep hs
  cases L with
  | mk ad items k hd ho hr hz' hsz =>
    refine wpAny_list_append_plain ⟨k, ho⟩ (fun h' hp hsb => ?_) (by show _ ≤ 2 ^ 24; lia)
    refine hQ.upd (tk := s.toks) T hd (fun b o hb e => hsb.extBut b o hb e) hp (fun K => ?_) (by rw [List.length_append]; exact hz) (fun K => by rw [RepV])
    rw [Array.toList_push]
    exact RepVs.f2.mpr ((RepVs.f2.mp (RepVs.keep K _ _ hr)).append (.cons (RepV.keep K _ _ r1) .nil))
set_option tactic.hygienic false in
theorem m_pop (T : At g env as fr σ s) (L : RepL as s.heap l ys x) (hs : RepVs as s.heap vs xs) (e : methV .pop l ys vs σ = .ok v σ') (hQ : EPost g env as fr s v σ' Q) : wpAny (model g.prog g.w) A (call (.builtin "list.pop") (x :: xs)) Q X s := by
  rcases vs with _ | ⟨v0, vs⟩ <;> first | exact bad_ok e | skip
  rw [RepVs] at hs; subst hs
  have e : (match ys.getLast? with | some v => RE.ok v (setL σ l ys.dropLast) | none => .bad) = .ok v σ' := e
  cases hv : ys.getLast? with
  | none => rw [hv] at e; exact bad_ok e
  | some v0 =>
    rw [hv] at e
    obtain ⟨rfl, rfl⟩ := ok_inj e
    cases L with
    | mk ad items k hd ho hr hz' hsz =>
      rw [List.getLast?_eq_getElem?] at hv
      obtain ⟨y, hy, ry⟩ := (RepVs.f2.mp hr).get hv
      have hy' : items[items.size - 1]? = some y := by rw [hsz, ← Array.getElem?_toList]; exact hy
      refine call_meets F.slot_list_pop ⟨_, ho, rfl⟩ F.entry_list_pop (F.args_list_pop_1 _) (MeetsSeq.list_pop_last ad items k y hy' (by show _ ≤ 2 ^ 24; lia)) ⟨ho, ?_⟩
      refine hQ.upd (tk := s.toks) T hd (upd_keeps _ _ _) (upd_plain ho _) (fun K => ?_) (by rw [List.length_dropLast]; lia) (fun K => RepV.keep K _ _ ry)
      have hlt : items.size - 1 < items.size := (Array.getElem?_eq_some_iff.mp hy').1
      have e1 : (items.eraseIdxIfInBounds (items.size - 1)).toList = items.toList.take (items.size - 1) := by
        rw [Array.eraseIdxIfInBounds, dif_pos hlt, Array.toList_eraseIdx, show items.size - 1 = items.toList.length - 1 from by rw [Array.length_toList], List.eraseIdx_length_sub_one, List.dropLast_eq_take]
      rw [e1, List.dropLast_eq_take, ← hsz]
      exact RepVs.f2.mpr ((RepVs.f2.mp (RepVs.keep K _ _ hr)).take _)
set_option tactic.hygienic false in
theorem m_clear (T : At g env as fr σ s) (L : RepL as s.heap l ys x) (hs : RepVs as s.heap vs xs) (e : methV .clear l ys vs σ = .ok v σ') (hQ : EPost g env as fr s v σ' Q) : wpAny (model g.prog g.w) A (call (.builtin "list.clear") (x :: xs)) Q X s := by
  rcases vs with _ | ⟨v0, vs⟩ <;> first | exact bad_ok e | skip
  rw [RepVs] at hs; subst hs
  obtain ⟨rfl, rfl⟩ := ok_inj e
  cases L with
  | mk ad items k hd ho hr hz' hsz =>
    refine call_meets F.slot_list_clear ⟨_, ho, rfl⟩ F.entry_list_clear (F.args_list_clear_1 _) (AutoSeq1.list_clear_list_0 ad items k (by show _ ≤ 2 ^ 24; lia)) ⟨ho, ?_⟩
    exact hQ.upd (tk := s.toks) T hd (upd_keeps _ _ _) (upd_plain ho _) (fun K => by rw [RepVs]) (Nat.zero_le _) (fun K => by rw [RepV])
theorem m_extend (T : At g env as fr σ s) (L : RepL as s.heap l ys x) (hs : RepVs as s.heap vs xs) (e : methV .extend l ys vs σ = .ok v σ') (hQ : EPost g env as fr s v σ' Q) : wpAny (model g.prog g.w) A (call (.builtin "list.extend") (x :: xs)) Q X s := by
  rcases vs with _ | ⟨v0, _ | ⟨v1, vs⟩⟩ <;> first | exact bad_ok e | skip
  obtain ⟨y, rfl, r1⟩ := one_rep hs
  cases v0 <;> first | exact bad_ok e | skip
  rename_i k2
  obtain ⟨zs, hk, e⟩ := gL_inv (o := getL σ k2) (f := fun zs => if ys.length + zs.length ≤ 16777216 ∧ k2 ≠ l then RE.ok .none (setL σ l (ys ++ zs)) else .bad) e
  obtain ⟨hz, e⟩ := if_inv e
  obtain ⟨rfl, rfl⟩ := ok_inj e
  cases L with
  | mk ad items k hd ho hr hz' hsz =>
    cases rep_lst T.R r1 hk with
    | mk ad2 items2 k2' hd2 ho2 hr2 hz2 hsz2 =>
      refine call_meets F.slot_list_extend ⟨_, ho, rfl⟩ F.entry_list_extend (F.args_list_extend_2 _ _) (AutoSeq1.list_extend_list_list_0 ad items k ad2 items2 k2' ?_ (by show _ ≤ 2 ^ 24; lia) (by show _ ≤ 2 ^ 24 + 1; lia)) ⟨ho, ho2, ?_⟩
      · simp [Builtin.List.listTooLong, sizeLine]; lia
      · refine hQ.upd (tk := s.toks) T hd (upd_keeps _ _ _) (upd_plain ho _) (fun K => ?_) (by rw [List.length_append]; exact hz.1) (fun K => by rw [RepV])
        rw [Array.toList_append]
        exact RepVs.f2.mpr ((RepVs.f2.mp (RepVs.keep K _ _ hr)).append (RepVs.f2.mp (RepVs.keep K _ _ hr2)))
theorem m_index (T : At g env as fr σ s) (L : RepL as s.heap l ys x) (hs : RepVs as s.heap vs xs) (e : methV .index l ys vs σ = .ok v σ') (hQ : EPost g env as fr s v σ' Q) : wpAny (model g.prog g.w) A (call (.builtin "list.index") (x :: xs)) Q X s := by
  rcases vs with _ | ⟨v0, _ | ⟨v1, vs⟩⟩ <;> first | exact bad_ok e | skip
  obtain ⟨y, rfl, r1⟩ := one_rep hs
  cases v0 <;> first | exact bad_ok e | skip
  rename_i i
  have e : (match intsOf ys with | some is => if idxOk i is then RE.ok (.int (is.idxOf i)) σ else .bad | none => .bad) = .ok v σ' := e
  cases hi : intsOf ys with
  | none => rw [hi] at e; exact bad_ok e
  | some is =>
    rw [hi] at e
    obtain ⟨hz, e⟩ := if_inv e
    obtain ⟨rfl, rfl⟩ := ok_inj e
    obtain ⟨t, rfl⟩ := rep_int r1
    cases L with
    | mk ad items k hd ho hr hz' hsz => exact index_list_ints (vs := items.toList) (by simpa using ho.isList) (intsAre_of hi hr) (lay_ints hz.2.1 hz.2.2) hz.1 (hQ.int T)
set_option tactic.hygienic false in
theorem o_meth {m : MN} (hm : mOk m = true) (T : At g env as fr σ s) (L : RepL as s.heap l ys x) (hs : RepVs as s.heap vs xs) (e : methV m l ys vs σ = .ok v σ') (hQ : EPost g env as fr s v σ' Q) : wpAny (model g.prog g.w) A (call (.builtin (methId m)) (x :: xs)) Q X s := by
  cases m with
  | append => exact m_append T L hs e hQ
  | pop => exact m_pop T L hs e hQ
  | clear => exact m_clear T L hs e hQ
  | extend => exact m_extend T L hs e hQ
  | index => exact m_index T L hs e hQ
set_option tactic.hygienic false in
theorem meth_slot {x : Str} {m : MN} (h : methName.lookup x = some m) : Slot "list" x (methId m) ∧ typeOf (.builtin (methId m)) = pure (.type "method_descriptor") := by
  have := FrRel.keep.lookup_mem h
  rcases List.mem_cons.mp this with q | q
  · cases q; exact ⟨slot_list_append, rfl⟩
  rcases List.mem_cons.mp q with q | q
  · cases q; exact ⟨F.slot_list_pop, rfl⟩
  rcases List.mem_cons.mp q with q | q
  · cases q; exact ⟨F.slot_list_index, rfl⟩
  rcases List.mem_cons.mp q with q | q
  · cases q; exact ⟨F.slot_list_clear, rfl⟩
  · cases List.mem_singleton.mp q; exact ⟨F.slot_list_extend, rfl⟩
end
theorem lstV_inv {u v : V} {f : Nat → List V → RE} (e : lstV u σ f = .ok v σ') : ∃ l xs, u = .ref l ∧ getL σ l = some xs ∧ f l xs = .ok v σ' := by
  cases u <;> first | exact bad_ok e | skip
  rename_i l
  obtain ⟨xs, h1, h2⟩ := gL_inv (o := getL σ l) (f := f l) e
  exact ⟨l, xs, rfl, h1, h2⟩
theorem instV_inv {u v : V} {r : RE} (e : instV u σ r = .ok v σ') : ∃ l d ents, u = .ref l ∧ σ[l]? = some (.inst d) ∧ σ[d]? = some (.att ents) ∧ r = .ok v σ' := by
  cases u <;> first | exact bad_ok e | skip
  rename_i l
  have e : (match σ[l]? with | some o => (match o with | .inst d => (match σ[d]? with | some o => (match o with | .att _ => r | _ => .bad) | none => .bad) | _ => .bad) | none => .bad) = .ok v σ' := e
  cases h1 : σ[l]? with
  | none => rw [h1] at e; exact bad_ok e
  | some o =>
    rw [h1] at e
    cases o <;> first | exact bad_ok e | skip
    rename_i d
    have e : (match σ[d]? with | some o => (match o with | .att _ => r | _ => .bad) | none => .bad) = .ok v σ' := e
    cases h2 : σ[d]? with
    | none => rw [h2] at e; exact bad_ok e
    | some o =>
      rw [h2] at e
      cases o <;> first | exact bad_ok e | skip
      exact ⟨l, d, _, rfl, h1, h2, e⟩
end
end Mine

set_option autoImplicit false
set_option maxRecDepth 100000
set_option linter.unusedVariables false
namespace Mine
open PySem PyProof.Rows PySem.W

noncomputable def UPost (g : Cfg) (env : Env) (as : List Addr) (fr : Fra) (s : Shared) (σ' : Sto) (Q : Unit → Shared → Prop) : Prop :=
  ∀ (as' : List Addr) (h' : Heap) (tk : Nat), Step [env.locals] as s.heap as' h' → Rel g as' σ' h' → FrRel g env as' fr h' → Q () { s with heap := h', toks := tk }

section
variable {g : Cfg} {as : List Addr} {h h' : Heap}

set_option tactic.hygienic false in
theorem putI_rep {k : Int} {v : V} {y : Value} : ∀ {es : List (Int × V)} {kvs : List (Int × Value)}, F2 (fun (e : Int × V) (x : Int × Value) => e.1 = x.1 ∧ RepV as h e.2 x.2) es kvs → (kvs.map (·.1)).Nodup → RepV as h v y →
    F2 (fun (e : Int × V) (x : Int × Value) => e.1 = x.1 ∧ RepV as h e.2 x.2) (putI k v es) (stored kvs k y) := by
  intro es kvs f
  induction f with
  | nil => intro _ r; simp only [putI, stored, List.any_nil, Bool.false_eq_true, if_false, List.nil_append]; exact .cons ⟨rfl, r⟩ .nil
  | @cons a b as' bs x f' ih =>
    intro nd r
    obtain ⟨k1, v1⟩ := a
    obtain ⟨k2, y1⟩ := b
    have h1 : k1 = k2 := x.1
    subst h1
    simp only [List.map_cons, List.nodup_cons] at nd
    by_cases hk : k1 = k
    · subst hk
      have e1 : putI k1 v ((k1, v1) :: as') = (k1, v) :: as' := by simp [putI]
      have e2 : stored ((k1, y1) :: bs) k1 y = (k1, y) :: bs := by
        unfold stored
        rw [if_pos (by simp)]
        rw [List.map_cons, if_pos rfl]
        congr 1
        refine (List.map_congr_left fun p hp => ?_).trans (List.map_id _)
        rw [if_neg (fun (q : p.1 = k1) => nd.1 (q ▸ List.mem_map.mpr ⟨p, hp, rfl⟩))]; rfl
      rw [e1, e2]
      exact .cons ⟨rfl, r⟩ f'
    · have e1 : putI k v ((k1, v1) :: as') = (k1, v1) :: putI k v as' := by simp [putI, hk]
      have e2 : stored ((k1, y1) :: bs) k y = (k1, y1) :: stored bs k y := by
        unfold stored
        by_cases ha : bs.any (fun kv => decide (kv.1 = k)) = true
        · rw [if_pos (by rw [List.any_cons, ha]; simp), if_pos ha, List.map_cons, if_neg hk]
        · rw [if_neg (by rw [List.any_cons]; simp only [hk, decide_false, Bool.false_or]; exact ha), if_neg ha]; rfl
      rw [e1, e2]
      exact .cons x (ih nd.2 r)

set_option tactic.hygienic false in
theorem putT_rep {k : List Int} {v : V} {y : Value} {ka : Addr} : ∀ {es : List (List Int × V)} {xs : List (List Int × Addr × Value)}, F2 (fun (e : List Int × V) (x : List Int × Addr × Value) => e.1 = x.1 ∧ RepV as h e.2 x.2.2) es xs → (xs.map (·.1)).Nodup → RepV as h v y →
    F2 (fun (e : List Int × V) (x : List Int × Addr × Value) => e.1 = x.1 ∧ RepV as h e.2 x.2.2) (putT k v es) (storedH xs k ka y) := by
  intro es xs f
  induction f with
  | nil => intro _ r; simp only [putT, storedH, atKey, List.find?_nil, Option.map_none, Option.isSome_none, Bool.false_eq_true, if_false, List.nil_append]; exact .cons ⟨rfl, r⟩ .nil
  | @cons a b as' bs x f' ih =>
    intro nd r
    obtain ⟨k1, v1⟩ := a
    obtain ⟨k2, y1⟩ := b
    have h1 : k1 = k2 := x.1
    subst h1
    simp only [List.map_cons, List.nodup_cons] at nd
    by_cases hk : k1 = k
    · subst hk
      have e1 : putT k1 v ((k1, v1) :: as') = (k1, v) :: as' := by simp [putT]
      have e2 : storedH ((k1, y1) :: bs) k1 ka y = (k1, y1.1, y) :: bs := by
        unfold storedH
        rw [if_pos (by simp [atKey])]
        rw [List.map_cons]
        have e3 : putAt k1 y (k1, y1) = (k1, y1.1, y) := by simp [putAt]
        rw [e3]
        congr 1
        exact map_putAt_of_not_mem bs k1 y nd.1
      rw [e1, e2]
      exact .cons ⟨rfl, r⟩ f'
    · have e1 : putT k v ((k1, v1) :: as') = (k1, v1) :: putT k v as' := by
        have : (k1 == k) = false := beq_eq_false_iff_ne.mpr hk
        simp [putT, this]
      have e0 : atKey ((k1, y1) :: bs) k = atKey bs k := by
        unfold atKey
        rw [List.find?_cons]
        simp [hk]
      have e2 : storedH ((k1, y1) :: bs) k ka y = (k1, y1) :: storedH bs k ka y := by
        unfold storedH
        rw [e0]
        by_cases ha : (atKey bs k).isSome = true
        · rw [if_pos ha, if_pos ha, List.map_cons]
          have : putAt k y (k1, y1) = (k1, y1) := by simp [putAt, hk]
          rw [this]
        · rw [if_neg ha, if_neg ha]; rfl
      rw [e1, e2]
      exact .cons x (ih nd.2 r)
end

set_option tactic.hygienic false in
theorem putI_len {k : Int} {v : V} : ∀ {es : List (Int × V)}, (putI k v es).length ≤ es.length + 1
  | [] => by simp [putI]
  | e :: r => by
    rw [putI]; split
    · simp
    · have := putI_len (k := k) (v := v) (es := r); simp; lia
set_option tactic.hygienic false in
theorem putT_len {k : List Int} {v : V} : ∀ {es : List (List Int × V)}, (putT k v es).length ≤ es.length + 1
  | [] => by simp [putT]
  | e :: r => by
    rw [putT]; split
    · simp
    · have := putT_len (k := k) (v := v) (es := r); simp; lia

section
variable {g : Cfg} {K : Frag} {env : Env} {A : Around} {X : Value → Shared → Prop} {s : Shared} {as : List Addr} {fr : Fra} {σ σ' : Sto}

set_option tactic.hygienic false in
theorem UPost.use {Q : Unit → Shared → Prop} (hQ : UPost g env as fr s σ' Q) (T : At g env as fr σ s) {as' : List Addr} {h' : Heap} {tk : Nat} (x : Step [] as s.heap as' h') (R' : Rel g as' σ' h') : Q () { s with heap := h', toks := tk } :=
  hQ as' h' tk (x.grow (by simp)) R' (T.frame x)

theorem o_setItem {a i v : V} {x y z : Value} {n : Nat} {Q : Unit → Shared → Prop} (T : At g env as fr σ s) (hA : Room A n) (ha : RepV as s.heap a x) (hi : RepV as s.heap i y) (hv : RepV as s.heap v z)
    (e : setIdx a i v σ = some σ') (hQ : UPost g env as fr s σ' Q) : wpAny (model g.prog g.w) A (setItem x y z) Q X s := by
  unfold setIdx at e
  split at e
  · rename_i l k
    split at e
    · rename_i ys hl
      split at e
      case isFalse => cases e
      rename_i hz
      cases e
      obtain ⟨ad, items, m, rfl, hd, ho, hr, hz', hsz⟩ := rep_list T.R ha (getL_of hl)
      rw [RepV] at hi; obtain ⟨t, rfl⟩ := hi
      refine ki_setAt ho hz.1 (by lia) (by lia) ?_
      obtain ⟨K, R', xx⟩ := T.R.upd (o := .lst (ys.set k.toNat v)) (h' := s.heap.update ad (Obj.mapSeq (·.setIfInBounds k.toNat z))) hd (upd_keeps _ _ _) fun K => ⟨_, upd_plain ho _, by
        rw [Array.toList_setIfInBounds]
        exact RepVs.f2.mpr ((RepVs.f2.mp (RepVs.keep K _ _ hr)).set (RepV.keep K _ _ hv)), by simpa using hz'⟩
      exact hQ.use (tk := s.toks) T xx R'
    · rename_i es hl
      split at e
      case isFalse => cases e
      rename_i hz
      cases e
      rw [RepV] at ha; rw [RepV] at hi
      obtain ⟨t, rfl⟩ := hi
      obtain ⟨d, rfl, hd⟩ := ha
      obtain ⟨kvs, hk, hf, hle⟩ := T.R.obj _ _ _ hd hl
      have hnd : (kvs.map (·.1)).Nodup := by obtain ⟨_, _, _, _, _, _, _, _, q⟩ := hk; exact q
      refine wpAny_setItem_pairs (intKind_is _ _ k t) hk (fun h' hd' hsb => ?_) ?_
      · obtain ⟨K, R', xx⟩ := T.R.upd (o := .dI (putI k v es)) (h' := h') hd (fun b o hb e => hsb.extBut b o hb e) fun K => ⟨_, hd', putI_rep (hf.mono fun _ _ q => ⟨q.1, RepV.keep K _ _ q.2⟩) hnd (RepV.keep K _ _ hv), Nat.le_trans putI_len (by lia), hle.2⟩
        exact hQ.use T xx R'
      · have := hf.length; show _ ≤ 2 ^ 24; lia
    · cases e
  · rename_i l ks
    split at e
    · rename_i es k hl he
      split at e
      case isFalse => cases e
      rename_i hz
      cases e
      obtain ⟨ta, rfl, hk⟩ := tupKey_of (g := g) hi he
      rw [RepV] at ha; obtain ⟨d, rfl, hd⟩ := ha
      obtain ⟨xs, hx, hf, hle⟩ := T.R.obj _ _ _ hd hl
      have hnd : (xs.map (·.1)).Nodup := by obtain ⟨_, _, _, _, _, _, _, _, q⟩ := hx; exact q
      refine wpAny_setItem_heap (knd := tupleKind (intKind g.prog g.w)) (tupleKind_room_in1 (by have := hA.units; show _ < 9900; lia)) hk hx (fun h' hd' hsb => ?_) ?_
      · obtain ⟨K, R', xx⟩ := T.R.upd (o := .dT (putT k v es)) (h' := h') hd (fun b o hb e => hsb.extBut b o hb e) fun K => ⟨_, hd', putT_rep (hf.mono fun _ _ q => ⟨q.1, RepV.keep K _ _ q.2⟩) hnd (RepV.keep K _ _ hv), Nat.le_trans putT_len (by lia), hle.2⟩
        exact hQ.use T xx R'
      · have := hf.length; show _ ≤ 2 ^ 24; lia
    · cases e
  · cases e
end
end Mine

set_option autoImplicit false
set_option maxRecDepth 100000
set_option linter.unusedVariables false
namespace Mine
open PySem PyProof.Rows PySem.W

section
variable {g : Cfg} {K : Frag} {c0 : CE} {fa : Nat → Option Addr} {call : Nat → List V → Sto → RE} {env : Env} {A : Around} {X : Value → Shared → Prop} {s : Shared} {as : List Addr} {fr : Fra} {σ σ' : Sto} {Q : Value → Shared → Prop}

set_option tactic.hygienic false in
theorem handed {h : Heap} {v : V} {x : Value} (r : RepV as h v x) : handedIn x = true := by
  cases v with
  | none => rw [RepV] at r; subst r; rfl
  | bool b => rw [RepV] at r; subst r; rfl
  | int i => rw [RepV] at r; obtain ⟨t, rfl⟩ := r; rfl
  | str i => rw [RepV] at r; obtain ⟨t, rfl⟩ := r; rfl
  | tup i => rw [RepV] at r; obtain ⟨t, _, _, rfl, _⟩ := r; rfl
  | ref i => rw [RepV] at r; obtain ⟨t, rfl, _⟩ := r; rfl
  | rng i j => rw [RepV] at r; obtain ⟨t, _, _, _, rfl, _⟩ := r; rfl

noncomputable def AttInj (g : Cfg) : Prop := ∀ k k' x, g.at'.lookup k = some x → g.at'.lookup k' = some x → k = k'

set_option tactic.hygienic false in
theorem ents_str {h : Heap} {es : List (Nat × V)} {ents : List DictEntry} (f : F2 (EntOk g as h) es ents) : ents.any (·.refKey) = false := by
  induction f with
  | nil => rfl
  | cons x _ ih =>
    obtain ⟨nm, t, _, e, _⟩ := x
    rw [List.any_cons, ih, Bool.or_false]
    unfold DictEntry.refKey
    rw [e]

set_option tactic.hygienic false in
theorem ents_get {h : Heap} {k : Nat} {x : Str} (I : AttInj g) (hx : g.at'.lookup k = some x) : ∀ {es : List (Nat × V)} {ents : List DictEntry}, F2 (EntOk g as h) es ents →
    (∀ v, es.lookup k = some v → ∃ y, W.getL x ents = some (some y) ∧ RepV as h v y) ∧ (W.getL x ents).isSome = true := by
  intro es ents f
  have hs := ents_str f
  refine ⟨?_, ?_⟩
  · intro v hv
    have key : ∃ d, ents.find? (·.key.isStr x) = some d ∧ RepV as h v d.val := by
      clear hs
      induction f with
      | nil => cases hv
      | @cons a b as' bs r f' ih =>
        obtain ⟨k1, v1⟩ := a
        obtain ⟨nm, t, e1, e2, e3⟩ := r
        rw [List.lookup_cons] at hv
        rw [List.find?_cons]
        by_cases hk : k = k1
        · subst hk
          simp at hv; subst hv
          have : nm = x := by rw [hx] at e1; exact (Option.some.inj e1).symm
          subst this
          have : b.key.isStr nm = true := by rw [e2]; simp [Value.isStr]
          rw [this]; exact ⟨b, rfl, e3⟩
        · have hb : (k == k1) = false := beq_eq_false_iff_ne.mpr hk
          rw [hb] at hv
          have : b.key.isStr x = false := by
            rw [e2]
            simp only [Value.isStr, beq_eq_false_iff_ne]
            intro q; subst q; exact hk (I k k1 nm hx e1)
          rw [this]; exact ih hv
    obtain ⟨d, h1, h2⟩ := key
    exact ⟨d.val, by unfold W.getL; rw [h1], h2⟩
  · unfold W.getL
    split
    · rfl
    · rw [hs]; rfl

set_option tactic.hygienic false in
theorem ents_none {h : Heap} {x : Str} (hx : ∀ k, g.at'.lookup k ≠ some x) : ∀ {es : List (Nat × V)} {ents : List DictEntry}, F2 (EntOk g as h) es ents → W.getL x ents = some none := by
  intro es ents f
  have hs := ents_str f
  have key : ents.find? (·.key.isStr x) = none := by
    clear hs
    induction f with
    | nil => rfl
    | @cons a b as' bs r f' ih =>
      obtain ⟨nm, t, e1, e2, e3⟩ := r
      rw [List.find?_cons]
      have : b.key.isStr x = false := by
        rw [e2]
        simp only [Value.isStr, beq_eq_false_iff_ne]
        intro q; subst q; exact hx _ e1
      rw [this]; exact ih
  unfold W.getL
  rw [key]
  simp only [hs]; rfl

set_option tactic.hygienic false in
theorem rep_inst {l d : Nat} {x : Value} (R : Rel g as σ s.heap) (r : RepV as s.heap (.ref l) x) (e : σ[l]? = some (.inst d)) :
    ∃ a dx, x = .ref a ∧ as[l]? = some a ∧ as[d]? = some dx ∧ s.heap.get? a = some (instObj g.C dx) := by
  rw [RepV] at r
  obtain ⟨a, rfl, ha⟩ := r
  obtain ⟨dx, h1, h2⟩ := R.obj l a _ ha e
  exact ⟨a, dx, rfl, ha, h1, h2⟩
set_option tactic.hygienic false in
theorem rep_att {d : Nat} {dx : Addr} {es : List (Nat × V)} (R : Rel g as σ s.heap) (hd : as[d]? = some dx) (e : σ[d]? = some (.att es)) :
    ∃ ents n, s.heap.get? dx = some (W.dictOf ents n) ∧ F2 (EntOk g as s.heap) es ents ∧ es.length ≤ 100 := R.obj d dx _ hd e

theorem o_attr {a v : V} {k : Nat} {x : Value} {nm : Str} {ex : Bool} (G : Glob g K c0 fa) (I : AttInj g) (T : At g env as fr σ s) (ha : RepV as s.heap a x) (hk : c0.attrs.lookup nm = some k) (e : attrV a k σ = some v) (hQ : EPost g env as fr s v σ Q) :
    wpAny (model g.prog g.w) A (getAttr x nm ex) Q X s := by
  unfold attrV at e
  split at e
  case h_2 => cases e
  rename_i l
  split at e
  case h_2 => cases e
  rename_i d hl
  split at e
  case h_2 => cases e
  rename_i es hd
  obtain ⟨ad, dx, rfl, h1, h2, h3⟩ := rep_inst T.R ha hl
  obtain ⟨ents, n, h4, h5, _⟩ := rep_att T.R h2 hd
  obtain ⟨q1, q2, at', q3, q4, _⟩ := G.att nm k hk
  obtain ⟨y, h6, h7⟩ := (ents_get I q1 h5).1 v e
  obtain ⟨m, hF, _⟩ := T.F.fr T.R
  exact get_own (X₀ := G.kin) hF (K := K) (C := g.C) (ox := instObj g.C dx) ⟨h3, rfl, rfl, h4⟩ q2 (G.hasD nm k hk) q3 q4 h6 (handed h7) (hQ.same T h7)

set_option tactic.hygienic false in
theorem upd_map {d : Addr} {o o' : Obj} : ∀ {l : List (Addr × Obj)}, (d, o) ∈ l → (l.map (·.1)).Nodup → Upd d o o' l (l.map fun p => if p.1 = d then (d, o') else p) := by
  intro l
  induction l with
  | nil => intro h _; cases h
  | cons p r ih =>
    intro hm nd
    simp only [List.map_cons, List.nodup_cons] at nd
    by_cases hp : p.1 = d
    · have hpo : p = (d, o) := by
        rcases List.mem_cons.mp hm with q | q
        · exact q.symm
        · exact absurd (List.mem_map.mpr ⟨_, q, rfl⟩) (by have := nd.1; rw [hp] at this; exact this)
      subst hpo
      have hr : ∀ q ∈ r, q.1 ≠ d := fun q hq e => nd.1 (List.mem_map.mpr ⟨q, hq, e⟩)
      have : r.map (fun p => if p.1 = d then (d, o') else p) = r := by
        refine (List.map_congr_left fun q hq => ?_).trans (List.map_id _)
        rw [if_neg (hr q hq)]; rfl
      rw [List.map_cons, this, if_pos rfl]
      exact .head hr
    · rw [List.map_cons, if_neg hp]
      refine .tail hp (ih ?_ nd.2)
      rcases List.mem_cons.mp hm with q | q
      · exact absurd (by rw [← q]) hp
      · exact q
theorem nodup_newsOf (b : Heap) (L : Addr) (h : Heap) : ((newsOf b L h).map (·.1)).Nodup := by
  unfold newsOf
  generalize hl : List.range h.objs.size = l
  have nd : l.Nodup := by rw [← hl]; exact List.nodup_range
  clear hl
  induction l with
  | nil => simp
  | cons a r ih =>
    rw [List.nodup_cons] at nd
    rw [List.filterMap_cons]
    split
    · exact ih nd.2
    · rename_i p hp
      rw [List.map_cons, List.nodup_cons]
      refine ⟨fun q => ?_, ih nd.2⟩
      obtain ⟨p', hp', e⟩ := List.mem_map.mp q
      obtain ⟨a', ha', e'⟩ := List.mem_filterMap.mp hp'
      have k1 : p.1 = a := by
        split at hp
        · obtain ⟨o, _, e2⟩ := Option.map_eq_some_iff.mp hp; rw [← e2]
        · cases hp
      have k2 : p'.1 = a' := by
        split at e'
        · obtain ⟨o, _, e2⟩ := Option.map_eq_some_iff.mp e'; rw [← e2]
        · cases e'
      exact nd.1 (by rw [← k1, ← e, k2]; exact ha')

set_option tactic.hygienic false in
theorem f2_putL {h : Heap} {k : Nat} {x : Str} {v : V} {y : Value} {hs : Int} {t : Tok} (I : AttInj g) (hx : g.at'.lookup k = some x) (r : RepV as h v y) : ∀ {es : List (Nat × V)} {ents : List DictEntry}, F2 (EntOk g as h) es ents →
    F2 (EntOk g as h) (putA k v es) (W.putL x hs (.str x t) y ents) := by
  intro es ents f
  induction f with
  | nil => exact .cons ⟨x, t, hx, rfl, r⟩ .nil
  | @cons a b as' bs q f' ih =>
    obtain ⟨k1, v1⟩ := a
    obtain ⟨nm, u, e1, e2, e3⟩ := q
    rw [W.putL, putA]
    by_cases hk : k1 = k
    · subst hk
      have : nm = x := by rw [hx] at e1; exact (Option.some.inj e1).symm
      subst this
      have h1 : b.key.isStr nm = true := by rw [e2]; simp [Value.isStr]
      rw [if_pos h1, if_pos (by simp)]
      exact .cons ⟨nm, u, hx, e2, r⟩ f'
    · have h1 : ¬ b.key.isStr x = true := by
        rw [e2]
        simp only [Value.isStr, beq_iff_eq]
        intro q; subst q; exact hk (I k1 k nm e1 hx)
      rw [if_neg h1, if_neg (by simpa using hk)]
      exact .cons ⟨nm, u, e1, e2, e3⟩ ih
set_option tactic.hygienic false in
theorem putA_len {k : Nat} {v : V} : ∀ {es : List (Nat × V)}, (putA k v es).length ≤ es.length + 1
  | [] => by simp [putA]
  | e :: r => by
    rw [putA]; split
    · simp
    · have := putA_len (k := k) (v := v) (es := r); simp; lia

set_option tactic.hygienic false in
theorem At.updN {h' : Heap} {m : Str → Option Value} {l : Nat} {a : Addr} {o : AO} {ob ob' : Obj} (T : At g env as fr σ s) (hm : s.heap.Ns env.locals m) (hl : as[l]? = some a) (ho : s.heap.get? a = some ob)
    (F' : Fr g.b env.locals h' m) (N' : News g.b env.locals h' ((newsOf g.b env.locals s.heap).map fun p => if p.1 = a then (a, ob') else p))
    (hr : Keep as s.heap as h' → h'.get? a = some ob' → RepO g as h' o a) : Keep as s.heap as h' ∧ Step [env.locals] as s.heap as h' ∧ Rel g as (σ.set l o) h' ∧ FrRel g env as fr h' := by
  have haL : a ≠ env.locals := fun q => T.F.off (q ▸ List.mem_of_getElem? hl)
  have hab : g.b.get? a = none := T.R.new a (List.mem_of_getElem? hl)
  have hin : (a, ob) ∈ newsOf g.b env.locals s.heap := mem_newsOf.mpr ⟨ho, haL, hab⟩
  have ha' : h'.get? a = some ob' := (N' (a, ob') (List.mem_map.mpr ⟨(a, ob), hin, by simp⟩)).1
  have ext : ∀ (b : Addr) (o : Obj), b ≠ env.locals → b ≠ a → s.heap.get? b = some o → h'.get? b = some o := fun b o hb hba e => by
    cases q : g.b.get? b with
    | none => exact (N' (b, o) (List.mem_map.mpr ⟨(b, o), mem_newsOf.mpr ⟨e, hb, q⟩, by rw [if_neg hba]⟩)).1
    | some o' =>
      have := T.R.base b o' q
      rw [e] at this; cases this
      exact F'.keep _ _ q
  have x : Step [env.locals] as s.heap as h' := ⟨⟨[], by simp, by simp⟩, fun b o e h1 h2 => ext b o (by simpa using h1) (fun q => h2 (q ▸ List.mem_of_getElem? hl)) e⟩
  have K := T.R.keep x T.F.notImm
  refine ⟨K, x, ⟨F'.keep, by simp [T.R.len], T.R.nd, T.R.new, fun i b oo h1 h2 => ?_⟩, ?_⟩
  · by_cases hi : i = l
    · subst hi
      rw [hl] at h1; cases h1
      have hlt : i < σ.length := by have := (List.getElem?_eq_some_iff.mp hl).1; rw [T.R.len] at this; exact this
      rw [List.getElem?_set_self hlt] at h2; cases h2
      exact hr K ha'
    · rw [List.getElem?_set_ne (Ne.symm hi)] at h2
      refine (T.R.obj i b oo h1 h2).keep K fun oc e => ext b oc (fun q => T.F.off (q ▸ List.mem_of_getElem? h1)) (fun q => hi ?_) e
      subst q
      obtain ⟨j1, j2⟩ := List.getElem?_eq_some_iff.mp h1
      obtain ⟨j3, j4⟩ := List.getElem?_eq_some_iff.mp hl
      exact (List.getElem_inj T.R.nd).mp (j2.trans j4.symm)
  · obtain ⟨m0, hm0, hv⟩ := T.F.ns
    have hmm : ∀ x, m0 x = m x := fun x => hm0.agree hm x
    have hca : ∀ x c, env.cells.lookup x = some c → c ≠ a := fun x c hc q => (T.F.offc x c hc).1 (q ▸ List.mem_of_getElem? hl)
    refine ⟨T.F.kind, T.F.above, T.F.glob, T.F.blt, T.F.len, T.F.nd, ⟨m, F'.ns, fun i x v h1 h2 => ?_⟩, fun i x k h1 h2 => ?_, T.F.off, fun x c hc => ⟨(T.F.offc _ _ hc).1, (T.F.offc _ _ hc).2.1, ?_⟩, T.F.apart, T.F.newc⟩
    · obtain ⟨val, e1, e2⟩ := hv i x v h1 h2
      exact ⟨val, by rw [← hmm]; exact e1, RepV.keep K _ _ e2⟩
    · obtain ⟨c, cv, e1, ⟨o, e2, e2'⟩, e3⟩ := T.F.cells i x k h1 h2
      refine ⟨c, cv, e1, ⟨o, ext _ _ (T.F.offc _ _ e1).2.1 (hca _ _ e1) e2, e2'⟩, fun v e => ?_⟩
      obtain ⟨val, e4, e5⟩ := e3 v e
      exact ⟨val, e4, RepV.keep K _ _ e5⟩
    · obtain ⟨cv, o, e, e'⟩ := (T.F.offc _ _ hc).2.2
      exact ⟨cv, o, ext _ _ (T.F.offc _ _ hc).2.1 (hca _ _ hc) e, e'⟩

theorem o_setAttr {a v : V} {k : Nat} {x z : Value} {nm : Str} {Q : Unit → Shared → Prop} (G : Glob g K c0 fa) (I : AttInj g) (T : At g env as fr σ s) (ha : RepV as s.heap a x) (hv : RepV as s.heap v z) (hk : c0.attrs.lookup nm = some k) (e : setAttrV a k v σ = some σ') (hQ : UPost g env as fr s σ' Q) :
    wpAny (model g.prog g.w) A (setAttr x nm z) Q X s := by
  unfold setAttrV at e
  split at e
  case h_2 => cases e
  rename_i l
  split at e
  case h_2 => cases e
  rename_i d hl
  split at e
  case h_2 => cases e
  rename_i es hd
  split at e
  case isFalse => cases e
  rename_i hz
  cases e
  obtain ⟨ad, dx, rfl, h1, h2, h3⟩ := rep_inst T.R ha hl
  obtain ⟨ents, n, h4, h5, _⟩ := rep_att T.R h2 hd
  obtain ⟨q1, q2, at', q3, q4, q5⟩ := G.att nm k hk
  obtain ⟨m, hF, _⟩ := T.F.fr T.R
  have haL : dx ≠ env.locals := fun q => T.F.off (q ▸ List.mem_of_getElem? h2)
  have hin : (dx, W.dictOf ents n) ∈ newsOf g.b env.locals s.heap := mem_newsOf.mpr ⟨h4, haL, T.R.new dx (List.mem_of_getElem? h2)⟩
  have f' := fun (h : Heap) (K : Keep as s.heap as h) => f2_putL (hs := PyData.keyHash g.w.params nm) (t := s.toks + 1) I q1 (RepV.keep K _ _ hv) (h5.mono fun _ _ ⟨x, t, y1, y2, y3⟩ => ⟨x, t, y1, y2, RepV.keep K _ _ y3⟩)
  have hlen : (W.putL nm (PyData.keyHash g.w.params nm) (.str nm (s.toks + 1)) z ents).length ≤ 1000 := by
    have := (f' s.heap ⟨fun _ _ e => e, fun _ _ e _ => e⟩).length
    have := putA_len (k := k) (v := v) (es := es)
    lia
  refine set_dict (X₀ := G.kin) hF (news_all _ _ _) (K := K) (C := g.C) (ox := instObj g.C dx) ⟨h3, rfl, rfl, h4⟩ rfl (G.setA nm k hk).1 (G.setA nm k hk).2 q5 (G.hasD nm k hk) (ents_get I q1 h5).2 rfl (upd_map hin (nodup_newsOf _ _ _)) hlen fun h' F' N' => ?_
  obtain ⟨K', x', R', FF⟩ := T.updN (o := .att (putA k v es)) hF.ns h2 h4 F' N' fun K' hob => ⟨_, _, hob, f' h' K', Nat.le_trans putA_len (by lia)⟩
  exact hQ as h' _ x' R' FF
end
end Mine

set_option autoImplicit false
set_option maxRecDepth 100000
set_option linter.unusedVariables false
namespace Mine
open PySem PyProof.Rows PySem.W

set_option tactic.hygienic false in
theorem args_maxd (a : Value) : argsOk "max" ⟨[a], [(Str.ofString "default", .none)]⟩ := by unfold argsOk; kernel_rfl

section
variable {prog : Program} {w : World} {A : Around} {R : Result → Shared → Prop} {I : Addr} {fp wr : List Addr} {n : Nat} {P : Nat → Value → Prop} {St : Nat → Heap → Prop} {kw : List (Str × Value)}

set_option tactic.hygienic false in
theorem maxd_loop (W : Walks prog w A.in1 I fp wr n P St) (bt : Nat → Nat → Bool) (hcmp : CmpOf prog w A.in1 .Gt P bt) (S : Addr) (hSf : S ∉ fp) :
    ∀ (k j : Nat) (s : Shared) (vb : Value) (c : Nat), n - (j + 1) = k → j + 1 ≤ n → St (j + 1) s.heap → P (argBest bt j) vb →
    s.heap.get? S = some { cls := .type "list", dict := none, data := .seq #[vb, vb] c, slots := #[] } →
    (∀ v h' tk, P (argBest bt (n - 1)) v → (∀ b o, b ∉ wr → b ≠ S → s.heap.get? b = some o → h'.get? b = some o) → R (.ok (.ret v)) { s with heap := h', toks := tk }) →
    codeAny (model prog w) A (.builtin "max.loop" ⟨[.ref I, .none, .ref S], kw⟩) R s := by
  have hSw : S ∉ wr := fun h => hSf (W.sub _ h)
  have hname : (toString "max" ++ toString ".loop" : String) = "max.loop" := by decide
  intro k
  induction k with
  | zero =>
    intro j s vb c hk hj hst hPb hS hR
    have hin : j + 1 = n := by lia
    refine codeAny_builtin F.entry_max_loop ?_
    rw [Around.under_plainId F.plain_max_loop _]
    show wpAny _ A.in1 (seqItems? (.ref S) >>= _) _ _ s
    refine wpAny_bind (wpAny_seqItems hS rfl ?_)
    show wpAny _ A.in1 (tryCatch (pyNext (.ref I)) _ >>= _) _ _ s
    refine wpAny_bind (wpAny_tryCatch (W.done s _ _ (hin ▸ hst) fun h' tk hk' => ?_))
    have hS' := hk' S _ hSw hS
    show wpAny _ A.in1 (updateSeq S (fun _ => #[]) >>= _) _ _ _
    refine wpAny_bind ?_
    refine wpAny_updateSeq hS' rfl (wpAny_bind (wpAny_letGo (wpAny_pure ?_)))
    refine hR vb _ tk (by rw [← hin]; exact hPb) fun b o hbw hbS e => (Heap.get?_update_other _ _ (Ne.symm hbS)).trans (hk' b o hbw e)
  | succ k ih =>
    intro j s vb c hk hj hst hPb hS hR
    have hlt : j + 1 < n := by lia
    refine codeAny_builtin F.entry_max_loop ?_
    rw [Around.under_plainId F.plain_max_loop _]
    show wpAny _ A.in1 (seqItems? (.ref S) >>= _) _ _ s
    refine wpAny_bind (wpAny_seqItems hS rfl ?_)
    show wpAny _ A.in1 (tryCatch (pyNext (.ref I)) _ >>= _) _ _ s
    refine wpAny_bind (wpAny_tryCatch (W.item (j + 1) s _ _ hlt hst fun v h' tk hP hst' hk' => ?_))
    have hS' := hk' S _ hSw hS
    show wpAny _ A.in1 (tryCatch (holding [v, v] (richCompare .Gt v vb >>= _)) _ >>= _) _ _ _
    refine wpAny_bind (wpAny_tryCatch (wpAny_holding (wpAny_bind (hcmp (j + 1) (argBest bt j) v vb _ _ _ hP hPb ?_))))
    refine wpAny_bind (wpAny_holding (wpAny_truthy_bool ?_))
    refine wpAny_bind (wpAny_letGo (wpAny_pure ?_))
    cases hb : bt (j + 1) (argBest bt j) with
    | true =>
      simp only [if_true]
      refine wpAny_bind ?_
      refine wpAny_updateSeq hS' rfl (wpAny_bind (wpAny_letGo ?_))
      rw [hname]
      refine wpAny_pure ⟨plainId_quiet F.plain_max_loop _, ih (j + 1) _ v _ (by lia) hlt (W.frame _ _ _ hst' fun b hbf o e => ?_) (by simp only [argBest, hb, if_true]; exact hP) (Heap.get?_update_self _ hS' rfl)
        fun v' h'' tk'' hP' hk'' => ?_⟩
      · exact (Heap.get?_update_other _ _ (fun h : S = b => hSf (by rw [h]; exact hbf))).trans e
      · exact hR v' h'' tk'' hP' fun b o hbw hbS e => hk'' b o hbw hbS ((Heap.get?_update_other _ _ (Ne.symm hbS)).trans (hk' b o hbw e))
    | false =>
      simp only [Bool.false_eq_true, if_false]
      refine wpAny_bind (wpAny_letGo ?_)
      rw [hname]
      refine wpAny_pure ⟨plainId_quiet F.plain_max_loop _, ih (j + 1) _ vb c (by lia) hlt hst' (by simp only [argBest, hb, Bool.false_eq_true, if_false]; exact hPb) hS' fun v' h'' tk'' hP' hk'' => ?_⟩
      exact hR v' h'' tk'' hP' fun b o hbw hbS e => hk'' b o hbw hbS (hk' b o hbw e)

set_option tactic.hygienic false in
theorem maxd_loop_first (W : Walks prog w A.in1 I fp wr n P St) (bt : Nat → Nat → Bool) (hcmp : CmpOf prog w A.in1 .Gt P bt) (S : Addr) (hSf : S ∉ fp) (hn : 0 < n) {s : Shared} {c : Nat} (hst : St 0 s.heap)
    (hS : s.heap.get? S = some { cls := .type "list", dict := none, data := .seq #[] c, slots := #[] })
    (hR : ∀ v h' tk, P (argBest bt (n - 1)) v → (∀ b o, b ∉ wr → b ≠ S → s.heap.get? b = some o → h'.get? b = some o) → R (.ok (.ret v)) { s with heap := h', toks := tk }) :
    codeAny (model prog w) A (.builtin "max.loop" ⟨[.ref I, .none, .ref S], kw⟩) R s := by
  have hSw : S ∉ wr := fun h => hSf (W.sub _ h)
  have hname : (toString "max" ++ toString ".loop" : String) = "max.loop" := by decide
  refine codeAny_builtin F.entry_max_loop ?_
  rw [Around.under_plainId F.plain_max_loop _]
  show wpAny _ A.in1 (seqItems? (.ref S) >>= _) _ _ s
  refine wpAny_bind (wpAny_seqItems hS rfl ?_)
  show wpAny _ A.in1 (tryCatch (pyNext (.ref I)) _ >>= _) _ _ s
  refine wpAny_bind (wpAny_tryCatch (W.item 0 s _ _ hn hst fun v h' tk hP hst' hk' => ?_))
  have hS' := hk' S _ hSw hS
  show wpAny _ A.in1 (updateSeq S (fun _ => #[v, v]) >>= _) _ _ _
  refine wpAny_bind ?_
  refine wpAny_updateSeq hS' rfl ?_
  rw [hname]
  refine wpAny_pure ⟨plainId_quiet F.plain_max_loop _, maxd_loop W bt hcmp S hSf _ 0 _ v _ rfl hn (W.frame _ _ _ hst' fun b hbf o e => ?_) hP (Heap.get?_update_self _ hS' rfl) fun v' h'' tk'' hP' hk'' => ?_⟩
  · exact (Heap.get?_update_other _ _ (fun h : S = b => hSf (by rw [h]; exact hbf))).trans e
  · exact hR v' h'' tk'' hP' fun b o hbw hbS e => hk'' b o hbw hbS ((Heap.get?_update_other _ _ (Ne.symm hbS)).trans (hk' b o hbw e))

set_option tactic.hygienic false in
theorem maxd_loop_none (W : Walks prog w A.in1 I fp wr 0 P St) (S : Addr) (hSf : S ∉ fp) {s : Shared} {c : Nat} (hst : St 0 s.heap)
    (hS : s.heap.get? S = some { cls := .type "list", dict := none, data := .seq #[] c, slots := #[] })
    (hR : ∀ h' tk, (∀ b o, b ∉ wr → b ≠ S → s.heap.get? b = some o → h'.get? b = some o) → R (.ok (.ret .none)) { s with heap := h', toks := tk }) :
    codeAny (model prog w) A (.builtin "max.loop" ⟨[.ref I, .none, .ref S], [("default", .none)]⟩) R s := by
  refine codeAny_builtin F.entry_max_loop ?_
  rw [Around.under_plainId F.plain_max_loop _]
  show wpAny _ A.in1 (seqItems? (.ref S) >>= _) _ _ s
  refine wpAny_bind (wpAny_seqItems hS rfl ?_)
  show wpAny _ A.in1 (tryCatch (pyNext (.ref I)) _ >>= _) _ _ s
  refine wpAny_bind (wpAny_tryCatch (W.done s _ _ hst fun h' tk hk' => ?_))
  show wpAny _ A.in1 (rule _ >>= _) _ _ _
  exact wpAny_bind (wpAny_rule (wpAny_pure (hR h' tk fun b o hbw _ e => hk' b o hbw e)))
end

section
variable {prog : Program} {w : World} {A : Around} {E : Value → Shared → Prop} {s : Shared}

set_option tactic.hygienic false in
theorem call_maxd_walk {x : Value} {Q : Value → Shared → Prop}
    (h : wpAny (model prog w) A.in1 (pyIter x) (fun it s₂ => ∃ I fp wr n P St bt, it = .ref I ∧ Walks prog w A.in1 I fp wr n P St ∧ St 0 s₂.heap ∧ (∀ b ∈ fp, b < s₂.heap.objs.size) ∧ CmpOf prog w A.in1 .Gt P bt ∧
      (∀ v h' tk, 0 < n → P (argBest bt (n - 1)) v → (∀ b o, b ∉ wr → s₂.heap.get? b = some o → h'.get? b = some o) → Q v { s₂ with heap := h', toks := tk }) ∧
      (∀ h' tk, n = 0 → (∀ b o, b ∉ wr → s₂.heap.get? b = some o → h'.get? b = some o) → Q .none { s₂ with heap := h', toks := tk })) E s) :
    wpAny (model prog w) A (call (.builtin "max") [x] [(Str.ofString "default", .none)]) Q E s := by
  have hname : (toString "max" ++ toString ".loop" : String) = "max.loop" := by decide
  refine kmk_tree F.kind_max F.plain_max F.entry_max (args_maxd _) ?_
  show wpAny _ A.in1 (Builtin.Builtins.bindParams "max" ["key", "default"] 0 ⟨[], [(Str.ofString "default", .none)]⟩ >>= _) _ _ s
  refine wpAny_bind (wpAny_of_eq (show Builtin.Builtins.bindParams "max" ["key", "default"] 0 ⟨[], [(Str.ofString "default", .none)]⟩ = pure [none, some .none] from rfl) ?_)
  refine wpAny_bind (wpAny_pure ?_)
  refine wpAny_bind (wpAny_mono h (fun it s₂ h₂ => ?_) fun _ _ e => e)
  obtain ⟨I, fp, wr, n, P, St, bt, rfl, W, hst, hfp, hcmp, hQ, hQ0⟩ := h₂
  refine wpAny_bind (wpAny_newObj_type ?_)
  have hSf : s₂.heap.objs.size ∉ fp := fun hm => Nat.lt_irrefl _ (hfp _ hm)
  rw [hname]
  refine wpAny_pure ⟨plainId_quiet F.plain_max_loop _, ?_⟩
  rcases Nat.eq_zero_or_pos n with hn | hn
  · subst hn
    refine maxd_loop_none W s₂.heap.objs.size hSf (W.frame _ _ _ hst fun b _ o e => Heap.get?_push_of_some _ e) (Heap.get?_push_size _ rfl) fun h' tk hk => ?_
    exact hQ0 h' tk rfl fun b o hbw e => hk b o hbw (Nat.ne_of_lt (Heap.lt_size e)) (Heap.get?_push_of_some _ e)
  · refine maxd_loop_first W bt hcmp s₂.heap.objs.size hSf hn (W.frame _ _ _ hst fun b _ o e => Heap.get?_push_of_some _ e) (Heap.get?_push_size _ rfl) fun v h' tk hP hk => ?_
    exact hQ v h' tk hn hP fun b o hbw e => hk b o hbw (Nat.ne_of_lt (Heap.lt_size e)) (Heap.get?_push_of_some _ e)
end

section
variable {g : Cfg} {env : Env} {A : Around} {X : Value → Shared → Prop} {s : Shared} {as : List Addr} {fr : Fra} {σ σ' : Sto} {Q : Value → Shared → Prop}

set_option tactic.hygienic false in
theorem o_maxd {l : Nat} {x : Value} {is : List Int} {v : V} {n : Nat} (T : At g env as fr σ s) (hA : Room A n) (ha : RepV as s.heap (.ref l) x) (e1 : (getL σ l).bind intsOf = some is)
    (e2 : v = match maxL is with | some i => V.int i | none => V.none)
    (hQ : EPost g env as fr s v σ Q) : wpAny (model g.prog g.w) A (call (.builtin "max") [x] [(Str.ofString "default", .none)]) Q X s := by
  obtain ⟨vs, e3, e4⟩ := Option.bind_eq_some_iff.mp e1
  obtain ⟨ad, items, m, rfl, hd, ho, hr, hz, hsz⟩ := rep_list T.R ha e3
  have hi := intsAre_of e4 hr
  have hlen := hi.length
  have hne : ad ≠ s.heap.objs.size := Nat.ne_of_lt (Heap.lt_size ho)
  refine call_maxd_walk (wpAny_pyIter_list ho.isList ?_)
  refine ⟨s.heap.objs.size, _, _, items.size, _, _, fun i j => decide (at0 is j < at0 is i), rfl, Walks.list (A := A.in1) hA.handled s.heap.objs.size ad hne items, ⟨⟨_, Heap.get?_push_size _ rfl, rfl, rfl⟩, ho.isList.push _⟩, ?_, ?_, ?_, ?_⟩
  · intro b hb
    rcases List.mem_cons.mp hb with rfl | hb
    · rw [Heap.size_push]; exact Nat.lt_succ_self _
    · rw [List.mem_singleton.mp hb, Heap.size_push]; exact Nat.lt_succ_of_lt (Heap.lt_size ho)
  · intro i j vi vj s' Q' E' hvi hvj hq
    obtain ⟨t, rfl⟩ := ints_get hi i (by simpa using hvi)
    obtain ⟨u, rfl⟩ := ints_get hi j (by simpa using hvj)
    exact PyProof.Rows.gt_int hq
  · intro v' h' tk hn hv hk
    obtain ⟨t, rfl⟩ := ints_get hi _ (by simpa using hv)
    cases is with
    | nil => rw [Array.length_toList] at hlen; rw [hlen] at hn; exact absurd hn (Nat.lt_irrefl _)
    | cons y ys =>
      simp at hlen
      have e5 := argBest_max ys y (items.size - 1) (by lia)
      rw [List.take_of_length_le (by lia)] at e5
      rw [e5]
      have kk := step_wr (h := s.heap) (keeps_push _ _) hk (by intro b hb; rw [List.mem_singleton.mp hb]; exact new_none _)
      exact hQ.use T (Step.of_ext kk) (T.R.ext kk) (by rw [e2]; show RepV _ _ (.int _) _; rw [RepV]; exact ⟨_, rfl⟩)
  · intro h' tk hn hk
    cases is with
    | nil =>
      have kk := step_wr (h := s.heap) (keeps_push _ _) hk (by intro b hb; rw [List.mem_singleton.mp hb]; exact new_none _)
      exact hQ.use T (Step.of_ext kk) (T.R.ext kk) (by rw [e2]; show RepV _ _ .none _; rw [RepV])
    | cons y ys => rw [Array.length_toList, hn] at hlen; cases hlen
end
end Mine

set_option autoImplicit false
set_option maxRecDepth 100000
set_option linter.unusedVariables false
namespace Mine
open PySem PyProof.Rows PySem.W

set_option tactic.hygienic false in
theorem ofOpt_ok {σ σ' : Sto} {o : Option V} {v : V} (e : ofOpt σ o = .ok v σ') : o = some v ∧ σ' = σ := by
  unfold ofOpt at e; split at e
  · cases e; exact ⟨rfl, rfl⟩
  · cases e
set_option tactic.hygienic false in
theorem ofOptB_ok {σ σ' : Sto} {o : Option Bool} {v : V} (e : ofOptB σ o = .ok v σ') : ∃ b, o = some b ∧ v = .bool b ∧ σ' = σ := by
  unfold ofOptB at e; split at e
  · cases e; exact ⟨_, rfl, rfl, rfl⟩
  · cases e

section
variable {g : Cfg} {K : Frag} {c0 : CE} {fa : Nat → Option Addr} {call : Nat → List V → Sto → RE} {env : Env} {A : Around} {X : Value → Shared → Prop} {s : Shared} {as : List Addr} {fr : Fra} {σ σ' : Sto} {r n : Nat}
  {names : List (Str × NameKind)} {Q : Value → Shared → Prop} {v : V}

set_option tactic.hygienic false in
theorem o_slice {l : Nat} {x : Value} {vs ys : List V} {sl : Addr} {vl vu vst : Value} {lo hi st : Option Int} {ve ie : Expr} (T : At g env as fr σ s) (ha : RepV as s.heap (.ref l) x) (e : getL σ l = some vs)
    (hs : s.heap.IsSliceOf sl vl vu vst) (pl : IsPart vl lo) (pu : IsPart vu hi) (ps : IsPart vst st) (h0 : st ≠ some 0)
    (hy : ∀ items : Array Value, RepVs as s.heap vs items.toList → RepVs as s.heap ys (slicePick items lo hi st).toList)
    (en : newL ys σ = .ok v σ')
    (hsub : ∀ o i, ∃ ops, subscripted ie false o i = operate ops (getItem o i)) (hQ : EPost g env as fr s v σ' Q) : wpAny (model g.prog g.w) A (subscriptTail ve ie x (.ref sl)) Q X s := by
  obtain ⟨a, items, m, rfl, ha', ho, hr, hz, hsz⟩ := rep_list T.R ha e
  refine tail_any (T := "list") ⟨_, ho, rfl⟩ slot_list_getitem.lookup ?_ (hsub _ _).choose_spec
  have hr' := hy items hr
  have hl : (slicePick items lo hi st).size = ys.length := by have := (RepVs.f2.mp hr').length; simpa using this.symm
  refine wpAny_getItem_list_slice ho.isList hs pl pu ps h0 ?_ ?_
  · exact hQ.newH (tk := s.toks) T hr' en
  · rw [hsz]; exact hz

noncomputable def NodeE (g : Cfg) (c0 : CE) (call : Nat → List V → Sto → RE) (r : Nat) (names : List (Str × NameKind)) (e : Expr) (e' : E) : Prop :=
  ∀ (env : Env) (A : Around) (X : Value → Shared → Prop) (s : Shared) (as : List Addr) (fr : Fra) (σ σ' : Sto) (v : V) (Q : Value → Shared → Prop),
    NamesOk (c0.sub names) env → Room A (r + 1) → At g env as fr σ s → evE call e' fr σ = .ok v σ' → EPost g env as fr s v σ' Q → wpAny (model g.prog g.w) A (eval e env) Q X s
noncomputable def NodeT (g : Cfg) (c0 : CE) (call : Nat → List V → Sto → RE) (r : Nat) (names : List (Str × NameKind)) (e : Expr) (e' : E) : Prop :=
  ∀ (env : Env) (A : Around) (X : Value → Shared → Prop) (s : Shared) (as : List Addr) (fr : Fra) (σ σ' : Sto) (b : Bool) (Q : Bool → Shared → Prop),
    NamesOk (c0.sub names) env → Room A (r + 1) → At g env as fr σ s → evE call e' fr σ = .ok (.bool b) σ' → BPost g env as fr s b σ' Q → wpAny (model g.prog g.w) A (isTrue e env (eval e env)) Q X s

set_option tactic.hygienic false in
theorem n_none {k p} : NodeE g c0 call r names (.Constant .none k p) .none := fun env A X s as fr σ σ' v Q N hA T ev hQ => by
  obtain ⟨rfl, rfl⟩ := ok_inj ev
  exact Constant_none (hQ.same' T (by rw [RepV]))
set_option tactic.hygienic false in
theorem n_bool {b k p} : NodeE g c0 call r names (.Constant (.bool b) k p) (.bool b) := fun env A X s as fr σ σ' v Q N hA T ev hQ => by
  obtain ⟨rfl, rfl⟩ := ok_inj ev
  exact Constant_bool (hQ.bool' T)
set_option tactic.hygienic false in
theorem n_int {b k p} : NodeE g c0 call r names (.Constant (.int b) k p) (.int b) := fun env A X s as fr σ σ' v Q N hA T ev hQ => by
  obtain ⟨rfl, rfl⟩ := ok_inj ev
  exact wpAny_Constant_int (hQ.int T)
set_option tactic.hygienic false in
theorem n_str {b k p} : NodeE g c0 call r names (.Constant (.str b) k p) (.str b) := fun env A X s as fr σ σ' v Q N hA T ev hQ => by
  obtain ⟨rfl, rfl⟩ := ok_inj ev
  exact wpAny_Constant_str (hQ.same T (by rw [RepV]; exact ⟨_, rfl⟩))
set_option tactic.hygienic false in
theorem n_loc {x : Str} {i p} (hl : (c0.sub names).loc? x = some i) (hd : (x == ("__debug__" : Str)) = false) (hc : (x == ("__classdict__" : Str)) = false) : NodeE g c0 call r names (.Name x p) (.loc i) := fun env A X s as fr σ σ' v Q N hA T ev hQ => by
  have ev : (match fr[i]? with | some (some v) => RE.ok v σ | _ => .bad) = .ok v σ' := ev
  rcases he : fr[i]? with _ | _ | v' <;> rw [he] at ev
  · exact bad_ok ev
  · exact bad_ok ev
  · obtain ⟨rfl, rfl⟩ := ok_inj ev
    exact o_loc T N hl hd hc he hQ
set_option tactic.hygienic false in
theorem n_const {x : Str} {i p} (G : Glob g K c0 fa) (hg : (c0.sub names).glob x = true) (hd : (x == ("__debug__" : Str)) = false) (hk : c0.consts.lookup x = some i) : NodeE g c0 call r names (.Name x p) (.int i) := fun env A X s as fr σ σ' v Q N hA T ev hQ => by
  obtain ⟨rfl, rfl⟩ := ok_inj ev
  obtain ⟨t, ht⟩ := G.const x i hk
  exact o_glob T N hg hd ht (hQ.same' T (by rw [RepV]; exact ⟨_, rfl⟩))
set_option tactic.hygienic false in
theorem n_bin {l rt op a b p} (IH : SndE g c0 call r n) (h1 : compE n (c0.sub names) l = some a) (h2 : compE n (c0.sub names) rt = some b) : NodeE g c0 call r names (.BinOp l op rt p) (.bin op a b) := fun env A X s as fr σ σ' v Q N hA T ev hQ => by
  refine bind_el ev fun u τ e1 e2 => ?_
  refine bind_el e2 fun w τ' e3 e4 => ?_
  exact wpAny_BinOp (two IH h1 h2 N hA T e1 e3 fun x y as' h' tk st R' F' r1 r2 => o_bin (T.step R' F') r1 r2 e4 (epost_of hQ st R' F'))
set_option tactic.hygienic false in
theorem n_pow {a b k1 p1 k2 p2 p} (ha : 0 ≤ a ∧ a ≤ 10 ∧ 0 ≤ b ∧ b ≤ 100) : NodeE g c0 call r names (.BinOp (.Constant (.int a) k1 p1) .Pow (.Constant (.int b) k2 p2) p) (.pow a.toNat b.toNat) := fun env A X s as fr σ σ' v Q N hA T ev hQ => by
  obtain ⟨rfl, rfl⟩ := ok_inj ev
  have h64 : a.natAbs < 2 ^ 64 := by
    have : (2:Nat)^64 = 18446744073709551616 := by decide +kernel
    lia
  refine wpAny_BinOp (wpAny_Constant_int (wpAny_Constant_int (pow_int_small ha.2.2.1 (by lia) h64 ?_)))
  have : ((a.toNat : Nat) : Int) = a := Int.toNat_of_nonneg ha.1
  rw [this] at hQ
  exact hQ.int T
set_option tactic.hygienic false in
theorem n_neg {x a p} (IH : SndE g c0 call r n) (h1 : compE n (c0.sub names) x = some a) : NodeE g c0 call r names (.UnaryOp .USub x p) (.neg a) := fun env A X s as fr σ σ' v Q N hA T ev hQ => by
  refine bind_el ev fun u τ e1 e2 => ?_
  refine UnaryOp_ (IH names x a h1 env A X s as fr σ τ u _ N hA T e1 fun val as' h' tk st R' F' r1 => ?_)
  split at e2
  · cases e2
    rw [RepV] at r1; obtain ⟨t, rfl⟩ := r1
    exact PyProof.Rows.neg_int ((epost_of (tk := tk) hQ st R' F').int (T.step R' F'))
  · cases e2
set_option tactic.hygienic false in
theorem n_not {x a p} (IH : SndE g c0 call r n) (h1 : compE n (c0.sub names) x = some a) : NodeE g c0 call r names (.UnaryOp .Not x p) (.not a) := fun env A X s as fr σ σ' v Q N hA T ev hQ => by
  refine bind_el ev fun u τ e1 e2 => ?_
  refine UnaryOp_ (IH names x a h1 env A X s as fr σ τ u _ N hA T e1 fun val as' h' tk st R' F' r1 => ?_)
  split at e2
  · cases e2
    rw [RepV] at r1; subst r1
    exact not_of (wpAny_truthy_bool ((epost_of (tk := tk) hQ st R' F').bool' (T.step R' F')))
  · cases e2
theorem t_not {x a p} (IH : SndT g c0 call r n) (h1 : compE n (c0.sub names) x = some a) : NodeT g c0 call r names (.UnaryOp .Not x p) (.not a) := fun env A X s as fr σ σ' v Q N hA T ev hQ => by
  refine bind_el ev fun u τ e1 e2 => ?_
  split at e2
  · rename_i b
    cases e2
    exact isTrue_not (IH names x a h1 env A X s as fr σ _ b _ N hA T e1 fun as' h' tk st R' F' => hQ as' h' tk st R' F')
  · cases e2
set_option tactic.hygienic false in
theorem n_boolop {op vs es b' p} (IH : SndE g c0 call r n) (h1 : mapO (compE n (c0.sub names)) vs = some es) (h2 : foldB op es = some b') : NodeE g c0 call r names (.BoolOp op vs p) b' := fun env A X s as fr σ σ' v Q N hA T ev hQ =>
  boolOp_snd IH vs es b' s as σ σ' v Q h1 h2 N hA T ev hQ
set_option tactic.hygienic false in
theorem t_boolop {op vs es b' p} (IH : SndT g c0 call r n) (h1 : mapO (compE n (c0.sub names)) vs = some es) (h2 : foldB op es = some b') : NodeT g c0 call r names (.BoolOp op vs p) b' := fun env A X s as fr σ σ' v Q N hA T ev hQ =>
  wpAny_isTrue_BoolOp (allTrue_snd IH vs es b' s as σ σ' v Q h1 h2 N hA T ev hQ)
set_option tactic.hygienic false in
theorem noMark_of {op : CmpOp} {rt : Expr} (h : noMark op rt = true) : behindInMarks op rt = false := by
  unfold noMark at h; simpa using h
set_option tactic.hygienic false in
theorem n_cmp {l rt op a b p} (G : Glob g K c0 fa) (IH : SndE g c0 call r n) (hm : noMark op rt = true) (h1 : compE n (c0.sub names) l = some a) (h2 : compE n (c0.sub names) rt = some b) : NodeE g c0 call r names (.Compare l [op] [rt] p) (.cmp op a b) := fun env A X s as fr σ σ' v Q N hA T ev hQ => by
  refine bind_el ev fun u τ e1 e2 => ?_
  refine bind_el e2 fun w τ' e3 e4 => ?_
  obtain ⟨b', e5, rfl, rfl⟩ := ofOptB_ok e4
  exact wpAny_Compare1 (two IH h1 h2 N hA T e1 e3 fun x y as' h' tk st R' F' r1 r2 => o_cmp G.sys (T.step R' F') hA r1 r2 e5 (epost_of hQ st R' F')) (noMark_of hm)
set_option tactic.hygienic false in
theorem t_cmp {l rt op a b p} (G : Glob g K c0 fa) (IH : SndE g c0 call r n) (hm : noMark op rt = true) (h1 : compE n (c0.sub names) l = some a) (h2 : compE n (c0.sub names) rt = some b) : NodeT g c0 call r names (.Compare l [op] [rt] p) (.cmp op a b) := fun env A X s as fr σ σ' v Q N hA T ev hQ => by
  refine bind_el ev fun u τ e1 e2 => ?_
  refine bind_el e2 fun w τ' e3 e4 => ?_
  obtain ⟨b', e5, e6, rfl⟩ := ofOptB_ok e4
  cases e6
  refine wpAny_isTrue_Compare1 (two IH h1 h2 N hA T e1 e3 fun x y as' h' tk st R' F' r1 r2 => ?_) (noMark_of hm)
  refine o_cmp G.sys (T.step (tk := tk) R' F') hA r1 r2 e5 fun val as2 h2 tk2 st2 R2 F2' r3 => ?_
  rw [RepV] at r3; subst r3
  exact wpAny_truthy_bool (hQ as2 h2 tk2 (step_trans st st2 R2 F2') R2 F2')
set_option tactic.hygienic false in
theorem lastMarks_of {o1 o2 : CmpOp} {m rt : Expr} (h : noMark o2 rt = true) : lastMarks [o1, o2] [m, rt] = false := by
  have := noMark_of h; simpa [lastMarks] using this
theorem n_cmp2 {l m rt o1 o2 a b d p} (G : Glob g K c0 fa) (IH : SndE g c0 call r n) (hm : noMark o2 rt = true) (h1 : compE n (c0.sub names) l = some a) (h2 : compE n (c0.sub names) m = some b) (h3 : compE n (c0.sub names) rt = some d) :
    NodeE g c0 call r names (.Compare l [o1, o2] [m, rt] p) (.cmp2 o1 o2 a b d) := fun env A X s as fr σ σ' v Q N hA T ev hQ => by
  refine bind_el ev fun u τ e1 e2 => ?_
  refine bind_el e2 fun w τ' e3 e4 => ?_
  refine Compare_chain (wpAny_mono (two (Q := fun x y s2 => wpAny (model g.prog g.w) A (compareOp o1 x y) (fun c s₂ => wpAny (model g.prog g.w) A (truthy c)
      (fun t s₃ => if t then wpAny (model g.prog g.w) A (compareChain p y [o2] [eval rt env]) Q X s₃ else Q c s₃) X s₂) X s2) IH h1 h2 N hA T e1 e3 fun x y as' h' tk st R' F' r1 r2 => ?_) (fun x s1 h => chain_link h) fun _ _ h => h) (lastMarks_of hm)
  split at e4
  · rename_i e5
    refine o_cmp G.sys (T.step (tk := tk) R' F') hA r1 r2 e5 fun val as2 h2' tk2 st2 R2 F2' r3 => ?_
    rw [RepV] at r3; subst r3
    refine wpAny_truthy_bool ?_
    refine bind_el e4 fun z τ2 e6 e7 => ?_
    obtain ⟨b', e8, rfl, rfl⟩ := ofOptB_ok e7
    refine chain_last (IH names rt d h3 env A X _ as2 fr τ' _ z _ N hA ⟨F2', R2⟩ e6 fun val as3 h3 tk3 st3 R3 F3 r4 => ?_)
    have kp := At.keep (s := { s with heap := h', toks := tk }) ⟨F', R'⟩ st2
    have kp2 := At.keep (s := { s with heap := h2', toks := tk2 }) ⟨F2', R2⟩ st3
    have st13 := step_trans st (step_trans st2 st3 R3 F3) R3 F3
    exact o_cmp G.sys (T.step (tk := tk3) R3 F3) hA (RepV.keep kp2 _ _ (RepV.keep kp _ _ r2)) r4 e8 (epost_of (s := s) (tk := tk3) hQ st13 R3 F3)
  · rename_i e5
    cases e4
    refine o_cmp G.sys (T.step (tk := tk) R' F') hA r1 r2 e5 fun val as2 h2' tk2 st2 R2 F2' r3 => ?_
    have r3' := r3
    rw [RepV] at r3; subst r3
    refine wpAny_truthy_bool ?_
    exact hQ _ as2 h2' tk2 (step_trans st st2 R2 F2') R2 F2' r3'
  · cases e4
theorem t_cmp2 {l m rt o1 o2 a b d p} (G : Glob g K c0 fa) (IH : SndE g c0 call r n) (hm : noMark o2 rt = true) (h1 : compE n (c0.sub names) l = some a) (h2 : compE n (c0.sub names) m = some b) (h3 : compE n (c0.sub names) rt = some d) :
    NodeT g c0 call r names (.Compare l [o1, o2] [m, rt] p) (.cmp2 o1 o2 a b d) := fun env A X s as fr σ σ' v Q N hA T ev hQ => by
  refine bind_el ev fun u τ e1 e2 => ?_
  refine bind_el e2 fun w τ' e3 e4 => ?_
  refine isTrue_chain (wpAny_mono (two (Q := fun x y s2 => wpAny (model g.prog g.w) A (compareOp o1 x y) (fun c s₂ => wpAny (model g.prog g.w) A (truthy c)
      (fun t s₃ => if t then wpAny (model g.prog g.w) A (testChain p y [o2] [eval rt env]) Q X s₃ else Q false s₃) X s₂) X s2) IH h1 h2 N hA T e1 e3 fun x y as' h' tk st R' F' r1 r2 => ?_) (fun x s1 h => test_link h) fun _ _ h => h) (lastMarks_of hm)
  split at e4
  · rename_i e5
    refine o_cmp G.sys (T.step (tk := tk) R' F') hA r1 r2 e5 fun val as2 h2' tk2 st2 R2 F2' r3 => ?_
    rw [RepV] at r3; subst r3
    refine wpAny_truthy_bool ?_
    refine bind_el e4 fun z τ2 e6 e7 => ?_
    obtain ⟨b', e8, e9, rfl⟩ := ofOptB_ok e7
    cases e9
    refine test_last (IH names rt d h3 env A X _ as2 fr τ' _ z _ N hA ⟨F2', R2⟩ e6 fun val as3 h3 tk3 st3 R3 F3 r4 => ?_)
    have kp := At.keep (s := { s with heap := h', toks := tk }) ⟨F', R'⟩ st2
    have kp2 := At.keep (s := { s with heap := h2', toks := tk2 }) ⟨F2', R2⟩ st3
    have st13 := step_trans st (step_trans st2 st3 R3 F3) R3 F3
    refine o_cmp G.sys (T.step (tk := tk3) R3 F3) hA (RepV.keep kp2 _ _ (RepV.keep kp _ _ r2)) r4 e8 fun val as4 h4 tk4 st4 R4 F4 r5 => ?_
    rw [RepV] at r5; subst r5
    exact wpAny_truthy_bool (hQ as4 h4 tk4 (step_trans st13 st4 R4 F4) R4 F4)
  · rename_i e5
    cases e4
    refine o_cmp G.sys (T.step (tk := tk) R' F') hA r1 r2 e5 fun val as2 h2' tk2 st2 R2 F2' r3 => ?_
    rw [RepV] at r3; subst r3
    exact wpAny_truthy_bool (hQ as2 h2' tk2 (step_trans st st2 R2 F2') R2 F2')
  · cases e4
set_option tactic.hygienic false in
theorem sub_plain {i : Expr} {b : E} {c : CE} (h : compE n c i = some b) : ∀ o x, subscripted i false o x = operate [o, x] (getItem o x) := by
  have hk := comp_kind h
  cases i <;> first | (intros; rfl) | exact ft hk
set_option tactic.hygienic false in
theorem n_sub {va i a b p} (IH : SndE g c0 call r n) (h1 : compE n (c0.sub names) va = some a) (h2 : compE n (c0.sub names) i = some b) : NodeE g c0 call r names (.Subscript va i p) (.sub a b) := fun env A X s as fr σ σ' v Q N hA T ev hQ => by
  refine bind_el ev fun u τ e1 e2 => ?_
  refine bind_el e2 fun w τ' e3 e4 => ?_
  obtain ⟨e5, rfl⟩ := ofOpt_ok e4
  exact Subscript_ (two IH h1 h2 N hA T e1 e3 fun x y as' h' tk st R' F' r1 r2 => o_sub (T.step R' F') hA r1 r2 (sub_plain h2) e5 (epost_of hQ st R' F'))
end
end Mine

set_option autoImplicit false
set_option maxRecDepth 100000
set_option linter.unusedVariables false
namespace Mine
open PySem PyProof.Rows PySem.W

set_option tactic.hygienic false in
theorem Rel.pushAt {g : Cfg} {as : List Addr} {σ : Sto} {h h' : Heap} {o : AO} {a : Addr} (R : Rel g as σ h) (k : ∀ (b : Addr) (o : Obj), b ≠ a → h.get? b = some o → h'.get? b = some o) (ha : a ∉ as) (hb : g.b.get? a = none)
    (hi : ∀ ob, h.get? a = some ob → ¬ Imm ob) (ho : Keep as h (as ++ [a]) h' → RepO g (as ++ [a]) h' o a) : Keep as h (as ++ [a]) h' ∧ Rel g (as ++ [a]) (σ ++ [o]) h' := by
  have K : Keep as h (as ++ [a]) h' := ⟨fun j c e => by rw [List.getElem?_append_left (List.getElem?_eq_some_iff.mp e).1]; exact e, fun b ob e im => k b ob (fun q => by subst q; exact hi ob e im) e⟩
  refine ⟨K, ⟨fun b ob e => k b ob (fun q => by subst q; rw [hb] at e; cases e) (R.base b ob e), by simp [R.len], ?_, fun b hb' => ?_, fun i b ob h1 h2 => ?_⟩⟩
  · exact List.nodup_append.mpr ⟨R.nd, by simp, fun x hx y hy e => by simp at hy; subst hy; subst e; exact ha hx⟩
  · rcases List.mem_append.mp hb' with q | q
    · exact R.new b q
    · simp at q; subst q; exact hb
  · rcases Nat.lt_trichotomy i as.length with hi' | hi' | hi'
    · rw [List.getElem?_append_left hi'] at h1
      rw [List.getElem?_append_left (R.len ▸ hi')] at h2
      exact (R.obj i b ob h1 h2).keep K fun oc e => k b oc (fun q => ha (q ▸ List.mem_of_getElem? h1)) e
    · subst hi'
      rw [R.len] at h2
      simp at h1 h2; subst h1; subst h2; exact ho K
    · rw [List.getElem?_eq_none (by simp; lia)] at h1; cases h1

section
variable {g : Cfg} {K : Frag} {c0 : CE} {fa : Nat → Option Addr} {call : Nat → List V → Sto → RE} {env : Env} {A : Around} {X : Value → Shared → Prop} {s : Shared} {as : List Addr} {fr : Fra} {σ σ' : Sto} {r n : Nat}
  {names : List (Str × NameKind)} {Q : Value → Shared → Prop} {v : V}

set_option tactic.hygienic false in
theorem FrRel.there {h : Heap} (F : FrRel g env as fr h) : ∃ o, h.get? env.locals = some o := by
  obtain ⟨m, ⟨o, es, ep, e, _⟩, _⟩ := F.ns; exact ⟨o, e⟩
set_option tactic.hygienic false in
theorem At.notNew (T : At g env as fr σ s) : s.heap.objs.size ≠ env.locals ∧ s.heap.objs.size ∉ as ∧ g.b.get? s.heap.objs.size = none := by
  refine ⟨fun q => ?_, fun q => ?_, ?_⟩
  · obtain ⟨o, e⟩ := T.F.there; have := Heap.lt_size e; rw [q] at this; exact Nat.lt_irrefl _ this
  · obtain ⟨o, e, _⟩ := T.R.there q; have := Heap.lt_size e; exact Nat.lt_irrefl _ this
  · cases e : g.b.get? s.heap.objs.size with
    | none => rfl
    | some o => have := T.R.base _ _ e; rw [new_none] at this; cases this
set_option tactic.hygienic false in
theorem At.push (T : At g env as fr σ s) (o : Obj) : At g env as fr σ { s with heap := s.heap.push o } :=
  have x : Step [] as s.heap as (s.heap.push o) := Step.of_ext (keeps_push _ _)
  ⟨T.frame x, T.R.ext (keeps_push _ _)⟩
set_option tactic.hygienic false in
theorem step_pushed (as : List Addr) (h : Heap) (o : Obj) (own : List Addr) : Step own as h as (h.push o) := Step.of_ext (keeps_push _ _)

set_option tactic.hygienic false in
theorem FrRel.alter {as' : List Addr} {h h' : Heap} {d : Addr} (F : FrRel g env as fr h) (K : Keep as h as' h') (hk : ∀ (b : Addr) (o : Obj), b ≠ d → h.get? b = some o → h'.get? b = some o) (hL : env.locals ≠ d) (hc : ∀ x c, env.cells.lookup x = some c → c ≠ d)
    (has : ∀ a ∈ as', a ∈ as ∨ a = d) : FrRel g env as' fr h' := by
  obtain ⟨m, hm, hv⟩ := F.ns
  refine ⟨F.kind, F.above, F.glob, F.blt, F.len, F.nd, ⟨m, hm.at' fun o e => hk _ o hL e, fun i x v h1 h2 => ?_⟩, fun i x k h1 h2 => ?_, fun q => ?_, fun x c hc' => ⟨fun q => ?_, (F.offc _ _ hc').2.1, ?_⟩, F.apart, F.newc⟩
  · obtain ⟨val, e1, e2⟩ := hv i x v h1 h2
    exact ⟨val, e1, RepV.keep K _ _ e2⟩
  · obtain ⟨c, cv, e1, ⟨o, e2, e2'⟩, e3⟩ := F.cells i x k h1 h2
    refine ⟨c, cv, e1, ⟨o, hk _ _ (hc _ _ e1) e2, e2'⟩, fun v e => ?_⟩
    obtain ⟨val, e4, e5⟩ := e3 v e
    exact ⟨val, e4, RepV.keep K _ _ e5⟩
  · rcases has _ q with q | q
    · exact F.off q
    · exact hL q
  · rcases has _ q with q | q
    · exact (F.offc _ _ hc').1 q
    · exact hc _ _ hc' q
  · obtain ⟨cv, o, e, e'⟩ := (F.offc _ _ hc').2.2
    exact ⟨cv, o, hk _ _ (hc _ _ hc') e, e'⟩
set_option tactic.hygienic false in
theorem At.cellNew (T : At g env as fr σ s) : ∀ x c, env.cells.lookup x = some c → c ≠ s.heap.objs.size := fun x c hc q => by
  obtain ⟨cv, o, e, _⟩ := (T.F.offc _ _ hc).2.2
  have := Heap.lt_size e; rw [q] at this; exact Nat.lt_irrefl _ this

set_option tactic.hygienic false in
theorem n_attr {va a x k p} (G : Glob g K c0 fa) (I : AttInj g) (IH : SndE g c0 call r n) (hb : baseOk va = true) (h1 : compE n (c0.sub names) va = some a) (hk : c0.attrs.lookup x = some k) : NodeE g c0 call r names (.Attribute va x p) (.attr a k) := fun env A X s as fr σ σ' v Q N hA T ev hQ => by
  refine bind_el ev fun u τ e1 e2 => ?_
  obtain ⟨e5, rfl⟩ := ofOpt_ok e2
  refine Attribute_any_ (IH names va a h1 env A X s as fr σ _ u _ N hA T e1 fun val as' h' tk st R' F' r1 => o_attr G I (T.step (tk := tk) R' F') r1 hk e5 (epost_of hQ st R' F')) ?_
  have := base_eq (x := x) (env := env) (act := eval va env) hb
  show (attributeBase va x env (eval va env) >>= _) = _
  rw [this]
set_option tactic.hygienic false in
theorem n_list {es es' p} (IH : SndE g c0 call r n) (h1 : mapO (compE n (c0.sub names)) es = some es') : NodeE g c0 call r names (.List es p) (.list es') := fun env A X s as fr σ σ' v Q N hA T ev hQ => by
  refine sbind_el ev fun u τ e1 e2 => ?_
  refine wpAny_List (args_snd IH es es' s as σ τ u _ h1 N hA T e1 fun xs as' h' tk st R' F' r1 => ?_)
  have hl := (RepVs.f2.mp r1).length
  refine ⟨by rw [← hl]; exact newL_len e2, ?_⟩
  exact (epost_of (tk := tk) hQ st R' F').newH (tk := tk) (T.step R' F') (xs := u) (items := xs.toArray) (by simpa using r1) e2
theorem n_tup {es es' k p} (IH : SndE g c0 call r n) (h1 : mapO (compE n (c0.sub names)) es = some es') : NodeE g c0 call r names (.Tuple es k p) (.tup es') := fun env A X s as fr σ σ' v Q N hA T ev hQ => by
  refine sbind_el ev fun u τ e1 e2 => ?_
  split at e2
  case isFalse => cases e2
  rename_i hlen
  cases e2
  refine wpAny_Tuple (args_snd IH es es' s as σ _ u _ h1 N hA T e1 fun xs as' h' tk st R' F' r1 => ?_)
  have hl := (RepVs.f2.mp r1).length
  refine ⟨by rw [← hl]; show _ ≤ 2 ^ 24; lia, ?_⟩
  have T' := T.step (tk := tk) R' F'
  have x : Step [] as' h' as' (h'.push { cls := .type "tuple", data := .seq xs.toArray }) := Step.of_ext (keeps_push _ _)
  refine (epost_of (tk := tk) hQ st R' F').use (tk := tk) T' x (R'.ext (keeps_push _ _)) ?_
  rw [RepV]
  exact ⟨_, xs.toArray, 0, rfl, Heap.get?_push_size _ rfl, by simp; lia, by simpa using RepVs.keep (R'.keep0 x) _ _ r1⟩

theorem n_slo {va lo a b p p'} (IH : SndE g c0 call r n) (h1 : compE n (c0.sub names) va = some a) (h2 : compE n (c0.sub names) lo = some b) : NodeE g c0 call r names (.Subscript va (.Slice (some lo) none none p') p) (.slo a b) := fun env A X s as fr σ σ' v Q N hA T ev hQ => by
  refine bind_el ev fun u τ e1 e2 => ?_
  refine bind_el e2 fun w τ' e3 e4 => ?_
  refine Subscript_ (IH names va a h1 env A X s as fr σ τ u _ N hA T e1 fun x as1 k1 tk1 st1 R1 F1 r1 => ?_)
  refine wpAny_Slice (wpAny_evalPart_some (IH names lo b h2 env A X _ as1 fr τ τ' w _ N hA ⟨F1, R1⟩ e3 fun y as2 k2 tk2 st2 R2 F2' r2 => ?_))
  refine wpAny_pure (wpAny_pure ?_)
  have r1' := RepV.keep (At.keep (s := { s with heap := k1, toks := tk1 }) ⟨F1, R1⟩ st2) _ _ r1
  split at e4
  case h_2 => cases e4
  rename_i l k
  split at e4
  case h_2 => cases e4
  rename_i xs hx
  split at e4
  case isFalse => cases e4
  rename_i hk
  have T2 : At g env as2 fr τ' { s with heap := k2, toks := tk2 } := ⟨F2', R2⟩
  have T3 := T2.push { cls := .type "slice", data := .fields #[y, .none, .none] }
  have kp := R2.keep0 (step_pushed as2 k2 { cls := .type "slice", data := .fields #[y, .none, .none] } [])
  refine o_slice (lo := some k) T3 (RepV.keep kp _ _ r1') hx (Heap.IsSliceOf.new k2 y .none .none) ?_ .none .none (by simp) (fun items hi => ?_) e4 (fun _ _ => ⟨_, rfl⟩) ?_
  · rw [RepV] at r2; obtain ⟨t, rfl⟩ := r2; exact .int _ _
  · obtain ⟨k', rfl⟩ := Int.eq_ofNat_of_zero_le hk
    show RepVs _ _ _ (slicePick items (some (k' : Int)) none none).toList
    rw [slicePick_from']
    simpa using RepVs.f2.mpr ((RepVs.f2.mp hi).drop k')
  · exact fun val as3 h3 tk3 st3 R3 F3 r3 => hQ val as3 h3 tk3 (step_trans st1 (step_trans st2 (step_trans (g := g) (fr := fr) (step_pushed as2 k2 _ _) st3 R3 F3) R3 F3) R3 F3) R3 F3 r3
theorem n_shi {va lo a b p p'} (IH : SndE g c0 call r n) (h1 : compE n (c0.sub names) va = some a) (h2 : compE n (c0.sub names) lo = some b) : NodeE g c0 call r names (.Subscript va (.Slice none (some lo) none p') p) (.shi a b) := fun env A X s as fr σ σ' v Q N hA T ev hQ => by
  refine bind_el ev fun u τ e1 e2 => ?_
  refine bind_el e2 fun w τ' e3 e4 => ?_
  refine Subscript_ (IH names va a h1 env A X s as fr σ τ u _ N hA T e1 fun x as1 k1 tk1 st1 R1 F1 r1 => ?_)
  refine wpAny_Slice (wpAny_pure (wpAny_evalPart_some (IH names lo b h2 env A X _ as1 fr τ τ' w _ N hA ⟨F1, R1⟩ e3 fun y as2 k2 tk2 st2 R2 F2' r2 => ?_)))
  refine wpAny_pure ?_
  have r1' := RepV.keep (At.keep (s := { s with heap := k1, toks := tk1 }) ⟨F1, R1⟩ st2) _ _ r1
  split at e4
  case h_2 => cases e4
  rename_i l k
  split at e4
  case h_2 => cases e4
  rename_i xs hx
  split at e4
  case isFalse => cases e4
  rename_i hk
  have T2 : At g env as2 fr τ' { s with heap := k2, toks := tk2 } := ⟨F2', R2⟩
  have T3 := T2.push { cls := .type "slice", data := .fields #[.none, y, .none] }
  have kp := R2.keep0 (step_pushed as2 k2 { cls := .type "slice", data := .fields #[.none, y, .none] } [])
  refine o_slice (hi := some k) T3 (RepV.keep kp _ _ r1') hx (Heap.IsSliceOf.new k2 .none y .none) .none ?_ .none (by simp) (fun items hi => ?_) e4 (fun _ _ => ⟨_, rfl⟩) ?_
  · rw [RepV] at r2; obtain ⟨t, rfl⟩ := r2; exact .int _ _
  · obtain ⟨k', rfl⟩ := Int.eq_ofNat_of_zero_le hk
    show RepVs _ _ _ (slicePick items none (some (k' : Int)) none).toList
    rw [slicePick_upto']
    simpa using RepVs.f2.mpr ((RepVs.f2.mp hi).take k')
  · exact fun val as3 h3 tk3 st3 R3 F3 r3 => hQ val as3 h3 tk3 (step_trans st1 (step_trans st2 (step_trans (g := g) (fr := fr) (step_pushed as2 k2 _ _) st3 R3 F3) R3 F3) R3 F3) R3 F3 r3
set_option tactic.hygienic false in
theorem At.notSys (G : Sys g) (T : At g env as fr σ s) : (s.heap.objs.size == sysModules) = false := by
  obtain ⟨o, e⟩ := T.F.there
  have h1 := Heap.lt_size e
  have h2 := T.F.above
  have h3 := G.sys
  cases q : s.heap.objs.size == sysModules with
  | false => rfl
  | true =>
    have := eq_of_beq q
    rw [this] at h1
    exact absurd (Nat.lt_of_lt_of_le h3 h2) (Nat.lt_asymm h1)

set_option tactic.hygienic false in
theorem n_dict0 {p} (G : Glob g K c0 fa) : NodeE g c0 call r names (.Dict [] [] p) .dict0 := fun env A X s as fr σ σ' v Q N hA T ev hQ => by
  obtain ⟨rfl, rfl⟩ := ok_inj ev
  refine wpAny_Dict_empty ?_
  have x : Step [] as s.heap (as ++ [s.heap.objs.size]) (s.heap.push { cls := .type "dict", data := .dict #[] }) := step_push (keeps_push _ _) (new_none _)
  refine hQ.use (tk := s.toks) T x (T.R.push (keeps_push _ _) (new_none _) ⟨[], Heap.DictOfH.new _, .nil, by simp, T.notSys G.sys⟩) ?_
  rw [RepV]
  exact ⟨_, rfl, by rw [← T.R.len]; simp⟩
theorem n_dict1 {ke va a b p} (G : Glob g K c0 fa) (IH : SndE g c0 call r n) (h1 : compE n (c0.sub names) ke = some a) (h2 : compE n (c0.sub names) va = some b) : NodeE g c0 call r names (.Dict [some ke] [va] p) (.dict1 a b) := fun env A X s as fr σ σ' v Q N hA T ev hQ => by
  refine bind_el ev fun u τ e1 e2 => ?_
  refine bind_el e2 fun w τ' e3 e4 => ?_
  split at e4
  case h_2 => cases e4
  rename_i i
  cases e4
  have T1 := T.push { cls := .type "dict", data := .dict #[] }
  have nn := T.notNew
  have hd0 := Heap.DictOf.new (knd := intKind g.prog g.w) s.heap
  refine wpAny_Dict_walk (knd := intKind g.prog g.w) rfl rfl (by simp) (by simp) (pairTrees_cons_walk (two IH h1 h2 N hA T1 e1 e3 fun x y as' h' tk st R' F' r1 r2 => pairTrees_nil_walk ?_))
  rw [RepV] at r1; obtain ⟨t, rfl⟩ := r1
  have hda : s.heap.objs.size ∉ as' := by
    obtain ⟨⟨t', rfl, ht⟩, _⟩ := st
    intro q
    rcases List.mem_append.mp q with q | q
    · exact nn.2.1 q
    · have := ht _ q; rw [Heap.get?_push_size _ rfl] at this; cases this
  refine ⟨[(i, y)], ⟨intKind_is _ _ _ _, rfl, trivial⟩, ?_, fun h2' hd' hs' => ?_⟩
  · exact hd0.at fun o e => st.ext _ _ e (by simpa using nn.1) nn.2.1
  have hk : ∀ (b : Addr) (o : Obj), b ≠ s.heap.objs.size → h'.get? b = some o → h2'.get? b = some o := fun b o hb e => by rw [hs'.2 b hb]; exact e
  have hni : ∀ ob, h'.get? s.heap.objs.size = some ob → ¬ Imm ob := fun ob e hi => by
    have := st.ext _ _ (Heap.get?_push_size s.heap (o := { cls := .type "dict", data := .dict #[] }) rfl) (by simpa using nn.1) nn.2.1
    rw [e] at this; cases this
    exact hi.2.1 _ _ rfl
  obtain ⟨K', R2⟩ := R'.pushAt (o := .dI [(i, w)]) hk hda nn.2.2 hni fun kk => ⟨_, hd', by
    show F2 _ _ [(i, y)]
    exact .cons ⟨rfl, RepV.keep kk _ _ r2⟩ .nil, by simp, T.notSys G.sys⟩
  have st2 : Step [env.locals] as s.heap (as' ++ [s.heap.objs.size]) h2' := by
    obtain ⟨⟨t', rfl, ht⟩, hx⟩ := st
    refine ⟨⟨t' ++ [s.heap.objs.size], by simp, fun a ha => ?_⟩, fun b o e hb hb' => hk b o (fun q => by subst q; rw [new_none] at e; cases e) (hx b o (keeps_push _ _ _ _ e) hb hb')⟩
    rcases List.mem_append.mp ha with q | q
    · cases e : s.heap.get? a with
      | none => rfl
      | some o => have := ht a q; rw [keeps_push _ _ _ _ e] at this; cases this
    · simp at q; subst q; exact new_none _
  have F2' : FrRel g env (as' ++ [s.heap.objs.size]) fr h2' := F'.alter K' hk (Ne.symm nn.1) T.cellNew (by intro a ha; rcases List.mem_append.mp ha with q | q; exact .inl q; simp at q; exact .inr q)
  refine hQ _ _ h2' _ st2 R2 F2' ?_
  rw [RepV]
  exact ⟨_, rfl, by rw [← R'.len]; simp⟩
end
end Mine

set_option autoImplicit false
set_option maxRecDepth 100000
set_option linter.unusedVariables false
namespace Mine
open PySem PyProof.Rows PySem.W

section
variable {g : Cfg} {K : Frag} {c0 : CE} {fa : Nat → Option Addr} {call : Nat → List V → Sto → RE} {env : Env} {A : Around} {X : Value → Shared → Prop} {s : Shared} {as : List Addr} {fr : Fra} {σ σ' : Sto} {r n : Nat}
  {names : List (Str × NameKind)} {Q : Value → Shared → Prop} {v : V}

set_option tactic.hygienic false in
theorem noStar {pos : Pos} {c : CE} : ∀ {es : List Expr} {es' : List E}, mapO (compE n c) es = some es' → (backTo pos (starEach es env)).any (·.1) = false
  | [], _, _ => rfl
  | e :: es, es', h => by
    obtain ⟨a, as', h1, h2, rfl⟩ := mapO_cons h
    rw [notStarred h1]
    show (false || (backTo pos (starEach es env)).any (·.1)) = false
    rw [noStar h2]; rfl

set_option tactic.hygienic false in
theorem callWith_snd {pos : Pos} {f : Value} {first : List Value} (IH : SndE g c0 call r n) (hk : ∀ h : Heap, (∀ (a : Addr) (o : Obj), g.b.get? a = some o → h.get? a = some o) → ∃ k, (k = Keeper.frame ∨ k = Keeper.machine ∨ k = Keeper.boundFrame) ∧ Looks (model g.prog g.w) h (keeperOf f) k)
    {es : List Expr} {es' : List E} {vs : List V} (h1 : mapO (compE n (c0.sub names)) es = some es') (N : NamesOk (c0.sub names) env) (hA : Room A (r + 1)) (T : At g env as fr σ s) (ev : evEs call es' fr σ = .ok vs σ')
    (hQ : ∀ (xs : List Value) (as' : List Addr) (h' : Heap) (tk : Nat), Step [env.locals] as s.heap as' h' → Rel g as' σ' h' → FrRel g env as' fr h' → RepVs as' h' vs xs → wpAny (model g.prog g.w) A (PySem.call f (first ++ xs)) Q X { s with heap := h', toks := tk }) :
    wpAny (model g.prog g.w) A (callWith pos f first (backTo pos (starEach es env)) []) Q X s := by
  refine callWith_of (P := fun h => ∀ (a : Addr) (o : Obj), g.b.get? a = some o → h.get? a = some o) (by rw [noStar h1]; rfl) hk ?_
  have fin : ∀ (xs : List Value) (as' : List Addr) (h' : Heap) (tk : Nat), Step [env.locals] as s.heap as' h' → Rel g as' σ' h' → FrRel g env as' fr h' → RepVs as' h' vs xs →
    (∀ (a : Addr) (o : Obj), g.b.get? a = some o → ({ s with heap := h', toks := tk } : Shared).heap.get? a = some o) ∧ wpAny (model g.prog g.w) A (PySem.call f (first ++ (⟨xs, []⟩ : Args).pos) (⟨xs, []⟩ : Args).kw) Q X { s with heap := h', toks := tk } :=
    fun xs as' h' tk st R' F' r' => ⟨R'.base, hQ xs as' h' tk st R' F' r'⟩
  cases es with
  | nil =>
    rw [mapO] at h1; cases h1; rw [evEs] at ev; cases ev
    exact PySem.evalArgs_none (fin [] as s.heap s.toks (Step.refl _ _ _) T.R T.F (by rw [RepVs]))
  | cons e es =>
    have key := args_snd (A := A) (X := X) (pos := pos) IH (e :: es) es' s as σ σ' vs (fun xs s' => (∀ (a : Addr) (o : Obj), g.b.get? a = some o → s'.heap.get? a = some o) ∧ wpAny (model g.prog g.w) A (PySem.call f (first ++ (⟨xs, []⟩ : Args).pos) (⟨xs, []⟩ : Args).kw) Q X s') h1 N hA T ev fin
    obtain ⟨a, as', h3, h4, rfl⟩ := mapO_cons h1
    rw [notStarred h3] at key ⊢
    exact Calls.evalArgs_plain key

set_option tactic.hygienic false in
theorem keeps_blt (id : String) : ∀ h : Heap, ∃ k, (k = Keeper.frame ∨ k = Keeper.machine ∨ k = Keeper.boundFrame) ∧ Looks (model g.prog g.w) h (keeperOf (.builtin id)) k := fun h => ⟨.machine, .inr (.inl rfl), .now⟩
set_option tactic.hygienic false in
theorem keeps_typ (id : String) : ∀ h : Heap, ∃ k, (k = Keeper.frame ∨ k = Keeper.machine ∨ k = Keeper.boundFrame) ∧ Looks (model g.prog g.w) h (keeperOf (.type id)) k := fun h => ⟨.machine, .inr (.inl rfl), .now⟩
set_option tactic.hygienic false in
theorem keeps_bv (b : BN) (hb : bOk b = true) : ∀ h : Heap, ∃ k, (k = Keeper.frame ∨ k = Keeper.machine ∨ k = Keeper.boundFrame) ∧ Looks (model g.prog g.w) h (keeperOf (bltVal b)) k := by
  cases b <;> first | exact ft hb | exact keeps_blt _ | exact keeps_typ _
set_option tactic.hygienic false in
theorem lookup_all {α : Type} {P : α → Bool} {x : Str} {b : α} : ∀ {l : List (Str × α)}, l.all (fun q => P q.2) = true → l.lookup x = some b → P b = true
  | [], _, e => nn e
  | q :: l, h, e => by
    obtain ⟨h1, h2⟩ := and_inv (show (P q.2 && l.all fun q => P q.2) = true from h)
    obtain ⟨y, c⟩ := q
    rw [List.lookup_cons] at e
    cases hq : x == y <;> rw [hq] at e
    · exact lookup_all h2 e
    · exact Option.some.inj e ▸ h1
set_option tactic.hygienic false in
theorem keeps_G {f : Value} (G : Glob g K c0 fa) (hk : keepIn K f = true) : ∀ h : Heap, (∀ (a : Addr) (o : Obj), g.b.get? a = some o → h.get? a = some o) → ∃ k, (k = Keeper.frame ∨ k = Keeper.machine ∨ k = Keeper.boundFrame) ∧ Looks (model g.prog g.w) h (keeperOf f) k :=
  fun h hb => keeps_K hk h (G.kin.keeps hb)

set_option tactic.hygienic false in
theorem n_blt {f : Str} {fp p : Pos} {b es es'} (G : Glob g K c0 fa) (IH : SndE g c0 call r n) (hg : (c0.sub names).glob f = true) (hd : (f == ("__debug__" : Str)) = false) (hb : bltName.lookup f = some b) (hne : bOk b = true) (h1 : mapO (compE n (c0.sub names)) es = some es') :
    NodeE g c0 call r names (.Call (.Name f fp) es [] p) (.blt b es') := fun env A X s as fr σ σ' v Q N hA T ev hQ => by
  refine sbind_el ev fun us τ e1 e2 => ?_
  refine wpAny_Call_NameR (o_glob T N hg hd (G.blt f b hb) ?_)
  refine callWith_snd IH (fun h _ => ?_) h1 N hA T e1 fun xs as' h' tk st R' F' r' => ?_
  · exact keeps_bv b hne h
  · exact o_blt G.sys (T.step (tk := tk) R' F') hA r' hne e2 (epost_of hQ st R' F')
set_option tactic.hygienic false in
theorem Room.less {m k : Nat} (h : Room A (m + k)) : Room A m := by
  have h1 := h.units; have h2 := h.depth
  exact ⟨by lia, by lia, h.handled⟩

set_option tactic.hygienic false in
theorem FrRel.size {h : Heap} (F : FrRel g env as fr h) : g.b.objs.size ≤ h.objs.size := by
  obtain ⟨o, e⟩ := F.there
  exact Nat.le_trans F.above (Nat.le_of_lt (Heap.lt_size e))

set_option tactic.hygienic false in
theorem epost_grow {as' : List Addr} {h' : Heap} {tk : Nat} {τ : Sto} {val : Value} {as2 : List Addr} {h2 : Heap} {tk2 : Nat} (hQ : EPost g env as fr s v σ' Q) (st : Step [env.locals] as s.heap as' h') (R' : Rel g as' τ h') (F' : FrRel g env as' fr h')
    (st2 : Step [] as' h' as2 h2) (R2 : Rel g as2 σ' h2) (r2 : RepV as2 h2 v val) : Q val { s with heap := h2, toks := tk2 } :=
  (epost_of (tk := tk) hQ st R' F').use (tk := tk2) (s := { s with heap := h', toks := tk }) ⟨F', R'⟩ st2 R2 r2

set_option tactic.hygienic false in
theorem n_call {f : Str} {fp p : Pos} {k es es'} (G : Glob g K c0 fa) (C : CallOk g fa call r) (IH : SndE g c0 call r n) (hg : (c0.sub names).glob f = true) (hd : (f == ("__debug__" : Str)) = false) (hb : c0.fns.lookup f = some k) (h1 : mapO (compE n (c0.sub names)) es = some es') :
    NodeE g c0 call r names (.Call (.Name f fp) es [] p) (.call k es') := fun env A X s as fr σ σ' v Q N hA T ev hQ => by
  refine sbind_el ev fun us τ e1 e2 => ?_
  obtain ⟨a, hv, hfa, hkp⟩ := G.fn f k hb
  refine wpAny_Call_NameR (o_glob T N hg hd hv ?_)
  refine callWith_snd IH (keeps_G G hkp) h1 N hA T e1 fun xs as' h' tk st R' F' r' => ?_
  refine wpAny_call (C k a us τ σ' v hfa e2 A _ as' xs _ (hA.less (k := 1)) R' F'.size r' fun val as2 h2 tk2 st2 R2 r2 => ?_)
  exact epost_grow (s := s) (tk := tk) (tk2 := tk2) hQ st R' F' st2 R2 r2

theorem n_isi {a : Expr} {t : Str} {x ty p fp tp} (G : Glob g K c0 fa) (IH : SndE g c0 call r n) (hg : (c0.sub names).glob "isinstance" = true) (hgt : (c0.sub names).glob t = true) (ht : isiTy c0 t = some ty) (hdt : (t == ("__debug__" : Str)) = false) (h1 : compE n (c0.sub names) a = some x) :
    NodeE g c0 call r names (.Call (.Name "isinstance" fp) [a, .Name t tp] [] p) (.isi x ty) := fun env A X s as fr σ σ' v Q N hA T ev hQ => by
  refine bind_el ev fun u τ e1 e2 => ?_
  obtain ⟨b, e3, rfl, rfl⟩ := ofOptB_ok e2
  refine wpAny_Call_NameR (o_glob T N hg rfl G.isi ?_)
  refine Calls.callWith_builtin (by rw [notStarred h1]; rfl) ?_
  rw [notStarred h1]
  refine Calls.evalArgs_plain ?_
  have hrw : (false, eval a env) :: (backTo p (starEach [.Name t tp] env)) = backTo p (starEach (a :: [.Name t tp]) env) := by rw [notStarred h1]; rfl
  show wpAny _ A (spliced ((false, eval a env) :: (backTo p (starEach [.Name t tp] env)))) _ X s
  rw [hrw]
  refine wpAny_items_cons ?_ (notStarred h1 _ _)
  refine IH names a x h1 env A X s as fr σ _ u _ N hA T e1 fun val as' h' tk st R' F' r' => ?_
  have T' := T.step (tk := tk) R' F'
  unfold isiTy at ht
  cases hl : tyName.lookup t with
  | some ty' =>
    rw [hl] at ht
    cases Option.some.inj ht
    have hty : ∃ y, tyVal ty = some y := by
      have : ∀ q ∈ tyName, ∃ y, tyVal q.2 = some y := by
        intro q hq
        simp only [tyName, List.mem_cons, List.not_mem_nil, or_false] at hq
        rcases hq with rfl | rfl | rfl | rfl <;> exact ⟨_, rfl⟩
      exact this _ (FrRel.keep.lookup_mem hl)
    obtain ⟨y, hy⟩ := hty
    refine wpAny_items_cons (o_glob T' N hgt hdt (G.typ t ty y hl hy) (wpAny_items_nil ?_))
    exact o_isi T' r' e3 hy (epost_of hQ st R' F')
  | none =>
    rw [hl] at ht
    cases hc : c0.clss.lookup t with
    | some k =>
      rw [hc] at ht
      cases Option.some.inj ht
      obtain ⟨fI, hv, _⟩ := G.cls t k hc
      have hin := G.clsO t k hc
      refine wpAny_items_cons (o_glob T' N hgt hdt hv (wpAny_items_nil ?_))
      dsimp only [isiV] at e3
      split at e3
      case h_2 => cases e3
      split at e3
      case h_2 => cases e3
      rename_i l d hd
      cases e3
      obtain ⟨ad, dx, rfl, hl, hdd, ho'⟩ := rep_inst (s := { s with heap := h', toks := tk }) R' r' hd
      refine isi_call (K := K) (t := .ref g.C) (G.kin.keeps R'.base) (fun M => ?_) hin (by simp) ?_
      · obtain ⟨ob, hob, _⟩ := R'.there (List.mem_of_getElem? hdd)
        exact InstAt.type (od := some ob) (x := ad) (ox := instObj g.C dx) ⟨ho', rfl, rfl, hob⟩
      · exact (epost_of (tk := tk) hQ st R' F').bool' T'
    | none =>
      rw [hc] at ht
      obtain ⟨q, _, rfl⟩ := map_inv ht
      exact nn e3

theorem n_maxd {a : Expr} {x p fp k p1 kp} (G : Glob g K c0 fa) (IH : SndE g c0 call r n) (hg : (c0.sub names).glob "max" = true) (h1 : compE n (c0.sub names) a = some x) :
    NodeE g c0 call r names (.Call (.Name "max" fp) [a] [⟨some "default", .Constant .none k p1, kp⟩] p) (.maxd x) := fun env A X s as fr σ σ' v Q N hA T ev hQ => by
  refine bind_el ev fun u τ e1 e2 => ?_
  show wpAny _ A (eval (.Name "max" fp) env >>= fun f => callWith p f [] (backTo p (starEach [a] env)) (backToKw p (keywordEach [⟨some "default", .Constant .none k p1, kp⟩] env))) Q X s
  refine wpAny_bind (o_glob T N hg rfl (G.blt "max" .max rfl) ?_)
  refine callWith_kw ?_ (by rw [notStarred h1]; rfl) (by rw [notStarred h1]; rfl) rfl rfl
  refine wpAny_items_cons ?_ (notStarred h1 _ _)
  refine IH names a x h1 env A X s as fr σ τ u _ N hA T e1 fun val as' h' tk st R' F' r' => wpAny_items_nil ?_
  have T' := T.step (tk := tk) R' F'
  have fin : ∀ is l, u = .ref l → (getL τ l).bind intsOf = some is → (v = match maxL is with | some i => V.int i | none => V.none) → σ' = τ →
      wpAny (model g.prog g.w) A (PySem.call (.builtin "max") [val] [(Str.ofString "default", .none)]) Q X { s with heap := h', toks := tk } := fun is l hu hi hv hs => by
    subst hu; subst hs
    exact o_maxd T' hA r' hi hv (epost_of hQ st R' F')
  have fin' : ∀ is l, u = .ref l → (getL τ l).bind intsOf = some is → (v = match maxL is with | some i => V.int i | none => V.none) → σ' = τ →
      wpAny (model g.prog g.w) A (evalAll ((backToKw p (keywordEach [⟨some "default", .Constant .none k p1, kp⟩] env)).map (·.2)))
      (fun kvs s₂ => wpAny (model g.prog g.w) A (PySem.call (.builtin "max") [val] (((backToKw p (keywordEach [⟨some "default", .Constant .none k p1, kp⟩] env)).filterMap (·.1)).zip kvs)) Q X s₂) X { s with heap := h', toks := tk } := fun is l hu hi hv hs => by
    have := fin is l hu hi hv hs
    show wpAny _ A (do let v ← (do let v ← eval (.Constant .none k p1) env; standAt p; pure v); return v :: (← holding [v] (evalAll []))) _ X _
    refine wpAny_bind (wpAny_bind (Constant_none (wpAny_bind (wpAny_standAt (wpAny_pure (wpAny_bind (wpAny_holding (wpAny_pure (wpAny_pure ?_)))))))))
    exact this
  split at e2
  case h_2 => cases e2
  rename_i l
  split at e2
  · rename_i hi
    cases e2
    exact fin' [] l rfl hi rfl rfl
  · rename_i is hne hi
    obtain ⟨e3, rfl⟩ := ofOpt_ok e2
    obtain ⟨i, e4, rfl⟩ := Option.map_eq_some_iff.mp e3
    exact fin' is l rfl hi (by rw [e4]) rfl
  · cases e2
end
end Mine

set_option autoImplicit false
set_option maxRecDepth 100000
set_option linter.unusedVariables false
namespace Mine
open PySem PyProof.Rows PySem.W

set_option tactic.hygienic false in
theorem dedup_met (is : List Int) : (firstMet (fun i => is.getD i 0) is.length) = dedup is := by
  unfold firstMet dedup
  have : (List.range is.length).map (fun i => is.getD i 0) = is := by
    apply List.ext_getElem
    · simp
    · intro i h1 h2; simp at h1; simp [h1]
  rw [this]; rfl

theorem setLen_inv {u v : V} {τ σ' : Sto} (e : bltV .setLen [u] τ = .ok v σ') : ∃ l is, u = .ref l ∧ (getL τ l).bind intsOf = some is ∧ is.length ≤ 1000 ∧ v = .int (dedup is).length ∧ σ' = τ := by
  cases u <;> try (simp only [bltV, bSet, bRev] at e; cases e)
  rename_i l
  simp only [bltV, bSet, bRev] at e
  split at e
  · rename_i is hi
    split at e
    · cases e; exact ⟨l, is, rfl, hi, by assumption, rfl, rfl⟩
    · cases e
  · cases e
theorem revl_inv {u v : V} {τ σ' : Sto} (e : bltV .revl [u] τ = .ok v σ') : ∃ l xs, u = .ref l ∧ getL τ l = some xs ∧ newL xs.reverse τ = .ok v σ' := by
  cases u <;> try (simp only [bltV, bSet, bRev] at e; cases e)
  rename_i l
  simp only [bltV, bSet, bRev] at e
  split at e
  · rename_i is hi
    exact ⟨l, is, rfl, hi, e⟩
  · cases e

section
variable {g : Cfg} {K : Frag} {c0 : CE} {fa : Nat → Option Addr} {call : Nat → List V → Sto → RE} {env : Env} {A : Around} {X : Value → Shared → Prop} {s : Shared} {as : List Addr} {fr : Fra} {σ σ' : Sto} {r n : Nat}
  {names : List (Str × NameKind)} {Q : Value → Shared → Prop} {v : V}

set_option tactic.hygienic false in
theorem one_arg {f : Str} {fp p : Pos} {a : Expr} {x : E} {fv : Value} {u : V} (IH : SndE g c0 call r n) (hg : (c0.sub names).glob f = true) (hd : (f == ("__debug__" : Str)) = false) (hv : GV g f fv) (hk : ∃ id, fv = .builtin id ∨ fv = .type id)
    (h1 : compE n (c0.sub names) a = some x) (N : NamesOk (c0.sub names) env) (hA : Room A (r + 1)) (T : At g env as fr σ s) (ev : evE call x fr σ = .ok u σ')
    (hQ : ∀ (y : Value) (as' : List Addr) (h' : Heap) (tk : Nat), Step [env.locals] as s.heap as' h' → Rel g as' σ' h' → FrRel g env as' fr h' → RepV as' h' u y → wpAny (model g.prog g.w) A (PySem.call fv [y]) Q X { s with heap := h', toks := tk }) :
    wpAny (model g.prog g.w) A (eval (.Call (.Name f fp) [a] [] p) env) Q X s := by
  refine wpAny_Call_NameR (o_glob T N hg hd hv ?_)
  have h1' : mapO (compE n (c0.sub names)) [a] = some [x] := by rw [mapO, h1]; rfl
  refine callWith_snd IH (fun h _ => ?_) h1' N hA T (vs := [u]) (σ' := σ') ?_ fun xs as' h' tk st R' F' r' => ?_
  · obtain ⟨id, q | q⟩ := hk <;> rw [q]
    · exact keeps_blt id h
    · exact keeps_typ id h
  · rw [evEs]; dsimp only; rw [ev]; simp [evEs, RE.binds_ok, REs.binds_ok]
  · rw [RepVs] at r'
    obtain ⟨y, ys, rfl, r1, r2⟩ := r'
    rw [RepVs] at r2; subst r2
    exact hQ y as' h' tk st R' F' r1

set_option tactic.hygienic false in
theorem items_one {p : Pos} {f : Expr} {x : Expr} {kw : List Keyword} {pos : Pos} {Q : List Value → Shared → Prop} (h : wpAny (model g.prog g.w) A (eval (.Call f [x] kw pos) env) (fun v s' => Q [v] s') X s) : wpAny (model g.prog g.w) A (spliced (backTo p (starEach [.Call f [x] kw pos] env))) Q X s :=
  wpAny_items_cons (wpAny_mono h (fun v s' h' => wpAny_items_nil h') fun _ _ h => h)

set_option tactic.hygienic false in
theorem n_setLen {a : Expr} {x p fp p1 fp1} (G : Glob g K c0 fa) (IH : SndE g c0 call r n) (hg : (c0.sub names).glob "len" = true) (hg1 : (c0.sub names).glob "set" = true) (h1 : compE n (c0.sub names) a = some x) :
    NodeE g c0 call r names (.Call (.Name "len" fp) [.Call (.Name "set" fp1) [a] [] p1] [] p) (.blt .setLen [x]) := fun env A X s as fr σ σ' v Q N hA T ev hQ => by
  refine sbind_el ev fun us τ e1 e2 => ?_
  rw [evEs] at e1
  refine binds_el e1 fun u τ1 e3 e4 => ?_
  rw [evEs] at e4
  cases e4
  refine wpAny_Call_NameR (o_glob T N hg rfl (G.blt "len" .len rfl) ?_)
  show wpAny _ A (callWith p (.builtin "len") [] _ []) Q X s
  refine Calls.callWith_builtin rfl (Calls.evalArgs_plain ?_)
  refine items_one (p := p) (one_arg IH hg1 rfl G.set ⟨_, .inr rfl⟩ h1 N hA T e3 fun y as' h' tk st R' F' r' => ?_)
  have T' := T.step (tk := tk) R' F'
  obtain ⟨l, is, rfl, hi, hlen, rfl, rfl⟩ := setLen_inv e2
  obtain ⟨vs, h2, h3⟩ := Option.bind_eq_some_iff.mp hi
  obtain ⟨ad, items, m, rfl, hd, ho, hr, hz, hsz⟩ := rep_list (s := { s with heap := h', toks := tk }) R' r' h2
  have hints := intsAre_of h3 hr
  have hl := hints.length
  rw [Array.length_toList] at hl
  refine call_set_list hA.handled ho.isList hints (by show _ < 4096; lia) fun h2' tk2 hS hk => ?_
  rw [hl, dedup_met] at hS
  obtain ⟨o, es, ep, t, q1, q2, q3, q4, q5, q6, q7, q8⟩ := hS
  refine call_len_set q1 q2 q3 q7 ?_ ?_
  · have : es.size < 4096 := q6
    have h63 : (2 : Int) ^ 63 = 9223372036854775808 := by decide +kernel
    lia
  · rw [q8]
    have kk : ∀ (b : Addr) (o : Obj), h'.get? b = some o → h2'.get? b = some o := fun b o e => hk b o (Heap.lt_size e) e
    exact (epost_of (tk := tk) hQ st R' F').use (tk := tk2 + 1 + 1) T' (Step.of_ext kk) (R'.ext kk) (by rw [RepV]; exact ⟨_, rfl⟩)

set_option tactic.hygienic false in
theorem n_revl {a : Expr} {x p fp p1 fp1} (G : Glob g K c0 fa) (IH : SndE g c0 call r n) (hg : (c0.sub names).glob "list" = true) (hg1 : (c0.sub names).glob "reversed" = true) (h1 : compE n (c0.sub names) a = some x) :
    NodeE g c0 call r names (.Call (.Name "list" fp) [.Call (.Name "reversed" fp1) [a] [] p1] [] p) (.blt .revl [x]) := fun env A X s as fr σ σ' v Q N hA T ev hQ => by
  refine sbind_el ev fun us τ e1 e2 => ?_
  rw [evEs] at e1
  refine binds_el e1 fun u τ1 e3 e4 => ?_
  rw [evEs] at e4
  cases e4
  refine wpAny_Call_NameR (o_glob T N hg rfl (G.blt "list" .list rfl) ?_)
  show wpAny _ A (callWith p (.type "list") [] _ []) Q X s
  refine PySem.callWith_type rfl (Calls.evalArgs_plain ?_)
  refine items_one (p := p) (one_arg IH hg1 rfl G.rev ⟨_, .inr rfl⟩ h1 N hA T e3 fun y as' h' tk st R' F' r' => ?_)
  have T' := T.step (tk := tk) R' F'
  obtain ⟨l, xs, rfl, h2, h3⟩ := revl_inv e2
  obtain ⟨ad, items, m, rfl, hd, ho, hr, hz, hsz⟩ := rep_list (s := { s with heap := h', toks := tk }) R' r' h2
  refine call_reversed_list ho.isList ?_
  have hne : ad ≠ h'.objs.size := Nat.ne_of_lt (Heap.lt_size ho)
  refine call_list_rev hA.handled ⟨_, Heap.get?_push_size _ rfl, rfl, rfl⟩ (ho.isList.push _) (by rw [hsz]; exact hz) fun h2' tk2 acc c' hk hacc he => ?_
  have kk : ∀ (b : Addr) (o : Obj), h'.get? b = some o → h2'.get? b = some o := fun b o e => hk b o (Nat.ne_of_lt (Heap.lt_size e)) (keeps_push _ _ _ _ e)
  have hnn : h'.get? (h'.push (revObj ad ((items.size : Int) - 1))).objs.size = none := by
    cases e : h'.get? (h'.push (revObj ad ((items.size : Int) - 1))).objs.size with
    | none => rfl
    | some o => have := Heap.lt_size e; rw [Heap.size_push] at this; exact absurd (Nat.lt_of_succ_lt this) (Nat.lt_irrefl _)
  refine (epost_of (tk := tk) hQ st R' F').new (tk := tk2) (xs := xs.reverse) (items := acc) T' kk hnn ⟨c', hacc⟩ ?_ h3
  rw [he]
  exact RepVs.f2.mpr (RepVs.f2.mp hr).reverse
end
end Mine

set_option autoImplicit false
set_option maxRecDepth 100000
set_option linter.unusedVariables false
namespace Mine
open PySem PyProof.Rows PySem.W

section
variable {g : Cfg} {K : Frag} {c0 : CE} {fa : Nat → Option Addr} {call : Nat → List V → Sto → RE} {env : Env} {A : Around} {X : Value → Shared → Prop} {s : Shared} {as : List Addr} {fr : Fra} {σ σ' : Sto} {r n : Nat}
  {names : List (Str × NameKind)} {Q : Value → Shared → Prop} {v : V}

set_option tactic.hygienic false in
theorem At.pushN {h' : Heap} {a : Addr} {o : AO} (T : At g env as fr σ s) {as1 : List Addr} {σ1 : Sto} (x : Step [env.locals] as s.heap as1 h') (R' : Rel g as1 σ1 h') (F' : FrRel g env as1 fr h') (hn : s.heap.get? a = none) (ha : a ∉ as1)
    (hb : g.b.get? a = none) (hL : a ≠ env.locals) (hc : ∀ y c, env.cells.lookup y = some c → c ≠ a) (hi : ∀ ob, h'.get? a = some ob → ¬ Imm ob) (ho : RepO g (as1 ++ [a]) h' o a) :
    Step [env.locals] as s.heap (as1 ++ [a]) h' ∧ Rel g (as1 ++ [a]) (σ1 ++ [o]) h' ∧ FrRel g env (as1 ++ [a]) fr h' := by
  obtain ⟨K', R2⟩ := R'.pushAt (h' := h') (o := o) (a := a) (fun _ _ _ e => e) ha hb hi (fun _ => ho)
  refine ⟨?_, R2, F'.alter (d := a) K' (fun _ _ _ e => e) (Ne.symm hL) hc (by intro b hb'; rcases List.mem_append.mp hb' with q | q; exact .inl q; simp at q; exact .inr q)⟩
  obtain ⟨⟨t, rfl, ht⟩, hx⟩ := x
  refine ⟨⟨t ++ [a], by simp, fun b hb' => ?_⟩, hx⟩
  rcases List.mem_append.mp hb' with q | q
  · exact ht b q
  · simp at q; subst q; exact hn

theorem n_mk {f : Str} {fp p : Pos} {k es es'} (G : Glob g K c0 fa) (C : CallOk g fa call r) (IH : SndE g c0 call r n) (hg : (c0.sub names).glob f = true) (hd : (f == ("__debug__" : Str)) = false) (hb : c0.clss.lookup f = some k) (h1 : mapO (compE n (c0.sub names)) es = some es') :
    NodeE g c0 call r names (.Call (.Name f fp) es [] p) (.mk k es') := fun env A X s as fr σ σ' v Q N hA T ev hQ => by
  refine sbind_el ev fun us τ e1 e2 => ?_
  obtain ⟨fI, hv, hfa, hkp, hmk, hin, hfn⟩ := G.cls f k hb
  refine wpAny_Call_NameR (o_glob T N hg hd hv ?_)
  refine callWith_snd IH (keeps_G G hkp) h1 N hA T e1 fun xs as' h' tk st R' F' r' => ?_
  have T' : At g env as' fr τ { s with heap := h', toks := tk } := ⟨F', R'⟩
  obtain ⟨m, hF, _⟩ := F'.fr R'
  have e2' : ∃ σ2, call k (.ref (τ.length + 1) :: us) (τ ++ [.att [], .inst τ.length]) = .ok .none σ2 ∧ v = .ref (τ.length + 1) ∧ σ' = σ2 := by
    split at e2
    · rename_i σ2 hq; cases e2; exact ⟨_, hq, rfl, rfl⟩
    · cases e2
    · cases e2
    · cases e2
  obtain ⟨_, e3, rfl, rfl⟩ := e2'
  refine call_cls (L := env.locals) (h₀ := g.b) (news := newsOf g.b env.locals h') hF G.kin (news_all _ _ _) hmk hin hfn fun x dx h2 F2 N2 hlt hlt2 => ?_
  obtain ⟨K1, st1, R1, F1⟩ := T'.byNews hF.ns F2 N2 (fun p hp => .tail _ (.tail _ hp))
  have nx := N2 _ (.head _)
  have nd := N2 _ (.tail _ (.head _))
  have fresh : ∀ b, dx ≤ b → b ≠ env.locals → g.b.get? b = none → h'.get? b = none := fun b hb hL hg' => by
    cases e : h'.get? b with
    | none => rfl
    | some o => exact absurd (Nat.lt_of_lt_of_le (hlt (b, o) (mem_newsOf.mpr ⟨e, hL, hg'⟩)) hb) (Nat.lt_irrefl _)
  have fd := fresh dx (Nat.le_refl _) nd.2.1 nd.2.2
  have fx := fresh x (Nat.le_of_lt hlt2) nx.2.1 nx.2.2
  have notin : ∀ b, h'.get? b = none → b ∉ as' := fun b hb q => by obtain ⟨o, e, _⟩ := R'.there q; rw [hb] at e; cases e
  have cellne : ∀ b, h'.get? b = none → ∀ y c, env.cells.lookup y = some c → c ≠ b := fun b hb y c hc q => by
    subst q; obtain ⟨cv, o, e, _⟩ := (F'.offc _ _ hc).2.2; rw [hb] at e; cases e
  obtain ⟨st2, R2, F2'⟩ := T'.pushN (a := dx) (o := .att []) st1 R1 F1 fd (notin _ fd) nd.2.2 nd.2.1 (cellne _ fd) (fun ob e hi => by rw [nd.1] at e; cases e; exact hi.2.1 _ _ rfl) ⟨[], 0, nd.1, .nil, by simp⟩
  have hlen : as'.length = τ.length := R'.len
  obtain ⟨st3, R3, F3⟩ := T'.pushN (a := x) (o := .inst τ.length) st2 R2 F2' fx (by
      intro q; rcases List.mem_append.mp q with q | q
      · exact notin _ fx q
      · simp at q; rw [q] at hlt2; exact Nat.lt_irrefl _ hlt2) nx.2.2 nx.2.1 (cellne _ fx) (fun ob e hi => by rw [nx.1] at e; cases e; rcases hi.1 with q | q <;> simp at q) ⟨dx, by rw [← hlen]; simp, nx.1⟩
  have hroom : Room (A.under (.builtin "type.__call__" ⟨.ref g.C :: xs, []⟩)) r := ⟨by have := hA.units; rw [units_under_make]; lia, by have := hA.depth; rw [depth_under_make]; lia, hA.handled⟩
  have e3' : call k (.ref (τ.length + 1) :: us) (τ ++ [.att []] ++ [.inst τ.length]) = .ok .none σ' := by simpa using e3
  have K3 : Keep as' h' (as' ++ [dx] ++ [x]) h2 := R'.keep st3 F'.notImm
  have href : RepV (as' ++ [dx] ++ [x]) h2 (.ref (τ.length + 1)) (.ref x) := by rw [RepV]; exact ⟨x, rfl, by rw [← hlen]; simp⟩
  refine C k fI _ _ σ' .none hfa e3' _ _ (as' ++ [dx] ++ [x]) (.ref x :: xs) _ hroom R3 F3.size (by
    rw [RepVs]; exact ⟨_, _, rfl, href, RepVs.keep K3 _ _ r'⟩) fun val as4 h4 tk4 st4 R4 r4 => ?_
  rw [RepV] at r4; subst r4
  refine ⟨rfl, ?_⟩
  have K4 := R3.keep0 st4
  have F4 := F3.keep K4 st4 (by simp)
  have st34 := step_trans st3 (st4.grow (own' := [env.locals]) (by simp)) R4 F4
  have st5 := step_trans st st34 R4 F4
  exact hQ (.ref x) as4 h4 tk4 st5 R4 F4 (RepV.keep K4 _ _ href)

set_option tactic.hygienic false in
theorem meth_eq {o : Expr} {x : Str} {apos pos : Pos} {args : List Expr} {args' : List E} {c : CE} (hb : baseOk o = true) (hl : args.length ≤ 8) (hp : (apos.endLine == pos.line) = true) (h1 : mapO (compE n c) args = some args') :
    eval (.Call (.Attribute o x apos) args [] pos) env = (do
      let ov ← eval o env
      standAt apos.atName
      let (f, first) ← holding [ov] (getMethod ov x (do return (← importBound o env).getD true))
      callWith pos f first (backTo pos (starEach args env)) []) := by
  have e1 := base_eq (x := x) (env := env) (act := eval o env) hb
  have e2 : methodCallForm (args.length + ([] : List Keyword).length) (backTo pos (starEach args env)) (backToKw pos (keywordEach [] env)) = true := by
    show methodCallForm (args.length + 0) (backTo pos (starEach args env)) [] = true
    unfold methodCallForm
    have := noStar (env := env) (pos := pos) h1
    have ha : (backTo pos (starEach args env)).all (fun x => !x.1) = true := by
      rw [List.all_eq_true]; intro y hy
      rw [List.any_eq_false] at this
      simpa using this y hy
    rw [ha]
    have : args.length + 0 + 0 < 30 := by lia
    show (true && true && decide (args.length + 0 + 0 < 30)) = true
    rw [decide_eq_true this]; rfl
  show (attributeBase o x env (eval o env) >>= fun ov => standAt apos.atName >>= fun _ => methodCall o x apos pos env ov (args.length + ([] : List Keyword).length) (backTo pos (starEach args env)) (backToKw pos (keywordEach [] env))) = _
  rw [e1]
  unfold methodCall
  rw [e2]
  unfold methodCallPos calleeOf
  simp only [Bool.not_true, Bool.false_or, hp, if_true]
  rfl

set_option tactic.hygienic false in
theorem n_meth {o : Expr} {x : Str} {apos p : Pos} {a es es' m} (IH : SndE g c0 call r n) (hb : baseOk o = true) (hl : es.length ≤ 8) (hp : (apos.endLine == p.line) = true)
    (h0 : compE n (c0.sub names) o = some a) (h1 : mapO (compE n (c0.sub names)) es = some es') (hml : methName.lookup x = some m) :
    NodeE g c0 call r names (.Call (.Attribute o x apos) es [] p) (.meth a m es') := fun env A X s as fr σ σ' v Q N hA T ev hQ => by
  refine MethodCall_ (pl := do return (← importBound o env).getD true) ?_ (meth_eq hb hl hp h1)
  refine bind_el ev fun u τ e1 e2 => ?_
  obtain ⟨l, xs, rfl, hx, e2⟩ := lstV_inv e2
  refine sbind_el e2 fun us τ' e3 e4 => ?_
  obtain ⟨l', xs', hll, hx', e5⟩ := lstV_inv e4
  cases hll
  refine IH names o a h0 env A X s as fr σ τ _ _ N hA T e1 fun val as' h' tk st R' F' r' => ?_
  have T' : At g env as' fr τ { s with heap := h', toks := tk } := ⟨F', R'⟩
  obtain ⟨hslot, hty⟩ := meth_slot hml
  cases rep_lst R' r' hx with
  | mk ad items mm hd ho hr hz hsz =>
    refine getMethod_list_of hslot hty ho.isList ⟨_, ho, rfl⟩ ?_
    refine callWith_snd IH (fun h _ => keeps_blt _ h) h1 N hA T' e3 fun xs as2 h2 tk2 st2 R2 F2' r2 => ?_
    have T2 : At g env as2 fr τ' { s with heap := h2, toks := tk2 } := ⟨F2', R2⟩
    exact o_meth (lookup_all (P := mOk) (l := methName) rfl hml) T2 (rep_lst R2 (RepV.keep (T'.keep st2) _ _ r') hx') r2 e5 (epost_of (s := s) (tk := tk2) hQ (step_trans st st2 R2 F2') R2 F2')
set_option tactic.hygienic false in
theorem n_umeth {o : Expr} {x : Str} {apos p : Pos} {a es es' f} (G : Glob g K c0 fa) (C : CallOk g fa call r) (IH : SndE g c0 call r n) (hb : baseOk o = true) (hl : es.length ≤ 8) (hp : (apos.endLine == p.line) = true)
    (h0 : compE n (c0.sub names) o = some a) (h1 : mapO (compE n (c0.sub names)) es = some es') (hf : c0.mths.lookup x = some f) :
    NodeE g c0 call r names (.Call (.Attribute o x apos) es [] p) (.umeth a f es') := fun env A X s as fr σ σ' v Q N hA T ev hQ => by
  refine MethodCall_ (pl := do return (← importBound o env).getD true) ?_ (meth_eq hb hl hp h1)
  refine bind_el ev fun u τ e1 e2 => ?_
  obtain ⟨l, d, ents, rfl, hd, he, e2⟩ := instV_inv e2
  refine sbind_el e2 fun us τ' e3 e4 => ?_
  refine IH names o a h0 env A X s as fr σ τ _ _ N hA T e1 fun val as' h' tk st R' F' r' => ?_
  have T' : At g env as' fr τ { s with heap := h', toks := tk } := ⟨F', R'⟩
  obtain ⟨fad, hfa, hpg, hfi, hfn, hkp, hna⟩ := G.mth x f hf
  obtain ⟨ad, dx, rfl, h2, h3, h4⟩ := rep_inst (s := { s with heap := h', toks := tk }) R' r' hd
  obtain ⟨es0, nn, h5, h6, _⟩ := rep_att (s := { s with heap := h', toks := tk }) R' h3 he
  obtain ⟨m, hF, _⟩ := F'.fr R'
  refine method_inst (L := env.locals) (h₀ := g.b) (m := m) (es := es0) (n := nn) (ox := instObj g.C dx) hF G.kin ⟨h4, rfl, rfl, h5⟩ hpg hfi hfn (ents_none hna h6) ?_
  refine callWith_snd (first := [.ref ad]) IH (keeps_G G hkp) h1 N hA T' e3 fun xs as2 h2' tk2 st2 R2 F2' r2 => ?_
  have r3 := RepV.keep (T'.keep st2) _ _ r'
  refine wpAny_call (C f fad _ τ' σ' v hfa e4 A _ as2 (.ref ad :: xs) _ (hA.less (k := 1)) R2 F2'.size (by rw [RepVs]; exact ⟨_, _, rfl, r3, r2⟩) fun val as3 h3' tk3 st3 R3 r4 => ?_)
  exact epost_grow (s := s) (tk := tk2) (tk2 := tk3) hQ (step_trans st st2 R2 F2') R2 F2' st3 R3 r4
end
end Mine

set_option autoImplicit false
set_option maxRecDepth 100000
set_option linter.unusedVariables false
namespace Mine
open PySem PyProof.Rows PySem.W

inductive Src where
  | live (l : Nat) | tup (vs : List V) | rng (lo hi : Int)

noncomputable def srcAt (σ : Sto) (i : Nat) : Src → Option (Option V)
  | .live l => (getL σ l).map fun xs => xs[i]?
  | .tup vs => some vs[i]?
  | .rng lo hi => some (rngL lo hi)[i]?

noncomputable def ItAt (src : Src) (I : Addr) (i : Nat) (as : List Addr) (h : Heap) : Prop := match src with
  | .live l => ∃ a, as[l]? = some a ∧ h.IsListIter I a i
  | .tup vs => ∃ a items n, h.get? a = some { cls := .type "tuple", data := .seq items n } ∧ RepVs as h vs items.toList ∧ h.IsTupleIter I a i
  | .rng lo hi => IsRangeIter h I (lo + (i : Int) * 1) (((hi - lo).toNat : Int) - (i : Nat)) 1

set_option tactic.hygienic false in
theorem ItAt.there {src : Src} {I : Addr} {i : Nat} {as : List Addr} {h : Heap} (it : ItAt src I i as h) : ∃ o, h.get? I = some o ∧ ¬ Imm o := by
  cases src with
  | live l =>
    obtain ⟨a, _, o, e, hc, _⟩ := it
    exact ⟨o, e, fun q => by rcases q.1 with q | q <;> rw [hc] at q <;> simp at q⟩
  | tup vs =>
    obtain ⟨a, _, _, _, _, o, e, hc, _⟩ := it
    exact ⟨o, e, fun q => by rcases q.1 with q | q <;> rw [hc] at q <;> simp at q⟩
  | rng lo hi => exact ⟨_, it, fun q => by rcases q.1 with q | q <;> simp at q⟩

set_option tactic.hygienic false in
theorem ItAt.keep {src : Src} {I : Addr} {i : Nat} {as as' : List Addr} {h h' : Heap} (it : ItAt src I i as h) (K : Keep as h as' h') (hI : ∀ o, h.get? I = some o → h'.get? I = some o) : ItAt src I i as' h' := by
  cases src with
  | live l =>
    obtain ⟨a, e1, o, e2, e3⟩ := it
    exact ⟨a, K.pre _ _ e1, o, hI _ e2, e3⟩
  | tup vs =>
    obtain ⟨a, items, n, e1, e2, o, e3, e4⟩ := it
    exact ⟨a, items, n, K.imm _ _ e1 imm_tuple, RepVs.keep K _ _ e2, o, hI _ e3, e4⟩
  | rng lo hi => exact hI _ it

set_option tactic.hygienic false in
theorem Rel.other {g : Cfg} {as : List Addr} {σ : Sto} {h h' : Heap} {I : Addr} (R : Rel g as σ h) (k : ∀ (b : Addr) (o : Obj), b ≠ I → h.get? b = some o → h'.get? b = some o) (hI : I ∉ as) (hb : g.b.get? I = none) (hi : ∀ o, h.get? I = some o → ¬ Imm o) :
    Keep as h as h' ∧ Rel g as σ h' := by
  have K : Keep as h as h' := ⟨fun _ _ e => e, fun b o e im => k b o (fun q => by subst q; exact hi o e im) e⟩
  exact ⟨K, ⟨fun b o e => k b o (fun q => by subst q; rw [hb] at e; cases e) (R.base b o e), R.len, R.nd, R.new, fun i b o h1 h2 => (R.obj i b o h1 h2).keep K fun ob e => k b ob (fun q => hI (q ▸ List.mem_of_getElem? h1)) e⟩⟩

section
variable {g : Cfg} {env : Env} {A : Around} {X : Value → Shared → Prop} {s : Shared} {as : List Addr} {fr : Fra} {σ σ' : Sto}

set_option tactic.hygienic false in
theorem it_next {src : Src} {I : Addr} {i : Nat} {v : V} {Q : Option Value → Shared → Prop} (hA : A.handled = none) (R : Rel g as σ s.heap) (it : ItAt src I i as s.heap) (hI : I ∉ as) (hb : g.b.get? I = none) (e : srcAt σ i src = some (some v))
    (hQ : ∀ val h' tk, (∀ (b : Addr) (o : Obj), b ≠ I → s.heap.get? b = some o → h'.get? b = some o) → Keep as s.heap as h' → Rel g as σ h' → ItAt src I (i + 1) as h' → RepV as h' v val → Q (some val) { s with heap := h', toks := tk }) :
    wpAny (model g.prog g.w) A (pyNext (.ref I)) Q X s := by
  have hth := it.there
  have hni : ∀ o, s.heap.get? I = some o → ¬ Imm o := fun o e => by obtain ⟨o', e', n⟩ := hth; rw [e] at e'; cases e'; exact n
  cases src with
  | live l =>
    obtain ⟨a, e1, e2⟩ := it
    obtain ⟨xs, e3, e4⟩ := Option.map_eq_some_iff.mp e
    have r0 : RepV as s.heap (.ref l) (.ref a) := by rw [RepV]; exact ⟨a, rfl, e1⟩
    obtain ⟨a', items, n, q, hd, ho, hr, hz, hsz⟩ := rep_list R r0 e3
    cases q
    obtain ⟨val, h1, h2⟩ := (RepVs.f2.mp hr).get e4
    refine wpAny_pyNext_list_item e2 ho.isList (by simpa using h1) fun h' hit hs => ?_
    have k : ∀ (b : Addr) (o : Obj), b ≠ I → s.heap.get? b = some o → h'.get? b = some o := fun b o hb e => by rw [hs.2 b hb]; exact e
    obtain ⟨K, R'⟩ := R.other k hI hb hni
    exact hQ val h' s.toks k K R' ⟨a, e1, hit⟩ (RepV.keep K _ _ h2)
  | tup vs =>
    obtain ⟨a, items, n, e1, e2, e3⟩ := it
    simp only [srcAt, Option.some.injEq] at e
    obtain ⟨val, h1, h2⟩ := (RepVs.f2.mp e2).get e
    have hne : a ≠ I := fun q => by subst q; exact hni _ e1 imm_tuple
    have hi : i < items.size := by
      have := (List.getElem?_eq_some_iff.mp h1).1; simpa using this
    refine (Walks.tuple (prog := g.prog) (w := g.w) (A := A) hA I a hne items).item i s Q X hi ⟨e3, ⟨_, e1, rfl, n, rfl⟩⟩ fun v' h' tk hv hst hk => ?_
    have k : ∀ (b : Addr) (o : Obj), b ≠ I → s.heap.get? b = some o → h'.get? b = some o := fun b o hb e => hk b o (by simpa using hb) e
    obtain ⟨K, R'⟩ := R.other k hI hb hni
    have : v' = val := by
      have h1' : items[i]? = some val := by simpa using h1
      have hv' : items[i]? = some v' := hv
      rw [h1'] at hv'; cases hv'; rfl
    subst this
    exact hQ v' h' tk k K R' ⟨a, items, n, K.imm _ _ e1 imm_tuple, RepVs.keep K _ _ e2, hst.1⟩ (RepV.keep K _ _ h2)
  | rng lo hi =>
    simp only [srcAt, Option.some.injEq, rngL] at e
    have hlt : i < (hi - lo).toNat := by
      have := (List.getElem?_eq_some_iff.mp e).1; simpa using this
    have hv : v = .int (lo + (i : Int)) := by
      rw [List.getElem?_map, List.getElem?_range hlt] at e
      simpa using e.symm
    subst hv
    refine (Walks.range (prog := g.prog) (w := g.w) (A := A) hA I lo 1 (hi - lo).toNat).item i s Q X hlt it fun v' h' tk hv hst hk => ?_
    have k : ∀ (b : Addr) (o : Obj), b ≠ I → s.heap.get? b = some o → h'.get? b = some o := fun b o hb e => hk b o (by simpa using hb) e
    obtain ⟨K, R'⟩ := R.other k hI hb hni
    obtain ⟨t, rfl⟩ := hv
    exact hQ _ h' tk k K R' hst (by rw [RepV]; exact ⟨t, by rw [Int.mul_one]⟩)

set_option tactic.hygienic false in
theorem it_done {src : Src} {I : Addr} {i : Nat} {Q : Option Value → Shared → Prop} (hA : A.handled = none) (R : Rel g as σ s.heap) (it : ItAt src I i as s.heap) (hI : I ∉ as) (hb : g.b.get? I = none) (hsm : ∀ lo hi, src = .rng lo hi → i ≤ (hi - lo).toNat)
    (hst' : ∀ vs, src = .tup vs → i ≤ vs.length) (e : srcAt σ i src = some none)
    (hQ : ∀ h' tk, (∀ (b : Addr) (o : Obj), b ≠ I → s.heap.get? b = some o → h'.get? b = some o) → Keep as s.heap as h' → Rel g as σ h' → Q none { s with heap := h', toks := tk }) :
    wpAny (model g.prog g.w) A (pyNext (.ref I)) Q X s := by
  have hth := it.there
  have hni : ∀ o, s.heap.get? I = some o → ¬ Imm o := fun o e => by obtain ⟨o', e', n⟩ := hth; rw [e] at e'; cases e'; exact n
  have fin : ∀ h' tk, (∀ (b : Addr) (o : Obj), b ≠ I → s.heap.get? b = some o → h'.get? b = some o) → Q none { s with heap := h', toks := tk } := fun h' tk k => by
    obtain ⟨K, R'⟩ := R.other k hI hb hni
    exact hQ h' tk k K R'
  cases src with
  | live l =>
    obtain ⟨a, e1, e2⟩ := it
    obtain ⟨xs, e3, e4⟩ := Option.map_eq_some_iff.mp e
    have r0 : RepV as s.heap (.ref l) (.ref a) := by rw [RepV]; exact ⟨a, rfl, e1⟩
    obtain ⟨a', items, n, q, hd, ho, hr, hz, hsz⟩ := rep_list R r0 e3
    cases q
    refine wpAny_pyNext_list_end hA e2 ho.isList ?_ fun h' hs => fin h' s.toks fun b o hb e => hs b o hb e
    rw [Array.getElem?_eq_none_iff, hsz]
    exact List.getElem?_eq_none_iff.mp e4
  | tup vs =>
    obtain ⟨a, items, n, e1, e2, e3⟩ := it
    simp only [srcAt, Option.some.injEq] at e
    have hne : a ≠ I := fun q => by subst q; exact hni _ e1 imm_tuple
    have hl := (RepVs.f2.mp e2).length
    have : i = items.size := by
      have h1 := List.getElem?_eq_none_iff.mp e
      have h2 := hst' vs rfl
      have h3 : vs.length = items.size := hl
      exact Nat.le_antisymm (h3 ▸ h2) (h3 ▸ h1)
    subst this
    exact (Walks.tuple (prog := g.prog) (w := g.w) (A := A) hA I a hne items).done s Q X ⟨e3, ⟨_, e1, rfl, n, rfl⟩⟩ fun h' tk hk => fin h' tk fun b o hb e => hk b o (by simpa using hb) e
  | rng lo hi =>
    simp only [srcAt, Option.some.injEq, rngL] at e
    have h1 := List.getElem?_eq_none_iff.mp e
    rw [List.length_map, List.length_range] at h1
    have h2 := hsm lo hi rfl
    have : i = (hi - lo).toNat := by lia
    subst this
    exact (Walks.range (prog := g.prog) (w := g.w) (A := A) hA I lo 1 (hi - lo).toNat).done s Q X it fun h' tk hk => fin h' tk fun b o hb e => hk b o (by simpa using hb) e

noncomputable def srcOf : V → Option Src
  | .ref l => some (.live l) | .tup vs => some (.tup vs) | .rng lo hi => some (.rng lo hi) | _ => none

set_option tactic.hygienic false in
theorem it_iter {v : V} {x : Value} {src : Src} {Q : Value → Shared → Prop} (T : At g env as fr σ s) (r : RepV as s.heap v x) (hs : srcOf v = some src) (hl : ∀ l, src = .live l → ∃ xs, getL σ l = some xs)
    (hQ : ∀ o, At g env as fr σ { s with heap := s.heap.push o } → ItAt src s.heap.objs.size 0 as (s.heap.push o) → Q (.ref s.heap.objs.size) { s with heap := s.heap.push o }) : wpAny (model g.prog g.w) A (pyIter x) Q X s := by
  cases v with
  | ref l =>
    cases hs
    obtain ⟨xs, e⟩ := hl l rfl
    obtain ⟨a, items, n, rfl, hd, ho, hr, hz, hsz⟩ := rep_list T.R r e
    exact wpAny_pyIter_list ho.isList (hQ _ (T.push _) ⟨a, hd, ⟨_, Heap.get?_push_size _ rfl, rfl, rfl⟩⟩)
  | tup vs =>
    cases hs
    have r' := r
    rw [RepV] at r
    obtain ⟨a, items, n, rfl, ho, hz, hr⟩ := r
    refine wpAny_pyIter_tuple ⟨_, ho, rfl, n, rfl⟩ (hQ _ (T.push _) ⟨a, items, n, keeps_push _ _ _ _ ho, RepVs.keep (T.R.keep0 (step_pushed as s.heap _ [])) _ _ hr, ⟨_, Heap.get?_push_size _ rfl, rfl, rfl⟩⟩)
  | rng lo hi =>
    cases hs
    rw [RepV] at r
    obtain ⟨a, t, u, v, rfl, ho, hb⟩ := r
    obtain ⟨h1, h2⟩ := rng_size hb
    refine wpAny_pyIter_range ho h2 (hQ _ (T.push _) ?_)
    show IsRangeIter _ _ (lo + ((0 : Nat) : Int) * 1) (((hi - lo).toNat : Int) - ((0 : Nat) : Int)) 1
    rw [h1]
    have e1 : lo + ((0 : Nat) : Int) * 1 = lo := by simp
    have e2 : (((hi - lo).toNat : Int) - ((0 : Nat) : Int)) = ((hi - lo).toNat : Int) := by simp
    rw [e1, e2]
    exact Heap.get?_push_size _ rfl
  | _ => cases hs
end
end Mine

set_option autoImplicit false
set_option maxRecDepth 100000
set_option linter.unusedVariables false
namespace Mine
open PySem PyProof.Rows PySem.W

theorem locW_get {c : CE} {x : Str} {i : Nat} (e : c.locW? x = some i) : ∃ k, c.names[i]? = some (x, k) ∧ (k = .local ∨ k = .cell) := by
  unfold CE.locW? at e
  split at e
  · rename_i h; obtain ⟨j, h1, h2⟩ := lookup_get h; rw [h1] at e; cases e; exact ⟨_, h2, .inl rfl⟩
  · rename_i h; obtain ⟨j, h1, h2⟩ := lookup_get h; rw [h1] at e; cases e; exact ⟨_, h2, .inr rfl⟩
  · cases e

set_option tactic.hygienic false in
theorem nodup_idx {l : List (Str × NameKind)} (nd : (l.map (·.1)).Nodup) {i j : Nat} {x : Str} {k k' : NameKind} (e : l[i]? = some (x, k)) (e' : l[j]? = some (x, k')) : i = j := by
  obtain ⟨h1, h2⟩ := List.getElem?_eq_some_iff.mp e
  obtain ⟨h3, h4⟩ := List.getElem?_eq_some_iff.mp e'
  have e1 : (l.map (·.1))[i]'(by simpa using h1) = x := by simp [h2]
  have e2 : (l.map (·.1))[j]'(by simpa using h3) = x := by simp [h4]
  exact (List.getElem_inj nd).mp (e1.trans e2.symm)

section
variable {g : Cfg} {env : Env} {A : Around} {X : Value → Shared → Prop} {s : Shared} {as : List Addr} {fr : Fra} {σ σ' : Sto} {c : CE} {own : List Addr}

noncomputable def Owns (c : CE) (env : Env) (own : List Addr) : Prop := env.locals ∈ own ∧ (∀ (i : Nat) (x : Str), c.names[i]? = some (x, .cell) → ∀ a, env.cells.lookup x = some a → a ∈ own) ∧ ∀ a ∈ own, a ∈ ownOf env
set_option tactic.hygienic false in
theorem owns_all (c : CE) (env : Env) : Owns c env (ownOf env) := ⟨.head _, fun _ _ _ _ e => mem_own e, fun _ h => h⟩
set_option tactic.hygienic false in
theorem owns_loc {c : CE} {env : Env} (h : ∀ x ∈ c.names, x.2 ≠ .cell) : Owns c env [env.locals] := ⟨.head _, fun i x e => absurd rfl (h (x, .cell) (List.mem_of_getElem? e)), fun a ha => by simp at ha; subst ha; exact .head _⟩

noncomputable def FPost (g : Cfg) (env : Env) (own : List Addr) (as : List Addr) (σ : Sto) (s : Shared) (fr : Fra) (Q : Unit → Shared → Prop) : Prop :=
  ∀ (as' : List Addr) (h' : Heap) (tk : Nat), Step own as s.heap as' h' → Keep as s.heap as' h' → Rel g as' σ h' → FrRel g env as' fr h' → Q () { s with heap := h', toks := tk }

set_option tactic.hygienic false in
theorem o_store {x : Str} {i : Nat} {v : V} {val : Value} {Q : Unit → Shared → Prop} (T : At g env as fr σ s) (N : NamesOk c env) (O : Owns c env own) (hl : c.locW? x = some i) (r : RepV as s.heap v val)
    (hQ : FPost g env own as σ s (fr.set i (some v)) Q) : wpAny (model g.prog g.w) A (storeName env x val) Q X s := by
  obtain ⟨k, h1, h2⟩ := locW_get hl
  obtain ⟨k', h3, h4⟩ := N.get h1
  have hk : k' = k := by
    rcases h4 with h4 | h4
    · exact h4.symm
    · rcases h2 with q | q <;> rw [q] at h4 <;> cases h4.1
  subst hk
  have hx : env.kindOf x = some k' := nodup_lookup T.F.nd h3
  have hi : i < fr.length := by rw [T.F.len]; exact (List.getElem?_eq_some_iff.mp h3).1
  rcases h2 with rfl | rfl
  · obtain ⟨m, hm, hv⟩ := T.F.ns
    refine wpAny_storeName_local hx hm (fun h' hns hs => ?_) (hp := by rw [T.F.kind]; rfl)
    have k : ∀ (b : Addr) (o : Obj), b ≠ env.locals → s.heap.get? b = some o → h'.get? b = some o := fun b o hb e => by rw [hs.2 b hb]; exact e
    have x0 : Step [env.locals] as s.heap as h' := ⟨⟨[], by simp, by simp⟩, fun b o e hb _ => k b o (by simpa using hb) e⟩
    have K := T.R.keep x0 T.F.notImm
    have hLb : g.b.get? env.locals = none := by
      cases e : g.b.get? env.locals with
      | none => rfl
      | some o => exact absurd (Heap.lt_size e) (Nat.not_lt.mpr T.F.above)
    obtain ⟨_, R'⟩ := T.R.other k T.F.off hLb (fun o e => T.F.notImm _ (.head _) o e)
    refine hQ as h' _ (x0.grow (by intro a ha; simp at ha; subst ha; exact O.1)) K R' ?_
    refine ⟨T.F.kind, T.F.above, T.F.glob, T.F.blt, by rw [List.length_set]; exact T.F.len, T.F.nd, ⟨_, hns, fun j y w e1 e2 => ?_⟩, fun j y kk e1 e2 => ?_, T.F.off, fun y c' hc' => ⟨(T.F.offc _ _ hc').1, (T.F.offc _ _ hc').2.1, ?_⟩, T.F.apart, T.F.newc⟩
    · by_cases hy : y = x
      · subst hy
        have := nodup_idx T.F.nd h3 e1; subst this
        rw [List.getElem?_set_self hi] at e2
        simp only [Option.some.injEq] at e2; subst e2
        exact ⟨val, by simp, RepV.keep K _ _ r⟩
      · have hij : i ≠ j := fun q => by subst q; rw [h3] at e1; cases e1; exact hy rfl
        rw [List.getElem?_set_ne hij] at e2
        obtain ⟨val', q1, q2⟩ := hv j y w e1 e2
        exact ⟨val', by simp [hy, q1], RepV.keep K _ _ q2⟩
    · obtain ⟨cc, cv, q1, ⟨o, q2, q2'⟩, q3⟩ := T.F.cells j y kk e1 e2
      have hij : i ≠ j := fun q => by subst q; rw [h3] at e1; cases e1; rcases e2 with e2 | e2 <;> cases e2
      refine ⟨cc, cv, q1, ⟨o, k _ _ (T.F.offc _ _ q1).2.1 q2, q2'⟩, fun w e => ?_⟩
      rw [List.getElem?_set_ne hij] at e
      obtain ⟨val', q4, q5⟩ := q3 w e
      exact ⟨val', q4, RepV.keep K _ _ q5⟩
    · obtain ⟨cv, o, e, e'⟩ := (T.F.offc _ _ hc').2.2
      exact ⟨cv, o, k _ _ (T.F.offc _ _ hc').2.1 e, e'⟩
  · obtain ⟨cc, cv, q1, q2, q3⟩ := T.F.cells i x _ h3 (.inl rfl)
    refine wpAny_storeName_cell T.F.kind hx q1 q2 fun h' hc' hs => ?_
    have k : ∀ (b : Addr) (o : Obj), b ≠ cc → s.heap.get? b = some o → h'.get? b = some o := fun b o hb e => by rw [hs.2 b hb]; exact e
    have hni : ∀ o, s.heap.get? cc = some o → ¬ Imm o := fun o e hi => by
      obtain ⟨o', e', hd⟩ := q2
      rw [e] at e'; cases e'
      exact hi.2.2 _ hd
    have hoff := T.F.offc _ _ q1
    have hcb : g.b.get? cc = none := T.F.newc _ _ q1
    obtain ⟨K, R'⟩ := T.R.other k hoff.1 hcb hni
    have hmem : cc ∈ own := O.2.1 _ _ h1 _ q1
    refine hQ as h' s.toks ⟨⟨[], by simp, by simp⟩, fun b o e hb _ => k b o (fun q => hb (q ▸ hmem)) e⟩ K R' ?_
    obtain ⟨m, hm, hv⟩ := T.F.ns
    refine ⟨T.F.kind, T.F.above, T.F.glob, T.F.blt, by rw [List.length_set]; exact T.F.len, T.F.nd, ⟨m, hm.at' fun o e => k _ o (Ne.symm hoff.2.1) e, fun j y w e1 e2 => ?_⟩, fun j y kk e1 e2 => ?_, T.F.off, fun y c' hc' => ⟨(T.F.offc _ _ hc').1, (T.F.offc _ _ hc').2.1, ?_⟩, T.F.apart, T.F.newc⟩
    · have hij : i ≠ j := fun q => by subst q; rw [h3] at e1; cases e1
      rw [List.getElem?_set_ne hij] at e2
      obtain ⟨val', p1, p2⟩ := hv j y w e1 e2
      exact ⟨val', p1, RepV.keep K _ _ p2⟩
    · by_cases hy : y = x
      · subst hy
        have := nodup_idx T.F.nd h3 e1; subst this
        refine ⟨cc, some val, q1, hc', fun w e => ?_⟩
        rw [List.getElem?_set_self hi] at e
        simp only [Option.some.injEq] at e; subst e
        exact ⟨val, rfl, RepV.keep K _ _ r⟩
      · have hij : i ≠ j := fun q => by subst q; rw [h3] at e1; cases e1; exact hy rfl
        obtain ⟨c2, cv2, p1, ⟨o, p2, p2'⟩, p3⟩ := T.F.cells j y kk e1 e2
        have hcc : c2 ≠ cc := fun q => by subst q; exact hy (T.F.apart _ _ _ p1 q1)
        refine ⟨c2, cv2, p1, ⟨o, k _ _ hcc p2, p2'⟩, fun w e => ?_⟩
        rw [List.getElem?_set_ne hij] at e
        obtain ⟨val', p4, p5⟩ := p3 w e
        exact ⟨val', p4, RepV.keep K _ _ p5⟩
    · obtain ⟨cv2, o, e, e'⟩ := (T.F.offc _ _ hc').2.2
      by_cases hcc : c' = cc
      · subst hcc; exact ⟨_, hc'⟩
      · exact ⟨cv2, o, k _ _ hcc e, e'⟩
set_option tactic.hygienic false in
theorem FPost.of {fr' : Fra} {σ1 : Sto} {as' : List Addr} {h' : Heap} {tk : Nat} {Q : Unit → Shared → Prop} (O : ∀ a ∈ own, a ∈ ownOf env) (hQ : FPost g env own as σ' s fr' Q) (x : Step own as s.heap as' h') (K : Keep as s.heap as' h') :
    FPost g env own as' σ' { s with heap := h', toks := tk } fr' Q := fun as2 h2 tk2 x2 K2 R2 F2' =>
  hQ as2 h2 tk2 (x.trans x2 R2.nd fun a ha => F2'.offs a (O a ha)) ⟨fun i a e => K2.pre _ _ (K.pre _ _ e), fun a o e hi => K2.imm _ _ (K.imm _ _ e hi) hi⟩ R2 F2'

set_option tactic.hygienic false in
theorem each_plain {elts : List Expr} {is : List Nat} (h : nameIdxs c elts = some is) : (assignEach elts env).length = is.length ∧ (assignEach elts env).findIdx? (·.1) = none := by
  induction elts generalizing is with
  | nil => rw [nameIdxs] at h; cases h; exact ⟨rfl, rfl⟩
  | cons e r ih =>
    obtain ⟨i, js, h1, h2, rfl⟩ := opt2_inv (show opt2 List.cons ((name? e).bind c.locW?) (nameIdxs c r) = some is from h)
    obtain ⟨x, h3, h4⟩ := bind_inv h1
    obtain ⟨p, rfl⟩ := name?_inv h3
    obtain ⟨a, b⟩ := ih h2
    refine ⟨congrArg Nat.succ a, ?_⟩
    show List.findIdx? _ ((false, assign (.Name x p) env) :: assignEach r env) = none
    rw [List.findIdx?_cons, b]; rfl

set_option tactic.hygienic false in
theorem o_assigns (hA : A.handled = none) (N : NamesOk c env) (O : Owns c env own) {Q : Unit → Shared → Prop} : ∀ (elts : List Expr) (is : List Nat) (vs : List V) (vals : List Value) (s : Shared) (fr : Fra) (as : List Addr), nameIdxs c elts = some is → At g env as fr σ s → RepVs as s.heap vs vals → vs.length = is.length →
    FPost g env own as σ s ((is.zip vs).foldl (fun f p => f.set p.1 (some p.2)) fr) Q → wpAny (model g.prog g.w) A (assignInOrder ((assignEach elts env).map (·.2)) vals) Q X s
  | [], is, vs, vals, s, fr, as, h, T, r, hl, hQ => by
    rw [nameIdxs] at h; cases h
    cases vs with
    | nil =>
      rw [RepVs] at r; subst r
      exact wpAny_pure (hQ as s.heap s.toks (Step.refl _ _ _) ⟨fun _ _ e => e, fun _ _ e _ => e⟩ T.R T.F)
    | cons a b => simp at hl
  | e :: elts, is, vs, vals, s, fr, as, h, T, r, hl, hQ => by
    obtain ⟨i, js, h1', h2, rfl⟩ := opt2_inv (show opt2 List.cons ((name? e).bind c.locW?) (nameIdxs c elts) = some is from h)
    obtain ⟨x, h3, h1⟩ := bind_inv h1'
    obtain ⟨p, rfl⟩ := name?_inv h3
    cases vs with
    | nil => exact nomatch hl
    | cons v vs =>
      rw [RepVs] at r
      obtain ⟨y, ys, rfl, r1, r2⟩ := r
      show wpAny _ A (do holding ys (assign (.Name x p) env y); assignInOrder ((assignEach elts env).map (·.2)) ys) Q X s
      refine wpAny_bind (wpAny_holding (wpAny_assign_Name (o_store T N O h1 r1 fun as' h' tk st K R' F' => ?_)))
      exact o_assigns hA N O elts js vs ys _ _ as' h2 ⟨F', R'⟩ (RepVs.keep K _ _ r2) (Nat.succ.inj hl) (FPost.of (σ1 := σ) O.2.2 hQ st K)

theorem o_assign {target : Expr} {tg : List Nat} {one : Bool} {v : V} {val : Value} {fr' : Fra} {Q : Unit → Shared → Prop} (hA : A.handled = none) (T : At g env as fr σ s) (N : NamesOk c env) (O : Owns c env own) (ht : tgt c target = some (tg, one)) (r : RepV as s.heap v val)
    (e : bindT tg one v fr = some fr') (hQ : FPost g env own as σ s fr' Q) : wpAny (model g.prog g.w) A (assign target env val) Q X s := by
  unfold tgt at ht
  cases hn : name? target with
  | some x =>
    rw [hn] at ht
    obtain ⟨i, h1, h2⟩ := map_inv ht
    obtain ⟨p, rfl⟩ := name?_inv hn
    cases h2
    have e' : (if i < fr.length then some (fr.set i (some v)) else none) = some fr' := e
    split at e'
    · cases e'
      exact wpAny_assign_Name (o_store T N O h1 r hQ)
    · exact nn e'
  | none =>
    rw [hn] at ht
    cases hv : vw target <;> rw [hv] at ht <;> first | exact nn ht | skip
    rename_i ts
    obtain ⟨is, h1, h2⟩ := map_inv ht
    obtain ⟨kk, tp, rfl⟩ := vw_of hv
    cases h2
    cases v <;> first | exact nn e | skip
    rename_i vs
    have e' : (if vs.length = tg.length ∧ tg.all (· < fr.length) then some ((tg.zip vs).foldl (fun f p => f.set p.1 (some p.2)) fr) else none) = some fr' := e
    split at e'
    · rename_i hc
      cases e'
      rw [RepV] at r
      obtain ⟨a, items, n, rfl, ho, hz, hr⟩ := r
      obtain ⟨q1, q2⟩ := each_plain (env := env) h1
      have hl := (RepVs.f2.mp hr).length
      refine wpAny_assign_Tuple hA ⟨_, ho, rfl, n, rfl⟩ (by rw [q1, ← hc.1]; exact hl) q2 fun h' hx => ?_
      have k : ∀ (b : Addr) (o : Obj), s.heap.get? b = some o → h'.get? b = some o := fun b o e => hx b o (Nat.ne_of_lt (Heap.lt_size e)) e
      have x0 : Step [] as s.heap as h' := Step.of_ext k
      have K := T.R.keep0 x0
      exact o_assigns hA N O _ _ vs items.toList { s with heap := h' } fr as h1 ⟨T.frame x0, T.R.ext k⟩ (RepVs.keep K _ _ hr) hc.1 (FPost.of (tk := s.toks) (σ1 := σ) O.2.2 hQ (x0.grow (fun _ h => nomatch h)) K)
    · exact nn e'

set_option tactic.hygienic false in
theorem o_go {src : Src} {I : Addr} {i : Nat} {target : Expr} {val : Value} {Q : Unit → Shared → Prop} (it : ItAt src I i as s.heap) (h : Q () s) : wpAny (model g.prog g.w) A (letOwnedTupleGo target (.ref I) val) Q X s := by
  have key : ∃ o n vs, s.heap.get? I = some o ∧ o.cls = .type n ∧ o.data = .fields vs ∧ (["enumerate", "zip", "dict_itemiterator", "dict_reverseitemiterator", "odict_iterator", "itertools.zip_longest", "itertools.pairwise"].contains n) = false := by
    cases src with
    | live l => obtain ⟨a, _, o, e, hc, hd⟩ := it; exact ⟨o, _, _, e, hc, hd, by decide⟩
    | tup vs => obtain ⟨a, _, _, _, _, o, e, hc, hd⟩ := it; exact ⟨o, _, _, e, hc, hd, by decide⟩
    | rng lo hi => exact ⟨_, _, _, it, rfl, rfl, by decide⟩
  obtain ⟨o, n, vs, h1, h2, h3, h4⟩ := key
  have main : wpAny (model g.prog g.w) A (do
    let (.ref r, .ref a) := (Value.ref I, val) | return
    let o ← load r
    match o.cls, o.data with
    | .type n, .fields vs =>
      if ["enumerate", "zip", "dict_itemiterator", "dict_reverseitemiterator", "odict_iterator", "itertools.zip_longest", "itertools.pairwise"].contains n && vs[0]? == some (rawInt a) then
        rule "for.unpacks-the-owned-tuple"
        updateField r 0 .none
    | _, _ => pure () : Sem Unit) Q X s := by
    cases val with
    | ref a =>
      refine wpAny_bind (wpAny_load h1 ?_)
      rw [h2, h3]
      simp only [h4, Bool.false_and, Bool.false_eq_true, if_false]
      exact wpAny_pure h
    | _ => exact wpAny_pure h
  cases target <;> first | exact wpAny_pure h | exact main
end

section
variable {prog : Program} {w : World} {A : Around} {R : Result → Shared → Prop} {s : Shared}
set_option tactic.hygienic false in
theorem for_loop {target it body orelse env} (I : Nat → Shared → Prop)
    (turn : ∀ n s, I n s → wpAny (model prog w) A (pyNext it) (fun r s₁ => match r with
      | none => wpAny (model prog w) A (execs orelse env) (fun f s₃ => R (.ok f) s₃) (notedBy (model prog w) A env fun e s' => R (.error e) s') s₁
      | some v => wpAny (model prog w) A (letOwnedTupleGo target it v) (fun _ s₁ => wpAny (model prog w) A (assign target env v) (fun _ s₂ => wpAny (model prog w) A (execs body env) (fun f s₃ => match f with
          | .next | .cont => ∃ m, m < n ∧ I m s₃
          | .brk => R (.ok .next) s₃
          | .ret v => R (.ok (.ret v)) s₃) (notedBy (model prog w) A env fun e s' => R (.error e) s') s₂) (notedBy (model prog w) A env fun e s' => R (.error e) s') s₁) (notedBy (model prog w) A env fun e s' => R (.error e) s') s₁) (notedBy (model prog w) A env fun e s' => R (.error e) s') s)
    (n : Nat) (h : I n s) : codeAny (model prog w) A (.forLoop target it body orelse env) R s := by
  refine codeAny_loop' rfl I (fun n s hI => ?_) n h
  show wpAny _ _ ((forTurn target it body orelse env).onRaise (fun x => do noteFrame x env; theTreesLotGoes x)) _ _ s
  refine wpAny_noted ?_
  simp only [forTurn]
  refine wpAny_bind (wpAny_standAt (wpAny_bind (wpAny_onRaise (wpAny_mono (turn n s hI) (fun r s₁ h₁ => ?_) fun _ _ h' => wpAny_standAt h'))))
  cases r with
  | none => exact wpAny_pure (.inr ⟨rfl, codeAny_block h₁⟩)
  | some v =>
    refine wpAny_bind (wpAny_mono h₁ (fun _ s₁ h₁ => ?_) fun _ _ h' => h')
    refine wpAny_bind (wpAny_mono h₁ (fun _ s₂ h₂ => wpAny_bind (wpAny_mono h₂ (fun f s₃ h₃ => ?_) fun _ _ h' => h')) fun _ _ h' => h')
    cases f with
    | next => exact wpAny_pure (.inl ⟨rfl, h₃⟩)
    | cont => exact wpAny_pure (.inl ⟨rfl, h₃⟩)
    | brk => exact wpAny_pure h₃
    | ret v => exact wpAny_pure h₃

set_option tactic.hygienic false in
theorem comp_loop {elt target iter : Expr} {ifs : List Expr} {scope : Scope} {pos : Pos} {it acc : Value} {env : Env} (I : Nat → Shared → Prop)
    (turn : ∀ n s, I n s → wpAny (model prog w) A (pyNext it) (fun r s₁ => match r with
      | none => R (.ok .next) s₁
      | some v => wpAny (model prog w) A (letOwnedTupleGo target it v) (fun _ s₁ => wpAny (model prog w) A (assign target env v) (fun _ s₂ =>
          wpAny (model prog w) A (forIn ifs true fun c r => if r = true then do let ok ← isTrue c env (eval c env); pure (ForInStep.yield ok) else pure (ForInStep.yield r)) (fun ok s₃ =>
            if ok = true then wpAny (model prog w) A (eval elt env) (fun x s₄ =>
              wpAny (model prog w) A (call (.builtin "list.append") [acc, x]) (fun _ s₅ => ∃ m, m < n ∧ I m s₅) (notedBy (model prog w) A env fun e s' => R (.error e) s') s₄) (notedBy (model prog w) A env fun e s' => R (.error e) s') s₃
            else ∃ m, m < n ∧ I m s₃) (notedBy (model prog w) A env fun e s' => R (.error e) s') s₂) (notedBy (model prog w) A env fun e s' => R (.error e) s') s₁) (notedBy (model prog w) A env fun e s' => R (.error e) s') s₁) (notedBy (model prog w) A env fun e s' => R (.error e) s') s)
    (n : Nat) (h : I n s) :
    codeAny (model prog w) A (.compLoop (.ListComp elt [⟨target, iter, ifs, 0⟩] scope pos) 0 it acc env) R s := by
  refine codeAny_loop rfl I (fun n s hI => ?_) n h
  show wpAny _ A ((compTurn (.ListComp elt [⟨target, iter, ifs, 0⟩] scope pos) 0 it acc env).onRaise (fun x => do noteFrame x env; theTreesLotGoes x)) _ _ s
  refine wpAny_noted ?_
  rw [compTurn_list]
  refine wpAny_bind (wpAny_standAt (wpAny_bind (wpAny_mono (turn n s hI) (fun r s₁ h₁ => ?_) fun _ _ h' => h')))
  cases r with
  | none => exact wpAny_pure h₁
  | some v =>
    refine wpAny_bind (wpAny_mono h₁ (fun _ s₁ h₁ => ?_) fun _ _ h' => h')
    refine wpAny_bind (wpAny_mono h₁ (fun _ s₂ h₂ => wpAny_bind (wpAny_mono h₂ (fun ok s₃ h₃ => ?_) fun _ _ h' => h')) fun _ _ h' => h')
    cases ok with
    | false => exact wpAny_pure ⟨rfl, h₃⟩
    | true =>
      exact wpAny_bind (wpAny_bind (wpAny_mono h₃ (fun x s₄ h₄ => wpAny_bind (wpAny_mono h₄ (fun _ s₅ h₅ => wpAny_pure (wpAny_pure ⟨rfl, h₅⟩)) fun _ _ h' => h')) fun _ _ h' => h'))
end
end Mine

set_option autoImplicit false
set_option maxRecDepth 100000
set_option linter.unusedVariables false
namespace Mine
open PySem PyProof.Rows PySem.W

noncomputable def srcLe (i : Nat) : Src → Prop
  | .live _ => True
  | .tup vs => i ≤ vs.length
  | .rng lo hi => i ≤ (hi - lo).toNat

set_option tactic.hygienic false in
theorem srcLe.tup {i : Nat} {src : Src} (h : srcLe i src) : ∀ vs, src = .tup vs → i ≤ vs.length := fun vs e => by subst e; exact h
set_option tactic.hygienic false in
theorem srcLe.rng {i : Nat} {src : Src} (h : srcLe i src) : ∀ lo hi, src = .rng lo hi → i ≤ (hi - lo).toNat := fun lo hi e => by subst e; exact h

inductive CRun (src : Src) (tg : List Nat) (one : Bool) (cond elt : Fra → Sto → RE) : Nat → Nat → Fra → Sto → List V → List V → Sto → Prop
  | done {i fr σ acc} : srcAt σ i src = some none → srcLe i src → CRun src tg one cond elt 0 i fr σ acc acc σ
  | step {k i fr σ acc v fr' acc' σ1 ys σ'} : srcAt σ i src = some (some v) → compF tg one cond elt v fr σ acc = .inl (some (fr', acc', σ1)) → CRun src tg one cond elt k (i + 1) fr' σ1 acc' ys σ' →
    CRun src tg one cond elt (k + 1) i fr σ acc ys σ'

section
variable {tg : List Nat} {one : Bool} {cond elt : Fra → Sto → RE}

theorem compF_inv {v : V} {fr fr' : Fra} {σ σ1 : Sto} {acc acc' : List V} (e : compF tg one cond elt v fr σ acc = .inl (some (fr', acc', σ1))) :
    bindT tg one v fr = some fr' ∧ ((∃ τ y, cond fr' σ = .ok (.bool true) τ ∧ elt fr' τ = .ok y σ1 ∧ acc' = acc ++ [y]) ∨ (cond fr' σ = .ok (.bool false) σ1 ∧ acc' = acc)) := by
  unfold compF at e
  split at e
  · cases e
  · rename_i f hb
    split at e
    · rename_i τ hc
      split at e
      · rename_i y τ' he
        cases e
        exact ⟨hb, .inl ⟨τ, y, hc, he, rfl⟩⟩
      · cases e
      · cases e
    · rename_i τ hc
      cases e
      exact ⟨hb, .inr ⟨hc, rfl⟩⟩
    · cases e
    · cases e

set_option tactic.hygienic false in
theorem CRun.len {src : Src} {k i : Nat} {fr : Fra} {σ σ' : Sto} {acc ys : List V} (h : CRun src tg one cond elt k i fr σ acc ys σ') : acc.length ≤ ys.length := by
  induction h with
  | done => exact Nat.le_refl _
  | step _ e _ ih =>
    obtain ⟨_, h | h⟩ := compF_inv e
    · obtain ⟨_, _, _, _, rfl⟩ := h; simp at ih; lia
    · obtain ⟨_, rfl⟩ := h; exact ih

theorem compL_run {l : Nat} : ∀ (n i : Nat) (fr : Fra) (σ σ' : Sto) (acc ys : List V), compL tg one cond elt l n i fr σ acc = .ok ys σ' → ∃ k, CRun (.live l) tg one cond elt k i fr σ acc ys σ'
  | 0, _, _, _, _, _, _, e => by rw [compL] at e; cases e
  | n + 1, i, fr, σ, σ', acc, ys, e => by
    rw [compL] at e
    split at e
    · cases e
    · rename_i xs hx
      split at e
      · rename_i hi
        cases e
        exact ⟨0, .done (by simp [srcAt, hx, hi]) trivial⟩
      · rename_i v hi
        split at e
        · rename_i f a τ hc
          obtain ⟨k, hk⟩ := compL_run n (i + 1) f τ σ' a ys e
          exact ⟨k + 1, .step (by simp [srcAt, hx, hi]) hc hk⟩
        · cases e
        · cases e

theorem compV_run {src : Src} {L : List V} (hs : ∀ σ i, srcAt σ i src = some L[i]?) (hl : ∀ i, i ≤ L.length → srcLe i src) : ∀ (vs : List V) (i : Nat) (fr : Fra) (σ σ' : Sto) (acc ys : List V), L.drop i = vs → i ≤ L.length →
    compV tg one cond elt vs fr σ acc = .ok ys σ' → ∃ k, CRun src tg one cond elt k i fr σ acc ys σ'
  | [], i, fr, σ, σ', acc, ys, hd, hi, e => by
    rw [compV] at e; cases e
    have : L[i]? = none := by rw [List.getElem?_eq_none_iff]; exact List.drop_eq_nil_iff.mp hd
    exact ⟨0, .done (by rw [hs, this]) (hl i hi)⟩
  | v :: vs, i, fr, σ, σ', acc, ys, hd, hi, e => by
    rw [compV] at e
    have hv : L[i]? = some v := by
      have := congrArg (fun l => l[0]?) hd
      simpa using this
    have hlt : i < L.length := (List.getElem?_eq_some_iff.mp hv).1
    split at e
    · rename_i f a τ hc
      obtain ⟨k, hk⟩ := compV_run hs hl vs (i + 1) f τ σ' a ys (by rw [← List.drop_drop, hd]; rfl) hlt e
      exact ⟨k + 1, .step (by rw [hs, hv]) hc hk⟩
    · cases e
    · cases e
end

structure CX (g : Cfg) (env cenv : Env) (s : Shared) (I D : Addr) : Prop where
  IL : I ≠ env.locals
  DL : D ≠ env.locals
  CL : cenv.locals ≠ env.locals
  IC : I ≠ cenv.locals
  DC : D ≠ cenv.locals
  ID : I ≠ D
  ce : ∀ x c, env.cells.lookup x = some c → c ≠ I ∧ c ≠ D ∧ c ≠ cenv.locals
  cc : ∀ x c, cenv.cells.lookup x = some c → c ≠ I ∧ c ≠ D
  Ib : g.b.get? I = none
  Db : g.b.get? D = none
  Cb : g.b.get? cenv.locals = none
  In : s.heap.get? I = none
  Dn : s.heap.get? D = none
  Cn : s.heap.get? cenv.locals = none

structure CI (g : Cfg) (env cenv : Env) (fr frc : Fra) (s : Shared) (as : List Addr) (src : Src) (I D : Addr) (i : Nat) (acc : List V) (as1 : List Addr) (σ : Sto) (h : Heap) : Prop where
  st : Step [env.locals] as s.heap as1 h
  R : Rel g as1 σ h
  F : FrRel g env as1 fr h
  Fc : FrRel g cenv as1 frc h
  it : ItAt src I i as1 h
  acc : ∃ items, h.PlainList D items ∧ RepVs as1 h acc items.toList
  offI : I ∉ as1
  offD : D ∉ as1

section
variable {g : Cfg} {K : Frag} {c0 : CE} {fa : Nat → Option Addr} {call : Nat → List V → Sto → RE} {env cenv : Env} {A : Around} {X : Value → Shared → Prop} {s : Shared} {as : List Addr} {fr frc : Fra} {σ σ' : Sto} {r n : Nat}
  {names : List (Str × NameKind)} {src : Src} {I D : Addr} {i : Nat} {acc : List V} {as1 : List Addr} {h : Heap}

set_option tactic.hygienic false in
theorem plain_notImm {items : Array Value} (p : h.PlainList D items) : ∀ o, h.get? D = some o → ¬ Imm o := fun o e hi => by
  obtain ⟨n, e'⟩ := p; rw [e] at e'; cases e'; rcases hi.1 with q | q <;> simp at q

set_option tactic.hygienic false in
theorem CI.step {frc' : Fra} {as2 : List Addr} {σ2 : Sto} {h2 : Heap} (Z : CX g env cenv s I D) (C : CI g env cenv fr frc s as src I D i acc as1 σ h) (x : Step [cenv.locals] as1 h as2 h2) (R2 : Rel g as2 σ2 h2) (Fc2 : FrRel g cenv as2 frc' h2) :
    CI g env cenv fr frc' s as src I D i acc as2 σ2 h2 := by
  have K2 : Keep as1 h as2 h2 := C.R.keep x C.Fc.notImm
  have F2 : FrRel g env as2 fr h2 := C.F.keep K2 x (by
    intro a ha q; simp at q; subst q
    rcases own_cases ha with q | ⟨y, q⟩
    · exact Z.CL q
    · exact (Z.ce _ _ q).2.2 rfl)
  obtain ⟨items, p1, p2⟩ := C.acc
  have there : ∀ b o, h.get? b = some o → b ∉ as1 → b ∉ as2 := fun b o e hb q => by
    obtain ⟨⟨t, rfl, ht⟩, _⟩ := x
    rcases List.mem_append.mp q with q | q
    · exact hb q
    · rw [ht b q] at e; cases e
  refine ⟨?_, R2, F2, Fc2, C.it.keep K2 fun o e => x.ext I o e (by simpa using Z.IC) C.offI, ⟨items, p1.at fun o e => x.ext D o e (by simpa using Z.DC) C.offD, RepVs.keep K2 _ _ p2⟩, ?_, ?_⟩
  · have a1 : Step [env.locals, cenv.locals] as s.heap as1 h := C.st.grow (by intro a ha; simp at ha; subst ha; simp)
    have a2 : Step [env.locals, cenv.locals] as1 h as2 h2 := x.grow (by intro a ha; simp at ha; subst ha; simp)
    exact (a1.trans a2 R2.nd (by intro a ha; simp at ha; rcases ha with rfl | rfl; exact F2.off; exact Fc2.off)).shrink (by
      intro a ha; simp at ha; rcases ha with rfl | rfl
      · exact .inl (by simp)
      · exact .inr Z.Cn)
  · obtain ⟨o, e, _⟩ := C.it.there; exact there _ _ e C.offI
  · obtain ⟨m, e⟩ := p1; exact there _ _ e C.offD

set_option tactic.hygienic false in
theorem CI.other {h2 : Heap} {d : Addr} {j : Nat} {acc' : List V} (Z : CX g env cenv s I D) (C : CI g env cenv fr frc s as src I D i acc as1 σ h) (hd : d = I ∨ d = D) (k : ∀ (b : Addr) (o : Obj), b ≠ d → h.get? b = some o → h2.get? b = some o)
    (hit : ItAt src I j as1 h2) (hacc : Keep as1 h as1 h2 → ∃ items, h2.PlainList D items ∧ RepVs as1 h2 acc' items.toList) : CI g env cenv fr frc s as src I D j acc' as1 σ h2 := by
  obtain ⟨items, p1, p2⟩ := C.acc
  have hoff : d ∉ as1 := by rcases hd with rfl | rfl; exact C.offI; exact C.offD
  have hb : g.b.get? d = none := by rcases hd with rfl | rfl; exact Z.Ib; exact Z.Db
  have hni : ∀ o, h.get? d = some o → ¬ Imm o := by
    rcases hd with rfl | rfl
    · intro o e; obtain ⟨o', e', q⟩ := C.it.there; rw [e] at e'; cases e'; exact q
    · exact plain_notImm p1
  obtain ⟨K2, R2⟩ := C.R.other k hoff hb hni
  have hL : env.locals ≠ d := by rcases hd with rfl | rfl; exact Ne.symm Z.IL; exact Ne.symm Z.DL
  have hC : cenv.locals ≠ d := by rcases hd with rfl | rfl; exact Ne.symm Z.IC; exact Ne.symm Z.DC
  have hn : s.heap.get? d = none := by rcases hd with rfl | rfl; exact Z.In; exact Z.Dn
  refine ⟨?_, R2, C.F.alter K2 k hL (fun y c q => ?_) (fun a ha => .inl ha), C.Fc.alter K2 k hC (fun y c q => ?_) (fun a ha => .inl ha), hit, hacc K2, C.offI, C.offD⟩
  · have a2 : Step [env.locals, d] as1 h as1 h2 := ⟨⟨[], by simp, by simp⟩, fun b o e hb _ => k b o (by intro q; subst q; simp at hb) e⟩
    have a1 : Step [env.locals, d] as s.heap as1 h := C.st.grow (by intro a ha; simp at ha; subst ha; simp)
    exact (a1.trans a2 R2.nd (by intro a ha; simp at ha; rcases ha with rfl | rfl; exact C.F.off; exact hoff)).shrink (by
      intro a ha; simp at ha; rcases ha with rfl | rfl
      · exact .inl (by simp)
      · exact .inr hn)
  · rcases hd with rfl | rfl
    · exact (Z.ce _ _ q).1
    · exact (Z.ce _ _ q).2.1
  · rcases hd with rfl | rfl
    · exact (Z.cc _ _ q).1
    · exact (Z.cc _ _ q).2

set_option tactic.hygienic false in
theorem tests_false {M : Model} {env : Env} {Q : Bool → Shared → Prop} : ∀ (ifs : List Expr), Q false s →
    wpAny M A (forIn ifs false fun c r => if r = true then do let ok ← isTrue c env (eval c env); pure (ForInStep.yield ok) else pure (ForInStep.yield r)) Q X s
  | [], h => wpAny_pure h
  | c :: ifs, h => by
    rw [List.forIn_cons]
    simp only [Bool.false_eq_true, if_false]
    exact wpAny_bind (wpAny_pure (tests_false ifs h))

set_option tactic.hygienic false in
theorem tests_snd (IT : SndT g c0 call r n) : ∀ (ifs : List Expr) (cs : List E) (s : Shared) (as : List Addr) (σ σ' : Sto) (b : Bool) (Q : Bool → Shared → Prop), mapO (compE n (c0.sub names)) ifs = some cs → NamesOk (c0.sub names) env → Room A (r + 1) →
    At g env as fr σ s → testL (evTs call cs) fr σ = .ok (.bool b) σ' → BPost g env as fr s b σ' Q →
    wpAny (model g.prog g.w) A (forIn ifs true fun c r => if r = true then do let ok ← isTrue c env (eval c env); pure (ForInStep.yield ok) else pure (ForInStep.yield r)) Q X s
  | [], cs, s, as, σ, σ', b, Q, h, N, hA, T, ev, hQ => by
    rw [mapO] at h; cases h
    rw [evTs, testL] at ev; cases ev
    exact wpAny_pure (hQ as s.heap s.toks (Step.refl _ _ _) T.R T.F)
  | c :: ifs, cs, s, as, σ, σ', b, Q, h, N, hA, T, ev, hQ => by
    obtain ⟨a, cs', h1, h2, rfl⟩ := mapO_cons h
    rw [evTs, testL] at ev
    refine bind_el ev fun u τ e1 e2 => ?_
    rw [List.forIn_cons]
    simp only [if_true]
    split at e2
    · refine wpAny_bind (wpAny_bind (IT names c a h1 env A X s as fr σ τ true _ N hA T e1 fun as1 k1 tk1 st1 R1 F1 => wpAny_pure ?_))
      exact tests_snd IT ifs cs' _ as1 τ σ' b Q h2 N hA ⟨F1, R1⟩ e2 (bpost_of hQ st1 R1 F1)
    · cases e2
      refine wpAny_bind (wpAny_bind (IT names c a h1 env A X s as fr σ _ false _ N hA T e1 fun as1 k1 tk1 st1 R1 F1 => wpAny_pure ?_))
      exact tests_false ifs (hQ as1 k1 tk1 st1 R1 F1)
    · cases e2

theorem comp_turns {elt target iter : Expr} {ifs : List Expr} {scope : Scope} {pos : Pos} {tg : List Nat} {one : Bool} {cs : List E} {x' : E} {ys : List V} {RR : Result → Shared → Prop}
    (IH : SndE g c0 call r n) (IT : SndT g c0 call r n) (Z : CX g env cenv s I D) (N : NamesOk (c0.sub names) cenv) (hA : Room A (r + 1)) (hnc : ∀ x ∈ names, x.2 ≠ .cell) (hys : ys.length ≤ 16777216)
    (ht : tgt (c0.sub names) target = some (tg, one)) (h2 : mapO (compE n (c0.sub names)) ifs = some cs) (h3 : compE n (c0.sub names) elt = some x') {k : Nat} {h : Heap} {tk : Nat}
    (run : CRun src tg one (testL (evTs call cs)) (evE call x') k i frc σ acc ys σ') (C : CI g env cenv fr frc s as src I D i acc as1 σ h)
    (hR : ∀ frc' i' as2 h1 h' tk', CI g env cenv fr frc' s as src I D i' ys as2 σ' h1 → (∀ (b : Addr) (o : Obj), b ≠ I → h1.get? b = some o → h'.get? b = some o) → RR (.ok .next) { s with heap := h', toks := tk' }) :
    codeAny (model g.prog g.w) A (.compLoop (.ListComp elt [⟨target, iter, ifs, 0⟩] scope pos) 0 (.ref I) (.ref D) cenv) RR { s with heap := h, toks := tk } := by
  refine comp_loop (fun k s1 => ∃ i frc σ acc as1 h tk, s1 = { s with heap := h, toks := tk } ∧ CRun src tg one (testL (evTs call cs)) (evE call x') k i frc σ acc ys σ' ∧ CI g env cenv fr frc s as src I D i acc as1 σ h) ?_ k ⟨i, frc, σ, acc, as1, h, tk, rfl, run, C⟩
  rintro k _ ⟨i, frc, σ, acc, as1, h, tk, rfl, run, C⟩
  cases run with
  | done e hle =>
    exact it_done hA.handled C.R C.it C.offI Z.Ib hle.rng hle.tup e fun h' tk' kk K' R' => hR frc i as1 h h' tk' C kk
  | step e ec run' =>
    rename_i k' v fr' acc' σ1
    refine it_next hA.handled C.R C.it C.offI Z.Ib e fun val h1 tk1 kk1 K1 R1 it1 r1 => ?_
    have C1 := C.other (acc' := acc) Z (.inl rfl) kk1 it1 fun K => by
      obtain ⟨items, p1, p2⟩ := C.acc
      exact ⟨items, p1.at fun o e => kk1 _ _ (Ne.symm Z.ID) e, RepVs.keep K _ _ p2⟩
    obtain ⟨hb, hc⟩ := compF_inv ec
    refine o_go (s := { s with heap := h1, toks := tk1 }) it1 ?_
    refine o_assign (own := [cenv.locals]) (s := { s with heap := h1, toks := tk1 }) hA.handled ⟨C1.Fc, C1.R⟩ N (owns_loc hnc) ht r1 hb fun as2 h2' tk2 st2 K2 R2 F2 => ?_
    have C2 := C1.step Z st2 R2 F2
    rcases hc with ⟨τ, y, hc1, hc2, rfl⟩ | ⟨hc1, rfl⟩
    · refine tests_snd IT ifs cs { s with heap := h2', toks := tk2 } as2 σ τ true _ h2 N hA ⟨C2.Fc, C2.R⟩ hc1 fun as3 h3' tk3 st3 R3 F3 => ?_
      have C3 := C2.step Z st3 R3 F3
      rw [if_pos rfl]
      refine IH names elt x' h3 cenv A _ { s with heap := h3', toks := tk3 } as3 fr' τ σ1 y _ N hA ⟨C3.Fc, C3.R⟩ hc2 fun val2 as4 h4 tk4 st4 R4 F4 r4 => ?_
      have C4 := C3.step Z st4 R4 F4
      obtain ⟨items, p1, p2⟩ := C4.acc
      have hl := (RepVs.f2.mp p2).length
      have hl2 := run'.len
      rw [List.length_append] at hl2
      have hsz : items.size = acc.length := by rw [hl]; rfl
      refine wpAny_list_append_plain p1 (fun h5 hp5 hs5 => ?_) (by show _ ≤ 2 ^ 24; simp at hl2; lia)
      have k5 : ∀ (b : Addr) (o : Obj), b ≠ D → h4.get? b = some o → h5.get? b = some o := fun b o hb e => hs5.extBut b o hb e
      have kD : Keep as4 h4 as4 h5 := ⟨fun _ _ e => e, fun b o e im => k5 b o (fun q => by subst q; exact plain_notImm p1 o e im) e⟩
      have C5 := C4.other (acc' := acc ++ [y]) Z (.inr rfl) k5 (C4.it.keep kD fun o e => k5 _ _ Z.ID e) fun K => ⟨_, hp5, by
        rw [Array.toList_push]
        exact RepVs.f2.mpr ((RepVs.f2.mp (RepVs.keep K _ _ p2)).append (.cons (RepV.keep K _ _ r4) .nil))⟩
      exact ⟨k', Nat.lt_succ_self _, i + 1, fr', σ1, acc ++ [y], as4, h5, tk4, rfl, run', C5⟩
    · refine tests_snd IT ifs cs { s with heap := h2', toks := tk2 } as2 σ σ1 false _ h2 N hA ⟨C2.Fc, C2.R⟩ hc1 fun as3 h3' tk3 st3 R3 F3 => ?_
      have C3 := C2.step Z st3 R3 F3
      rw [if_neg Bool.false_ne_true]
      exact ⟨k', Nat.lt_succ_self _, i + 1, fr', σ1, _, as3, h3', tk3, rfl, run', C3⟩
end
end Mine

set_option autoImplicit false
set_option maxRecDepth 100000
set_option linter.unusedVariables false
namespace Mine
open PySem PyProof.Rows PySem.W

noncomputable def clOf (env : Env) : List (Str × NameKind) → List (Str × Addr) → List (Str × Addr)
  | [], acc => acc
  | p :: r, acc => clOf env r (if p.2 == .free then (match env.cells.lookup p.1 with | some c => (p.1, c) :: acc | none => acc) else acc)

noncomputable def clStep (env : Env) (x : Str × NameKind) (r : List (Str × Addr)) : Sem (ForInStep (List (Str × Addr))) :=
  if (x.2 == .free) = true then do let a ← cellOf env x.1; pure (ForInStep.yield ((x.1, a) :: r)) else pure (ForInStep.yield r)

set_option tactic.hygienic false in
theorem clos_loop {env : Env} : ∀ (names : List (Str × NameKind)) (acc : List (Str × Addr)), (∀ p ∈ names, p.2 = .free → ∃ c, env.cells.lookup p.1 = some c) →
    (forIn names acc (clStep env) : Sem (List (Str × Addr))) = pure (clOf env names acc)
  | [], acc, _ => rfl
  | p :: r, acc, h => by
    rw [List.forIn_cons]
    by_cases hp : (p.2 == NameKind.free) = true
    · obtain ⟨c, hc⟩ := h p (.head _) (eq_of_beq hp)
      have e1 : cellOf env p.1 = pure c := by unfold cellOf; rw [hc]
      have e2 : clStep env p acc = pure (ForInStep.yield ((p.1, c) :: acc)) := by
        unfold clStep; rw [if_pos hp, e1]; rfl
      rw [e2]
      have := clos_loop r ((p.1, c) :: acc) fun q hq => h q (.tail _ hq)
      rw [clOf, if_pos hp, hc]
      exact this
    · have e2 : clStep env p acc = pure (ForInStep.yield acc) := by
        unfold clStep; rw [if_neg hp]
      rw [e2]
      have := clos_loop r acc fun q hq => h q (.tail _ hq)
      rw [clOf, if_neg hp]
      exact this

set_option tactic.hygienic false in
theorem clos_eq {env : Env} {sc : Scope} (h : ∀ p ∈ sc.names, p.2 = .free → ∃ c, env.cells.lookup p.1 = some c) : closureFor sc env = pure (clOf env sc.names []) := by
  have := clos_loop sc.names [] h
  unfold closureFor
  show (forIn sc.names ([] : List (Str × Addr)) _ >>= fun cs => pure cs) = _
  exact (congrArg (· >>= fun cs => (pure cs : Sem (List (Str × Addr)))) this)

theorem clOf_sound {env : Env} : ∀ (names : List (Str × NameKind)) (acc : List (Str × Addr)), (∀ x c, acc.lookup x = some c → env.cells.lookup x = some c) → ∀ x c, (clOf env names acc).lookup x = some c → env.cells.lookup x = some c
  | [], acc, h, x, c, e => h x c e
  | p :: r, acc, h, x, c, e => by
    rw [clOf] at e
    refine clOf_sound r _ (fun y d e' => ?_) x c e
    split at e'
    · split at e'
      · rename_i c' hc
        rw [List.lookup_cons] at e'
        split at e'
        · rename_i q; cases e'; rw [eq_of_beq q]; exact hc
        · exact h y d e'
      · exact h y d e'
    · exact h y d e'

theorem clOf_there {env : Env} : ∀ (names : List (Str × NameKind)) (acc : List (Str × Addr)) (x : Str), (∀ p ∈ names, p.2 = .free → ∃ c, env.cells.lookup p.1 = some c) → ((x, NameKind.free) ∈ names ∨ ∃ c, acc.lookup x = some c) → ∃ c, (clOf env names acc).lookup x = some c
  | [], acc, x, _, h => h.elim (fun q => by cases q) id
  | p :: r, acc, x, hn, h => by
    rw [clOf]
    refine clOf_there r _ x (fun q hq => hn q (.tail _ hq)) ?_
    rcases h with h | ⟨c, hc⟩
    · rcases List.mem_cons.mp h with q | q
      · subst q
        obtain ⟨c, hc⟩ := hn _ (.head _) rfl
        refine .inr ⟨c, ?_⟩
        have hc' : env.cells.lookup x = some c := hc
        have hff : (NameKind.free == NameKind.free) = true := rfl
        simp only [hff, if_true, hc', List.lookup_cons]; simp
      · exact .inl q
    · refine .inr ?_
      split
      · split
        · rename_i c' _
          rw [List.lookup_cons]
          split
          · exact ⟨_, rfl⟩
          · exact ⟨c, hc⟩
        · exact ⟨c, hc⟩
      · exact ⟨c, hc⟩

theorem locC_get {c : CE} {x : Str} {i : Nat} (e : c.locC? x = some i) : ∃ k, c.names[i]? = some (x, k) ∧ (k = .cell ∨ k = .free) := by
  unfold CE.locC? at e
  split at e
  · rename_i h; obtain ⟨j, h1, h2⟩ := lookup_get h; rw [h1] at e; cases e; exact ⟨_, h2, .inl rfl⟩
  · rename_i h; obtain ⟨j, h1, h2⟩ := lookup_get h; rw [h1] at e; cases e; exact ⟨_, h2, .inr rfl⟩
  · cases e

set_option tactic.hygienic false in
theorem mapO_get {α β : Type} {f : α → Option β} : ∀ {l : List α} {l' : List β}, mapO f l = some l' → l.length = l'.length ∧ ∀ (i : Nat) (a : α), l[i]? = some a → ∃ b, l'[i]? = some b ∧ f a = some b
  | [], l', h => by rw [mapO] at h; cases h; exact ⟨rfl, fun i a e => by simp at e⟩
  | x :: r, l', h => by
    obtain ⟨y, ys, h1, h2, rfl⟩ := mapO_cons h
    obtain ⟨q1, q2⟩ := mapO_get h2
    refine ⟨by simp [q1], fun i a e => ?_⟩
    cases i with
    | zero => simp at e; subst e; exact ⟨y, rfl, h1⟩
    | succ i => simp at e; simpa using q2 i a e

section
variable {g : Cfg} {c : CE} {env : Env} {s : Shared} {as : List Addr} {fr : Fra} {σ : Sto} {frm : List (Option Nat)} {sc : Scope}

set_option tactic.hygienic false in
theorem frm_free (N : NamesOk c env) (F : FrRel g env as fr s.heap) (hf : frmOf c sc = some frm) : ∀ p ∈ sc.names, p.2 = .free → ∃ a, env.cells.lookup p.1 = some a := fun p hp hk => by
  obtain ⟨i, hi, rfl⟩ := List.getElem_of_mem hp
  obtain ⟨o, h1, h2⟩ := (mapO_get hf).2 i _ (List.getElem?_eq_getElem hi)
  unfold frm1 at h2
  rw [hk] at h2
  obtain ⟨j, h3, _⟩ := Option.map_eq_some_iff.mp h2
  obtain ⟨k, h4, h5⟩ := locC_get h3
  obtain ⟨k', h6, h7⟩ := N.get h4
  have hk' : k' = .cell ∨ k' = .free := by
    rcases h7 with q | q
    · subst q; exact h5
    · exact .inl q.2
  obtain ⟨a, cv, e, _⟩ := F.cells j _ k' h6 hk'
  exact ⟨a, e⟩

set_option tactic.hygienic false in
theorem frm_noCell (hf : frmOf c sc = some frm) : ∀ x ∈ sc.names, x.2 ≠ .cell := fun p hp hk => by
  obtain ⟨i, hi, rfl⟩ := List.getElem_of_mem hp
  obtain ⟨o, h1, h2⟩ := (mapO_get hf).2 i _ (List.getElem?_eq_getElem hi)
  unfold frm1 at h2
  rw [hk] at h2; cases h2

set_option tactic.hygienic false in
theorem scOk_iff (h : scOk sc = true) : sc.kind = .function ∧ (sc.names.map (·.1)).Nodup := by
  unfold scOk at h
  simp only [Bool.and_eq_true, decide_eq_true_eq] at h
  refine ⟨?_, h.2⟩
  have := h.1
  split at this
  · assumption
  · cases this

theorem relabel_names {env : Env} : ∀ names : List (Str × NameKind), F2 (fun (p q : Str × NameKind) => p.1 = q.1 ∧ (p.2 = q.2 ∨ (p.2 = .free ∧ q.2 = .cell))) names
    (names.map fun (n, k) => if (k == NameKind.free && env.scope.kind == .function && env.kindOf n == some .cell) = true then (n, NameKind.cell) else (n, k))
  | [] => .nil
  | (n, k) :: r => by
    rw [List.map_cons]
    refine .cons ?_ (relabel_names r)
    dsimp only
    split
    · rename_i h
      simp only [Bool.and_eq_true] at h
      exact ⟨rfl, .inr ⟨eq_of_beq h.1.1, rfl⟩⟩
    · exact ⟨rfl, .inl rfl⟩

set_option tactic.hygienic false in
theorem comp_frame {C : Addr} {h' : Heap} {m : Str → Option Value} (T : At g env as fr σ s) (N : NamesOk c env) (hf : frmOf c sc = some frm) (ho : scOk sc = true) (hC : s.heap.get? C = none) (hCb : g.b.objs.size ≤ C) (k : ∀ (a : Addr) (o : Obj), s.heap.get? a = some o → h'.get? a = some o) (hns : h'.Ns C m) :
    FrRel g (compEnvC sc (clOf env sc.names []) C env) as (subFr fr frm) h' ∧ NamesOk (c.sub sc.names) (compEnvC sc (clOf env sc.names []) C env) := by
  obtain ⟨hk, hnd⟩ := scOk_iff ho
  have hl := (mapO_get hf).1
  have free := frm_free N T.F hf
  have hcl : ∀ x a, (clOf env sc.names []).lookup x = some a → env.cells.lookup x = some a := clOf_sound sc.names [] (fun x a e => by cases e)
  have K : Keep as s.heap as h' := ⟨fun _ _ e => e, fun a o e _ => k a o e⟩
  have hN : NamesOk (c.sub sc.names) (compEnvC sc (clOf env sc.names []) C env) := ⟨relabel_names sc.names, fun a e => N.code a e⟩
  have hN' := hN.map
  have inv : ∀ (i : Nat) (x : Str) (kk : NameKind), (compEnvC sc (clOf env sc.names []) C env).scope.names[i]? = some (x, kk) → ∃ k0, sc.names[i]? = some (x, k0) ∧ (k0 = kk ∨ (k0 = .free ∧ kk = .cell)) := fun i x kk e => by
    have hlen := F2.length hN.f2
    have hi : i < sc.names.length := by
      have h1 := (List.getElem?_eq_some_iff.mp e).1
      have h2 : sc.names.length = (compEnvC sc (clOf env sc.names []) C env).scope.names.length := hlen
      lia
    obtain ⟨q, h1, h2, h3⟩ := F2.get hN.f2 (i := i) (a := sc.names[i]) (List.getElem?_eq_getElem hi)
    rw [e] at h1; cases h1
    refine ⟨sc.names[i].2, ?_, h3⟩
    rw [List.getElem?_eq_getElem hi]
    exact congrArg some (Prod.ext h2 rfl)
  refine ⟨⟨hk, hCb, T.F.glob, T.F.blt, ?_, ?_, ⟨m, hns, fun i x v e1 e2 => ?_⟩, fun i x kk e1 e2 => ?_, fun q => ?_, fun x a e => ⟨(T.F.offc _ _ (hcl _ _ e)).1, fun q => ?_, ?_⟩, fun x y a e1 e2 => T.F.apart x y a (hcl _ _ e1) (hcl _ _ e2), fun x a e => T.F.newc x a (hcl _ _ e)⟩, hN⟩
  · show (subFr fr frm).length = _
    rw [show (compEnvC sc (clOf env sc.names []) C env).scope.names.length = sc.names.length from (F2.length hN.f2).symm]
    simp [subFr, hl]
  · rw [← hN']; exact hnd
  · obtain ⟨k0, q1, q2⟩ := inv i x _ e1
    have : k0 = .local := by
      rcases q2 with q | q
      · exact q
      · cases q.2
    subst this
    obtain ⟨o, h1, h2⟩ := (mapO_get hf).2 i _ q1
    unfold frm1 at h2; cases h2
    unfold subFr at e2
    rw [List.getElem?_map, h1] at e2
    simp at e2
  · obtain ⟨k0, q1, q2⟩ := inv i x _ e1
    have hk0 : k0 = .free := by
      rcases q2 with q | q
      · subst q
        rcases e2 with e2 | e2
        · exact absurd e2 (frm_noCell hf _ (List.mem_of_getElem? q1))
        · exact e2
      · exact q.1
    subst hk0
    obtain ⟨o, h1, h2⟩ := (mapO_get hf).2 i _ q1
    unfold frm1 at h2
    obtain ⟨j, h3, rfl⟩ := Option.map_eq_some_iff.mp h2
    obtain ⟨k1, h4, h5⟩ := locC_get h3
    obtain ⟨k', h6, h7⟩ := N.get h4
    have hk' : k' = .cell ∨ k' = .free := by
      rcases h7 with q | q
      · subst q; exact h5
      · exact .inl q.2
    obtain ⟨a, cv, p1, ⟨ob, p2, p2'⟩, p3⟩ := T.F.cells j _ k' h6 hk'
    obtain ⟨a', ha'⟩ := clOf_there sc.names [] x free (.inl (List.mem_of_getElem? q1))
    have := hcl _ _ ha'
    rw [p1] at this; cases this
    refine ⟨a, cv, ha', ⟨ob, k _ _ p2, p2'⟩, fun v e => ?_⟩
    unfold subFr at e
    rw [List.getElem?_map, h1] at e
    simp only [Option.map_some, Option.some.injEq] at e
    have e' : fr[j]? = some (some v) := by
      cases q : fr[j]? with
      | none => rw [q] at e; cases e
      | some w => rw [q] at e; exact congrArg some e
    obtain ⟨val, p4, p5⟩ := p3 v e'
    exact ⟨val, p4, RepV.keep K _ _ p5⟩
  · obtain ⟨ob, e, _⟩ := T.R.there q
    have e' : s.heap.get? C = some ob := e
    rw [hC] at e'; cases e'
  · obtain ⟨cv, o, e', _⟩ := (T.F.offc _ _ (hcl _ _ e)).2.2
    have q' : a = C := q
    rw [q', hC] at e'; cases e'
  · obtain ⟨cv, o, e', e''⟩ := (T.F.offc _ _ (hcl _ _ e)).2.2
    exact ⟨cv, o, k _ _ e', e''⟩
end
end Mine

set_option autoImplicit false
set_option maxRecDepth 100000
set_option linter.unusedVariables false
namespace Mine
open PySem PyProof.Rows PySem.W

section
variable {g : Cfg} {K : Frag} {c0 : CE} {fa : Nat → Option Addr} {call : Nat → List V → Sto → RE} {env : Env} {A : Around} {X : Value → Shared → Prop} {s : Shared} {as : List Addr} {fr : Fra} {σ σ' : Sto} {r n : Nat}
  {names : List (Str × NameKind)} {Q : Value → Shared → Prop}

set_option tactic.hygienic false in
theorem it_self {src : Src} {I : Addr} {i : Nat} (hA : A.handled = none) (R : Rel g as σ s.heap) (it : ItAt src I i as s.heap) (hl : ∀ l, src = .live l → ∃ xs, getL σ l = some xs) (hQ : Q (.ref I) s) : wpAny (model g.prog g.w) A (pyIter (.ref I)) Q X s := by
  have hth := it.there
  have hni : ∀ o, s.heap.get? I = some o → ¬ Imm o := fun o e => by obtain ⟨o', e', n⟩ := hth; rw [e] at e'; cases e'; exact n
  cases src with
  | live l =>
    obtain ⟨a, e1, e2⟩ := it
    obtain ⟨xs, e3⟩ := hl l rfl
    have r0 : RepV as s.heap (.ref l) (.ref a) := by rw [RepV]; exact ⟨a, rfl, e1⟩
    obtain ⟨a', items, n, q, hd, ho, hr, hz, hsz⟩ := rep_list R r0 e3
    cases q
    have hne : a ≠ I := fun q => by
      subst q
      obtain ⟨o, e, hc, _⟩ := e2
      have ho' : s.heap.get? a = some _ := ho
      rw [ho'] at e; cases e; simp at hc
    exact (Walks.list (prog := g.prog) (w := g.w) (A := A) hA I a hne items).self i s Q X ⟨e2, ho.isList⟩ hQ
  | tup vs =>
    obtain ⟨a, items, n, e1, e2, e3⟩ := it
    have hne : a ≠ I := fun q => by subst q; exact hni _ e1 imm_tuple
    exact (Walks.tuple (prog := g.prog) (w := g.w) (A := A) hA I a hne items).self i s Q X ⟨e3, ⟨_, e1, rfl, n, rfl⟩⟩ hQ
  | rng lo hi => exact (Walks.range (prog := g.prog) (w := g.w) (A := A) hA I lo 1 (hi - lo).toNat).self i s Q X it hQ

set_option tactic.hygienic false in
theorem fold_set {iter : Expr} {a : E} {c : CE} (h : compE n c iter = some a) : ∀ x, foldedSetIterable iter env x = pure x := by
  intro x
  have hk := comp_kind h
  cases iter <;> first | rfl | exact ft hk

set_option tactic.hygienic false in
theorem comp_core {elt target iter : Expr} {ifs : List Expr} {scope : Scope} {pos pos' : Pos} {use : Option (Value → Sem Unit)} {tg : List Nat} {one : Bool} {cs : List E} {x' it' : E} {ys : List V} {frm : List (Option Nat)} {v : V} {src : Src} {τ : Sto} {k : Nat}
    (IH : SndE g c0 call r n) (IT : SndT g c0 call r n) (N : NamesOk (c0.sub names) env) (hA : Room A (r + 1)) (T : At g env as fr σ s)
    (h1 : compE n (c0.sub names) iter = some it') (ht : tgt (c0.sub scope.names) target = some (tg, one)) (h2 : mapO (compE n (c0.sub scope.names)) ifs = some cs) (h3 : compE n (c0.sub scope.names) elt = some x')
    (hf : frmOf (c0.sub names) scope = some frm) (ho : scOk scope = true) (e1 : evE call it' fr σ = .ok v τ) (hs : srcOf v = some src) (hl : ∀ l, src = .live l → ∃ xs, getL τ l = some xs)
    (run : CRun src tg one (testL (evTs call cs)) (evE call x') k 0 (subFr fr frm) τ [] ys σ') (hys : ys.length ≤ 16777216)
    (fin : ∀ as' h' tk C D m, Step [env.locals] as s.heap (as' ++ [D]) h' → Rel g (as' ++ [D]) (σ' ++ [.lst ys]) h' → FrRel g env (as' ++ [D]) fr h' → as'.length = σ'.length → h'.Ns C m → C ∉ (as' ++ [D]) → C ≠ env.locals →
      (∀ x c, env.cells.lookup x = some c → c ≠ C) → g.b.get? C = none → s.heap.get? C = none → compPost (model g.prog g.w) A X use Q (.ref D) C (.ok .next) { s with heap := h', toks := tk }) :
    wpAny (model g.prog g.w) A (comprehension (.ListComp elt [⟨target, iter, ifs, 0⟩] scope pos) scope env pos' (newList []) false (eval iter env) use) Q X s := by
  obtain ⟨hk, hnd⟩ := scOk_iff ho
  have hclos := clos_eq (frm_free N T.F hf)
  refine wpAny_comprehension_free (gs := []) rfl (fold_set h1) hclos hk (fun x hx hx2 => ?_) ?_
  · obtain ⟨i, hi, rfl⟩ := List.getElem_of_mem hx
    refine nodup_lookup hnd (i := i) ?_
    rw [List.getElem?_eq_getElem hi]
    exact congrArg some (Prod.ext rfl hx2)
  refine IH names iter it' h1 env A X s as fr σ τ v _ N hA T e1 fun x as1 k1 tk1 st1 R1 F1 r1 => ?_
  have T1 : At g env as1 fr τ { s with heap := k1, toks := tk1 } := ⟨F1, R1⟩
  refine it_iter T1 r1 hs hl fun o T2 it0 => ?_
  refine wpAny_newObj_type (wpAny_newFunctionEnv (frm_noCell hf) (by simp) (fun h' hns hsb => ?_) hk)
  dsimp only at hns hsb ⊢
  generalize hH2 : (k1.push o).push { cls := .type "list", dict := none, data := .seq ([] : List Value).toArray } = H2 at hns hsb ⊢
  have sz1 : (k1.push o).objs.size = k1.objs.size + 1 := Heap.size_push ..
  have sz2 : H2.objs.size = k1.objs.size + 2 := by rw [← hH2, Heap.size_push, sz1]
  have kk : ∀ (b : Addr) (ob : Obj), k1.get? b = some ob → h'.get? b = some ob := fun b ob e =>
    hsb.extBut b ob (Nat.ne_of_lt (by have := Heap.lt_size e; rw [sz2]; exact Nat.lt_of_lt_of_le this (by lia))) (Heap.get?_push_of_some _ (hH2 ▸ Heap.get?_push_of_some _ (Heap.get?_push_of_some _ e)))
  have kI : ∀ ob, (k1.push o).get? k1.objs.size = some ob → h'.get? k1.objs.size = some ob := fun ob e =>
    hsb.extBut _ ob (by rw [sz2]; exact Nat.ne_of_lt (by lia)) (Heap.get?_push_of_some _ (hH2 ▸ Heap.get?_push_of_some _ e))
  have hD : h'.get? (k1.push o).objs.size = some { cls := .type "list", dict := none, data := .seq ([] : List Value).toArray } :=
    hsb.extBut _ _ (by rw [sz1, sz2]; exact Nat.ne_of_lt (by lia)) (Heap.get?_push_of_some _ (hH2 ▸ Heap.get?_push_size _ rfl))
  have freshK : ∀ b : Addr, k1.objs.size ≤ b → k1.get? b = none := fun b hb => by
    cases e : k1.get? b with
    | none => rfl
    | some ob => exact absurd (Heap.lt_size e) (Nat.not_lt.mpr hb)
  have fI := freshK k1.objs.size (Nat.le_refl _)
  have fD := freshK (k1.push o).objs.size (by rw [sz1]; exact Nat.le_succ _)
  have fC := freshK H2.objs.size (by rw [sz2]; exact Nat.le_add_right _ _)
  have bnone : ∀ b, k1.get? b = none → g.b.get? b = none := fun b hb => by
    cases e : g.b.get? b with
    | none => rfl
    | some ob => have := R1.base _ _ e; rw [hb] at this; cases this
  have Lne : ∀ b, k1.get? b = none → b ≠ env.locals := fun b hb q => by subst q; obtain ⟨ob, e⟩ := F1.there; rw [hb] at e; cases e
  have cne : ∀ b, k1.get? b = none → ∀ y c, env.cells.lookup y = some c → c ≠ b := fun b hb y c hc q => by
    subst q; obtain ⟨cv, ob, e, _⟩ := (F1.offc _ _ hc).2.2; rw [hb] at e; cases e
  have nin : ∀ b, k1.get? b = none → b ∉ as1 := fun b hb q => by obtain ⟨ob, e, _⟩ := R1.there q; rw [hb] at e; cases e
  have hCb : g.b.objs.size ≤ H2.objs.size := by
    obtain ⟨ob, e⟩ := F1.there
    have h4 := Heap.lt_size e
    have h5 := F1.above
    rw [sz2]
    exact Nat.le_trans h5 (Nat.le_trans (Nat.le_of_lt h4) (Nat.le_add_right _ _))
  obtain ⟨Fc, Nc⟩ := comp_frame (s := { s with heap := k1, toks := tk1 }) T1 N hf ho fC hCb kk hns
  have hcl : ∀ x a, (clOf env scope.names []).lookup x = some a → env.cells.lookup x = some a := clOf_sound scope.names [] (fun x a e => by cases e)
  have Z : CX g env (compEnvC scope (clOf env scope.names []) H2.objs.size env) { s with heap := k1, toks := tk1 } k1.objs.size (k1.push o).objs.size :=
    ⟨Lne _ fI, Lne _ fD, Lne _ fC, by show _ ≠ H2.objs.size; rw [sz2]; exact Nat.ne_of_lt (by lia), by show _ ≠ H2.objs.size; rw [sz1, sz2]; exact Nat.ne_of_lt (by lia), by rw [sz1]; exact Nat.ne_of_lt (Nat.lt_succ_self _),
     fun y c hc => ⟨cne _ fI y c hc, cne _ fD y c hc, cne _ fC y c hc⟩, fun y c hc => ⟨cne _ fI y c (hcl _ _ hc), cne _ fD y c (hcl _ _ hc)⟩, bnone _ fI, bnone _ fD, bnone _ fC, fI, fD, fC⟩
  have x0 : Step [] as1 k1 as1 h' := Step.of_ext kk
  have K0 := R1.keep0 x0
  have C0 : CI g env (compEnvC scope (clOf env scope.names []) H2.objs.size env) fr (subFr fr frm) { s with heap := k1, toks := tk1 } as1 src k1.objs.size (k1.push o).objs.size 0 [] as1 τ h' :=
    ⟨x0.grow (by simp), R1.ext kk, T1.frame x0, Fc, it0.keep ⟨fun _ _ e => e, fun b ob e im => by
      by_cases hb : b = k1.objs.size
      · subst hb; exact kI ob e
      · have : k1.get? b = some ob := by
          have hlt := Heap.lt_size e
          rw [sz1] at hlt
          have hlt' : b < k1.objs.size := Nat.lt_of_le_of_ne (Nat.le_of_lt_succ hlt) hb
          cases e' : k1.get? b with
          | some ob' => have := keeps_push k1 o b ob' e'; rw [e] at this; cases this; rfl
          | none => rw [Heap.get?_push_ne _ _ _ (Nat.ne_of_lt hlt')] at e; rw [e] at e'; cases e'
        exact kk b ob this⟩ kI, ⟨_, ⟨0, hD⟩, by rw [RepVs]⟩, nin _ fI, nin _ fD⟩
  have main : codeAny (model g.prog g.w) A (.compLoop (.ListComp elt [⟨target, iter, ifs, 0⟩] scope pos) 0 (.ref k1.objs.size) (.ref (k1.push o).objs.size) (compEnvC scope (clOf env scope.names []) H2.objs.size env))
      (compPost (model g.prog g.w) A X use Q (.ref (k1.push o).objs.size) H2.objs.size) { s with heap := h', toks := tk1 } := by
    refine comp_turns (s := { s with heap := k1, toks := tk1 }) IH IT Z Nc hA (frm_noCell hf) hys ht h2 h3 run C0 fun frc' i' as2 h3' h4' tk4 C kk4 => ?_
    have hth := C.it.there
    have hni : ∀ ob, h3'.get? k1.objs.size = some ob → ¬ Imm ob := fun ob e => by obtain ⟨o', e', q⟩ := hth; rw [e] at e'; cases e'; exact q
    obtain ⟨K4, R4⟩ := C.R.other kk4 C.offI Z.Ib hni
    have F4 := C.F.alter K4 kk4 (Ne.symm Z.IL) (fun y c q => (Z.ce _ _ q).1) (fun a ha => .inl ha)
    obtain ⟨items, p1, p2⟩ := C.acc
    have p1' := p1.at fun ob e => kk4 _ ob (Ne.symm Z.ID) e
    have p2' := RepVs.keep K4 _ _ p2
    have S4 : Step [env.locals] as1 k1 as2 h4' := by
      have a2 : Step [env.locals, k1.objs.size] as2 h3' as2 h4' := ⟨⟨[], by simp, by simp⟩, fun b ob e hb _ => kk4 b ob (by intro q; subst q; simp at hb) e⟩
      have a1 : Step [env.locals, k1.objs.size] as1 k1 as2 h3' := C.st.grow (by intro a ha; simp at ha; subst ha; simp)
      exact (a1.trans a2 R4.nd (by intro a ha; simp at ha; rcases ha with rfl | rfl; exact F4.off; exact C.offI)).shrink (by
        intro a ha; simp at ha; rcases ha with rfl | rfl
        · exact .inl (by simp)
        · exact .inr fI)
    obtain ⟨S5, R5, F5⟩ := T1.pushN (a := (k1.push o).objs.size) (o := .lst ys) S4 R4 F4 fD C.offD Z.Db Z.DL (fun y c q => (Z.ce _ _ q).2.1) (plain_notImm p1') ⟨items, p1', RepVs.keep ⟨fun j cc e => by rw [List.getElem?_append_left (List.getElem?_eq_some_iff.mp e).1]; exact e, fun _ _ e _ => e⟩ _ _ p2', hys⟩
    have hCns : ∃ m, h4'.Ns H2.objs.size m := by
      obtain ⟨m, hm, _⟩ := C.Fc.ns
      exact ⟨m, hm.at' fun ob e => kk4 _ ob (Ne.symm Z.IC) e⟩
    obtain ⟨m, hm⟩ := hCns
    refine fin as2 h4' tk4 H2.objs.size (k1.push o).objs.size m (step_trans st1 S5 R5 F5) R5 F5 R4.len hm ?_ Z.CL (fun y c q => (Z.ce _ _ q).2.2) Z.Cb ?_
    · intro q
      rcases List.mem_append.mp q with q | q
      · exact C.Fc.off q
      · exact Z.DC (List.mem_singleton.mp q).symm
    · cases e : s.heap.get? H2.objs.size with
      | none => rfl
      | some ob =>
        have := st1.ext _ _ e (by intro q; exact Z.CL (List.mem_singleton.mp q)) (fun q => nin _ fC (st1.mem q))
        rw [fC] at this; cases this
  exact codeAny_compStart_list main (it_self (s := { s with heap := h', toks := tk1 }) hA.handled C0.R C0.it hl main)
theorem comp_inv {tg : List Nat} {one : Bool} {it' x' : E} {cs : List E} {frm : List (Option Nat)} {v : V} (ev : evE call (.comp tg one it' cs x' frm) fr σ = .ok v σ') :
    ∃ u τ src k ys σ2, evE call it' fr σ = .ok u τ ∧ srcOf u = some src ∧ (∀ l, src = .live l → ∃ xs, getL τ l = some xs) ∧ CRun src tg one (testL (evTs call cs)) (evE call x') k 0 (subFr fr frm) τ [] ys σ2 ∧ newL ys σ2 = .ok v σ' := by
  refine bind_el ev fun u τ e1 e2 => ?_
  cases u with
  | ref l =>
    simp only at e2
    split at e2
    · rename_i xs hx
      refine sbind_el e2 fun ys σ2 e3 e4 => ?_
      obtain ⟨k, hk⟩ := compL_run _ _ _ _ _ _ _ e3
      exact ⟨_, τ, .live l, k, ys, σ2, e1, rfl, fun l' q => by cases q; exact ⟨xs, hx⟩, hk, e4⟩
    · cases e2
  | tup vs =>
    simp only at e2
    refine sbind_el e2 fun ys σ2 e3 e4 => ?_
    obtain ⟨k, hk⟩ := compV_run (src := .tup vs) (L := vs) (fun _ _ => rfl) (fun i h => h) vs 0 _ _ _ _ _ rfl (Nat.zero_le _) e3
    exact ⟨_, τ, .tup vs, k, ys, σ2, e1, rfl, (fun l' q => (nomatch q)), hk, e4⟩
  | rng lo hi =>
    simp only at e2
    refine sbind_el e2 fun ys σ2 e3 e4 => ?_
    obtain ⟨k, hk⟩ := compV_run (src := .rng lo hi) (L := rngL lo hi) (fun _ _ => rfl) (fun i h => by show i ≤ _; simpa [rngL] using h) (rngL lo hi) 0 _ _ _ _ _ rfl (Nat.zero_le _) e3
    exact ⟨_, τ, .rng lo hi, k, ys, σ2, e1, rfl, (fun l' q => (nomatch q)), hk, e4⟩
  | _ => cases e2

set_option tactic.hygienic false in
theorem n_comp {elt target iter : Expr} {ifs : List Expr} {scope : Scope} {p : Pos} {tg : List Nat} {one : Bool} {cs : List E} {x' it' : E} {frm : List (Option Nat)} (IH : SndE g c0 call r n) (IT : SndT g c0 call r n)
    (h1 : compE n (c0.sub names) iter = some it') (ht : tgt (c0.sub scope.names) target = some (tg, one)) (h2 : mapO (compE n (c0.sub scope.names)) ifs = some cs) (h3 : compE n (c0.sub scope.names) elt = some x')
    (hf : frmOf (c0.sub names) scope = some frm) (ho : scOk scope = true) : NodeE g c0 call r names (.ListComp elt [⟨target, iter, ifs, 0⟩] scope p) (.comp tg one it' cs x' frm) := fun env A X s as fr σ σ' v Q N hA T ev hQ => by
  obtain ⟨u, τ, src, k, ys, σ2, e1, e2, e3, e4, e5⟩ := comp_inv ev
  have hlen := newL_len e5
  unfold newL at e5
  rw [if_pos hlen] at e5
  cases e5
  rw [eval_ListComp]
  refine comp_core (use := none) IH IT N hA T h1 ht h2 h3 hf ho e1 e2 e3 e4 hlen fun as' h' tk C D m st R' F' hl hm hC hCL hcc hCb hCn => ⟨m, hm, fun h2 hs2 => ?_⟩
  have kk : ∀ (b : Addr) (o : Obj), b ≠ C → h'.get? b = some o → h2.get? b = some o := fun b o hb e => by rw [hs2.2 b hb]; exact e
  have hni : ∀ o, h'.get? C = some o → ¬ Imm o := fun o e hi => by
    obtain ⟨o', es, ep, e', d, _⟩ := hm; rw [e] at e'; cases e'; exact hi.2.1 _ _ d
  obtain ⟨K2, R2⟩ := R'.other kk hC hCb hni
  have F2 := F'.alter K2 kk (Ne.symm hCL) hcc (fun a ha => .inl ha)
  have S2 : Step [env.locals] as s.heap (as' ++ [D]) h2 := by
    have a2 : Step [env.locals, C] (as' ++ [D]) h' (as' ++ [D]) h2 := ⟨⟨[], by simp, by simp⟩, fun b ob e hb _ => kk b ob (by intro q; subst q; simp at hb) e⟩
    have a1 : Step [env.locals, C] as s.heap (as' ++ [D]) h' := st.grow (by intro a ha; simp at ha; subst ha; simp)
    exact (a1.trans a2 R2.nd (by intro a ha; simp only [List.mem_cons, List.not_mem_nil, or_false] at ha; rcases ha with rfl | rfl; exact F2.off; exact hC)).shrink (by
      intro a ha; simp only [List.mem_cons, List.not_mem_nil, or_false] at ha; rcases ha with rfl | rfl
      · exact .inl (by simp)
      · exact .inr hCn)
  refine hQ _ _ h2 tk S2 R2 F2 ?_
  rw [RepV]; exact ⟨D, rfl, by rw [← hl]; simp⟩
end
end Mine

set_option autoImplicit false
set_option maxRecDepth 100000
set_option linter.unusedVariables false
namespace Mine
open PySem PyProof.Rows PySem.W

section
variable {prog : Program} {w : World} {A : Around} {E : Value → Shared → Prop} {s : Shared}

set_option tactic.hygienic false in
theorem collect_range {Q : List Value → Shared → Prop} {r : Addr} {a b c : Int} {t u v : Tok} {n : Nat} (hh : A.handled = none) (hr : IsRange s.heap r a b c t u v) (hsmall : Builtin.Range.small a b c = true)
    (hn : Builtin.Range.rangeSize a b c = n) (hlen : n ≤ 2 ^ 24)
    (hQ : ∀ h' tk acc, (∀ b o, s.heap.get? b = some o → h'.get? b = some o) → ItemsOf (fun i v => ∃ t, v = .int (a + i * c) t) acc n → Q acc.toList { s with heap := h', toks := tk }) :
    wpAny (model prog w) A (collect (.ref r)) Q E s := by
  unfold collect
  refine wpAny_bind (wpAny_runValue (codeAny_builtin F.entry_proto_collect ?_))
  rw [Around.under_plainId F.plain_proto_collect _]
  show wpAny _ A.in1 (newList [] >>= fun l => again (.builtin "list.__iadd__" ⟨[l, .ref r], []⟩)) _ _ s
  refine wpAny_bind (wpAny_newObj_type ?_)
  refine wpAny_pure ⟨plainId_quiet F.plain_list_iadd _, codeAny_builtin F.entry_list_iadd ?_⟩
  rw [Around.under_plainId F.plain_list_iadd _]
  show wpAny _ A.in1 (Builtin.List.listExtendWith (.ref s.heap.objs.size) (.ref r) (.ref s.heap.objs.size)) _ _ _
  refine wpAny_extend_range (R := fun r s' => match r with
      | .ok (.ret v) => wpAny (model prog w) A (match v with
        | .ref a => (do let o ← load a; match o.data with | .seq xs _ => pure xs.toList | _ => unsupported "internal:collect")
        | _ => unsupported "internal:collect") Q E s'
      | .ok _ => False
      | .error e => E e s') (s := { s with heap := s.heap.push { cls := .type "list", data := .seq #[] } }) hh (Heap.get?_push_of_some _ hr) hsmall hn hlen _ _ 0 (Heap.get?_push_size _ rfl) fun h' tk acc' c' hk hS' hacc => ?_
  show wpAny _ A (load s.heap.objs.size >>= _) _ _ _
  refine wpAny_bind (wpAny_load hS' ?_)
  exact wpAny_pure (hQ h' tk acc' (fun b o e => hk b o (Nat.ne_of_lt (Heap.lt_size e)) (Heap.get?_push_of_some _ e)) hacc)

variable {h₀ : Heap} {L : Addr} {m : Str → Option Value} {news : List (Addr × Obj)} {Q : Value → Shared → Prop}

set_option tactic.hygienic false in
theorem sorted_range {kz : List Int} {f r : Addr} {a b c : Int} {t u v : Tok} {n : Nat} (F : Fr h₀ L s.heap m) (N : News h₀ L s.heap news) (hh : A.handled = none) (hr : IsRange s.heap r a b c t u v) (hsmall : Builtin.Range.small a b c = true)
    (hn : Builtin.Range.rangeSize a b c = n) (h64 : n < 64) (hlen : kz.length = n)
    (turn : ∀ (i : Nat) (t : Tok) (k : Int), i < n → kz[i]? = some k → ∀ (h : Heap) (tk : Nat) (own : List (Addr × Obj)), Fr h₀ L h m → News h₀ L h (news ++ own) →
      wpAny (model prog w) A.in1.in1 (call (.ref f) [.int (a + i * c) t]) (KskEnd h₀ L m (news ++ own) k { s with heap := h, toks := tk }) (fun _ _ => False) { s with heap := h, toks := tk })
    (h : ∀ (D : Addr) (h' : Heap) (tk : Nat) (vs : List Value) (out : Array Value) (e : Nat), Fr h₀ L h' m → News h₀ L h' ((D, seqObj "list" out e) :: news) → s.heap.get? D = none → vs.length = n → (∀ (i : Nat) (x : Value), vs[i]? = some x → ∃ t, x = .int (a + i * c) t) → KskOut false kz vs out.toList → Q (.ref D) { s with heap := h', toks := tk }) :
    wpAny (model prog w) A (call (.builtin "sorted") [.ref r] [(Str.ofString "key", .ref f)]) Q E s := by
  refine call_function_entry_kw kind_sorted plain_sorted entry_sorted (ksk_s1 _ _) ?_
  unfold Builtin.«sorted»
  refine wpAny_bind (m := checkCount "sorted" 1 1 _) (wpAny_pure ?_)
  refine wpAny_bind (collect_range (A := A.in1) hh hr hsmall hn (by lia) fun h1 tk1 acc hk1 hacc => ?_)
  have hvl : acc.toList.length = n := by rw [Array.length_toList]; exact hacc.1
  refine wpAny_bind (wpAny_newList ?_ (by rw [hvl, sizeLine_eq]; lia))
  have keep : ∀ b o, s.heap.get? b = some o → (h1.push (seqObj "list" acc.toList.toArray 0)).get? b = some o := fun b o q => Heap.get?_push_of_some _ (hk1 b o q)
  have hoL : (h1.push (seqObj "list" acc.toList.toArray 0)).get? h1.objs.size = some (seqObj "list" acc.toList.toArray 0) := Heap.get?_push_size _ rfl
  have hL : L < h1.objs.size := by
    obtain ⟨o, es, ep, e, _⟩ := F.ns; exact Heap.lt_size (hk1 _ _ e)
  have hD : s.heap.get? h1.objs.size = none := by
    cases e : s.heap.get? h1.objs.size with
    | none => rfl
    | some o => exact absurd (Heap.lt_size (hk1 _ _ e)) (Nat.lt_irrefl _)
  refine wpAny_bind (wpAny_holding (wpAny_call_entry_kw slot_list_sort ⟨_, hoL, rfl⟩ entry_list_sort ?body (ksk_l1 _ _)))
  case body =>
    show wpAny (model prog w) A.in1.in1 (Builtin.«list.sort» ⟨[.ref h1.objs.size], [(Str.ofString "key", .ref f)]⟩) _ _ _
    rw [ksk_t1]
    refine ksk_sort (s := { s with heap := h1.push (seqObj "list" acc.toList.toArray 0), toks := tk1 }) (vs := acc.toList) (F.kept keep) (N.grown keep) hoL (Nat.ne_of_gt hL) (Heap.get?_none_of_le (Nat.le_trans F.above (Nat.le_of_lt hL)))
      (fun p hp q => by have := (N p hp).1; rw [q, hD] at this; cases this) (by rw [hlen, hvl]) (by rw [hvl]; exact h64) (fun i x k hx hk g tk own F' N' => ?_) fun h' tk out e F' N' k' => ⟨_, rfl, ?_⟩
    · obtain ⟨t', rfl⟩ := hacc.2 i x (by simpa using hx)
      exact turn i t' k (by have := (List.getElem?_eq_some_iff.mp hx).1; lia) hk g tk own F' N'
    · exact wpAny_pure ⟨_, rfl, h _ h' tk acc.toList out e F' N' hD hvl (fun i x hx => hacc.2 i x (by simpa using hx)) k'⟩
end

structure LX (c : CE) (env : Env) (p : Str) (x : Int) (fr : Fra) (h : Heap) : Prop where
  kind : env.scope.kind = .function
  par : ∃ m t, h.Ns env.locals m ∧ m p = some (.int x t) ∧ env.kindOf p = some .local
  var : ∀ y i v, c.locC? y = some i → env.scope.names.lookup y = some .free → fr[i]? = some (some (.int v)) → ∃ cc t, env.cells.lookup y = some cc ∧ h.IsCell cc (some (.int v t))

theorem kx_snd {prog : Program} {w : World} {A : Around} {X : Value → Shared → Prop} {env : Env} {c : CE} {p : Str} {x : Int} {fr : Fra} : ∀ (n : Nat) (e : Expr) (k : KX) (z : Int) (s : Shared) (Q : Value → Shared → Prop), cKey n c p env.scope e = some k → kxV fr x k = some z → LX c env p x fr s.heap →
    (∀ t tk, Q (.int z t) { s with toks := tk }) → wpAny (model prog w) A (eval e env) Q X s
  | 0, e, k, z, s, Q, h, _, _, _ => nn h
  | n + 1, e, k, z, s, Q, h, hz, C, hQ => by
    rw [cKey] at h
    cases q : vw e <;> rw [q] at h <;> first | exact nn h | skip
    · rename_i y
      obtain ⟨pp, rfl⟩ := vw_of q
      obtain ⟨hd, h⟩ := gd_inv h
      refine wpAny_Name ?_ (not_inv hd)
      unfold kxName at h
      cases hy : (y == p) <;> rw [hy] at h
      · obtain ⟨h0, h⟩ := gd_inv h
        obtain ⟨h1, h2⟩ := and_inv h0
        obtain ⟨i, h3, rfl⟩ := map_inv h
        have hf : env.scope.names.lookup y = some .free := eq_of_beq h1
        rw [kxV] at hz
        split at hz
        · rename_i v hv
          cases hz
          obtain ⟨cc, t, e1, e2⟩ := C.var y i _ h3 hf hv
          exact wpAny_loadName_free C.kind hf e1 e2 (hQ t s.toks) (not_inv h2)
        · exact nn hz
      · cases Option.some.inj h
        rw [kxV] at hz
        cases hz
        have := eq_of_beq hy
        subst this
        obtain ⟨m, t, e1, e2, e3⟩ := C.par
        exact wpAny_loadName_local C.kind e3 e1 e2 (hQ t s.toks)
    · rename_i v
      obtain ⟨a, pp, rfl⟩ := vw_of q
      cases v <;> first | exact nn h | skip
      cases Option.some.inj h
      rw [kxV] at hz
      cases hz
      exact wpAny_Constant_int (hQ _ _)
    · rename_i t
      obtain ⟨l, op, r⟩ := t
      obtain ⟨pp, rfl⟩ := vw_of q
      cases op <;> first | exact nn h | skip
      · obtain ⟨a, b, h1, h2, rfl⟩ := opt2_inv h
        rw [kxV] at hz
        obtain ⟨u, h3, hz⟩ := bind_inv hz
        obtain ⟨v, h4, rfl⟩ := map_inv hz
        exact wpAny_BinOp (kx_snd n l a u s _ h1 h3 C fun t tk => kx_snd n r b v { s with toks := tk } _ h2 h4 C fun t2 tk2 => PyProof.Rows.add_int (hQ _ _))
      · obtain ⟨a, b, h1, h2, rfl⟩ := opt2_inv h
        rw [kxV] at hz
        obtain ⟨u, h3, hz⟩ := bind_inv hz
        obtain ⟨v, h4, hz⟩ := bind_inv hz
        split at hz
        · rename_i hm
          cases hz
          exact wpAny_BinOp (kx_snd n l a u s _ h1 h3 C fun t tk => kx_snd n r b v { s with toks := tk } _ h2 h4 C fun t2 tk2 => PyProof.Rows.mul_int (hQ _ _) (mul_ok hm))
        · exact nn hz
      · obtain ⟨a, b, h1, h2, rfl⟩ := opt2_inv h
        rw [kxV] at hz
        obtain ⟨u, h3, hz⟩ := bind_inv hz
        obtain ⟨v, h4, hz⟩ := bind_inv hz
        split at hz
        · rename_i hm
          cases hz
          exact wpAny_BinOp (kx_snd n l a u s _ h1 h3 C fun t tk => kx_snd n r b v { s with toks := tk } _ h2 h4 C fun t2 tk2 => PyProof.Rows.mod_int hm (hQ _ _))
        · exact nn hz
end Mine

set_option autoImplicit false
set_option maxRecDepth 100000
set_option linter.unusedVariables false
namespace Mine
open PySem PyProof.Rows PySem.W

theorem lookup_zip_some : ∀ {ns : List Str} {xs : List Value} {n : Str}, n ∈ ns → ns.length = xs.length → ((ns.zip xs).lookup n).isNone = false
  | [], _, _, h, _ => by cases h
  | m :: ns, [], _, _, h => by cases h
  | m :: ns, x :: xs, n, h, hl => by
    rw [List.zip_cons_cons, List.lookup_cons]
    split
    · rfl
    · rename_i q
      rcases List.mem_cons.mp h with rfl | h
      · simp at q
      · exact lookup_zip_some h (by simpa using hl)

set_option tactic.hygienic false in
theorem lookup_app {α : Type} {n : Str} : ∀ {l r : List (Str × α)}, (∀ p ∈ l, p.1 ≠ n) → (l ++ r).lookup n = r.lookup n
  | [], _, _ => rfl
  | p :: l, r, h => by
    rw [List.cons_append]
    obtain ⟨a, b⟩ := p
    rw [List.lookup_cons]
    have : (n == a) = false := by
      cases q : n == a with
      | false => rfl
      | true => exact absurd (eq_of_beq q).symm (h _ (.head _))
    rw [this]
    exact lookup_app fun p hp => h p (.tail _ hp)

set_option tactic.hygienic false in
theorem zip_back : ∀ (ns pre : List Str) (xs pxs : List Value), (pre ++ ns).Nodup → ns.length = xs.length → pre.length = pxs.length → ns.filterMap (fun n => ((pre.zip pxs ++ ns.zip xs).lookup n).map fun v => (n, v)) = ns.zip xs
  | [], _, xs, _, _, _, _ => rfl
  | n :: ns, pre, [], _, _, hl, _ => by cases hl
  | n :: ns, pre, x :: xs, pxs, nd, hl, hp => by
    have h1 : ((pre.zip pxs ++ (n :: ns).zip (x :: xs)).lookup n) = some x := by
      rw [lookup_app, List.zip_cons_cons, List.lookup_cons]
      · simp
      · intro p hp' q
        have := (List.of_mem_zip hp').1
        rw [q] at this
        exact (List.nodup_append.mp nd).2.2 n this n (.head _) rfl
    rw [List.filterMap_cons, h1]
    simp only [Option.map_some, List.zip_cons_cons]
    have := zip_back ns (pre ++ [n]) xs (pxs ++ [x]) (by simpa using nd) (by simpa using hl) (by simp [hp])
    rw [List.zip_append hp] at this
    simp only [List.append_assoc] at this
    exact congrArg _ this

set_option tactic.hygienic false in
theorem bind_plain {fd : FuncData} {ns : List Arg} {d : List Expr} (hp : fd.params = ⟨[], ns, none, [], [], none, d⟩) (hd : fd.defaults = .none) (nd : (ns.map (·.arg)).Nodup) {xs : List Value} (hl : ns.length = xs.length) :
    bindArgs fd ⟨xs, []⟩ = pure ((ns.map (·.arg)).zip xs) := by
  have hl' : (ns.map (·.arg)).length = xs.length := by simpa using hl
  have hm : (ns.map (·.arg)).filter (fun n => (((ns.map (·.arg)).zip xs).lookup n).isNone) = [] := by
    rw [List.filter_eq_nil_iff]
    intro a ha
    rw [lookup_zip_some ha hl']; simp
  have hm' : ((ns.map (·.arg)).take (ns.map (·.arg)).length).filter (fun n => (((ns.map (·.arg)).zip xs).lookup n).isNone) = [] := by
    rw [List.take_length]; exact hm
  unfold bindArgs
  rw [hp, hd]
  have hgt : ¬ (xs.length > (ns.map (·.arg)).length) := by lia
  have hs : seqItems? Value.none = pure none := rfl
  have hdec : decide (xs.length > (ns.map (·.arg)).length) = false := decide_eq_false hgt
  simp only [List.map_nil, List.nil_append, List.forIn_nil, List.append_nil, hs, pure_bind, Option.getD_none, hdec, Bool.false_and, Bool.false_eq_true, if_false, List.length_nil, Nat.zero_sub, List.drop_nil, Nat.sub_zero, hm', List.isEmpty_nil, Bool.not_true, List.zip_nil_right]
  have hzz := zip_back (ns.map fun (x : Arg) => x.arg) [] xs [] (by simpa using nd) hl' rfl
  exact congrArg pure hzz

set_option tactic.hygienic false in
theorem insK_perm {α : Type} (p : Int × α) : ∀ l : List (Int × α), (insK p l).Perm (p :: l)
  | [] => .refl _
  | q :: r => by
    rw [insK]
    split
    · exact .refl _
    · exact ((insK_perm p r).cons q).trans (.swap p q r)
set_option tactic.hygienic false in
theorem sortK_perm {α : Type} : ∀ l : List (Int × α), (sortK l).Perm l
  | [] => .refl _
  | p :: r => (insK_perm p _).trans ((sortK_perm r).cons p)
theorem insK_sorted {α : Type} (p : Int × α) : ∀ l : List (Int × α), l.Pairwise (fun a b => a.1 ≤ b.1) → (insK p l).Pairwise (fun a b => a.1 ≤ b.1)
  | [], _ => List.pairwise_singleton _ _
  | q :: r, h => by
    rw [insK]
    have h' := List.pairwise_cons.mp h
    split
    · rename_i hlt
      refine List.pairwise_cons.mpr ⟨fun b hb => ?_, h⟩
      rcases List.mem_cons.mp hb with e | e
      · rw [e]; lia
      · have := h'.1 b e; lia
    · rename_i hge
      refine List.pairwise_cons.mpr ⟨fun b hb => ?_, insK_sorted p r h'.2⟩
      rcases List.mem_cons.mp ((insK_perm p r).mem_iff.mp hb) with e | e
      · rw [e]; lia
      · exact h'.1 b e
set_option tactic.hygienic false in
theorem sortK_sorted {α : Type} : ∀ l : List (Int × α), (sortK l).Pairwise (fun a b => a.1 ≤ b.1)
  | [] => .nil
  | p :: r => insK_sorted p _ (sortK_sorted r)
set_option tactic.hygienic false in
theorem sortK_uniq {α : Type} {l ps : List (Int × α)} (hn : (l.map (·.1)).Nodup) (hp : ps.Perm l) (hs : ps.Pairwise (fun a b => a.1 ≤ b.1)) : ps = sortK l := by
  refine List.Perm.eq_of_pairwise (le := fun a b => a.1 ≤ b.1) (fun a b ha hb h1 h2 => ?_) hs (sortK_sorted l) (hp.trans (sortK_perm l).symm)
  have ha' := hp.mem_iff.mp ha
  have hb' := (sortK_perm l).mem_iff.mp hb
  have e : a.1 = b.1 := Int.le_antisymm h1 h2
  obtain ⟨i, hi, rfl⟩ := List.getElem_of_mem ha'
  obtain ⟨j, hj, rfl⟩ := List.getElem_of_mem hb'
  have : i = j := (List.getElem_inj hn (h₀ := by simpa using hi) (h₁ := by simpa using hj)).mp (by simpa using e)
  subst this; rfl
set_option tactic.hygienic false in
theorem f2_ins {α β : Type} {R : Int × α → Int × β → Prop} (hR : ∀ a b, R a b → a.1 = b.1) {p : Int × α} {q : Int × β} (h : R p q) {l : List (Int × α)} {m : List (Int × β)} (f : F2 R l m) : F2 R (insK p l) (insK q m) := by
  induction f with
  | nil => exact .cons h .nil
  | @cons a b l m x r ih =>
    show F2 R (if p.1 < a.1 then p :: a :: l else a :: insK p l) (if q.1 < b.1 then q :: b :: m else b :: insK q m)
    rw [hR p q h, hR a b x]
    split
    · exact .cons h (.cons x r)
    · exact .cons x ih
set_option tactic.hygienic false in
theorem f2_sort {α β : Type} {R : Int × α → Int × β → Prop} (hR : ∀ a b, R a b → a.1 = b.1) {l : List (Int × α)} {m : List (Int × β)} (f : F2 R l m) : F2 R (sortK l) (sortK m) := by
  induction f with
  | nil => exact .nil
  | cons x _ ih => exact f2_ins hR x ih
set_option tactic.hygienic false in
theorem f2_zip {α β : Type} {R : α → β → Prop} (ks : List Int) {l : List α} {m : List β} (f : F2 R l m) : F2 (fun (a : Int × α) (b : Int × β) => a.1 = b.1 ∧ R a.2 b.2) (ks.zip l) (ks.zip m) := by
  induction f generalizing ks with
  | nil => rw [List.zip_nil_right, List.zip_nil_right]; exact .nil
  | cons x _ ih =>
    cases ks with
    | nil => exact .nil
    | cons k ks => exact .cons ⟨rfl, x⟩ (ih ks)
set_option tactic.hygienic false in
theorem f2_map {α β α' β' : Type} {R : α → β → Prop} {R' : α' → β' → Prop} {f : α → α'} {g : β → β'} (h : ∀ a b, R a b → R' (f a) (g b)) {l : List α} {m : List β} (r : F2 R l m) : F2 R' (l.map f) (m.map g) := by
  induction r with
  | nil => exact .nil
  | cons x _ ih => exact .cons (h _ _ x) ih

set_option tactic.hygienic false in
theorem par?_inv {ps : Arguments} {p : Str} (h : par? ps = some p) : ∃ a, ps = ⟨[], [a], none, [], [], none, []⟩ ∧ a.arg = p := by
  obtain ⟨p1, p2, p3, p4, p5, p6, p7⟩ := ps
  rcases p2 with _ | ⟨a, _ | ⟨b, p2⟩⟩
  · exact nn h
  · obtain ⟨h0, h⟩ := gd_inv h
    obtain ⟨h1, h0⟩ := and_inv h0
    obtain ⟨h2, h0⟩ := and_inv h0
    obtain ⟨h3, h0⟩ := and_inv h0
    obtain ⟨h4, h0⟩ := and_inv h0
    obtain ⟨h5, h6⟩ := and_inv h0
    have e1 : p1 = [] := List.isEmpty_iff.mp h1
    have e2 : p3 = none := Option.isNone_iff_eq_none.mp h2
    have e3 : p4 = [] := List.isEmpty_iff.mp h3
    have e4 : p5 = [] := List.isEmpty_iff.mp h4
    have e5 : p6 = none := Option.isNone_iff_eq_none.mp h5
    have e6 : p7 = [] := List.isEmpty_iff.mp h6
    subst e1 e2 e3 e4 e5 e6
    exact ⟨a, rfl, Option.some.inj h⟩
  · exact nn h

section
variable {g : Cfg} {K : Frag} {c0 : CE} {fa : Nat → Option Addr} {call : Nat → List V → Sto → RE} {env : Env} {A : Around} {X : Value → Shared → Prop} {s : Shared} {as : List Addr} {fr : Fra} {σ σ' : Sto} {r n : Nat}
  {names : List (Str × NameKind)} {Q : Value → Shared → Prop} {v : V} {sc : Scope} {body : Expr} {lp : Pos}

noncomputable def lamO (env : Env) (a : Arg) (body : Expr) (sc : Scope) (pm : Value) (c' : Addr) (ctv : Value) : Obj :=
  kla_obj "<lambda>" (env.qual ++ "<lambda>") ⟨[], [a], none, [], [], none, []⟩ body sc (clOf env sc.names []) pm c' ctv

set_option tactic.hygienic false in
theorem o_lam {a : Arg} {ca : Addr} {frm : List (Option Nat)} (G : Glob g K c0 fa) (N : NamesOk (c0.sub names) env) (T : At g env as fr σ s) (hl : c0.lam = some ca) (ht : σ[1]? = some (.tab false)) (hf : frmOf (c0.sub names) sc = some frm)
    (hQ : ∀ (f : Addr) (h' : Heap) (tk : Nat) (pm : Value) (c' : Addr) (ctv : Value), Step [env.locals] as s.heap as h' → Rel g as (σ.set 1 (.tab true)) h' → FrRel g env as fr h' → h'.get? f = some (lamO env a body sc pm c' ctv) → h'.CodeRec (.ref c') (env.qual ++ "<lambda>") → Q (.ref f) { s with heap := h', toks := tk }) :
    wpAny (model g.prog g.w) A (eval (.Lambda ⟨[], [a], none, [], [], none, []⟩ body sc lp) env) Q X s := by
  obtain ⟨mg, Tg, C, _, hB, hne⟩ := G.lam ca hl
  have h1l : 1 < as.length := by rw [T.R.len]; exact (List.getElem?_eq_some_iff.mp ht).1
  have ha1 : as[1]? = some as[1] := List.getElem?_eq_getElem h1l
  obtain ⟨hP1, ps, hps, hps0⟩ := T.R.obj 1 _ _ ha1 ht
  rw [hP1] at ha1 hps
  rw [hps0 rfl] at hps
  have hPas : g.tab ∈ as := List.mem_of_getElem? ha1
  refine kla_eval rfl (kla_makeFunction (mg := mg) (clos_eq (frm_free N T.F hf)) T.F.glob (Tg.keeps T.R.base) (N.code ca hl) (C.keeps T.R.base) hps trivial rfl hne (hB.keeps T.R.base) fun c' ctv h' tk hx hge hlt hrec htb => ?_)
  generalize hO : kla_obj "<lambda>" (env.qual ++ "<lambda>") ⟨[], [a], none, [], [], none, []⟩ body sc (clOf env sc.names []) ((mg "__name__").getD .none) c' ctv = ob
  have hk : ∀ (b : Addr) (o : Obj), b ≠ g.tab → s.heap.get? b = some o → (h'.push ob).get? b = some o := fun b o hb e => Heap.get?_push_of_some _ (hx b o hb e)
  have KK : Keep as s.heap as (h'.push ob) := ⟨fun _ _ e => e, fun b o e hi => hk b o (fun q => by
    subst q; rw [hps] at e; cases e; rcases hi.1 with q | q <;> cases q) e⟩
  have R' : Rel g as (σ.set 1 (.tab true)) (h'.push ob) := by
    refine ⟨fun b o e => hk b o (fun q => by subst q; rw [T.R.new _ hPas] at e; cases e) (T.R.base b o e), by rw [List.length_set]; exact T.R.len, T.R.nd, T.R.new, fun i b o e1 e2 => ?_⟩
    by_cases hi : i = 1
    · subst hi
      rw [ha1] at e1; cases e1
      rw [List.getElem?_set_self (by rw [← T.R.len]; exact h1l)] at e2; cases e2
      exact ⟨rfl, _, Heap.get?_push_of_some _ htb, fun q => nomatch q⟩
    · rw [List.getElem?_set_ne (Ne.symm hi)] at e2
      refine (T.R.obj i b o e1 e2).keep KK fun oc e => hk b oc (fun q => ?_) e
      subst q
      obtain ⟨hi1, e3⟩ := List.getElem?_eq_some_iff.mp e1
      obtain ⟨hj1, e4⟩ := List.getElem?_eq_some_iff.mp ha1
      exact hi ((List.getElem_inj T.R.nd).mp (e3.trans e4.symm))
  have F' : FrRel g env as fr (h'.push ob) := T.F.alter KK hk (fun q => T.F.off (q ▸ hPas)) (fun x c hc q => (T.F.offc _ _ hc).1 (q ▸ hPas)) fun _ h => .inl h
  refine hQ _ _ tk _ c' ctv ⟨⟨[], by simp, by simp⟩, fun b o e _ hb => hk b o (fun q => hb (q ▸ hPas)) e⟩ R' F' (by rw [lamO, hO]; exact Heap.get?_push_size _ (by rw [← hO]; rfl)) ?_
  obtain ⟨c₂, oc, vs, t, e2, hoc, hd, hv⟩ := hrec
  exact ⟨c₂, oc, vs, t, e2, Heap.get?_push_of_some _ hoc, hd, hv⟩

set_option tactic.hygienic false in
theorem o_turn {a : Arg} {frm : List (Option Nat)} {key : KX} {x z : Int} {t : Tok} {f c' : Addr} {pm ctv : Value} {h : Heap} {tk : Nat} {m : Str → Option Value} {need : List (Addr × Obj)} {B : Around} (N : NamesOk (c0.sub names) env) (T : At g env as fr σ s) (lim : g.b.NoLimit) (hroom : B.depth < recursionLimit)
    (hf : frmOf (c0.sub names) sc = some frm) (hso : scOk sc = true) (hgen : sc.isGenerator = false) (hco : sc.isCoroutine = false) (hp : sc.names.lookup a.arg = some .local) (hkey : cKey 10 (c0.sub names) a.arg sc body = some key) (hz : kxV fr x key = some z)
    (ho : s.heap.get? f = some (lamO env a body sc pm c' ctv)) (hcd : s.heap.CodeRec (.ref c') (env.qual ++ "<lambda>"))
    (F' : Fr g.b env.locals h m) (N' : News g.b env.locals h need) (hs : ∀ p ∈ newsOf g.b env.locals s.heap, p ∈ need) :
    wpAny (model g.prog g.w) B (PySem.call (.ref f) [.int x t]) (KskEnd g.b env.locals m need z { s with heap := h, toks := tk }) (fun _ _ => False) { s with heap := h, toks := tk } := by
  have ext := ext_of_news F' N' hs T.R.base
  obtain ⟨mL, ⟨oL, esL, epL, eL, dL, _⟩, _⟩ := T.F.ns
  have hfL : f ≠ env.locals := fun q => by rw [q, eL] at ho; cases ho; cases dL
  have hcd' : h.CodeRec (.ref c') (env.qual ++ "<lambda>") := by
    obtain ⟨c₂, oc, vs, t2, e2, hoc, hd, hv⟩ := hcd
    exact ⟨c₂, oc, vs, t2, e2, ext _ _ (fun q => by rw [q, eL] at hoc; cases hoc; rw [dL] at hd; cases hd) hoc, hd, hv⟩
  obtain ⟨hk, hnd⟩ := scOk_iff hso
  refine wpAny_call (kla_callFunE (s := { s with heap := h, toks := tk }) hroom (ext _ _ hfL ho) rfl hco hgen rfl hcd' ?_)
  have hbind : bindArgs (kla_fn "<lambda>" (env.qual ++ "<lambda>") ⟨[], [a], none, [], [], none, []⟩ body sc (clOf env sc.names []) pm (.ref c') ctv) ⟨[.int x t], []⟩ = pure [(a.arg, .int x t)] :=
    bind_plain (ns := [a]) (d := []) rfl rfl (by simp) rfl
  rw [hbind]
  refine wpAny_pure (wpAny_newFunctionEnv (s := { s with heap := h, toks := tk }) (frm_noCell hf) (fun y hy => by rw [List.mem_singleton.mp hy]; exact hp) (fun h₁ hns hsb => ⟨((lim).keeps F'.keep).fresh _ hsb, ?_⟩) hk)
  have hk₁ : ∀ (b : Addr) (o : Obj), h.get? b = some o → h₁.get? b = some o := fun b o e => hsb.extBut b o (Nat.ne_of_lt (Heap.lt_size e)) (Heap.get?_push_of_some _ e)
  refine kla_codeExpr (kx_snd (fr := fr) (x := x) (p := a.arg) (c := c0.sub names) 10 body key z _ _ hkey hz ⟨hk, ⟨_, t, hns, by simp, hp⟩, fun y i v h1 h2 h3 => ?_⟩ fun t2 tk2 => ?_)
  · have hmem : (y, NameKind.free) ∈ sc.names := lookup_mem' h2
    obtain ⟨cc, hcc⟩ := clOf_there sc.names [] y (frm_free N T.F hf) (.inl hmem)
    have hce := clOf_sound sc.names [] (fun _ _ e => nomatch e) y cc hcc
    obtain ⟨k, h4, h5⟩ := locC_get h1
    obtain ⟨k', h6, h7⟩ := N.get h4
    have hk' : k' = .cell ∨ k' = .free := by
      rcases h7 with q | q
      · subst q; exact h5
      · exact .inl q.2
    obtain ⟨c2, cv, e1, ⟨oc, e2, e2'⟩, e3⟩ := T.F.cells i y k' h6 hk'
    rw [hce] at e1; cases e1
    obtain ⟨val, rfl, rv⟩ := e3 _ h3
    obtain ⟨tv, rfl⟩ := rep_int rv
    exact ⟨cc, tv, hcc, oc, hk₁ _ _ (ext _ _ (T.F.offc _ _ hce).2.1 e2), e2'⟩
  · exact ⟨h₁, tk2, t2, rfl, rfl, F'.kept hk₁, N'.grown hk₁⟩

theorem srtV_inv {key : KX} {u : V} (e : srtV key fr u σ = .ok v σ') : ∃ hi ks, u = .rng 0 hi ∧ hi < 60 ∧ σ[1]? = some (.tab false) ∧ mapO (fun (j : Nat) => kxV fr (j : Int) key) (List.range hi.toNat) = some ks ∧ ks.Nodup ∧ newL ((sortK (ks.zip (rngL 0 hi))).map (·.2)) (σ.set 1 (.tab true)) = .ok v σ' := by
  cases u <;> first | exact bad_ok e | skip
  rename_i lo hi
  obtain ⟨⟨rfl, hh⟩, e1⟩ := if_inv e
  have key2 : ∀ {o : Option AO} {q : RE}, srtT o q = .ok v σ' → o = some (.tab false) ∧ q = .ok v σ' := fun {o q} e => by
    cases o with
    | none => exact bad_ok e
    | some o => cases o with
      | tab b => cases b with
        | false => exact ⟨rfl, e⟩
        | true => exact bad_ok e
      | _ => exact bad_ok e
  obtain ⟨h1, e2⟩ := key2 e1
  cases hks : mapO (fun (j : Nat) => kxV fr (j : Int) key) (List.range hi.toNat) with
  | none => rw [hks] at e2; exact bad_ok e2
  | some ks =>
    rw [hks] at e2
    obtain ⟨h3, e3⟩ := if_inv e2
    exact ⟨hi, ks, rfl, hh, h1, hks, h3, e3⟩

set_option tactic.hygienic false in
theorem o_srt {a : Arg} {frm : List (Option Nat)} {key : KX} {hi : Int} {ks : List Int} {x : Value} {f c' : Addr} {pm ctv : Value} {B : Nat} (N : NamesOk (c0.sub names) env) (T : At g env as fr σ s) (lim : g.b.NoLimit) (hA : Room A B)
    (hf : frmOf (c0.sub names) sc = some frm) (hso : scOk sc = true) (hgen : sc.isGenerator = false) (hco : sc.isCoroutine = false) (hp : sc.names.lookup a.arg = some .local) (hkey : cKey 10 (c0.sub names) a.arg sc body = some key)
    (hks : mapO (fun (j : Nat) => kxV fr (j : Int) key) (List.range hi.toNat) = some ks) (hnd : ks.Nodup) (h60 : hi < 60) (hr : RepV as s.heap (.rng 0 hi) x) (e : newL ((sortK (ks.zip (rngL 0 hi))).map (·.2)) σ = .ok v σ')
    (ho : s.heap.get? f = some (lamO env a body sc pm c' ctv)) (hcd : s.heap.CodeRec (.ref c') (env.qual ++ "<lambda>")) (hQ : EPost g env as fr s v σ' Q) :
    wpAny (model g.prog g.w) A (PySem.call (.builtin "sorted") [x] [(Str.ofString "key", .ref f)]) Q X s := by
  rw [RepV] at hr
  obtain ⟨ra, t, u, w', rfl, hro, hrb⟩ := hr
  obtain ⟨z1, z2⟩ := rng_size hrb
  have hz0 : ((hi - 0).toNat) = hi.toNat := by rw [Int.sub_zero]
  rw [hz0] at z1
  obtain ⟨m, hF, _⟩ := T.F.fr T.R
  have hlen : ks.length = hi.toNat := by have := (mapO_get hks).1; rw [List.length_range] at this; exact this.symm
  have hdep : A.in1.in1.depth < recursionLimit := by have := hA.depth; show A.depth < 1000; lia
  refine sorted_range hF (news_all _ _ _) hA.handled hro z2 z1 (by lia) hlen (fun i t' k hi' hk h tk own F' N' => ?_) fun D h' tk vs out ep F' N' hD hvl hvs ko => ?_
  · have e0 : (0 : Int) + (i : Int) * 1 = (i : Int) := by lia
    rw [e0]
    refine o_turn (tk := tk) N T lim hdep hf hso hgen hco hp hkey ?_ ho hcd F' N' fun p hp => List.mem_append_left _ hp
    obtain ⟨b, h1, h2⟩ := (mapO_get hks).2 i i (List.getElem?_range hi')
    rw [hk] at h1; cases h1
    exact h2
  · obtain ⟨ps, hpp, hout, hps⟩ := ko
    have hsd : ps = sortK (ks.zip vs) := sortK_uniq (by rw [List.map_fst_zip (by lia)]; exact hnd) hpp (by simpa using hps)
    refine hQ.newN (tk := tk) T hF.ns F' rfl N' (fun p hp => .tail _ hp) (.head _) hD ?_ e
    rw [hout, hsd]
    refine RepVs.f2.mpr (f2_map (R := fun (a : Int × V) (b : Int × Value) => a.1 = b.1 ∧ RepV as s.heap a.2 b.2) (fun _ _ h => h.2) (f2_sort (fun _ _ h => h.1) (f2_zip ks ?_)))
    have hacc : ItemsOf (fun i v => ∃ t, v = Value.int (0 + (i : Int) * 1) t) vs.toArray (hi - 0).toNat := ⟨by simpa [hz0] using hvl, fun i x hx => hvs i x (by simpa using hx)⟩
    simpa using RepVs.f2.mp (rng_rep (as := as) (h := s.heap) hacc)

set_option tactic.hygienic false in
theorem x_sort {x : Str} {e : Expr} {kw : Option Str} {ps : Arguments} {kp fp p : Pos} {e' : E} (G : Glob g K c0 fa) (IH : SndE g c0 call r n) (h : cSort (c0.sub names) (compE n (c0.sub names)) x e kw (ps, body, sc, lp) = some e') :
    NodeE g c0 call r names (.Call (.Name x fp) [e] [⟨kw, .Lambda ps body sc lp, kp⟩] p) e' := by
  obtain ⟨h0, h⟩ := gd_inv h
  obtain ⟨g1, h0⟩ := and_inv h0
  obtain ⟨g2, h0⟩ := and_inv h0
  obtain ⟨g3, h0⟩ := and_inv h0
  obtain ⟨g4, h0⟩ := and_inv h0
  obtain ⟨g5, h0⟩ := and_inv h0
  obtain ⟨g6, h0⟩ := and_inv h0
  obtain ⟨g7, g8⟩ := and_inv h0
  have e1 : kw = _ := eq_of_beq g1
  have e2 : x = _ := eq_of_beq g2
  obtain ⟨frm, hfr⟩ := Option.isSome_iff_exists.mp g8
  obtain ⟨ca, hca⟩ := Option.isSome_iff_exists.mp g4
  obtain ⟨pn, hpn, h⟩ := bind_inv h
  obtain ⟨hpl, h⟩ := gd_inv h
  obtain ⟨a', key, h1, hkey, rfl⟩ := opt2_inv h
  obtain ⟨a, rfl, rfl⟩ := par?_inv hpn
  subst e1; subst e2
  intro env A X s as fr σ σ' v Q N hA T ev hQ
  refine bind_el ev fun u τ e3 e4 => ?_
  obtain ⟨hi, ks, rfl, h60, htab, hks, hnd, enew⟩ := srtV_inv e4
  obtain ⟨_, _, _, lim, _⟩ := G.lam ca hca
  show wpAny _ A (eval (.Name "sorted" fp) env >>= fun f => callWith p f [] (backTo p (starEach [e] env)) (backToKw p (keywordEach [⟨some "key", .Lambda ⟨[], [a], none, [], [], none, []⟩ body sc lp, kp⟩] env))) Q X s
  refine wpAny_bind (o_glob T N g3 rfl G.sorted ?_)
  refine callWith_kw ?_ (by rw [notStarred h1]; rfl) (by rw [notStarred h1]; rfl) rfl rfl
  refine wpAny_items_cons ?_ (notStarred h1 _ _)
  refine IH names e a' h1 env A X s as fr σ τ _ _ N hA T e3 fun val as' h' tk st R' F' r' => wpAny_items_nil ?_
  have T' : At g env as' fr τ { s with heap := h', toks := tk } := ⟨F', R'⟩
  show wpAny _ A (do let v ← (do let v ← eval (.Lambda ⟨[], [a], none, [], [], none, []⟩ body sc lp) env; standAt p; pure v); return v :: (← holding [v] (evalAll []))) _ X _
  refine wpAny_bind (wpAny_bind (o_lam G N T' hca htab hfr fun f h2 tk2 pm c' ctv st2 R2 F2 ho hcd => wpAny_bind (wpAny_standAt (wpAny_pure (wpAny_bind (wpAny_holding (wpAny_pure (wpAny_pure ?_))))))))
  have T2 : At g env as' fr (τ.set 1 (.tab true)) { s with heap := h2, toks := tk2 } := ⟨F2, R2⟩
  exact o_srt N T2 lim hA hfr g5 (not_inv g6) (not_inv g7) (eq_of_beq hpl) hkey hks hnd h60 (RepV.keep (T'.keep st2) _ _ r') enew ho hcd (epost_of (s := s) (tk := tk2) hQ (step_trans st st2 R2 F2) R2 F2)
end
end Mine

set_option autoImplicit false
set_option maxRecDepth 100000
set_option linter.unusedVariables false
namespace Mine
open PySem PyProof.Rows PySem.W

set_option tactic.hygienic false in
theorem ck1_inv {c : CE} {f : Str} {t : Str × Expr} {k : CK} (h : ck1 c f t = k) : (k = .setLen t.2 ∧ f = "len" ∧ t.1 = "set" ∧ c.glob "len" = true ∧ c.glob "set" = true) ∨ (k = .revl t.2 ∧ f = "list" ∧ t.1 = "reversed" ∧ c.glob "list" = true ∧ c.glob "reversed" = true) ∨ k = .plain := by
  unfold ck1 at h
  cases q : (f == ("len" : Str) && (t.1 == ("set" : Str) && (c.glob f && c.glob t.1))) with
  | true =>
    rw [q] at h
    obtain ⟨q1, q2⟩ := and_inv q; obtain ⟨q2, q3⟩ := and_inv q2; obtain ⟨q3, q4⟩ := and_inv q3
    have e1 := eq_of_beq q1; have e2 := eq_of_beq q2
    rw [e1] at q3; rw [e2] at q4
    exact .inl ⟨h.symm, e1, e2, q3, q4⟩
  | false =>
    rw [q] at h
    cases q : (f == ("list" : Str) && (t.1 == ("reversed" : Str) && (c.glob f && c.glob t.1))) with
    | true =>
      rw [q] at h
      obtain ⟨q1, q2⟩ := and_inv q; obtain ⟨q2, q3⟩ := and_inv q2; obtain ⟨q3, q4⟩ := and_inv q3
      have e1 := eq_of_beq q1; have e2 := eq_of_beq q2
      rw [e1] at q3; rw [e2] at q4
      exact .inr (.inl ⟨h.symm, e1, e2, q3, q4⟩)
    | false => rw [q] at h; exact .inr (.inr h.symm)
set_option tactic.hygienic false in
theorem ck2_inv {c : CE} {f : Str} {a : Expr} {t : Str} {k : CK} (h : ck2 c f a t = k) : (k = .isi a t ∧ f = "isinstance" ∧ c.glob "isinstance" = true ∧ c.glob t = true ∧ (t == ("__debug__" : Str)) = false) ∨ k = .plain := by
  unfold ck2 at h
  cases q : (f == ("isinstance" : Str) && (c.glob f && (c.glob t && !(t == ("__debug__" : Str))))) with
  | true =>
    rw [q] at h
    obtain ⟨q1, q2⟩ := and_inv q; obtain ⟨q2, q3⟩ := and_inv q2; obtain ⟨q3, q4⟩ := and_inv q3
    have e1 := eq_of_beq q1
    rw [e1] at q2
    exact .inl ⟨h.symm, e1, q2, q3, not_inv q4⟩
  | false => rw [q] at h; exact .inr h.symm
noncomputable def CkOk (c : CE) (f : Str) (args : List Expr) : CK → Prop
  | .setLen a => ∃ fp p, args = [.Call (.Name "set" fp) [a] [] p] ∧ f = "len" ∧ c.glob "len" = true ∧ c.glob "set" = true
  | .revl a => ∃ fp p, args = [.Call (.Name "reversed" fp) [a] [] p] ∧ f = "list" ∧ c.glob "list" = true ∧ c.glob "reversed" = true
  | .isi a t => ∃ tp, args = [a, .Name t tp] ∧ f = "isinstance" ∧ c.glob "isinstance" = true ∧ c.glob t = true ∧ (t == ("__debug__" : Str)) = false
  | .plain => True
set_option tactic.hygienic false in
theorem ck_ok (c : CE) (f : Str) (args : List Expr) : CkOk c f args (callKind c f args) := by
  rcases args with _ | ⟨a, _ | ⟨b, _ | ⟨d, args⟩⟩⟩
  · exact True.intro
  · show CkOk c f [a] (match call1? a with | some t => ck1 c f t | none => .plain)
    cases q : call1? a with
    | none => exact True.intro
    | some t =>
      obtain ⟨fp, p, rfl⟩ := call1?_inv q
      obtain ⟨x, b⟩ := t
      show CkOk c f _ (ck1 c f (x, b))
      rcases ck1_inv (c := c) (f := f) (t := (x, b)) rfl with ⟨h, h1, h2, h3, h4⟩ | ⟨h, h1, h2, h3, h4⟩ | h <;> rw [h]
      · have h2 : x = _ := h2
        subst h2; exact ⟨fp, p, rfl, h1, h3, h4⟩
      · have h2 : x = _ := h2
        subst h2; exact ⟨fp, p, rfl, h1, h3, h4⟩
      · exact True.intro
  · show CkOk c f [a, b] (match name? b with | some x => ck2 c f a x | none => .plain)
    cases q : name? b with
    | none => exact True.intro
    | some x =>
      obtain ⟨p, rfl⟩ := name?_inv q
      show CkOk c f _ (ck2 c f a x)
      rcases ck2_inv (c := c) (f := f) (a := a) (t := x) rfl with ⟨h, h1, h2, h3, h4⟩ | h <;> rw [h]
      · exact ⟨p, rfl, h1, h2, h3, h4⟩
      · exact True.intro
  · exact True.intro

section
variable {g : Cfg} {K : Frag} {c0 : CE} {fa : Nat → Option Addr} {call : Nat → List V → Sto → RE} {r n : Nat} {names : List (Str × NameKind)} {e' : E}

set_option tactic.hygienic false in
theorem x_const {k : Const} {a : Nat} {p : Pos} (h : cConst k = some e') : NodeE g c0 call r names (.Constant k a p) e' := by
  cases k with
  | none => exact si h n_none
  | bool b => exact si h n_bool
  | int b => exact si h n_int
  | str b => exact si h n_str
  | _ => exact nn h
set_option tactic.hygienic false in
theorem x_name {x : Str} {p : Pos} (G : Glob g K c0 fa) (h : cName (c0.sub names) x = some e') : NodeE g c0 call r names (.Name x p) e' := by
  obtain ⟨h1, h2⟩ := gd_inv h
  obtain ⟨hd, hc⟩ := and_inv h1
  cases q : (c0.sub names).loc? x with
  | some i => rw [q] at h2; exact si h2 (n_loc q (not_inv hd) (not_inv hc))
  | none =>
    rw [q] at h2
    obtain ⟨hg, h3⟩ := gd_inv h2
    obtain ⟨i, hi, rfl⟩ := map_inv h3
    exact n_const G hg (not_inv hd) hi
set_option tactic.hygienic false in
theorem x_bin {l rt : Expr} {op : Operator} {p : Pos} (IH : SndE g c0 call r n) (h : cBin (compE n (c0.sub names)) l op rt = some e') : NodeE g c0 call r names (.BinOp l op rt p) e' := by
  unfold cBin at h
  cases q : opOk op with
  | true =>
    rw [q] at h
    obtain ⟨a, b, h1, h2, rfl⟩ := opt2_inv h
    exact n_bin IH h1 h2
  | false =>
    rw [q] at h
    obtain ⟨h0, h⟩ := gd_inv h
    obtain ⟨a, h1, h⟩ := bind_inv h
    obtain ⟨b, h2, h⟩ := bind_inv h
    obtain ⟨h3, h9⟩ := gd_inv h
    obtain ⟨k1, p1, rfl⟩ := constI?_inv h1
    obtain ⟨k2, p2, rfl⟩ := constI?_inv h2
    cases op <;> first | exact ft h0 | skip
    exact si h9 (n_pow (of_decide_eq_true h3))
set_option tactic.hygienic false in
theorem x_un {op : UnaryOp} {x : Expr} {p : Pos} (IH : SndE g c0 call r n) (h : cUn (compE n (c0.sub names)) op x = some e') : NodeE g c0 call r names (.UnaryOp op x p) e' := by
  cases op with
  | Not => obtain ⟨a, h1, rfl⟩ := map_inv h; exact n_not IH h1
  | USub => obtain ⟨a, h1, rfl⟩ := map_inv h; exact n_neg IH h1
  | _ => exact nn h
set_option tactic.hygienic false in
theorem cmp_inv {f : Expr → Option E} {l : Expr} {ops : List CmpOp} {rs : List Expr} {P : List CmpOp → List Expr → E → Prop} (h : cCmp f l ops rs = some e')
    (H1 : ∀ op m a b, noMark op m = true → f l = some a → f m = some b → P [op] [m] (.cmp op a b)) (H2 : ∀ o1 o2 m rt a b d, noMark o2 rt = true → f l = some a → f m = some b → f rt = some d → P [o1, o2] [m, rt] (.cmp2 o1 o2 a b d)) : P ops rs e' := by
  rcases ops with _ | ⟨o1, _ | ⟨o2, _ | ⟨o3, os⟩⟩⟩
  · exact nn h
  · rcases rs with _ | ⟨m, _ | ⟨rt, rs⟩⟩
    · exact nn h
    · obtain ⟨h0, h⟩ := gd_inv h
      obtain ⟨a, b, h1, h2, rfl⟩ := opt2_inv h
      exact H1 _ _ _ _ h0 h1 h2
    · exact nn h
  · rcases rs with _ | ⟨m, _ | ⟨rt, _ | ⟨r3, rs⟩⟩⟩
    · exact nn h
    · exact nn h
    · obtain ⟨h0, h⟩ := gd_inv h
      obtain ⟨a, b, d, h1, h2, h3, rfl⟩ := opt3_inv h
      exact H2 _ _ _ _ _ _ _ h0 h1 h2 h3
    · exact nn h
  · exact nn h
set_option tactic.hygienic false in
theorem x_cmp {l : Expr} {ops : List CmpOp} {rs : List Expr} {p : Pos} (G : Glob g K c0 fa) (IH : SndE g c0 call r n) (h : cCmp (compE n (c0.sub names)) l ops rs = some e') : NodeE g c0 call r names (.Compare l ops rs p) e' :=
  cmp_inv (P := fun ops rs e' => NodeE g c0 call r names (.Compare l ops rs p) e') h (fun _ _ _ _ h0 h1 h2 => n_cmp G IH h0 h1 h2) fun _ _ _ _ _ _ _ h0 h1 h2 h3 => n_cmp2 G IH h0 h1 h2 h3
set_option tactic.hygienic false in
theorem x_slice {v : Expr} {a b d : Option Expr} {p1 p : Pos} (IH : SndE g c0 call r n) (h : cSlice (compE n (c0.sub names)) v a b d = some e') : NodeE g c0 call r names (.Subscript v (.Slice a b d p1) p) e' := by
  cases a with
  | some lo => cases b with
    | some => exact nn h
    | none => cases d with
      | some => exact nn h
      | none => obtain ⟨x, y, h1, h2, rfl⟩ := opt2_inv h; exact n_slo IH h1 h2
  | none => cases b with
    | some hi => cases d with
      | some => exact nn h
      | none => obtain ⟨x, y, h1, h2, rfl⟩ := opt2_inv h; exact n_shi IH h1 h2
    | none => cases d with
      | some st => exact nn h
      | none => exact nn h
set_option tactic.hygienic false in
theorem x_sub {v i : Expr} {p : Pos} (IH : SndE g c0 call r n) (h : cSub (compE n (c0.sub names)) v i = some e') : NodeE g c0 call r names (.Subscript v i p) e' := by
  have plain : opt2 E.sub (compE n (c0.sub names) v) (compE n (c0.sub names) i) = some e' → NodeE g c0 call r names (.Subscript v i p) e' := fun h => by
    obtain ⟨x, y, h1, h2, rfl⟩ := opt2_inv h; exact n_sub IH h1 h2
  unfold cSub at h
  cases q : vw i <;> rw [q] at h <;> first | exact plain h | skip
  obtain ⟨p1, rfl⟩ := vw_of q
  exact x_slice IH h
set_option tactic.hygienic false in
theorem x_dict {ks : List (Option Expr)} {vs : List Expr} {p : Pos} (G : Glob g K c0 fa) (IH : SndE g c0 call r n) (h : cDict (compE n (c0.sub names)) ks vs = some e') : NodeE g c0 call r names (.Dict ks vs p) e' := by
  rcases ks with _ | ⟨_ | k, _ | ⟨k2, ks⟩⟩
  · cases vs with
    | nil => exact si h (n_dict0 G)
    | cons => exact nn h
  · exact nn h
  · exact nn h
  · rcases vs with _ | ⟨v, _ | ⟨v2, vs⟩⟩
    · exact nn h
    · obtain ⟨x, y, h1, h2, rfl⟩ := opt2_inv h; exact n_dict1 G IH h1 h2
    · exact nn h
  · exact nn h
set_option tactic.hygienic false in
theorem x_callN {x : Str} {args : List Expr} {fp p : Pos} (G : Glob g K c0 fa) (C : CallOk g fa call r) (IH : SndE g c0 call r n) (h : cCallN (c0.sub names) (compE n (c0.sub names)) x args = some e') : NodeE g c0 call r names (.Call (.Name x fp) args [] p) e' := by
  have hk := ck_ok (c0.sub names) x args
  unfold cCallN at h
  cases q : callKind (c0.sub names) x args with
  | setLen a =>
    rw [q] at h hk
    obtain ⟨y, h1, rfl⟩ := map_inv h
    obtain ⟨fp1, p1, rfl, rfl, g1, g2⟩ := hk
    exact n_setLen G IH g1 g2 h1
  | revl a =>
    rw [q] at h hk
    obtain ⟨y, h1, rfl⟩ := map_inv h
    obtain ⟨fp1, p1, rfl, rfl, g1, g2⟩ := hk
    exact n_revl G IH g1 g2 h1
  | isi a t =>
    rw [q] at h hk
    obtain ⟨y, ty, h1, h2, rfl⟩ := opt2_inv h
    obtain ⟨tp, rfl, rfl, g1, g2, g3⟩ := hk
    exact n_isi G IH g1 g2 h2 g3 h1
  | plain =>
    rw [q] at h
    obtain ⟨h0, h⟩ := gd_inv h
    obtain ⟨_, h0⟩ := and_inv h0
    obtain ⟨hg, hd⟩ := and_inv h0
    have hd := not_inv hd
    obtain ⟨es', h1, h2⟩ := bind_inv h
    unfold plainCall' at h2
    cases q1 : bltName.lookup x with
    | some b => rw [q1] at h2; obtain ⟨hk, h2⟩ := gd_inv h2; exact si h2 (n_blt G IH hg hd q1 hk h1)
    | none =>
      rw [q1] at h2
      cases q2 : (c0.sub names).fns.lookup x with
      | some k => rw [q2] at h2; exact si h2 (n_call G C IH hg hd q2 h1)
      | none =>
        rw [q2] at h2
        obtain ⟨k, h3, rfl⟩ := map_inv h2
        exact n_mk G C IH hg hd h3 h1
theorem x_callK {x : Str} {args : List Expr} {k : Keyword} {fp p : Pos} (G : Glob g K c0 fa) (IH : SndE g c0 call r n) (h : cCallK (c0.sub names) (compE n (c0.sub names)) x args k = some e') : NodeE g c0 call r names (.Call (.Name x fp) args [k] p) e' := by
  rcases args with _ | ⟨a, _ | ⟨b, args⟩⟩
  · exact nn h
  · obtain ⟨kw, kv, kp⟩ := k
    have h : (match vw kv with
      | .const v => (match v with | .none => gd (kw == some ("default" : Str) && (x == ("max" : Str) && (c0.sub names).glob x)) ((compE n (c0.sub names) a).map .maxd) | _ => none)
      | .lam t => cSort (c0.sub names) (compE n (c0.sub names)) x a kw t
      | _ => none) = some e' := h
    cases q : vw kv <;> rw [q] at h <;> first | exact nn h | skip
    · rename_i v
      cases v <;> first | exact nn h | skip
      obtain ⟨h0, h9⟩ := gd_inv h
      clear h
      obtain ⟨h1, h0⟩ := and_inv h0
      obtain ⟨h3, h8⟩ := and_inv h0
      have e1 : kw = _ := eq_of_beq h1
      obtain ⟨k1, p1, e2⟩ := vw_of q
      have e3 := eq_of_beq h3
      subst e1; subst e2; subst e3
      obtain ⟨y, h4, rfl⟩ := map_inv h9
      exact n_maxd G IH h8 h4
    · rename_i t
      obtain ⟨ps, body, sc, lp⟩ := t
      have hv : kv = _ := vw_of q
      subst hv
      exact x_sort G IH h
  · exact nn h
set_option tactic.hygienic false in
theorem x_callM {o : Expr} {x : Str} {ap : Pos} {args : List Expr} {p : Pos} (G : Glob g K c0 fa) (C : CallOk g fa call r) (IH : SndE g c0 call r n) (h : cCallM (c0.sub names) (compE n (c0.sub names)) (o, x, ap) args p = some e') : NodeE g c0 call r names (.Call (.Attribute o x ap) args [] p) e' := by
  obtain ⟨h0, h⟩ := gd_inv h
  obtain ⟨h1, h0⟩ := and_inv h0
  obtain ⟨h2, h0⟩ := and_inv h0
  obtain ⟨a, h5, h⟩ := bind_inv h
  obtain ⟨as', h6, h⟩ := bind_inv h
  unfold methCall at h
  cases q : methName.lookup x with
  | some m => rw [q] at h; exact si h (n_meth IH h2 (of_decide_eq_true h1) h0 h5 h6 q)
  | none =>
    rw [q] at h
    obtain ⟨f, h7, rfl⟩ := map_inv h
    exact n_umeth G C IH h2 (of_decide_eq_true h1) h0 h5 h6 h7
theorem x_call {fn : Expr} {args : List Expr} {ks : List Keyword} {p : Pos} (G : Glob g K c0 fa) (C : CallOk g fa call r) (IH : SndE g c0 call r n) (h : cCall (c0.sub names) (compE n (c0.sub names)) fn args ks p = some e') : NodeE g c0 call r names (.Call fn args ks p) e' := by
  unfold cCall at h
  cases q : name? fn with
  | some x =>
    rw [q] at h
    obtain ⟨fp, rfl⟩ := name?_inv q
    rcases ks with _ | ⟨k, _ | ⟨k2, ks⟩⟩
    · exact x_callN G C IH h
    · exact x_callK G IH h
    · exact nn h
  | none =>
    rw [q] at h
    cases ks with
    | cons => exact nn h
    | nil =>
      cases q : vw fn <;> rw [q] at h <;> first | exact nn h | skip
      rename_i t
      have hv : fn = _ := vw_of q
      obtain ⟨o, x, ap⟩ := t
      subst hv
      exact x_callM G C IH h
set_option tactic.hygienic false in
theorem comp_inv1 {gens : List Comprehension} {t : Expr × Expr × List Expr} (h : comp1? gens = some t) : gens = [⟨t.1, t.2.1, t.2.2, 0⟩] := by
  rcases gens with _ | ⟨⟨a, b, c, d⟩, _ | ⟨g2, gs⟩⟩
  · exact nn h
  · obtain ⟨h0, h⟩ := gd_inv h
    have e1 : d = 0 := eq_of_beq h0
    subst e1
    exact si (P := fun t => [(⟨a, b, c, 0⟩ : Comprehension)] = [⟨t.1, t.2.1, t.2.2, 0⟩]) h rfl
  · exact nn h
set_option tactic.hygienic false in
theorem comp_compile {elt : Expr} {gens : List Comprehension} {sc : Scope} (h : cComp (c0.sub names) (compE n) elt gens sc = some e') :
    ∃ target iter ifs it' tg one cs x' frm, gens = [⟨target, iter, ifs, 0⟩] ∧ e' = .comp tg one it' cs x' frm ∧ scOk sc = true ∧ compE n (c0.sub names) iter = some it' ∧ tgt (c0.sub sc.names) target = some (tg, one) ∧
          mapO (compE n (c0.sub sc.names)) ifs = some cs ∧ compE n (c0.sub sc.names) elt = some x' ∧ frmOf (c0.sub names) sc = some frm := by
  obtain ⟨h0, h⟩ := gd_inv h
  obtain ⟨t, h1, h⟩ := bind_inv h
  obtain ⟨it, h2, h⟩ := bind_inv h
  obtain ⟨tg, h3, h⟩ := bind_inv h
  obtain ⟨cs, h4, h⟩ := bind_inv h
  obtain ⟨x, h5, h⟩ := bind_inv h
  obtain ⟨fr, h6, h⟩ := map_inv h
  exact ⟨_, _, _, _, _, _, _, _, _, comp_inv1 h1, h.symm, h0, h2, h3, h4, h5, h6⟩
set_option tactic.hygienic false in
theorem x_comp {elt : Expr} {gens : List Comprehension} {sc : Scope} {p : Pos} (IH : SndE g c0 call r n) (IT : SndT g c0 call r n) (h : cComp (c0.sub names) (compE n) elt gens sc = some e') : NodeE g c0 call r names (.ListComp elt gens sc p) e' := by
  obtain ⟨target, iter, ifs, it', tg, one, cs, x', frm, rfl, rfl, ho, q1, q2, q3, q4, q5⟩ := comp_compile h
  exact n_comp IH IT q1 q2 q3 q4 q5 ho

set_option tactic.hygienic false in
theorem snd_step (G : Glob g K c0 fa) (I : AttInj g) (C : CallOk g fa call r) (IH : SndE g c0 call r n) (IT : SndT g c0 call r n) (e : Expr) (e' : E) (h : compE (n + 1) (c0.sub names) e = some e') : NodeE g c0 call r names e e' := by
  cases e with
  | Constant k a p => exact x_const h
  | Name x p => exact x_name G h
  | BoolOp op vs p => obtain ⟨es, h1, h2⟩ := bind_inv h; exact n_boolop IH h1 h2
  | BinOp l op rt p => exact x_bin IH h
  | UnaryOp op x p => exact x_un IH h
  | Compare l ops rs p => exact x_cmp G IH h
  | Subscript v i p => exact x_sub IH h
  | Attribute v x p => obtain ⟨h0, h⟩ := gd_inv h; obtain ⟨a, k, h1, h2, rfl⟩ := opt2_inv h; exact n_attr G I IH h0 h1 h2
  | List es p => obtain ⟨h0, h⟩ := gd_inv h; obtain ⟨a, h1, rfl⟩ := map_inv h; exact n_list IH h1
  | Tuple es k p => obtain ⟨h0, h⟩ := gd_inv h; obtain ⟨a, h1, rfl⟩ := map_inv h; exact n_tup IH h1
  | Dict ks vs p => exact x_dict G IH h
  | Call fn args ks p => exact x_call G C IH h
  | ListComp elt gens sc p => exact x_comp IH IT h
  | _ => exact nn h
end
end Mine

set_option autoImplicit false
set_option maxRecDepth 100000
set_option linter.unusedVariables false
namespace Mine
open PySem PyProof.Rows PySem.W

section
variable {g : Cfg} {K : Frag} {c0 : CE} {fa : Nat → Option Addr} {call : Nat → List V → Sto → RE} {r n : Nat} {names : List (Str × NameKind)}

set_option tactic.hygienic false in
theorem t_plain {e : Expr} {e' : E} (hE : NodeE g c0 call r names e e') (hi : ∀ (env : Env) (whole : Sem Value), isTrue e env whole = (do let v ← whole; standAt e.pos; holding [v] (truthy v))) : NodeT g c0 call r names e e' :=
  fun env A X s as fr σ σ' v Q N hA T ev hQ => by
    refine wpAny_isTrue_value (hE env A X s as fr σ σ' (.bool v) _ N hA T ev fun val as' h' tk st R' F' r' => ?_) (hi _ _)
    rw [RepV] at r'; subst r'
    exact wpAny_truthy_bool (hQ as' h' tk st R' F')
set_option tactic.hygienic false in
theorem x_cmpT {l : Expr} {ops : List CmpOp} {rs : List Expr} {p : Pos} {e' : E} (G : Glob g K c0 fa) (IH : SndE g c0 call r n) (h : cCmp (compE n (c0.sub names)) l ops rs = some e') : NodeT g c0 call r names (.Compare l ops rs p) e' :=
  cmp_inv (P := fun ops rs e' => NodeT g c0 call r names (.Compare l ops rs p) e') h (fun _ _ _ _ h0 h1 h2 => t_cmp G IH h0 h1 h2) fun _ _ _ _ _ _ _ h0 h1 h2 h3 => t_cmp2 G IH h0 h1 h2 h3
set_option tactic.hygienic false in
theorem t_step (G : Glob g K c0 fa) (I : AttInj g) (C : CallOk g fa call r) (IH : SndE g c0 call r n) (IT : SndT g c0 call r n) (e : Expr) (e' : E) (h : compE (n + 1) (c0.sub names) e = some e') : NodeT g c0 call r names e e' := by
  have hE := snd_step G I C IH IT e e' h
  have hk := comp_kind h
  cases e with
  | UnaryOp op x p =>
    cases op with
    | Not => obtain ⟨a, h1, rfl⟩ := map_inv h; exact t_not IT h1
    | _ => exact t_plain hE fun _ _ => rfl
  | BoolOp op vs p => obtain ⟨es, h1, h2⟩ := bind_inv h; exact t_boolop IT h1 h2
  | Compare l ops rs p => exact x_cmpT G IH h
  | _ => first | exact t_plain hE (fun _ _ => rfl) | exact ft hk
set_option tactic.hygienic false in
theorem snd_all (G : Glob g K c0 fa) (I : AttInj g) (C : CallOk g fa call r) : ∀ n, SndE g c0 call r n ∧ SndT g c0 call r n
  | 0 => ⟨fun names e e' h => nn h, fun names e e' h => nn h⟩
  | n + 1 => ⟨fun names e e' h => snd_step G I C (snd_all G I C n).1 (snd_all G I C n).2 e e' h, fun names e e' h => t_step G I C (snd_all G I C n).1 (snd_all G I C n).2 e e' h⟩
end
end Mine

set_option autoImplicit false
set_option maxRecDepth 100000
set_option linter.unusedVariables false
namespace Mine
open PySem PyProof.Rows PySem.W

noncomputable def FlRep (as : List Addr) (h : Heap) : Fl → Flow → Prop
  | .next, f => f = .next
  | .brk, f => f = .brk
  | .cont, f => f = .cont
  | .ret v, f => ∃ val, f = .ret val ∧ RepV as h v val

noncomputable def SPost (g : Cfg) (env : Env) (as : List Addr) (s : Shared) (fl : Fl) (fr' : Fra) (σ' : Sto) (Q : Flow → Shared → Prop) : Prop :=
  ∀ (f : Flow) (as' : List Addr) (h' : Heap) (tk : Nat), FlRep as' h' fl f → Step (ownOf env) as s.heap as' h' → Rel g as' σ' h' → FrRel g env as' fr' h' → Q f { s with heap := h', toks := tk }

noncomputable def SndS (g : Cfg) (c0 : CE) (call : Nat → List V → Sto → RE) (wf r n : Nat) : Prop :=
  ∀ (names : List (Str × NameKind)) (st : Stmt) (st' : S), compS n (c0.sub names) st = some st' →
  ∀ (env : Env) (A : Around) (X : Value → Shared → Prop) (s : Shared) (as : List Addr) (fr fr' : Fra) (σ σ' : Sto) (fl : Fl) (Q : Flow → Shared → Prop),
    NamesOk (c0.sub names) env → Room A (r + 1) → At g env as fr σ s → evS call wf st' fr σ = .ok fl fr' σ' → SPost g env as s fl fr' σ' Q → wpAny (model g.prog g.w) A (exec st env) Q X s

inductive FRun (src : Src) (tg : List Nat) (one : Bool) (body : Fra → Sto → RS) : Nat → Nat → Fra → Sto → Fl → Fra → Sto → Prop
  | done {i fr σ} : srcAt σ i src = some none → srcLe i src → FRun src tg one body 0 i fr σ .next fr σ
  | step {k i fr σ v fr1 fl fr2 σ2 fl' fr' σ'} : srcAt σ i src = some (some v) → bindT tg one v fr = some fr1 → body fr1 σ = .ok fl fr2 σ2 → (fl = .next ∨ fl = .cont) → FRun src tg one body k (i + 1) fr2 σ2 fl' fr' σ' → FRun src tg one body (k + 1) i fr σ fl' fr' σ'
  | brk {i fr σ v fr1 fr2 σ2} : srcAt σ i src = some (some v) → bindT tg one v fr = some fr1 → body fr1 σ = .ok .brk fr2 σ2 → FRun src tg one body 0 i fr σ .next fr2 σ2
  | ret {i fr σ v fr1 fr2 σ2 w} : srcAt σ i src = some (some v) → bindT tg one v fr = some fr1 → body fr1 σ = .ok (.ret w) fr2 σ2 → FRun src tg one body 0 i fr σ (.ret w) fr2 σ2

theorem forL_run {tg : List Nat} {one : Bool} {body : Fra → Sto → RS} {l : Nat} : ∀ (n i : Nat) (fr fr' : Fra) (σ σ' : Sto) (fl : Fl), forL tg one body l n i fr σ = .ok fl fr' σ' → ∃ k, FRun (.live l) tg one body k i fr σ fl fr' σ'
  | 0, _, _, _, _, _, _, e => by rw [forL] at e; cases e
  | n + 1, i, fr, fr', σ, σ', fl, e => by
    rw [forL] at e
    split at e
    · cases e
    · rename_i xs hx
      split at e
      · rename_i hi
        cases e
        exact ⟨0, .done (by simp [srcAt, hx, hi]) trivial⟩
      · rename_i v hi
        have hs : srcAt σ i (.live l) = some (some v) := by simp [srcAt, hx, hi]
        split at e
        · cases e
        · rename_i f1 hb
          split at e
          · rename_i f2 σ2 hc
            obtain ⟨k, hk⟩ := forL_run n (i + 1) _ _ _ _ _ e
            exact ⟨k + 1, .step hs hb hc (.inl rfl) hk⟩
          · rename_i f2 σ2 hc
            obtain ⟨k, hk⟩ := forL_run n (i + 1) _ _ _ _ _ e
            exact ⟨k + 1, .step hs hb hc (.inr rfl) hk⟩
          · rename_i f2 σ2 hc
            cases e
            exact ⟨0, .brk hs hb hc⟩
          · rename_i h1 h2 h3
            cases fl with
            | next => exact absurd e (h1 _ _)
            | cont => exact absurd e (h2 _ _)
            | brk => exact absurd e (h3 _ _)
            | ret w => exact ⟨0, .ret hs hb e⟩

theorem forV_run {tg : List Nat} {one : Bool} {body : Fra → Sto → RS} {src : Src} {L : List V} (hs : ∀ σ i, srcAt σ i src = some L[i]?) (hl : ∀ i, i ≤ L.length → srcLe i src) : ∀ (vs : List V) (i : Nat) (fr fr' : Fra) (σ σ' : Sto) (fl : Fl), L.drop i = vs → i ≤ L.length →
    forV tg one body vs fr σ = .ok fl fr' σ' → ∃ k, FRun src tg one body k i fr σ fl fr' σ'
  | [], i, fr, fr', σ, σ', fl, hd, hi, e => by
    rw [forV] at e; cases e
    have : L[i]? = none := by rw [List.getElem?_eq_none_iff]; exact List.drop_eq_nil_iff.mp hd
    exact ⟨0, .done (by rw [hs, this]) (hl i hi)⟩
  | v :: vs, i, fr, fr', σ, σ', fl, hd, hi, e => by
    rw [forV] at e
    have hv : L[i]? = some v := by
      have := congrArg (fun l => l[0]?) hd
      simpa using this
    have hlt : i < L.length := (List.getElem?_eq_some_iff.mp hv).1
    have hs' : srcAt σ i src = some (some v) := by rw [hs, hv]
    have hd' : L.drop (i + 1) = vs := by rw [← List.drop_drop, hd]; rfl
    split at e
    · cases e
    · rename_i f1 hb
      split at e
      · rename_i f2 σ2 hc
        obtain ⟨k, hk⟩ := forV_run hs hl vs (i + 1) _ _ _ _ _ hd' hlt e
        exact ⟨k + 1, .step hs' hb hc (.inl rfl) hk⟩
      · rename_i f2 σ2 hc
        obtain ⟨k, hk⟩ := forV_run hs hl vs (i + 1) _ _ _ _ _ hd' hlt e
        exact ⟨k + 1, .step hs' hb hc (.inr rfl) hk⟩
      · rename_i f2 σ2 hc
        cases e
        exact ⟨0, .brk hs' hb hc⟩
      · rename_i h1 h2 h3
        cases fl with
        | next => exact absurd e (h1 _ _)
        | cont => exact absurd e (h2 _ _)
        | brk => exact absurd e (h3 _ _)
        | ret w => exact ⟨0, .ret hs' hb e⟩

set_option tactic.hygienic false in
theorem bindS_ok {r : RE} {fr : Fra} {k : V → Sto → RS} {fl : Fl} {fr' : Fra} {σ' : Sto} (e : r.bindS fr k = .ok fl fr' σ') : ∃ u τ, r = .ok u τ ∧ k u τ = .ok fl fr' σ' := by
  cases r with
  | ok u τ => exact ⟨u, τ, rfl, e⟩
  | ex x τ => cases e
  | bad => cases e

set_option tactic.hygienic false in
theorem bindS_el {r : RE} {fr : Fra} {k : V → Sto → RS} {fl : Fl} {fr' : Fra} {σ' : Sto} {P : Prop} (e : r.bindS fr k = .ok fl fr' σ') (h : ∀ u τ, r = .ok u τ → k u τ = .ok fl fr' σ' → P) : P := let ⟨u, τ, h1, h2⟩ := bindS_ok e; h u τ h1 h2

section
variable {g : Cfg} {K : Frag} {c0 : CE} {fa : Nat → Option Addr} {call : Nat → List V → Sto → RE} {env : Env} {A : Around} {X : Value → Shared → Prop} {s : Shared} {as : List Addr} {fr fr' : Fra} {σ σ' : Sto} {wf r n : Nat}
  {names : List (Str × NameKind)} {fl : Fl} {Q : Flow → Shared → Prop}

set_option tactic.hygienic false in
theorem own_notImm {h : Heap} (F : FrRel g env as fr h) : ∀ a ∈ ownOf env, ∀ o, h.get? a = some o → ¬ Imm o := fun a ha o e hi => by
  rcases own_cases ha with rfl | ⟨x, hx⟩
  · exact F.notImm _ (.head _) o e hi
  · obtain ⟨cv, o', e', hd⟩ := (F.offc _ _ hx).2.2
    rw [e] at e'; cases e'; exact hi.2.2 _ hd

set_option tactic.hygienic false in
theorem spost_of {as' : List Addr} {h' : Heap} {tk : Nat} (hQ : SPost g env as s fl fr' σ' Q) (x : Step (ownOf env) as s.heap as' h') : SPost g env as' { s with heap := h', toks := tk } fl fr' σ' Q :=
  fun f as2 h2 tk2 hf st R2 F2 => hQ f as2 h2 tk2 hf (x.trans st R2.nd F2.offs) R2 F2
set_option tactic.hygienic false in
theorem up {as' : List Addr} {h h' : Heap} (x : Step [env.locals] as h as' h') : Step (ownOf env) as h as' h' := x.grow (by intro a ha; simp at ha; subst ha; exact .head _)

noncomputable def SndL (g : Cfg) (c0 : CE) (call : Nat → List V → Sto → RE) (wf r n : Nat) : Prop :=
  ∀ (names : List (Str × NameKind)) (sts : List Stmt) (sts' : List S), mapO (compS n (c0.sub names)) sts = some sts' →
  ∀ (env : Env) (A : Around) (X : Value → Shared → Prop) (s : Shared) (as : List Addr) (fr fr' : Fra) (σ σ' : Sto) (fl : Fl) (Q : Flow → Shared → Prop),
    NamesOk (c0.sub names) env → Room A (r + 1) → At g env as fr σ s → evSs call wf sts' fr σ = .ok fl fr' σ' → SPost g env as s fl fr' σ' Q → wpAny (model g.prog g.w) A (execs sts env) Q X s

theorem snd_list (IS : SndS g c0 call wf r n) : SndL g c0 call wf r n := by
  intro names sts
  induction sts with
  | nil =>
    intro sts' h env A X s as fr fr' σ σ' fl Q N hA T ev hQ
    rw [mapO] at h; cases h
    rw [evSs] at ev; cases ev
    exact wpAny_execs_nil (hQ .next as s.heap s.toks rfl (Step.refl _ _ _) T.R T.F)
  | cons st sts ih =>
    intro sts' h env A X s as fr fr' σ σ' fl Q N hA T ev hQ
    obtain ⟨a, as', h1, h2, rfl⟩ := mapO_cons h
    rw [evSs] at ev
    dsimp only at ev
    refine wpAny_execs_cons ?_
    split at ev
    · rename_i f1 σ1 he
      refine IS names st a h1 env A X s as fr f1 σ σ1 .next _ N hA T he fun f as1 k1 tk1 hf st1 R1 F1 => ?_
      have hf' : f = .next := hf
      subst hf'
      exact ih as' h2 env A X _ as1 f1 fr' σ1 σ' fl Q N hA ⟨F1, R1⟩ ev (spost_of hQ st1)
    · rename_i hn
      refine IS names st a h1 env A X s as fr fr' σ σ' fl _ N hA T ev fun f as1 k1 tk1 hf st1 R1 F1 => ?_
      have hq := hQ f as1 k1 tk1 hf st1 R1 F1
      cases fl with
      | next => exact absurd ev (hn _ _)
      | brk => have : f = .brk := hf; subst this; exact hq
      | cont => have : f = .cont := hf; subst this; exact hq
      | ret v => obtain ⟨val, hv, _⟩ := hf; subst hv; exact hq

structure FI (g : Cfg) (env : Env) (fr : Fra) (s : Shared) (as : List Addr) (src : Src) (I : Addr) (i : Nat) (as1 : List Addr) (σ : Sto) (h : Heap) : Prop where
  st : Step (ownOf env) as s.heap as1 h
  R : Rel g as1 σ h
  F : FrRel g env as1 fr h
  it : ItAt src I i as1 h
  offI : I ∉ as1

structure FX (g : Cfg) (env : Env) (s : Shared) (I : Addr) : Prop where
  own : I ∉ ownOf env
  Ib : g.b.get? I = none
  In : s.heap.get? I = none

set_option tactic.hygienic false in
theorem FI.step {src : Src} {I : Addr} {i : Nat} {as1 as2 : List Addr} {h h2 : Heap} {σ2 : Sto} {fr2 : Fra} (Z : FX g env s I) (C : FI g env fr s as src I i as1 σ h) (x : Step (ownOf env) as1 h as2 h2) (R2 : Rel g as2 σ2 h2) (F2 : FrRel g env as2 fr2 h2) :
    FI g env fr2 s as src I i as2 σ2 h2 := by
  have K2 := C.R.keep x (own_notImm C.F)
  refine ⟨C.st.trans x R2.nd F2.offs, R2, F2, C.it.keep K2 fun o e => x.ext I o e Z.own C.offI, fun q => ?_⟩
  obtain ⟨⟨t, rfl, ht⟩, _⟩ := x
  rcases List.mem_append.mp q with q | q
  · exact C.offI q
  · obtain ⟨o, e, _⟩ := C.it.there; rw [ht I q] at e; cases e

set_option tactic.hygienic false in
theorem FI.next {src : Src} {I : Addr} {i j : Nat} {as1 : List Addr} {h h2 : Heap} (Z : FX g env s I) (C : FI g env fr s as src I i as1 σ h) (k : ∀ (b : Addr) (o : Obj), b ≠ I → h.get? b = some o → h2.get? b = some o) :
    Step (ownOf env) as s.heap as1 h2 ∧ Rel g as1 σ h2 ∧ FrRel g env as1 fr h2 := by
  have hni : ∀ o, h.get? I = some o → ¬ Imm o := fun o e => by obtain ⟨o', e', q⟩ := C.it.there; rw [e] at e'; cases e'; exact q
  obtain ⟨K2, R2⟩ := C.R.other k C.offI Z.Ib hni
  have hL : env.locals ≠ I := fun q => Z.own (by rw [← q]; exact .head _)
  have hc : ∀ x c, env.cells.lookup x = some c → c ≠ I := fun x c e q => Z.own (by rw [← q]; exact mem_own e)
  have F2 := C.F.alter K2 k hL hc (fun a ha => .inl ha)
  refine ⟨?_, R2, F2⟩
  have a2 : Step (I :: ownOf env) as1 h as1 h2 := ⟨⟨[], by simp, by simp⟩, fun b o e hb _ => k b o (by intro q; subst q; simp at hb) e⟩
  have a1 : Step (I :: ownOf env) as s.heap as1 h := C.st.grow (fun a ha => .tail _ ha)
  exact (a1.trans a2 R2.nd (by intro a ha; rcases List.mem_cons.mp ha with rfl | ha; exact C.offI; exact F2.offs a ha)).shrink (by
    intro a ha; rcases List.mem_cons.mp ha with rfl | ha
    · exact .inr Z.In
    · exact .inl ha)

theorem for_turns {target : Expr} {body : List Stmt} {body' : List S} {tg : List Nat} {one : Bool} {src : Src} {I : Addr} {i k : Nat} {as1 : List Addr} {h : Heap} {tk : Nat}
    (IL : SndL g c0 call wf r n) (Z : FX g env s I) (N : NamesOk (c0.sub names) env) (hA : Room A (r + 1)) (ht : tgt (c0.sub names) target = some (tg, one)) (h2 : mapO (compS n (c0.sub names)) body = some body')
    (run : FRun src tg one (evSs call wf body') k i fr σ fl fr' σ') (C : FI g env fr s as src I i as1 σ h) (hQ : SPost g env as s fl fr' σ' Q) :
    codeAny (model g.prog g.w) A (.forLoop target (.ref I) body [] env) (fun r s' => match r with | .ok f => Q f s' | .error e => cameBackBy (model g.prog g.w) A env X e s') { s with heap := h, toks := tk } := by
  refine for_loop (fun k s1 => ∃ i fr σ as1 h tk, s1 = { s with heap := h, toks := tk } ∧ FRun src tg one (evSs call wf body') k i fr σ fl fr' σ' ∧ FI g env fr s as src I i as1 σ h) ?_ k ⟨i, fr, σ, as1, h, tk, rfl, run, C⟩
  rintro k _ ⟨i, fr, σ, as1, h, tk, rfl, run, C⟩
  cases run with
  | done e hle =>
    refine it_done hA.handled C.R C.it C.offI Z.Ib hle.rng hle.tup e fun h' tk' kk K' R' => ?_
    obtain ⟨st2, R2, F2⟩ := C.next (j := i) Z kk
    exact wpAny_execs_nil (hQ .next as1 h' tk' rfl st2 R2 F2)
  | step e hb hc hfl run' =>
    rename_i k' v fr1 fl1 fr2 σ2
    refine it_next hA.handled C.R C.it C.offI Z.Ib e fun val h1 tk1 kk1 K1 R1 it1 r1 => ?_
    obtain ⟨st2, R2, F2⟩ := C.next (j := i) Z kk1
    have C1 : FI g env fr s as src I (i + 1) as1 σ h1 := ⟨st2, R2, F2, it1, C.offI⟩
    refine o_go (s := { s with heap := h1, toks := tk1 }) it1 ?_
    refine o_assign (own := ownOf env) (s := { s with heap := h1, toks := tk1 }) hA.handled ⟨C1.F, C1.R⟩ N (owns_all _ _) ht r1 hb fun as2 h2' tk2 st3 K3 R3 F3 => ?_
    have C2 := C1.step Z st3 R3 F3
    refine IL names body body' h2 env A _ { s with heap := h2', toks := tk2 } as2 fr1 fr2 σ σ2 fl1 _ N hA ⟨C2.F, C2.R⟩ hc fun f as4 h4 tk4 hf st4 R4 F4 => ?_
    have C4 := C2.step Z st4 R4 F4
    rcases hfl with rfl | rfl
    · have : f = .next := hf; subst this
      exact ⟨k', Nat.lt_succ_self _, i + 1, fr2, σ2, as4, h4, tk4, rfl, run', C4⟩
    · have : f = .cont := hf; subst this
      exact ⟨k', Nat.lt_succ_self _, i + 1, fr2, σ2, as4, h4, tk4, rfl, run', C4⟩
  | brk e hb hc =>
    rename_i v fr1
    refine it_next hA.handled C.R C.it C.offI Z.Ib e fun val h1 tk1 kk1 K1 R1 it1 r1 => ?_
    obtain ⟨st2, R2, F2⟩ := C.next (j := i) Z kk1
    have C1 : FI g env fr s as src I (i + 1) as1 σ h1 := ⟨st2, R2, F2, it1, C.offI⟩
    refine o_go (s := { s with heap := h1, toks := tk1 }) it1 ?_
    refine o_assign (own := ownOf env) (s := { s with heap := h1, toks := tk1 }) hA.handled ⟨C1.F, C1.R⟩ N (owns_all _ _) ht r1 hb fun as2 h2' tk2 st3 K3 R3 F3 => ?_
    have C2 := C1.step Z st3 R3 F3
    refine IL names body body' h2 env A _ { s with heap := h2', toks := tk2 } as2 fr1 fr' σ σ' .brk _ N hA ⟨C2.F, C2.R⟩ hc fun f as4 h4 tk4 hf st4 R4 F4 => ?_
    have C4 := C2.step Z st4 R4 F4
    have : f = .brk := hf; subst this
    exact hQ .next as4 h4 tk4 rfl C4.st C4.R C4.F
  | ret e hb hc =>
    rename_i v fr1 w
    refine it_next hA.handled C.R C.it C.offI Z.Ib e fun val h1 tk1 kk1 K1 R1 it1 r1 => ?_
    obtain ⟨st2, R2, F2⟩ := C.next (j := i) Z kk1
    have C1 : FI g env fr s as src I (i + 1) as1 σ h1 := ⟨st2, R2, F2, it1, C.offI⟩
    refine o_go (s := { s with heap := h1, toks := tk1 }) it1 ?_
    refine o_assign (own := ownOf env) (s := { s with heap := h1, toks := tk1 }) hA.handled ⟨C1.F, C1.R⟩ N (owns_all _ _) ht r1 hb fun as2 h2' tk2 st3 K3 R3 F3 => ?_
    have C2 := C1.step Z st3 R3 F3
    refine IL names body body' h2 env A _ { s with heap := h2', toks := tk2 } as2 fr1 fr' σ σ' (.ret w) _ N hA ⟨C2.F, C2.R⟩ hc fun f as4 h4 tk4 hf st4 R4 F4 => ?_
    have C4 := C2.step Z st4 R4 F4
    obtain ⟨val', hv, rv⟩ := hf; subst hv
    exact hQ (.ret val') as4 h4 tk4 ⟨val', rfl, rv⟩ C4.st C4.R C4.F
end
end Mine

set_option autoImplicit false
set_option maxRecDepth 100000
set_option linter.unusedVariables false
namespace Mine
open PySem PyProof.Rows PySem.W

section
variable {g : Cfg} {K : Frag} {c0 : CE} {fa : Nat → Option Addr} {call : Nat → List V → Sto → RE} {env : Env} {A : Around} {X : Value → Shared → Prop} {s : Shared} {as : List Addr} {fr fr' : Fra} {σ σ' : Sto} {wf r n : Nat}
  {names : List (Str × NameKind)} {fl : Fl} {Q : Flow → Shared → Prop}

noncomputable def NodeS (g : Cfg) (c0 : CE) (call : Nat → List V → Sto → RE) (wf r : Nat) (names : List (Str × NameKind)) (st : Stmt) (st' : S) : Prop :=
  ∀ (env : Env) (A : Around) (X : Value → Shared → Prop) (s : Shared) (as : List Addr) (fr fr' : Fra) (σ σ' : Sto) (fl : Fl) (Q : Flow → Shared → Prop),
    NamesOk (c0.sub names) env → Room A (r + 1) → At g env as fr σ s → evS call wf st' fr σ = .ok fl fr' σ' → SPost g env as s fl fr' σ' Q → wpAny (model g.prog g.w) A (exec st env) Q X s

set_option tactic.hygienic false in
theorem inter_false (F : FrRel g env as fr s.heap) : interactive env = false := by
  unfold interactive; rw [F.kind]; rfl
set_option tactic.hygienic false in
theorem swap_none {e : Expr} {line : Nat} (h : ∀ a b c d, e ≠ .ListComp a b c d) {e' : E} {c : CE} (hc : compE n c e = some e') : swapsWith e none line env = pure false := by
  have hk := comp_kind hc
  cases e <;> first | rfl | exact absurd rfl (h _ _ _ _) | exact ft hk
set_option tactic.hygienic false in
theorem swap_some {e : Expr} {line : Nat} {t : Expr} (h : ∀ a b c d, e ≠ .ListComp a b c d) {e' : E} {c : CE} (hc : compE n c e = some e') : swapsWith e (some t) line env = pure false := by
  have hk := comp_kind hc
  cases e <;> first | rfl | exact absurd rfl (h _ _ _ _) | exact ft hk
set_option tactic.hygienic false in
theorem swap_other {e : Expr} {line : Nat} {t : Expr} (ht : ∀ x p, t ≠ .Name x p) {e' : E} {c : CE} (hc : compE n c e = some e') : swapsWith e (some t) line env = pure false := by
  by_cases h : ∃ a b c d, e = .ListComp a b c d
  · obtain ⟨a, b, c', d, rfl⟩ := h
    cases t <;> first | rfl | exact absurd rfl (ht _ _)
  · exact swap_some (fun a b c d q => h ⟨a, b, c, d, q⟩) hc

set_option tactic.hygienic false in
theorem s_expr {e : Expr} {e' : E} {p : Pos} (IH : SndE g c0 call r n) (hn : ∀ a b c d, e ≠ .ListComp a b c d) (h : compE n (c0.sub names) e = some e') : NodeS g c0 call wf r names (.Expr e p) (.expr e') := fun env A X s as fr fr' σ σ' fl Q N hA T ev hQ => by
  refine bindS_el ev fun u τ e1 e2 => ?_
  cases e2
  exact wpAny_Expr_any (IH names e e' h env A X s as fr σ _ u _ N hA T e1 fun val as' h' tk st R' F' r' => hQ .next as' h' tk rfl (up st) R' F') (inter_false T.F) (swap_none hn h)
set_option tactic.hygienic false in
theorem s_ret {e : Expr} {e' : E} {p : Pos} (IH : SndE g c0 call r n) (h : compE n (c0.sub names) e = some e') : NodeS g c0 call wf r names (.Return (some e) p) (.ret e') := fun env A X s as fr fr' σ σ' fl Q N hA T ev hQ => by
  refine bindS_el ev fun u τ e1 e2 => ?_
  cases e2
  exact wpAny_Return_some (IH names e e' h env A X s as fr σ _ u _ N hA T e1 fun val as' h' tk st R' F' r' => hQ (.ret val) as' h' tk ⟨val, rfl, r'⟩ (up st) R' F')
set_option tactic.hygienic false in
theorem s_pass {p : Pos} : NodeS g c0 call wf r names (.Pass p) .pass := fun env A X s as fr fr' σ σ' fl Q N hA T ev hQ => by
  cases (show RS.ok .next fr σ = .ok fl fr' σ' from ev)
  exact wpAny_Pass (hQ .next as s.heap s.toks rfl (Step.refl _ _ _) T.R T.F)

set_option tactic.hygienic false in
theorem fpost_of {as' : List Addr} {h' : Heap} {tk : Nat} (hQ : SPost g env as s .next fr' σ' Q) (st : Step (ownOf env) as s.heap as' h') : FPost g env (ownOf env) as' σ' { s with heap := h', toks := tk } fr' (fun _ => Q .next) :=
  fun as2 h2 tk2 st2 K2 R2 F2 => hQ .next as2 h2 tk2 rfl (st.trans st2 R2.nd F2.offs) R2 F2

set_option tactic.hygienic false in
theorem evalThen_comp {elt : Expr} {gens : List Comprehension} {sc : Scope} {p : Pos} {u : Value → Sem Unit} : evalThenUse (.ListComp elt gens sc p) env u = (do
    let _ ← comprehension (.ListComp elt gens sc p) sc env (firstIterPos gens p) (newList []) (firstAsync gens) (firstIter gens env) (some u)) := rfl

theorem s_asg {x : Str} {i : Nat} {e : Expr} {e' : E} {p xp : Pos} (IH : SndE g c0 call r (n + 1)) (IH' : SndE g c0 call r n) (IT' : SndT g c0 call r n) (hx : (c0.sub names).locW? x = some i) (h : compE (n + 1) (c0.sub names) e = some e') : NodeS g c0 call wf r names (.Assign [.Name x xp] e p) (.asg i e') :=
  fun env A X s as fr fr' σ σ' fl Q N hA T ev hQ => by
  refine bindS_el ev fun u τ e1 e2 => ?_
  split at e2
  case isFalse => cases e2
  rename_i hi
  cases e2
  have plain : swapsWith e (some (.Name x xp)) p.line env = pure false → wpAny (model g.prog g.w) A (exec (.Assign [.Name x xp] e p) env) Q X s := fun hs =>
    wpAny_Assign_Name (IH names e e' h env A X s as fr σ _ u _ N hA T e1 fun val as' h' tk st R' F' r' => o_store (own := ownOf env) (s := { s with heap := h', toks := tk }) ⟨F', R'⟩ N (owns_all _ _) hx r' (fpost_of hQ (up st))) hs
  by_cases hc : ∃ a b c d, e = .ListComp a b c d
  · obtain ⟨elt, gens, sc, lp, rfl⟩ := hc
    have hb : ∃ b : Bool, swapsWith (.ListComp elt gens sc lp) (some (.Name x xp)) p.line env = pure b := ⟨_, rfl⟩
    obtain ⟨b, hb⟩ := hb
    cases b with
    | false => exact plain hb
    | true =>
      rw [exec_Assign_Name_used _ _ _ _ hb]
      refine wpAny_bind (wpAny_standAt (wpAny_bind ?_))
      have inv : ∃ target iter ifs it' tg one cs x' frm, gens = [⟨target, iter, ifs, 0⟩] ∧ e' = .comp tg one it' cs x' frm ∧ scOk sc = true ∧ compE n (c0.sub names) iter = some it' ∧ tgt (c0.sub sc.names) target = some (tg, one) ∧
          mapO (compE n (c0.sub sc.names)) ifs = some cs ∧ compE n (c0.sub sc.names) elt = some x' ∧ frmOf (c0.sub names) sc = some frm := by
        exact comp_compile h
      obtain ⟨target, iter, ifs, it', tg, one, cs, x', frm, rfl, rfl, ho, q1, q2, q3, q4, q5⟩ := inv
      obtain ⟨u', τ', src, k, ys, σ2, f1, f2, f3, f4, f5⟩ := comp_inv e1
      have hlen := newL_len f5
      unfold newL at f5
      rw [if_pos hlen] at f5
      cases f5
      rw [evalThen_comp]
      refine wpAny_bind (wpAny_mono (comp_core (use := some (assign (.Name x xp) env)) (Q := fun _ s' => Q .next s') IH' IT' N hA T q1 q2 q3 q4 q5 ho f1 f2 f3 f4 hlen fun as' h' tk C D m st R' F' hl hm hC hCL hcc hCb hCn => ?_) (fun _ s' hq => wpAny_pure (wpAny_pure hq)) fun _ _ e => e)
      show wpAny _ A (assign (.Name x xp) env (.ref D)) _ X _
      have rD : RepV (as' ++ [D]) h' (.ref σ2.length) (.ref D) := by rw [RepV]; exact ⟨D, rfl, by rw [← hl]; simp⟩
      refine wpAny_assign_Name (o_store (own := ownOf env) (s := { s with heap := h', toks := tk }) ⟨F', R'⟩ N (owns_all _ _) hx rD fun as2 h2 tk2 st2 K2 R2 F2 => ?_)
      have hCo : C ∉ ownOf env := fun q => by
        rcases own_cases q with q | ⟨y, q⟩
        · exact hCL q
        · exact hcc _ _ q rfl
      have hm2 : ∃ m2, h2.Ns C m2 := ⟨m, hm.at' fun o e => st2.ext _ o e hCo hC⟩
      obtain ⟨m2, hm2⟩ := hm2
      refine ⟨m2, hm2, fun h3 hs3 => ?_⟩
      have kk : ∀ (b : Addr) (o : Obj), b ≠ C → h2.get? b = some o → h3.get? b = some o := fun b o hb e => by rw [hs3.2 b hb]; exact e
      have hni : ∀ o, h2.get? C = some o → ¬ Imm o := fun o e hi => by
        obtain ⟨o', es, ep, e', d, _⟩ := hm2; rw [e] at e'; cases e'; exact hi.2.1 _ _ d
      have hC2 : C ∉ as2 := by
        obtain ⟨⟨t, rfl, ht⟩, _⟩ := st2
        intro q
        rcases List.mem_append.mp q with q | q
        · exact hC q
        · have h5 := ht C q
          obtain ⟨o', es, ep, e', _⟩ := hm
          have h5' : h'.get? C = none := h5
          rw [h5'] at e'; cases e'
      obtain ⟨K3, R3⟩ := R2.other kk hC2 hCb hni
      have F3 := F2.alter K3 kk (Ne.symm hCL) hcc (fun a ha => .inl ha)
      have S3 : Step (ownOf env) as s.heap as2 h3 := by
        have a3 : Step (C :: ownOf env) as2 h2 as2 h3 := ⟨⟨[], by simp, by simp⟩, fun b ob e hb _ => kk b ob (by intro q; subst q; simp at hb) e⟩
        have a2 : Step (C :: ownOf env) (as' ++ [D]) h' as2 h2 := st2.grow (fun a ha => .tail _ ha)
        have a1 : Step (C :: ownOf env) as s.heap (as' ++ [D]) h' := (up st).grow (fun a ha => .tail _ ha)
        have off : ∀ a ∈ C :: ownOf env, a ∉ as2 := by intro a ha; rcases List.mem_cons.mp ha with rfl | ha; exact hC2; exact F3.offs a ha
        exact ((a1.trans a2 R3.nd off).trans a3 R3.nd off).shrink (by
          intro a ha; rcases List.mem_cons.mp ha with rfl | ha
          · exact .inr hCn
          · exact .inl ha)
      exact hQ .next as2 h3 tk2 rfl S3 R3 F3
  · exact plain (swap_some (fun a b c d q => hc ⟨a, b, c, d, q⟩) h)
set_option tactic.hygienic false in
theorem swapped_none {ts : List Expr} {k : Nat} {tp : Pos} {e : Expr} (h : (∃ x p, e = .Name x p) ∨ ∃ f as ks p, e = .Call f as ks p) : swappedStores [.Tuple ts k tp] e env = pure none := by
  rcases h with ⟨_, _, rfl⟩ | ⟨_, _, _, _, rfl⟩ <;> rfl

theorem s_asgT {ts : List Expr} {k : Nat} {tp p : Pos} {is : List Nat} {e : Expr} {e' : E} (IH : SndE g c0 call r n) (hx : nameIdxs (c0.sub names) ts = some is) (hn : (∃ x p, e = .Name x p) ∨ ∃ f as ks p, e = .Call f as ks p) (h : compE n (c0.sub names) e = some e') :
    NodeS g c0 call wf r names (.Assign [.Tuple ts k tp] e p) (.asgT is e') := fun env A X s as fr fr' σ σ' fl Q N hA T ev hQ => by
  refine bindS_el ev fun u τ e1 e2 => ?_
  split at e2
  case h_2 => cases e2
  rename_i f1 hb
  cases e2
  refine Assign_Tuple (IH names e e' h env A X s as fr σ _ u _ N hA T e1 fun val as' h' tk st R' F' r' => ?_) (show swapsWithSole [.Tuple ts k tp] e p.line env = pure false from swap_other (env := env) (line := p.line) (t := .Tuple ts k tp) (by simp) h) (swapped_none hn)
  exact o_assign (own := ownOf env) (s := { s with heap := h', toks := tk }) (target := .Tuple ts k tp) (tg := is) (one := false) hA.handled ⟨F', R'⟩ N (owns_all _ _) (by show (nameIdxs (c0.sub names) ts).map _ = _; rw [hx]; rfl) r' hb (fpost_of hQ (up st))

theorem s_asgA {o e : Expr} {x : Str} {k : Nat} {op p : Pos} {o' e' : E} (G : Glob g K c0 fa) (J : AttInj g) (IH : SndE g c0 call r n) (h0 : compE n (c0.sub names) o = some o') (hk : c0.attrs.lookup x = some k) (h : compE n (c0.sub names) e = some e') :
    NodeS g c0 call wf r names (.Assign [.Attribute o x op] e p) (.asgA o' k e') := fun env A X s as fr fr' σ σ' fl Q N hA T ev hQ => by
  refine bindS_el ev fun u τ e1 e2 => ?_
  refine bindS_el e2 fun w τ' e3 e4 => ?_
  split at e4
  case h_2 => cases e4
  rename_i σ1 hs
  cases e4
  refine plainObj_wpAny_Assign_Attribute (two IH h h0 N hA T e1 e3 fun x y as' h' tk st R' F' r1 r2 => ?_) (swap_other (by simp) h)
  exact o_setAttr G J (T.step (tk := tk) R' F') r2 r1 hk hs fun as2 h2 tk2 st2 R2 F2 => hQ .next as2 h2 tk2 rfl (up (step_trans st st2 R2 F2)) R2 F2

theorem s_asgI {o i e : Expr} {op p : Pos} {o' i' e' : E} (IH : SndE g c0 call r n) (h0 : compE n (c0.sub names) o = some o') (h1 : compE n (c0.sub names) i = some i') (h : compE n (c0.sub names) e = some e') :
    NodeS g c0 call wf r names (.Assign [.Subscript o i op] e p) (.asgI o' i' e') := fun env A X s as fr fr' σ σ' fl Q N hA T ev hQ => by
  refine bindS_el ev fun u τ e1 e2 => ?_
  refine bindS_el e2 fun w τ' e3 e4 => ?_
  refine bindS_el e4 fun z τ2 e5 e6 => ?_
  split at e6
  case h_2 => cases e6
  rename_i σ1 hs
  cases e6
  refine wpAny_Assign_Subscript (two (Q := fun v ov s2 => wpAny (model g.prog g.w) A (eval i env) (fun iv s₃ => wpAny (model g.prog g.w) A (setItem ov iv v) (fun _ => Q .next) X s₃) X s2) IH h h0 N hA T e1 e3 fun x y as' h' tk st R' F' r1 r2 => ?_) (swap_other (by simp) h)
  refine IH names i i' h1 env A X _ as' fr τ' _ z _ N hA (T.step (tk := tk) R' F') e5 fun val as2 h2 tk2 st2 R2 F2 r3 => ?_
  have kp := At.keep (s := { s with heap := h', toks := tk }) ⟨F', R'⟩ st2
  refine o_setItem (s := { s with heap := h2, toks := tk2 }) ⟨F2, R2⟩ hA (RepV.keep kp _ _ r2) r3 (RepV.keep kp _ _ r1) hs fun as3 h3 tk3 st3 R3 F3 => ?_
  exact hQ .next as3 h3 tk3 rfl (up (step_trans (step_trans st st2 R2 F2) st3 R3 F3)) R3 F3

set_option tactic.hygienic false in
theorem s_if {t : Expr} {b o : List Stmt} {t' : E} {b' o' : List S} {p : Pos} (IT : SndT g c0 call r n) {m : Nat} (IL : SndL g c0 call wf r m) (h0 : compE n (c0.sub names) t = some t') (h1 : mapO (compS m (c0.sub names)) b = some b') (h2 : mapO (compS m (c0.sub names)) o = some o') :
    NodeS g c0 call wf r names (.If t b o p) (.ifS t' b' o') := fun env A X s as fr fr' σ σ' fl Q N hA T ev hQ => by
  refine bindS_el ev fun u τ e1 e2 => ?_
  split at e2
  · refine wpAny_If (IT names t t' h0 env A X s as fr σ τ true _ N hA T e1 fun as' h' tk st R' F' => ?_)
    rw [if_pos rfl]
    exact IL names b b' h1 env A X _ as' fr fr' τ σ' fl Q N hA ⟨F', R'⟩ e2 (spost_of hQ (up st))
  · refine wpAny_If (IT names t t' h0 env A X s as fr σ τ false _ N hA T e1 fun as' h' tk st R' F' => ?_)
    rw [if_neg Bool.false_ne_true]
    exact IL names o o' h2 env A X _ as' fr fr' τ σ' fl Q N hA ⟨F', R'⟩ e2 (spost_of hQ (up st))
  · cases e2

inductive WI (g : Cfg) (call : Nat → List V → Sto → RE) (wf : Nat) (env : Env) (s : Shared) (as : List Addr) (t' : E) (b' : List S) (fl : Fl) (fr' : Fra) (σ' : Sto) (k : Nat) : Shared → Prop
  | mk (fr1 : Fra) (σ1 : Sto) (as1 : List Addr) (h1 : Heap) (tk1 : Nat) (ev : whileL (evE call t') (evSs call wf b') k fr1 σ1 = .ok fl fr' σ') (st : Step (ownOf env) as s.heap as1 h1) (R : Rel g as1 σ1 h1) (F : FrRel g env as1 fr1 h1) :
      WI g call wf env s as t' b' fl fr' σ' k { s with heap := h1, toks := tk1 }
set_option tactic.hygienic false in
theorem while_inv {test : Fra → Sto → RE} {body : Fra → Sto → RS} {k : Nat} {P : Prop} (e : whileL test body (k + 1) fr σ = .ok fl fr' σ') (H0 : ∀ τ, test fr σ = .ok (.bool false) τ → fl = .next → fr' = fr → σ' = τ → P)
    (H1 : ∀ τ f2 σ2 f, test fr σ = .ok (.bool true) τ → body fr τ = .ok f f2 σ2 → (f = .next ∨ f = .cont) → whileL test body k f2 σ2 = .ok fl fr' σ' → P)
    (H2 : ∀ τ, test fr σ = .ok (.bool true) τ → body fr τ = .ok .brk fr' σ' → fl = .next → P)
    (H3 : ∀ τ w, test fr σ = .ok (.bool true) τ → body fr τ = .ok fl fr' σ' → fl = .ret w → P) : P := by
  rw [whileL] at e
  refine bindS_el e fun u τ e1 e2 => ?_
  cases u with
  | bool b => cases b with
    | false => cases e2; exact H0 _ e1 rfl rfl rfl
    | true =>
      cases hb : body fr τ with
      | bad => simp only [hb] at e2; cases e2
      | ex x f s => simp only [hb] at e2; cases e2
      | ok f f2 σ2 =>
        simp only [hb] at e2
        cases f with
        | next => exact H1 _ _ _ _ e1 hb (.inl rfl) e2
        | cont => exact H1 _ _ _ _ e1 hb (.inr rfl) e2
        | brk => cases e2; exact H2 _ e1 hb rfl
        | ret w => cases e2; exact H3 _ w e1 hb rfl
  | _ => cases e2
set_option tactic.hygienic false in
theorem s_while {t : Expr} {b : List Stmt} {t' : E} {b' : List S} {p : Pos} (IT : SndT g c0 call r n) {m : Nat} (IL : SndL g c0 call wf r m) (h0 : compE n (c0.sub names) t = some t') (h1 : mapO (compS m (c0.sub names)) b = some b') :
    NodeS g c0 call wf r names (.While t b [] p) (.whileS t' b') := fun env A X s as fr fr' σ σ' fl Q N hA T ev hQ => by
  refine wpAny_While (codeAny_whileLoop (WI g call wf env s as t' b' fl fr' σ') ?_ wf ⟨fr, σ, as, s.heap, s.toks, ev, Step.refl _ _ _, T.R, T.F⟩)
  intro k s1 I
  cases I with
  | mk fr1 σ1 as1 k1 tk1 ev st1 R1 F1 =>
    cases k with
    | zero => rw [whileL] at ev; cases ev
    | succ k =>
      refine while_inv ev (fun τ e1 hf hr hs => ?_) (fun τ f2 σ2 f0 e1 hb hf e2 => ?_) (fun τ e1 hb hf => ?_) fun τ w e1 hb hf => ?_
      · refine IT names t t' h0 env A _ { s with heap := k1, toks := tk1 } as1 _ σ1 _ false _ N hA ⟨F1, R1⟩ e1 fun as' h' tk st R' F' => ?_
        rw [if_neg Bool.false_ne_true]
        subst hf; subst hr; subst hs
        exact wpAny_execs_nil (hQ .next as' h' tk rfl (st1.trans (up st) R'.nd F'.offs) R' F')
      · refine IT names t t' h0 env A _ { s with heap := k1, toks := tk1 } as1 fr1 σ1 τ true _ N hA ⟨F1, R1⟩ e1 fun as' h' tk st R' F' => ?_
        rw [if_pos rfl]
        refine IL names b b' h1 env A _ { s with heap := h', toks := tk } as' fr1 f2 τ σ2 f0 _ N hA ⟨F', R'⟩ hb fun f as3 h3 tk3 hf3 st3 R3 F3 => ?_
        have fin : WI g call wf env s as t' b' fl fr' σ' k { s with heap := h3, toks := tk3 } := ⟨f2, σ2, as3, h3, tk3, e2, (st1.trans (up st) R'.nd F'.offs).trans st3 R3.nd F3.offs, R3, F3⟩
        rcases hf with rfl | rfl
        · have : f = .next := hf3
          subst this; exact ⟨k, Nat.lt_succ_self _, fin⟩
        · have : f = .cont := hf3
          subst this; exact ⟨k, Nat.lt_succ_self _, fin⟩
      · refine IT names t t' h0 env A _ { s with heap := k1, toks := tk1 } as1 fr1 σ1 τ true _ N hA ⟨F1, R1⟩ e1 fun as' h' tk st R' F' => ?_
        rw [if_pos rfl]
        refine IL names b b' h1 env A _ { s with heap := h', toks := tk } as' fr1 _ τ _ .brk _ N hA ⟨F', R'⟩ hb fun f as3 h3 tk3 hf3 st3 R3 F3 => ?_
        have : f = .brk := hf3
        subst this; subst hf
        exact hQ .next as3 h3 tk3 rfl ((st1.trans (up st) R'.nd F'.offs).trans st3 R3.nd F3.offs) R3 F3
      · refine IT names t t' h0 env A _ { s with heap := k1, toks := tk1 } as1 fr1 σ1 τ true _ N hA ⟨F1, R1⟩ e1 fun as' h' tk st R' F' => ?_
        rw [if_pos rfl]
        refine IL names b b' h1 env A _ { s with heap := h', toks := tk } as' fr1 fr' τ σ' fl _ N hA ⟨F', R'⟩ hb fun f as3 h3 tk3 hf3 st3 R3 F3 => ?_
        subst hf
        have hq := hQ f as3 h3 tk3 hf3 ((st1.trans (up st) R'.nd F'.offs).trans st3 R3.nd F3.offs) R3 F3
        obtain ⟨val, hv, rv⟩ := hf3
        subst hv
        exact hq

theorem s_for {t it : Expr} {b : List Stmt} {it' : E} {b' : List S} {tg : List Nat} {one : Bool} {p : Pos} (IH : SndE g c0 call r n) {m : Nat} (IL : SndL g c0 call wf r m) (ht : tgt (c0.sub names) t = some (tg, one)) (h0 : compE n (c0.sub names) it = some it') (h1 : mapO (compS m (c0.sub names)) b = some b') :
    NodeS g c0 call wf r names (.For t it b [] p) (.forS tg one (.e it') b') := fun env A X s as fr fr' σ σ' fl Q N hA T ev hQ => by
  refine bindS_el ev fun u τ e1 e2 => ?_
  have key : ∃ src k, srcOf u = some src ∧ (∀ l, src = .live l → ∃ xs, getL τ l = some xs) ∧ FRun src tg one (evSs call wf b') k 0 fr τ fl fr' σ' := by
    cases u with
    | ref l =>
      simp only at e2
      split at e2
      · rename_i xs hx
        obtain ⟨k, hk⟩ := forL_run _ _ _ _ _ _ _ e2
        exact ⟨.live l, k, rfl, fun l' q => by cases q; exact ⟨xs, hx⟩, hk⟩
      · cases e2
    | tup vs =>
      simp only at e2
      obtain ⟨k, hk⟩ := forV_run (src := .tup vs) (L := vs) (fun _ _ => rfl) (fun i h => h) vs 0 _ _ _ _ _ rfl (Nat.zero_le _) e2
      exact ⟨.tup vs, k, rfl, (fun l' q => (nomatch q)), hk⟩
    | rng lo hi =>
      simp only at e2
      obtain ⟨k, hk⟩ := forV_run (src := .rng lo hi) (L := rngL lo hi) (fun _ _ => rfl) (fun i h => by show i ≤ _; simpa [rngL] using h) (rngL lo hi) 0 _ _ _ _ _ rfl (Nat.zero_le _) e2
      exact ⟨.rng lo hi, k, rfl, (fun l' q => (nomatch q)), hk⟩
    | _ => cases e2
  obtain ⟨src, k, hs, hl, run⟩ := key
  refine wpAny_For (IH names it it' h0 env A X s as fr σ τ u _ N hA T e1 fun val as1 k1 tk1 st1 R1 F1 r1 => ?_) (fold_set h0)
  have T1 : At g env as1 fr τ { s with heap := k1, toks := tk1 } := ⟨F1, R1⟩
  refine it_iter T1 r1 hs hl fun o T2 it0 => ?_
  have nn := T1.notNew
  have Z : FX g env { s with heap := k1, toks := tk1 } k1.objs.size := ⟨fun q => by
    rcases own_cases q with q | ⟨y, q⟩
    · exact nn.1 q
    · exact T1.cellNew _ _ q rfl, nn.2.2, new_none _⟩
  exact for_turns (tk := tk1) IL Z N hA ht h1 run ⟨step_pushed _ _ _ _, T2.R, T2.F, it0, nn.2.1⟩ (spost_of hQ (up st1))

theorem x_asg {t e : Expr} {p : Pos} {st' : S} (G : Glob g K c0 fa) (J : AttInj g) (C : CallOk g fa call r) (h : cAsg (c0.sub names) t e = some st') : NodeS g c0 call wf r names (.Assign [t] e p) st' := by
  have IH := (snd_all G J C 30).1
  unfold cAsg at h
  cases q : vw t <;> rw [q] at h <;> first | exact nn h | skip
  · obtain ⟨i, a, h1, h2, rfl⟩ := opt2_inv h
    obtain ⟨xp, rfl⟩ := vw_of q
    exact s_asg (n := 29) IH (snd_all G J C 29).1 (snd_all G J C 29).2 h1 h2
  · obtain ⟨h0, h⟩ := gd_inv h
    obtain ⟨is, a, h1, h2, rfl⟩ := opt2_inv h
    obtain ⟨k, xp, rfl⟩ := vw_of q
    exact s_asgT IH h1 (isTup_inv (not_inv h0)) h2
  · rename_i u
    obtain ⟨o, k, a, h1, h2, h3, rfl⟩ := opt3_inv h
    have hv : t = _ := vw_of q
    subst hv
    exact s_asgA G J IH h1 h2 h3
  · rename_i u
    obtain ⟨o, k, a, h1, h2, h3, rfl⟩ := opt3_inv h
    obtain ⟨xp, rfl⟩ := vw_of q
    exact s_asgI IH h1 h2 h3
set_option tactic.hygienic false in
theorem isEmpty_inv {α : Type} {l : List α} : l.isEmpty = true → l = [] := List.casesOn l (fun _ => rfl) fun _ _ => ft
set_option tactic.hygienic false in
theorem sndS_step {m : Nat} (G : Glob g K c0 fa) (J : AttInj g) (C : CallOk g fa call r) (IL : SndL g c0 call wf r m) (st : Stmt) (st' : S) (h : compS (m + 1) (c0.sub names) st = some st') : NodeS g c0 call wf r names st st' := by
  have IH := (snd_all G J C 30).1
  have IT := (snd_all G J C 30).2
  cases st with
  | Expr e p => obtain ⟨h0, h⟩ := gd_inv h; obtain ⟨a, h1, rfl⟩ := map_inv h; exact s_expr IH (isLC_inv (not_inv h0)) h1
  | Return v p => obtain ⟨e, rfl, h⟩ := bind_inv h; obtain ⟨a, h1, rfl⟩ := map_inv h; exact s_ret IH h1
  | Assign ts e p =>
    rcases ts with _ | ⟨t, _ | ⟨t2, ts⟩⟩
    · exact nn h
    · exact x_asg G J C h
    · exact nn h
  | If t b o p => obtain ⟨x, y, z, h1, h2, h3, rfl⟩ := opt3_inv h; exact s_if IT IL h1 h2 h3
  | While t b o p => obtain ⟨h0, h⟩ := gd_inv h; obtain ⟨x, y, h1, h2, rfl⟩ := opt2_inv h; cases isEmpty_inv h0; exact s_while IT IL h1 h2
  | For t it b o p => obtain ⟨h0, h⟩ := gd_inv h; obtain ⟨x, y, z, h1, h2, h3, rfl⟩ := opt3_inv h; cases isEmpty_inv h0; exact s_for IH IL h1 h2 h3
  | Raise v cz p =>
    cases v with
    | none => cases cz <;> exact nn h
    | some v => cases cz with
      | some => exact nn h
      | none =>
        obtain ⟨x, h0, h⟩ := bind_inv h
        obtain ⟨h1, h⟩ := gd_inv h
        obtain ⟨a, h2, rfl⟩ := map_inv h
        intro env A X s as fr fr' σ σ' fl Q N hA T ev hQ
        cases (show RS.bad = RS.ok fl fr' σ' from ev)
  | Pass p => exact si h s_pass
  | _ => exact nn h

set_option tactic.hygienic false in
theorem sndS_all (G : Glob g K c0 fa) (J : AttInj g) (C : CallOk g fa call r) : ∀ n, SndS g c0 call wf r n
  | 0 => fun names st st' h => nn h
  | n + 1 => fun names st st' h => sndS_step G J C (snd_list (sndS_all G J C n)) st st' h
end
end Mine

set_option autoImplicit false
set_option maxRecDepth 100000
set_option linter.unusedVariables false
namespace Mine
open PySem PyProof.Rows PySem.W

noncomputable def fnFits (K : Frag) (c : CE) (fd : FuncData) : Bool :=
  fd.globals == mainGlobals && fd.builtins == builtinsNs && fd.closure.isEmpty && codeIn K fd.code fd.qualname && !fd.scope.isCoroutine && !fd.scope.isGenerator && scOk fd.scope && fd.scope.names.all (fun p => !(p.2 == .free)) &&
  fd.params.posonlyargs.isEmpty && fd.params.vararg.isNone && fd.params.kwonlyargs.isEmpty && fd.params.kw_defaults.isEmpty && fd.params.kwarg.isNone && decide ((fd.params.args.map (·.arg)).Nodup) && fd.defaults == .none &&
  (match c.lam with | some a => fd.code == .ref a | none => true)

noncomputable def compFn (K : Frag) (c : CE) (a : Addr) : Option Fn := match K.lookup a with
  | some ⟨_, _, .func fd, _⟩ => if fnFits K c fd then
      (match fd.body with
      | .stmts body => (match mapO (fun x => (c.sub fd.scope.names).locW? x) (fd.params.args.map (·.arg)), mapO (compS 20 (c.sub fd.scope.names)) body with
        | some ps, some b => some ⟨ps, fd.scope.names.length, b⟩
        | _, _ => none)
      | _ => none) else none
  | _ => none

set_option tactic.hygienic false in
theorem putPs_len : ∀ (ps : List Nat) (vs : List V) (fr : Fra), (putPs ps vs fr).length = fr.length
  | [], _, _ => rfl
  | _ :: _, [], _ => rfl
  | p :: ps, v :: vs, fr => by rw [putPs, putPs_len]; simp

set_option tactic.hygienic false in
theorem putPs_get : ∀ (ps : List Nat) (vs : List V) (fr : Fra) (i : Nat) (v : V), (putPs ps vs fr)[i]? = some (some v) → fr[i]? = some (some v) ∨ ∃ j : Nat, ps[j]? = some i ∧ vs[j]? = some v
  | [], _, _, _, _, h => .inl h
  | _ :: _, [], _, _, _, h => .inl h
  | p :: ps, v :: vs, fr, i, w, h => by
    rw [putPs] at h
    rcases putPs_get ps vs _ i w h with h | ⟨j, h1, h2⟩
    · by_cases hp : p = i
      · subst hp
        by_cases hl : p < fr.length
        · rw [List.getElem?_set_self hl] at h
          simp only [Option.some.injEq] at h; subst h
          exact .inr ⟨0, rfl, rfl⟩
        · rw [List.getElem?_eq_none (by simp; lia)] at h; cases h
      · rw [List.getElem?_set_ne hp] at h; exact .inl h
    · exact .inr ⟨j + 1, by simpa using h1, by simpa using h2⟩

set_option tactic.hygienic false in
theorem bindL_get {kindOf : Str → Option NameKind} {x : Str} {v : Value} (hk : kindOf x = some .local) : ∀ (binds : List (Str × Value)) (m : Str → Option Value), (binds.map (·.1)).Nodup → ((x, v) ∈ binds ∨ (m x = some v ∧ x ∉ binds.map (·.1))) → bindL kindOf binds m x = some v
  | [], m, _, h => h.elim (fun q => by cases q) fun q => q.1
  | (n, w) :: r, m, nd, h => by
    rw [bindL]
    rw [List.map_cons, List.nodup_cons] at nd
    refine bindL_get hk r _ nd.2 ?_
    rcases h with h | ⟨h1, h2⟩
    · rcases List.mem_cons.mp h with q | q
      · cases q
        refine .inr ⟨?_, nd.1⟩
        rw [if_pos hk]; simp
      · exact .inl q
    · rw [List.map_cons, List.mem_cons, not_or] at h2
      refine .inr ⟨?_, h2.2⟩
      split
      · simp [h2.1, h1]
      · exact h1
set_option tactic.hygienic false in
theorem bindC_get {kindOf : Str → Option NameKind} {x : Str} {v : Value} (hk : kindOf x ≠ some .local) : ∀ (binds : List (Str × Value)) (m : Str → Option Value), (binds.map (·.1)).Nodup → ((x, v) ∈ binds ∨ (m x = some v ∧ x ∉ binds.map (·.1))) → bindC kindOf binds m x = some v
  | [], m, _, h => h.elim (fun q => by cases q) fun q => q.1
  | (n, w) :: r, m, nd, h => by
    rw [bindC]
    rw [List.map_cons, List.nodup_cons] at nd
    refine bindC_get hk r _ nd.2 ?_
    rcases h with h | ⟨h1, h2⟩
    · rcases List.mem_cons.mp h with q | q
      · cases q
        refine .inr ⟨?_, nd.1⟩
        rw [if_neg hk]; simp
      · exact .inl q
    · rw [List.map_cons, List.mem_cons, not_or] at h2
      refine .inr ⟨?_, h2.2⟩
      split
      · exact h1
      · simp [h2.1, h1]

section
variable {g : Cfg} {K : Frag} {fa : Nat → Option Addr} {P : Nat → Option Fn} {wf : Nat}

theorem call_step (c : Nat → CE) (G : ∀ k, Glob g K (c k) fa) (J : AttInj g) (hlim : g.b.NoLimit) (hP : ∀ k a, fa k = some a → P k = compFn K (c k) a) {n : Nat} (C : CallOk g fa (evFn P wf n) (2 * n)) : CallOk g fa (evFn P wf (n + 1)) (2 * (n + 1)) := by
  intro k a vs σ σ' v hfa ev A s as xs R hA R0 hsz r0 hR
  rw [evFn] at ev
  have hPk := hP k a hfa
  split at ev
  · cases ev
  rename_i fn hfn
  split at ev
  case isFalse => cases ev
  rename_i hlen
  rw [hfn] at hPk
  unfold compFn at hPk
  split at hPk
  case h_2 => cases hPk
  rename_i oc od fd osl hK
  split at hPk
  case isFalse => cases hPk
  rename_i hfit
  split at hPk
  case h_2 => cases hPk
  rename_i body hbody
  split at hPk
  case h_2 => cases hPk
  rename_i ps b' hps hb'
  cases hPk
  simp only [fnFits, Bool.and_eq_true, beq_iff_eq, List.isEmpty_iff, Bool.not_eq_true', List.all_eq_true, decide_eq_true_eq, Option.isNone_iff_eq_none] at hfit
  obtain ⟨⟨⟨⟨⟨⟨⟨⟨⟨⟨⟨⟨⟨⟨⟨f1, f2⟩, f3⟩, f4⟩, f5⟩, f6⟩, f7⟩, f8⟩, f9⟩, f10⟩, f11⟩, f12⟩, f13⟩, f14⟩, f15⟩, f16⟩ := hfit
  obtain ⟨hkind, hnd⟩ := scOk_iff f7
  have hpar : fd.params = ⟨[], fd.params.args, none, [], [], none, fd.params.defaults⟩ := by
    rcases hq : fd.params with ⟨p1, p2, p3, p4, p5, p6, p7⟩
    rw [hq] at f9 f10 f11 f12 f13
    simp only at f9 f10 f11 f12 f13
    rw [f9, f10, f11, f12, f13]
  have hps' := mapO_get hps
  have hpl : fd.params.args.length = xs.length := by
    have h1 := (RepVs.f2.mp r0).length
    have h2 := hps'.1
    rw [List.length_map] at h2
    have h3 : vs.length = ps.length := hlen
    lia
  have hbind := bind_plain hpar f15 f14 hpl
  have keep0 := R0.base
  have ho : s.heap.get? a = some ⟨oc, od, .func fd, osl⟩ := R0.base _ _ ((G k).kin _ _ hK)
  have hnb : ((fd.params.args.map (·.arg)).zip xs).map (·.1) = fd.params.args.map (·.arg) := by
    rw [List.map_fst_zip]; rw [List.length_map]; lia
  have hpk : ∀ x ∈ fd.params.args.map (·.arg), fd.scope.names.lookup x = some .local ∨ fd.scope.names.lookup x = some .cell := fun x hx => by
    obtain ⟨i, hi, rfl⟩ := List.getElem_of_mem hx
    obtain ⟨j, h1, h2⟩ := hps'.2 i _ (List.getElem?_eq_getElem hi)
    obtain ⟨kk, h3, h4⟩ := locW_get h2
    have h5 : fd.scope.names.lookup ((fd.params.args.map (·.arg))[i]) = some kk := nodup_lookup hnd h3
    rcases h4 with rfl | rfl
    · exact .inl h5
    · exact .inr h5
  have hcellsome : ∀ x, fd.scope.names.lookup x = some .cell → ∃ cc, (cellsFrom (s.heap.objs.size + 1) fd.scope.names []).lookup x = some cc := fun x hx => Option.isSome_iff_exists.mp (cellsFrom_some _ _ _ (.inl hx))
  have hdepth : A.depth < recursionLimit := by have := hA.depth; show _ < 1000; lia
  refine codeAny_call_cells hdepth ho rfl (hlim.keeps keep0) (codeRec_of ((G k).kin.keeps keep0) f4) hbody hbind f3 (fun x hx => ?_) (fun s₁ U => ?_) f5 f6 hkind
  · have hx' : x.1 ∈ fd.params.args.map (·.arg) := (List.of_mem_zip hx).1
    rcases hpk _ hx' with q | q
    · exact .inl q
    · exact .inr ⟨q, cellsFrom_some _ _ _ (.inl q)⟩
  obtain ⟨⟨⟨h₁, tk₁, rfl⟩, uns, ukeep, ufresh⟩, ucell, uapart, uabove⟩ := U
  have hE : ∀ x, (callEnvC fd s.heap.objs.size a).kindOf x = fd.scope.names.lookup x := fun x => rfl
  have K1 : Keep as s.heap as h₁ := ⟨fun _ _ e => e, fun b o e _ => ukeep b o e⟩
  have R1 : Rel g as σ h₁ := R0.ext ukeep
  have lkm : ∀ x cc, (callEnvC fd s.heap.objs.size a).cells.lookup x = some cc → s.heap.objs.size < cc := fun x cc e => uabove x cc (lookup_mem' e)
  have fresh : ∀ b : Addr, s.heap.objs.size ≤ b → s.heap.get? b = none := fun b hb => by
    cases e : s.heap.get? b with
    | none => rfl
    | some o => exact absurd (Heap.lt_size e) (Nat.not_lt.mpr hb)
  have notas : ∀ b : Addr, s.heap.objs.size ≤ b → b ∉ as := fun b hb q => by
    obtain ⟨o, e, _⟩ := R0.there q; rw [fresh b hb] at e; cases e
  have notb : ∀ b : Addr, s.heap.objs.size ≤ b → g.b.get? b = none := fun b hb => by
    cases e : g.b.get? b with
    | none => rfl
    | some o => have := R0.base _ _ e; rw [fresh b hb] at this; cases this
  have rvs := RepVs.f2.mp (RepVs.keep K1 _ _ r0)
  have hval : ∀ (i : Nat) (x : Str) (kk : NameKind) (w : V), fd.scope.names[i]? = some (x, kk) → (frame0 ⟨ps, fd.scope.names.length, b'⟩ vs)[i]? = some (some w) → ∃ val, (x, val) ∈ (fd.params.args.map (·.arg)).zip xs ∧ RepV as h₁ w val := fun i x kk w e1 e2 => by
    unfold frame0 at e2
    rcases putPs_get _ _ _ _ _ e2 with h | ⟨j, h1, h2⟩
    · exfalso
      rw [List.getElem?_replicate] at h
      split at h <;> simp at h
    · obtain ⟨val, h3, h4⟩ := rvs.get h2
      have hj : j < (fd.params.args.map (·.arg)).length := by
        have h1' : ps[j]? = some i := h1
        have h9 := (List.getElem?_eq_some_iff.mp h1').1
        have h8 := hps'.1
        lia
      obtain ⟨i', h5, h6⟩ := hps'.2 j _ (List.getElem?_eq_getElem hj)
      have h1' : ps[j]? = some i := h1
      rw [h1'] at h5; cases h5
      obtain ⟨k2, h7, _⟩ := locW_get h6
      have h7' : fd.scope.names[i]? = some ((fd.params.args.map (·.arg))[j], k2) := h7
      rw [e1] at h7'; cases h7'
      refine ⟨val, ?_, h4⟩
      have : ((fd.params.args.map (·.arg)).zip xs)[j]? = some ((fd.params.args.map (·.arg))[j], val) := by
        rw [List.getElem?_zip_eq_some]
        exact ⟨List.getElem?_eq_getElem hj, h3⟩
      exact List.mem_of_getElem? this
  have F1 : FrRel g (callEnvC fd s.heap.objs.size a) as (frame0 ⟨ps, fd.scope.names.length, b'⟩ vs) h₁ := by
    refine ⟨hkind, hsz, f1, f2, ?_, hnd, ⟨_, uns, fun i x w e1 e2 => ?_⟩, fun i x kk e1 e2 => ?_, notas _ (Nat.le_refl _), fun x cc e => ⟨notas _ (Nat.le_of_lt (lkm x cc e)), Nat.ne_of_gt (lkm x cc e), ⟨_, ucell x cc e⟩⟩, fun x y cc e1 e2 => ?_, fun x cc e => notb _ (Nat.le_of_lt (lkm x cc e))⟩
    · show (frame0 _ vs).length = fd.scope.names.length
      unfold frame0; rw [putPs_len]; simp
    · obtain ⟨val, h1, h2⟩ := hval i x _ w e1 e2
      refine ⟨val, bindL_get ?_ _ _ (by rw [hnb]; exact f14) (.inl h1), h2⟩
      rw [hE]; exact nodup_lookup hnd e1
    · have hk2 : kk = .cell := by
        rcases e2 with e2 | e2
        · exact e2
        · have := f8 _ (List.mem_of_getElem? e1)
          rw [e2] at this; cases this
      subst hk2
      have hlk := nodup_lookup hnd e1
      obtain ⟨cc, hcc⟩ := hcellsome x hlk
      refine ⟨cc, _, hcc, ucell x cc hcc, fun w e => ?_⟩
      obtain ⟨val, h1, h2⟩ := hval i x _ w e1 e
      refine ⟨val, bindC_get ?_ _ _ (by rw [hnb]; exact f14) (.inl h1), h2⟩
      rw [hE, hlk]; simp
    · exact name_of_addr uapart (lookup_mem' e1) (lookup_mem' e2)
  have N1 : NamesOk ((c k).sub fd.scope.names) (callEnvC fd s.heap.objs.size a) := by
    refine ⟨?_, fun a' ha' => ?_⟩
    · show F2 _ fd.scope.names fd.scope.names
      generalize fd.scope.names = l
      induction l with
      | nil => exact .nil
      | cons p r ih => exact .cons ⟨rfl, .inl rfl⟩ ih
    · have ha'' : (c k).lam = some a' := ha'
      rw [ha''] at f16
      exact eq_of_beq f16
  have hroom : Room (A.deeper (callEnvC fd s.heap.objs.size a)) (2 * n + 1) := by
    have h1 := hA.units; have h2 := hA.depth
    exact ⟨by rw [units_deeper]; lia, by rw [depth_deeper]; lia, hA.handled⟩
  have S1 : Step [s.heap.objs.size] as s.heap as h₁ := Step.of_ext ukeep
  have fin : ∀ (fl : Fl) (fr' : Fra) (w : V), evSs (evFn P wf n) wf b' (frame0 ⟨ps, fd.scope.names.length, b'⟩ vs) σ = .ok fl fr' σ' → (fl = .ret w ∨ (fl = .next ∧ w = .none)) → w = v →
      wpAny (model g.prog g.w) (A.deeper (callEnvC fd s.heap.objs.size a)) (execs body (callEnvC fd s.heap.objs.size a)) (fun f s' => R (.ok (.ret (match f with | .ret v => v | _ => .none))) s')
        (fun e s' => wpAny (model g.prog g.w) (A.deeper (callEnvC fd s.heap.objs.size a)) (leaving (callEnvC fd s.heap.objs.size a) e) (fun _ s'' => R (.error e) s'') (fun e' s'' => R (.error e') s'') s') { s with heap := h₁, toks := tk₁ } := fun fl fr' w he hfl hw => by
    subst hw
    refine snd_list (sndS_all (G k) J C 20) fd.scope.names body b' hb' _ _ _ { s with heap := h₁, toks := tk₁ } as _ fr' σ σ' fl _ N1 hroom ⟨F1, R1⟩ he fun f as2 h2 tk2 hf st2 R2 F2 => ?_
    have S2 : Step [] as s.heap as2 h2 := by
      have a1 : Step (ownOf (callEnvC fd s.heap.objs.size a)) as s.heap as h₁ := Step.of_ext ukeep
      exact (a1.trans st2 R2.nd F2.offs).shrink (fun b hb => .inr (by
        rcases own_cases hb with q | ⟨x, q⟩
        · rw [q]; exact fresh _ (Nat.le_refl _)
        · exact fresh _ (Nat.le_of_lt (lkm x b q))))
    rcases hfl with rfl | ⟨rfl, rfl⟩
    · obtain ⟨val, hv, rv⟩ := hf; subst hv
      exact hR val as2 h2 tk2 S2 R2 rv
    · have : f = .next := hf; subst this
      exact hR .none as2 h2 tk2 S2 R2 (by rw [RepV])
  split at ev
  · rename_i w fr' σ1 he
    cases ev
    exact fin (.ret v) fr' v he (.inl rfl) rfl
  · rename_i fr' σ1 he
    cases ev
    exact fin .next fr' .none he (.inr ⟨rfl, rfl⟩) rfl
  · cases ev
  · cases ev
  · cases ev

set_option tactic.hygienic false in
theorem call_all (c : Nat → CE) (G : ∀ k, Glob g K (c k) fa) (J : AttInj g) (hlim : g.b.NoLimit) (hP : ∀ k a, fa k = some a → P k = compFn K (c k) a) : ∀ n, CallOk g fa (evFn P wf n) (2 * n)
  | 0 => fun k a vs σ σ' v hfa ev => by rw [evFn] at ev; cases ev
  | n + 1 => call_step c G J hlim hP (call_all c G J hlim hP n)
end
end Mine

set_option autoImplicit false
set_option maxRecDepth 100000
set_option linter.unusedVariables false
namespace Mine
open PySem PyProof.Rows PySem.W

noncomputable def noneIn (K : Frag) (x : Str) : Bool := nsIn K mainGlobals x == some none

noncomputable def chkG (K : Frag) (c : CE) (C : Addr) (at' : List (Nat × Str)) (fa : Nat → Option Addr) : Bool :=
  c.consts.all (fun p => match nsIn K mainGlobals p.1 with | some (some (.int j _)) => p.2 == j | _ => false) &&
  (c.fns.all (fun p => match fa p.2 with | some a => nsIn K mainGlobals p.1 == some (some (.ref a)) && keepIn K (.ref a) | none => false) &&
  (c.clss.all (fun p => match fa p.2 with | some fI => nsIn K mainGlobals p.1 == some (some (.ref C)) && (keepIn K (.ref C) && (makesIn K C && (findIn K (.ref C) "__init__" == some (some (.ref fI)) && (isFn K (.ref fI) && isIn K (.ref C) C)))) | none => false) &&
  (bltName.all (fun p => noneIn K p.1) && (tyName.all (fun p => noneIn K p.1) && (noneIn K "set" && (noneIn K "reversed" && (noneIn K "sorted" && (noneIn K "isinstance" &&
  (c.attrs.all (fun p => at'.lookup p.2 == some p.1 && (plainGet K C p.1 && ((match findIn K (.ref C) p.1 with | some at' => noGet K at' | none => false) && (takerIn K C p.1 == some none && (hasDictIn K C && (findIn K (.ref C) "__setattr__" == some (some (.builtin "object.__setattr__")) && plainOver K C)))))) &&
  c.mths.all (fun p => match fa p.2 with | some a => plainGet K C p.1 && (findIn K (.ref C) p.1 == some (some (.ref a)) && (isFn K (.ref a) && (keepIn K (.ref a) && at'.all (fun q => !(q.2 == p.1))))) | none => false))))))))))

set_option tactic.hygienic false in
theorem lookup_none_of_all {at' : List (Nat × Str)} {x : Str} (h : at'.all (fun q => !(q.2 == x)) = true) : ∀ k, at'.lookup k ≠ some x := fun k e => by
  have := List.all_eq_true.mp h _ (lookup_mem' e)
  simp at this

set_option tactic.hygienic false in
theorem boot_blt : ∀ p ∈ bltName, bootBuiltins p.1 = some (bltVal p.2) ∧ p.1 ≠ "__name__" := by
  intro p hp
  simp only [bltName, List.mem_cons, List.not_mem_nil, or_false] at hp
  rcases hp with rfl | rfl | rfl | rfl | rfl | rfl | rfl | rfl <;> exact ⟨by kernel_rfl, by decide⟩
set_option tactic.hygienic false in
theorem boot_ty : ∀ p ∈ tyName, (∀ y, tyVal p.2 = some y → bootBuiltins p.1 = some y) ∧ p.1 ≠ "__name__" := by
  intro p hp
  simp only [tyName, List.mem_cons, List.not_mem_nil, or_false] at hp
  rcases hp with rfl | rfl | rfl | rfl <;> exact ⟨fun y h => by cases h; kernel_rfl, by decide⟩

theorem glob_of {g : Cfg} {K : Frag} {c : CE} {fa : Nat → Option Addr} {mg mb : Str → Option Value} (KX : K.In g.b) (Tg : g.b.Ns mainGlobals mg) (Tb : g.b.Ns builtinsNs mb) (hb : ∀ x : Str, x ≠ "__name__" → mb x = bootBuiltins x) (chk : chkG K c g.C g.at' fa = true)
    (hLam : ∀ a, c.lam = some a → ∃ mg, g.b.Ns mainGlobals mg ∧ CodeHd g.b a g.tab ∧ g.b.NoLimit ∧ g.b.BuiltinsAt mg g.tab ∧ mainGlobals ≠ g.tab) : Glob g K c fa := by
  simp only [chkG, Bool.and_eq_true, List.all_eq_true] at chk
  obtain ⟨k1, k2, k3, k4, k5, k6, k7, k8, k9, k10, k11⟩ := chk
  have bl : ∀ (x : Str) (v : Value), noneIn K x = true → bootBuiltins x = some v → x ≠ "__name__" → GV g x v := fun x v h1 h2 h3 =>
    ⟨mg, mb, Tg, Tb, .inr ⟨ns_none_of KX Tg (eq_of_beq h1), by rw [hb x h3, h2]⟩⟩
  have gl : ∀ (x : Str) (v : Value), nsIn K mainGlobals x = some (some v) → GV g x v := fun x v h => ⟨mg, mb, Tg, Tb, .inl (mg_of KX Tg h)⟩
  refine ⟨⟨?_⟩, KX, fun x i h => ?_, fun x k h => ?_, fun x k h => ?_, fun x k h => ?_, fun x b h => ?_, fun x t y h hy => ?_, bl _ _ k6 (by kernel_rfl) (by decide), bl _ _ k7 (by kernel_rfl) (by decide), bl _ _ k8 (by kernel_rfl) (by decide), bl _ _ k9 (by kernel_rfl) (by decide), fun x k h => ?_, fun x k h => ?_, fun x k h => ?_, hLam, fun x f h => ?_⟩
  · have := Tg.lt
    exact Nat.lt_trans (by decide) this
  · have := k1 _ (lookup_mem' h)
    split at this
    · rename_i j t hq
      have e := eq_of_beq this
      simp only at e
      subst e
      exact ⟨t, gl _ _ hq⟩
    · cases this
  · have := k2 _ (lookup_mem' h)
    split at this
    · rename_i a ha
      simp only [Bool.and_eq_true] at this
      exact ⟨a, gl _ _ (eq_of_beq this.1), ha, this.2⟩
    · cases this
  · have := k3 _ (lookup_mem' h)
    split at this
    · rename_i a ha
      simp only [Bool.and_eq_true] at this
      obtain ⟨q1, q2, q3, q4, q5, q6⟩ := this
      exact ⟨a, gl _ _ (eq_of_beq q1), ha, q2, q3, eq_of_beq q4, q5⟩
    · cases this
  · have := k3 _ (lookup_mem' h)
    split at this
    · simp only [Bool.and_eq_true] at this
      exact this.2.2.2.2.2
    · cases this
  · have hm := lookup_mem' h
    obtain ⟨q1, q2⟩ := boot_blt _ hm
    exact bl _ _ (k4 _ hm) q1 q2
  · have hm := lookup_mem' h
    obtain ⟨q1, q2⟩ := boot_ty _ hm
    exact bl _ _ (k5 _ hm) (q1 y hy) q2
  · have := k10 _ (lookup_mem' h)
    simp only [Bool.and_eq_true] at this
    obtain ⟨q1, q2, q3, q4, q5, q6, q7⟩ := this
    refine ⟨eq_of_beq q1, q2, ?_⟩
    split at q3
    · rename_i at2 hq
      exact ⟨at2, hq, q3, eq_of_beq q4⟩
    · cases q3
  · have := k10 _ (lookup_mem' h)
    simp only [Bool.and_eq_true] at this
    exact this.2.2.2.2.1
  · have := k10 _ (lookup_mem' h)
    simp only [Bool.and_eq_true] at this
    exact ⟨eq_of_beq this.2.2.2.2.2.1, this.2.2.2.2.2.2⟩
  · have := k11 _ (lookup_mem' h)
    split at this
    · rename_i a ha
      simp only [Bool.and_eq_true] at this
      obtain ⟨q1, q2, q3, q4, q5⟩ := this
      exact ⟨a, ha, q1, eq_of_beq q2, q3, q4, lookup_none_of_all q5⟩
    · cases this

set_option tactic.hygienic false in
theorem attInj_of {g : Cfg} (h : (g.at'.map (·.2)).Nodup) (h' : (g.at'.map (·.1)).Nodup) : AttInj g := fun k k' x e1 e2 => by
  have m1 := lookup_mem' e1
  have m2 := lookup_mem' e2
  obtain ⟨i, hi, e3⟩ := List.getElem_of_mem m1
  obtain ⟨j, hj, e4⟩ := List.getElem_of_mem m2
  have : i = j := by
    apply (List.getElem_inj h (h₀ := by simpa using hi) (h₁ := by simpa using hj)).mp
    simp [e3, e4]
  subst this
  rw [e3] at e4; cases e4; rfl
end Mine

set_option autoImplicit false
set_option maxRecDepth 100000
set_option linter.unusedVariables false
namespace Mine
open PySem PyProof.Rows PySem.W

noncomputable def Pof (K : Frag) (c : Nat → CE) (fa : Nat → Option Addr) (k : Nat) : Option Fn := (fa k).bind fun a => compFn K (c k) a

set_option tactic.hygienic false in
theorem ints_rep {as : List Addr} {h : Heap} : ∀ {vs : List Value} {is : List Int}, IntsAre vs is → RepVs as h (is.map V.int) vs := by
  intro vs is hi
  induction hi with
  | nil => rw [List.map_nil, RepVs]
  | cons n t _ ih => rw [List.map_cons, RepVs]; exact ⟨_, _, rfl, by rw [RepV]; exact ⟨t, rfl⟩, ih⟩

set_option tactic.hygienic false in
theorem joinT {prog : Program} {w : World} {K : Frag} {c : Nat → CE} {C : Addr} {at' : List (Nat × Str)} {fa : Nat → Option Addr} {mg mb : Str → Option Value} {s₁ : Shared} {scr a ca P : Addr} {vs : List Value} {is : List Int} {wf n lawI : Nat} {σ' : Sto}
    (KX : K.In s₁.heap) (Tg : s₁.heap.Ns mainGlobals mg) (Tb : s₁.heap.Ns builtinsNs mb) (hb : ∀ x : Str, x ≠ "__name__" → mb x = bootBuiltins x) (lim : s₁.heap.NoLimit)
    (hl : s₁.heap.get? scr = some { cls := .type "list", data := .seq vs.toArray }) (hi : IntsAre vs is) (hlen : is.length ≤ 63)
    (hT : TabsAt [(ca, P)] s₁.heap) (hB : ∃ bm ob, mg "__builtins__" = some (.ref bm) ∧ bm ≠ builtinsNs ∧ s₁.heap.get? bm = some ob ∧ ob.cls = .type "module" ∧ ob.dict = some builtinsNs ∧ ob.data = .plain)
    (hK : K.all (fun p => !(p.2.cls == .type "list") && !(p.1 == P)) = true) (chk : ∀ k, chkG K (c k) C at' fa = true) (hat : (at'.map (·.2)).Nodup) (hat' : (at'.map (·.1)).Nodup) (hfa : fa lawI = some a) (hA : Room callerA (2 * n))
    (hl0 : ∀ k x, (c k).lam = some x → x = ca)
    (ev : evFn (Pof K c fa) wf n lawI [.ref 0] [.frz (is.map V.int), .tab false] = .ok (.bool true) σ') (h0 : σ'[0]? = some (.frz (is.map V.int))) (h1 : ∃ b, σ'[1]? = some (.tab b))
    {R : Result → Shared → Prop} (hR : ∀ h' tk, (∀ (b : Addr) (o : Obj), (ghostOf s₁.heap [(ca, P)]).get? b = some o → h'.get? b = some o) → GrownAll [(ca, P)] h' → R (.ok (.ret (.bool true))) { s₁ with heap := h', toks := tk }) :
    codeAny (model prog w) callerA (.call (.ref a) ⟨[.ref scr], []⟩) R s₁ := by
  have lk : ∀ {α β : Type} [BEq α] [LawfulBEq α] {l : List (α × β)} {x : α} {y : β}, l.lookup x = some y → (x, y) ∈ l := fun e => lookup_mem' e
  have hPo : s₁.heap.get? P = some (tabObj #[]) := (hT (ca, P) (.head _)).2
  have hCo : CodeHd s₁.heap ca P := (hT (ca, P) (.head _)).1
  have nsne : ∀ (b : Addr) (m : Str → Option Value), s₁.heap.Ns b m → b ≠ scr ∧ b ≠ P := fun b m ⟨o, es, ep, e, d, _⟩ => ⟨fun q => (by rw [q, hl] at e; cases e; cases d), fun q => (by rw [q, hPo] at e; cases e; cases d)⟩
  have hide : ∀ (b : Addr) (o : Obj), b ≠ scr ∧ b ≠ P → s₁.heap.get? b = some o → (hideAll s₁.heap [scr, P]).get? b = some o := fun b o hb e => hideAll_get [scr, P] e (by simpa using hb)
  have hsP : scr ≠ P := fun q => by rw [q, hPo] at hl; cases hl
  let g : Cfg := { prog := prog, w := w, b := hideAll s₁.heap [scr, P], C := C, at' := at', scr := { cls := .type "list", data := .seq vs.toArray }, tab := P }
  have KX' : K.In g.b := fun b o e => by
    have e1 := KX b o e
    have h2 := List.all_eq_true.mp hK _ (lk e)
    obtain ⟨h3, h4⟩ := and_inv h2
    refine hide b o ⟨fun q => ?_, fun q => ?_⟩ e1
    · rw [q, hl] at e1; cases e1
      exact tf (not_inv h3)
    · rw [q] at h4
      simp at h4
  have Tg' : g.b.Ns mainGlobals mg := Tg.at' fun o e => hide _ o (nsne _ _ Tg) e
  have Tb' : g.b.Ns builtinsNs mb := Tb.at' fun o e => hide _ o (nsne _ _ Tb) e
  have lim' : g.b.NoLimit := lim.at fun o e => hide _ o (by obtain ⟨m, hm, _⟩ := lim; exact nsne _ _ hm) e
  have C' : CodeHd g.b ca P := by
    obtain ⟨o, vs', file, tf', flags, tg, inF, text, tt, e1, q1, q2, q3, q4, q5, q6, q7, q8, q9⟩ := hCo
    exact ⟨o, vs', file, tf', flags, tg, inF, text, tt, hide _ _ ⟨fun q => (by rw [q, hl] at e1; cases e1; exact absurd (show Value.type "list" = .type "code" from q1) (by decide)), q9⟩ e1, q1, q2, q3, q4, q5, q6, q7, q8, q9⟩
  have B' : g.b.BuiltinsAt mg P := by
    obtain ⟨bm, ob, b1, b2, b3, b4, b5, b6⟩ := hB
    have hP : bm ≠ P := fun q => by rw [q, hPo] at b3; cases b3; cases b4
    refine ⟨bm, ob, b1, b2, fun q => ?_, hP, hide _ _ ⟨fun q => (by rw [q, hl] at b3; cases b3; exact absurd (show Value.type "list" = .type "module" from b4) (by decide)), hP⟩ b3, b4, b5, b6⟩
    obtain ⟨o, es, ep, e, d, _⟩ := Tg
    rw [q, e] at b3; cases b3; rw [d] at b6; cases b6
  have G : ∀ k, Glob g K (c k) fa := fun k => glob_of KX' Tg' Tb' hb (chk k) fun x h => by
    rw [hl0 k x h]
    exact ⟨mg, Tg', C', lim', B', (nsne _ _ Tg).2⟩
  have J : AttInj g := attInj_of hat hat'
  have CA := call_all (P := Pof K c fa) (wf := wf) c G J lim' (fun k a' h => by unfold Pof; rw [h]; rfl) n
  have R0 : Rel g [scr, P] [.frz (is.map V.int), .tab false] s₁.heap := by
    refine ⟨fun b o e => of_hideAll [scr, P] e, rfl, by simpa using hsP, fun b hb => ?_, fun i b o e1 e2 => ?_⟩
    · exact hideAll_none [scr, P] hb
    · rcases i with _ | _ | i
      · simp at e1 e2; subst e1; subst e2
        exact ⟨vs.toArray, 0, hl, rfl, by simpa using ints_rep hi, by simp; lia⟩
      · simp at e1 e2; subst e1; subst e2
        exact ⟨rfl, #[], hPo, fun _ => rfl⟩
      · simp at e1
  refine CA lawI a [.ref 0] _ σ' (.bool true) hfa ev callerA s₁ [scr, P] [.ref scr] R hA R0 (by rw [hideAll_size]; exact Nat.le_refl _) (by rw [RepVs]; exact ⟨_, _, rfl, by rw [RepV]; exact ⟨scr, rfl, rfl⟩, by rw [RepVs]⟩) fun val as' h' tk st R' r' => ?_
  rw [RepV] at r'; subst r'
  refine hR h' tk (fun b o e => ?_) ⟨?_, trivial⟩
  · have e' : s₁.heap.get? b = some o := of_hideAll [P] e
    have hbP : b ≠ P := fun q => by
      subst q
      have := hideAll_none (h := s₁.heap) [b] (List.mem_singleton.mpr rfl)
      have e2 : (hideAll s₁.heap [b]).get? b = some o := e
      rw [this] at e2; cases e2
    by_cases hbs : b = scr
    · subst hbs
      obtain ⟨items, nn', q1, q2, _⟩ := R'.obj 0 b _ (st.get rfl) h0
      rw [hl] at e'; cases e'
      exact q1
    · exact R'.base b o (hide b o ⟨hbs, hbP⟩ e')
  · obtain ⟨b, h1⟩ := h1
    obtain ⟨_, ps, q, _⟩ := R'.obj 1 P _ (st.get rfl) h1
    exact ⟨ps, q⟩
set_option tactic.hygienic false in
theorem shape_true : WShape.has [] (WData.bool true) .bool = true := by first | rfl | decide +kernel | simp [WShape.has]
set_option tactic.hygienic false in
theorem same_true : same (WData.bool true) (WData.bool true) = true := by first | rfl | decide +kernel | simp [same]
set_option tactic.hygienic false in
theorem law_post (l : OpenLaw) (a b : List WData) : l.row.toRowW.claim.post a (.bool true) b = true := by
  show (WShape.has [] (WData.bool true) .bool && (WTm.eq .res (.lit (.bool true))).holds [] { args := a, res := some (.bool true), after := b }) = true
  rw [shape_true]
  simp only [WTm.holds, WTm.value, same_true]
  rfl

set_option tactic.hygienic false in
theorem list_obj {P : Params} {h : Heap} {l : Addr} {vs : List Value} {ds : List PyData} (w : Well P h (.ref l) (ofPy (.list ds))) (hL : h.IsList l vs.toArray) : h.get? l = some { cls := .type "list", data := .seq vs.toArray } := by
  unfold ofPy at w
  cases w with
  | list ho _ =>
    obtain ⟨o, ho', hc, n, hd⟩ := hL
    rw [ho] at ho'; cases ho'; cases hd
    exact ho
end Mine

set_option autoImplicit false
set_option linter.unusedVariables false
set_option linter.unusedSimpArgs false
namespace Mine
open PySem

section
variable {P : Nat → Option Fn} {call : Nat → List V → Sto → RE} {wf n : Nat} {fr fr' : Fra} {σ σ1 σ' : Sto} {ss : List S} {a t : E} {v : V} {r : RS}

end

section
variable {test : Fra → Sto → RE} {body : Fra → Sto → RS} {n : Nat} {fr fr2 : Fra} {σ σ1 σ2 : Sto} {r : RS}
end

end Mine

set_option autoImplicit false
set_option linter.unusedVariables false
namespace Mine

abbrev Way := Nat × Nat × Nat

noncomputable def upd {α : Type} (f : Nat → α) (e : Nat) (x : α) : Nat → α := fun v => if v = e then x else f v
set_option tactic.hygienic false in
theorem upd_self {α : Type} {f : Nat → α} {e : Nat} {x : α} : upd f e x e = x := if_pos rfl
set_option tactic.hygienic false in
theorem upd_ne {α : Type} {f : Nat → α} {e v : Nat} {x : α} (h : v ≠ e) : upd f e x v = f v := if_neg h

structure St where
  S : Nat → Int
  B : Nat → Nat
  last : Option Nat
  T : Nat → Nat
  W : Nat → Nat

noncomputable def wanted (num div : Int) (S : Nat → Int) (w : Way) : Int := S w.1 + div * w.2.2 - num
noncomputable def relax (num div : Int) (t : Nat) (st : St) (w : Way) : St :=
  if st.S w.2.1 < wanted num div st.S w then ⟨upd st.S w.2.1 (wanted num div st.S w), upd st.B w.2.1 w.1, some w.2.1, upd st.T w.2.1 t, upd st.W w.2.1 w.2.2⟩ else st

def Settled (num div : Int) (S : Nat → Int) (w : Way) : Prop := wanted num div S w ≤ S w.2.1

def Cyc (B : Nat → Nat) : List Nat → Prop
  | [] => False
  | v :: r => (v :: r).map B = r ++ [v]

noncomputable def csum (f : Nat → Int) (c : List Nat) : Int := (c.map f).sum
set_option tactic.hygienic false in
theorem csum_cons {f : Nat → Int} {v : Nat} {c : List Nat} : csum f (v :: c) = f v + csum f c := by unfold csum; rw [List.map_cons, List.sum_cons]
set_option tactic.hygienic false in
theorem csum_app {f : Nat → Int} : ∀ {c d : List Nat}, csum f (c ++ d) = csum f c + csum f d
  | [], d => by unfold csum; simp
  | v :: c, d => by rw [List.cons_append, csum_cons, csum_cons, csum_app]; lia
set_option tactic.hygienic false in
theorem csum_map {f : Nat → Int} {B : Nat → Nat} {c : List Nat} : csum (fun v => f (B v)) c = csum f (c.map B) := by unfold csum; rw [List.map_map]; rfl
set_option tactic.hygienic false in
theorem csum_cyc {f : Nat → Int} {B : Nat → Nat} : ∀ {c : List Nat}, Cyc B c → csum (fun v => f (B v)) c = csum f c
  | v :: r, h => by
    have h : (v :: r).map B = r ++ [v] := h
    rw [csum_map, h, csum_app, csum_cons, csum_cons]; unfold csum; simp; lia
set_option tactic.hygienic false in
theorem csum_le {f g : Nat → Int} : ∀ {c : List Nat}, (∀ v ∈ c, f v ≤ g v) → csum f c ≤ csum g c
  | [], _ => Int.le_refl _
  | v :: c, h => by
    rw [csum_cons, csum_cons]
    have h1 := h v (.head _)
    have h2 := csum_le (c := c) fun w hw => h w (.tail _ hw)
    lia
set_option tactic.hygienic false in
theorem csum_lt {f g : Nat → Int} : ∀ {c : List Nat}, (∀ v ∈ c, f v ≤ g v) → (∃ v ∈ c, f v < g v) → csum f c < csum g c
  | [], _, h => by obtain ⟨_, h, _⟩ := h; cases h
  | v :: c, h, ⟨w, hw, hlt⟩ => by
    rw [csum_cons, csum_cons]
    have h1 := h v (.head _)
    rcases List.mem_cons.mp hw with rfl | hw
    · have h2 := csum_le (c := c) fun w hw => h w (.tail _ hw)
      lia
    · have h2 := csum_lt (c := c) (fun w hw => h w (.tail _ hw)) ⟨w, hw, hlt⟩
      lia
set_option tactic.hygienic false in
theorem csum_add {f g : Nat → Int} : ∀ {c : List Nat}, csum (fun v => f v + g v) c = csum f c + csum g c
  | [] => rfl
  | v :: c => by rw [csum_cons, csum_cons, csum_cons, csum_add]; lia
set_option tactic.hygienic false in
theorem cyc_eq {B B' : Nat → Nat} : ∀ {c : List Nat}, (∀ v ∈ c, B v = B' v) → Cyc B c → Cyc B' c
  | v :: r, h, hc => by
    show (v :: r).map B' = r ++ [v]
    rw [← List.map_congr_left h]; exact hc

structure Inv (ws : List Way) (num div : Int) (t i : Nat) (st : St) : Prop where
  A : ∀ v, 1 ≤ st.T v → (st.B v, v, st.W v) ∈ ws ∧ st.S v ≤ wanted num div st.S (st.B v, v, st.W v)
  le : ∀ v, st.T v ≤ t
  ch : ∀ v, 2 ≤ st.T v → st.T v ≤ st.T (st.B v) + 1
  s1 : ∀ w ∈ ws, st.T w.1 + 2 ≤ t → Settled num div st.S w
  s2 : ∀ j w, ws[j]? = some w → j < i → st.T w.1 + 1 ≤ t → Settled num div st.S w
  D : ∀ c : List Nat, (∀ v ∈ c, 1 ≤ st.T v) → Cyc st.B c → 0 < csum (fun v => div * st.W v - num) c
  lN : st.last = none → ∀ v, st.T v + 1 ≤ t
  lS : ∀ e, st.last = some e → st.T e = t

set_option tactic.hygienic false in
theorem wanted_upd_le {num div : Int} {S : Nat → Int} {e : Nat} {x : Int} {w : Way} (h : S e ≤ x) : wanted num div S w ≤ wanted num div (upd S e x) w := by
  unfold wanted
  by_cases hb : w.1 = e
  · rw [hb, upd_self]; lia
  · rw [upd_ne hb]; exact Int.le_refl _

set_option tactic.hygienic false in
theorem relax_inv {ws : List Way} {num div : Int} {t i : Nat} {st : St} {w : Way} (ht : 1 ≤ t) (I : Inv ws num div t i st) (hw : ws[i]? = some w) : Inv ws num div t (i + 1) (relax num div t st w) := by
  have hmem := List.mem_of_getElem? hw
  obtain ⟨b, e, d⟩ := w
  unfold relax
  by_cases hlt : st.S e < wanted num div st.S (b, e, d)
  · rw [if_pos hlt]
    have mono : ∀ v, st.S v ≤ upd st.S e (wanted num div st.S (b, e, d)) v := fun v => by
      by_cases hv : v = e
      · subst hv; rw [upd_self]; lia
      · rw [upd_ne hv]; exact Int.le_refl _
    have wm : ∀ u, wanted num div st.S u ≤ wanted num div (upd st.S e (wanted num div st.S (b, e, d))) u := fun u => wanted_upd_le (Int.le_of_lt hlt)
    have hb : t ≤ st.T b + 1 := by
      apply Decidable.byContradiction
      intro hn
      have h9 : wanted num div st.S (b, e, d) ≤ st.S e := I.s1 _ hmem (show st.T b + 2 ≤ t by lia)
      lia
    have Tm : ∀ v, st.T v ≤ upd st.T e t v := fun v => by
      by_cases hv : v = e
      · subst hv; rw [upd_self]; exact I.le _
      · rw [upd_ne hv]; exact Nat.le_refl _
    have keep : ∀ u : Way, upd st.T e t u.1 + 1 ≤ t → Settled num div st.S u → Settled num div (upd st.S e (wanted num div st.S (b, e, d))) u := fun u hu hs => by
      have hne : u.1 ≠ e := fun q => by rw [q, upd_self] at hu; lia
      unfold Settled wanted at hs ⊢
      rw [upd_ne hne]
      exact Int.le_trans hs (mono _)
    refine ⟨fun v hv => ?_, fun v => ?_, fun v hv => ?_, fun u hu h2 => ?_, fun j u hu hj h2 => ?_, fun c hc hy => ?_, (fun q => nomatch q), fun q hq => ?_⟩
    · show (upd st.B e b v, v, upd st.W e d v) ∈ ws ∧ upd st.S e (wanted num div st.S (b, e, d)) v ≤ wanted num div (upd st.S e (wanted num div st.S (b, e, d))) (upd st.B e b v, v, upd st.W e d v)
      by_cases he : v = e
      · subst he
        rw [upd_self, upd_self, upd_self]
        exact ⟨hmem, wm _⟩
      · rw [upd_ne he, upd_ne he, upd_ne he]
        have hv' : 1 ≤ st.T v := by
          have : 1 ≤ upd st.T e t v := hv
          rw [upd_ne he] at this; exact this
        have := I.A v hv'
        exact ⟨this.1, Int.le_trans this.2 (wm _)⟩
    · show upd st.T e t v ≤ t
      by_cases he : v = e
      · subst he; rw [upd_self]; exact Nat.le_refl _
      · rw [upd_ne he]; exact I.le v
    · show upd st.T e t v ≤ upd st.T e t (upd st.B e b v) + 1
      by_cases he : v = e
      · subst he
        rw [upd_self, upd_self]
        have := Tm b; lia
      · have hv' : 2 ≤ st.T v := by
          have : 2 ≤ upd st.T e t v := hv
          rw [upd_ne he] at this; exact this
        rw [upd_ne he, upd_ne he]
        have h1 := I.ch v hv'
        have h2 := Tm (st.B v); lia
    · have h2' : upd st.T e t u.1 + 2 ≤ t := h2
      refine keep u (by lia) (I.s1 u hu ?_)
      have := Tm u.1; lia
    · have h2' : upd st.T e t u.1 + 1 ≤ t := h2
      have hT := Tm u.1
      by_cases hji : j = i
      · subst hji
        rw [hw] at hu; cases hu
        have hne : b ≠ e := fun q => by
          have h3 : upd st.T e t b + 1 ≤ t := h2'
          rw [q, upd_self] at h3; lia
        show wanted num div (upd st.S e (wanted num div st.S (b, e, d))) (b, e, d) ≤ upd st.S e (wanted num div st.S (b, e, d)) e
        rw [upd_self]; unfold wanted
        rw [upd_ne hne]; exact Int.le_refl _
      · exact keep u h2' (I.s2 j u hu (by lia) (by lia))
    · have hc' : ∀ v ∈ c, v ≠ e → 1 ≤ st.T v := fun v hv he => by
        have : 1 ≤ upd st.T e t v := hc v hv
        rw [upd_ne he] at this; exact this
      show 0 < csum (fun v => div * (upd st.W e d v : Nat) - num) c
      by_cases hec : e ∈ c
      · have key : csum st.S c < csum (fun v => st.S (upd st.B e b v) + (div * (upd st.W e d v : Nat) - num)) c := by
          refine csum_lt (fun v hv => ?_) ⟨e, hec, ?_⟩
          · by_cases he : v = e
            · subst he; rw [upd_self, upd_self]; unfold wanted at hlt; simp only at hlt; lia
            · rw [upd_ne he, upd_ne he]
              have := (I.A v (hc' v hv he)).2
              unfold wanted at this; simp only at this; lia
          · rw [upd_self, upd_self]; unfold wanted at hlt; simp only at hlt; lia
        rw [csum_add, csum_cyc (f := st.S) hy] at key
        lia
      · have hne : ∀ v ∈ c, v ≠ e := fun v hv q => hec (q ▸ hv)
        have e1 : csum (fun v => div * (upd st.W e d v : Nat) - num) c = csum (fun v => div * (st.W v : Nat) - num) c := by
          unfold csum
          exact congrArg List.sum (List.map_congr_left fun v hv => by rw [upd_ne (hne v hv)])
        rw [e1]
        exact I.D c (fun v hv => hc' v hv (hne v hv)) (cyc_eq (fun v hv => upd_ne (hne v hv)) hy)
    · cases hq; exact upd_self
  · rw [if_neg hlt]
    refine ⟨I.A, I.le, I.ch, I.s1, fun j u hu hj h2 => ?_, I.D, I.lN, I.lS⟩
    by_cases hji : j = i
    · subst hji
      rw [hw] at hu; cases hu
      exact Int.not_lt.mp hlt
    · exact I.s2 j u hu (by lia) h2
end Mine

set_option autoImplicit false
set_option linter.unusedVariables false
namespace Mine

set_option tactic.hygienic false in
theorem start_inv {ws : List Way} {num div : Int} {B W : Nat → Nat} : Inv ws num div 1 0 ⟨fun _ => 0, B, none, fun _ => 0, W⟩ := by
  refine ⟨fun v h => absurd (show 1 ≤ 0 from h) (by decide), fun v => Nat.zero_le _, fun v h => absurd (show 2 ≤ 0 from h) (by decide), fun w _ h => absurd (show 0 + 2 ≤ 1 from h) (by decide), fun j w _ h => absurd h (Nat.not_lt_zero _), fun c hc hy => ?_, fun _ v => Nat.le_refl _, fun e h => nomatch h⟩
  cases c with
  | nil => exact hy.elim
  | cons v c => exact absurd (show 1 ≤ 0 from hc v (.head _)) (by decide)
set_option tactic.hygienic false in
theorem next_inv {ws : List Way} {num div : Int} {t : Nat} {st : St} (I : Inv ws num div t ws.length st) : Inv ws num div (t + 1) 0 { st with last := none } := by
  refine ⟨I.A, fun v => Nat.le_succ_of_le (I.le v), I.ch, fun w hw h => ?_, fun j w _ h => absurd h (Nat.not_lt_zero _), I.D, fun _ v => Nat.succ_le_succ (I.le v), fun e h => nomatch h⟩
  obtain ⟨j, hj, rfl⟩ := List.getElem_of_mem hw
  have h : st.T (ws[j]).1 + 2 ≤ t + 1 := h
  exact I.s2 j _ (List.getElem?_eq_getElem hj) hj (by lia)
set_option tactic.hygienic false in
theorem end_none {ws : List Way} {num div : Int} {t : Nat} {st : St} (I : Inv ws num div t ws.length st) (h : st.last = none) : ∀ w ∈ ws, Settled num div st.S w := fun w hw => by
  obtain ⟨j, hj, rfl⟩ := List.getElem_of_mem hw
  exact I.s2 j _ (List.getElem?_eq_getElem hj) hj (I.lN h _)

noncomputable def iter (B : Nat → Nat) : Nat → Nat → Nat
  | 0, v => v
  | n + 1, v => B (iter B n v)
set_option tactic.hygienic false in
theorem iter_add {B : Nat → Nat} {v : Nat} (a : Nat) : ∀ b, iter B (a + b) v = iter B b (iter B a v)
  | 0 => rfl
  | b + 1 => by show B (iter B (a + b) v) = B (iter B b (iter B a v)); rw [iter_add a b]
set_option tactic.hygienic false in
theorem nodup_lt : ∀ (m : Nat) (l : List Nat), l.Nodup → (∀ x ∈ l, x < m) → l.length ≤ m
  | 0, [], _, _ => Nat.le_refl _
  | 0, x :: _, _, h => absurd (h x (.head _)) (Nat.not_lt_zero _)
  | m + 1, l, nd, h => by
    by_cases hm : m ∈ l
    · have h1 := nodup_lt m (l.erase m) (nd.erase m) fun x hx => by
        have h2 := (nd.mem_erase_iff.mp hx)
        have := h x h2.2
        have := h2.1
        lia
      rw [List.length_erase_of_mem hm] at h1
      lia
    · have := nodup_lt m l nd fun x hx => by
        have h1 := h x hx
        have : x ≠ m := fun q => hm (q ▸ hx)
        lia
      lia
set_option tactic.hygienic false in
theorem pigeon {m : Nat} {f : Nat → Nat} (h : ∀ j, j ≤ m → f j < m) : ∃ i j, i < j ∧ j ≤ m ∧ f i = f j := by
  apply Classical.byContradiction
  intro hn
  have nd : ((List.range (m + 1)).map f).Nodup := by
    rw [List.Nodup, List.pairwise_iff_getElem]
    intro i j hi hj hij e
    simp only [List.length_map, List.length_range] at hi hj
    simp only [List.getElem_map, List.getElem_range] at e
    exact hn ⟨i, j, hij, by lia, e⟩
  have := nodup_lt m _ nd fun x hx => by
    obtain ⟨j, hj, rfl⟩ := List.mem_map.mp hx
    exact h j (by have := List.mem_range.mp hj; lia)
  rw [List.length_map, List.length_range] at this
  lia
set_option tactic.hygienic false in
theorem least {P : Nat → Prop} (h : ∃ n, P n) : ∃ n, P n ∧ ∀ k, k < n → ¬ P k := by
  apply Classical.byContradiction
  intro hn
  obtain ⟨n, hp⟩ := h
  have : ∀ n, ¬ P n := fun n => Nat.strongRecOn n fun n ih hp => hn ⟨n, hp, ih⟩
  exact this n hp

set_option tactic.hygienic false in
theorem per_of {B : Nat → Nat} {e i p : Nat} (e1 : iter B i e = iter B (i + p) e) {n : Nat} (hn : i ≤ n) : iter B (n + p) e = iter B n e := by
  obtain ⟨k, rfl⟩ := Nat.exists_eq_add_of_le hn
  rw [Nat.add_right_comm, iter_add, ← e1, ← iter_add]
set_option tactic.hygienic false in
theorem all_of {B T : Nat → Nat} {e i p m : Nat} (e1 : iter B i e = iter B (i + p) e) (hp : 1 ≤ p) (hj : i + p ≤ m) (hT : ∀ j, j ≤ m → 1 ≤ T (iter B j e)) (k : Nat) : 1 ≤ T (iter B k e) := by
  induction k using Nat.strongRecOn with
  | _ k ih =>
    by_cases hk : k ≤ m
    · exact hT k hk
    · have h1 : p ≤ k ∧ i ≤ k - p ∧ k - p < k := by clear e1 hT ih; lia
      have := per_of e1 h1.2.1
      rw [Nat.sub_add_cancel h1.1] at this
      rw [this]
      exact ih _ h1.2.2
set_option tactic.hygienic false in
theorem behind_ring {ws : List Way} {num div : Int} {m : Nat} {st : St} {e : Nat} (hm : ∀ w ∈ ws, w.2.1 < m) (I : Inv ws num div (m + 1) ws.length st) (hl : st.last = some e) :
    ∃ q, 1 ≤ q ∧ q ≤ m ∧ iter st.B q (iter st.B m e) = iter st.B m e ∧ (∀ k, 1 ≤ k → k < q → iter st.B k (iter st.B m e) ≠ iter st.B m e) ∧ ∀ k, 1 ≤ st.T (iter st.B k e) := by
  have hT : ∀ j, j ≤ m → m + 1 ≤ st.T (iter st.B j e) + j := by
    intro j
    induction j with
    | zero => intro _; show m + 1 ≤ st.T e + 0; rw [I.lS e hl]; exact Nat.le_refl _
    | succ j ih =>
      intro hj
      have h1 := ih (Nat.le_of_lt hj)
      have h2 := I.ch _ (Nat.le_of_add_le_add_right (b := j) (Nat.le_trans (by rw [Nat.add_comm 2]; exact Nat.succ_le_succ hj) h1))
      show m + 1 ≤ st.T (st.B (iter st.B j e)) + (j + 1)
      rw [Nat.add_comm j 1, ← Nat.add_assoc]
      exact Nat.le_trans h1 (Nat.add_le_add_right h2 _)
  have hT1 : ∀ j, j ≤ m → 1 ≤ st.T (iter st.B j e) := fun j hj => Nat.le_of_add_le_add_right (b := j) (Nat.le_trans (by rw [Nat.add_comm]; exact Nat.succ_le_succ hj) (hT j hj))
  obtain ⟨i, j, hij, hj, e1⟩ := pigeon (f := fun j => iter st.B j e) fun j hj => hm _ (I.A _ (hT1 j hj)).1
  obtain ⟨p, rfl⟩ := Nat.exists_eq_add_of_lt hij
  have e1 : iter st.B i e = iter st.B (i + (p + 1)) e := e1
  have p0 : iter st.B (p + 1) (iter st.B m e) = iter st.B m e := by rw [← iter_add]; exact per_of e1 (Nat.le_trans (Nat.le_of_lt hij) hj)
  obtain ⟨q, ⟨q1, q2⟩, q3⟩ := least (P := fun q => 1 ≤ q ∧ iter st.B q (iter st.B m e) = iter st.B m e) ⟨p + 1, Nat.succ_pos _, p0⟩
  refine ⟨q, q1, Nat.le_of_not_lt fun hn => q3 (p + 1) (Nat.lt_of_le_of_lt (Nat.le_trans (Nat.le_add_left _ i) hj) hn) ⟨Nat.succ_pos _, p0⟩, q2, fun k k1 k2 q => q3 k k2 ⟨k1, q⟩, all_of e1 (Nat.succ_pos _) hj hT1⟩

noncomputable def backs (B : Nat → Nat) (u : Nat) (q : Nat) : List Nat := (List.range q).map fun k => iter B k u
set_option tactic.hygienic false in
theorem backs_len {B : Nat → Nat} {u q : Nat} : (backs B u q).length = q := by unfold backs; rw [List.length_map, List.length_range]
set_option tactic.hygienic false in
theorem backs_get {B : Nat → Nat} {u q k : Nat} (h : k < q) : (backs B u q)[k]? = some (iter B k u) := by unfold backs; rw [List.getElem?_map, List.getElem?_range h]; rfl
set_option tactic.hygienic false in
theorem backs_succ {B : Nat → Nat} {u q : Nat} : backs B u (q + 1) = backs B u q ++ [iter B q u] := by unfold backs; rw [List.range_succ, List.map_append]; rfl
set_option tactic.hygienic false in
theorem backs_cyc {B : Nat → Nat} {u q : Nat} (hq : 1 ≤ q) (h : iter B q u = u) : Cyc B (backs B u q) := by
  obtain ⟨n, rfl⟩ : ∃ n, q = n + 1 := ⟨q - 1, by lia⟩
  have e1 : backs B u (n + 1) = u :: (List.range n).map fun k => iter B (k + 1) u := by
    unfold backs; rw [List.range_succ_eq_map, List.map_cons, List.map_map]; rfl
  rw [e1]
  show (u :: (List.range n).map fun k => iter B (k + 1) u).map B = ((List.range n).map fun k => iter B (k + 1) u) ++ [u]
  rw [← e1]
  unfold backs
  rw [List.map_map, List.range_succ, List.map_append]
  refine congr (congrArg _ ?_) ?_
  · rfl
  · show [B (iter B n u)] = [u]
    exact congrArg (fun x => [x]) h
set_option tactic.hygienic false in
theorem backs_nodup {B : Nat → Nat} {u q : Nat} (h : iter B q u = u) (hk : ∀ k, 1 ≤ k → k < q → iter B k u ≠ u) : (backs B u q).Nodup := by
  unfold backs
  rw [List.Nodup, List.pairwise_iff_getElem]
  intro i j hi hj hij e
  simp only [List.length_map, List.length_range] at hi hj
  simp only [List.getElem_map, List.getElem_range] at e
  -- go on from j to q: from i the same number of steps
  have a1 : iter B (q - j) (iter B j u) = u := by rw [← iter_add, show j + (q - j) = q by lia]; exact h
  rw [← e, ← iter_add] at a1
  exact hk (i + (q - j)) (by lia) (by lia) a1
end Mine

set_option autoImplicit false
set_option linter.unusedVariables false
namespace Mine
open PySem

section
variable {call : Nat → List V → Sto → RE} {wf : Nat} {fr fr1 fr2 fr' : Fra} {σ σ1 σ2 σ3 σ4 σ' : Sto} {a b c t : E} {es : List E} {v w x y z : V} {vs : List V} {i : Nat} {p q : Bool}

set_option tactic.hygienic false in
theorem e_none : evE call .none fr σ = .ok .none σ := rfl
set_option tactic.hygienic false in
theorem e_bool : evE call (.bool p) fr σ = .ok (.bool p) σ := rfl
set_option tactic.hygienic false in
theorem e_int {n : Int} : evE call (.int n) fr σ = .ok (.int n) σ := rfl
set_option tactic.hygienic false in
theorem e_pow {m n : Nat} : evE call (.pow m n) fr σ = .ok (.int ((m : Int) ^ n)) σ := rfl
set_option tactic.hygienic false in
theorem e_loc (h : fr[i]? = some (some v)) : evE call (.loc i) fr σ = .ok v σ := by
  show (match fr[i]? with | some (some v) => RE.ok v σ | _ => .bad) = _; rw [h]
set_option tactic.hygienic false in
theorem e_neg {n : Int} (h : evE call a fr σ = .ok (.int n) σ1) : evE call (.neg a) fr σ = .ok (.int (-n)) σ1 := by
  show (evE call a fr σ).bind _ = _; rw [h]; rfl
set_option tactic.hygienic false in
theorem e_not (h : evE call a fr σ = .ok (.bool p) σ1) : evE call (.not a) fr σ = .ok (.bool (!p)) σ1 := by
  show (evE call a fr σ).bind _ = _; rw [h]; rfl
set_option tactic.hygienic false in
theorem e_notF (h : evE call a fr σ = .ok (.bool false) σ1) : evE call (.not a) fr σ = .ok (.bool true) σ1 := e_not h
set_option tactic.hygienic false in
theorem e_notT (h : evE call a fr σ = .ok (.bool true) σ1) : evE call (.not a) fr σ = .ok (.bool false) σ1 := e_not h
set_option tactic.hygienic false in
theorem e_and_t {r : RE} (h : evE call a fr σ = .ok (.bool true) σ1) (h2 : evE call b fr σ1 = r) : evE call (.and a b) fr σ = r := by
  show (evE call a fr σ).bind _ = _; rw [h]; exact h2
set_option tactic.hygienic false in
theorem e_and_f (h : evE call a fr σ = .ok (.bool false) σ1) : evE call (.and a b) fr σ = .ok (.bool false) σ1 := by
  show (evE call a fr σ).bind _ = _; rw [h]; rfl
set_option tactic.hygienic false in
theorem e_or_f {r : RE} (h : evE call a fr σ = .ok (.bool false) σ1) (h2 : evE call b fr σ1 = r) : evE call (.or a b) fr σ = r := by
  show (evE call a fr σ).bind _ = _; rw [h]; exact h2
set_option tactic.hygienic false in
theorem e_or_t (h : evE call a fr σ = .ok (.bool true) σ1) : evE call (.or a b) fr σ = .ok (.bool true) σ1 := by
  show (evE call a fr σ).bind _ = _; rw [h]; rfl
set_option tactic.hygienic false in
theorem e_and (h : evE call a fr σ = .ok (.bool p) σ) (h2 : p = true → evE call b fr σ = .ok (.bool q) σ) : evE call (.and a b) fr σ = .ok (.bool (p && q)) σ := by
  cases p with
  | false => exact e_and_f h
  | true => exact e_and_t h (h2 rfl)
set_option tactic.hygienic false in
theorem e_or (h : evE call a fr σ = .ok (.bool p) σ) (h2 : p = false → evE call b fr σ = .ok (.bool q) σ) : evE call (.or a b) fr σ = .ok (.bool (p || q)) σ := by
  cases p with
  | true => exact e_or_t h
  | false => exact e_or_f h (h2 rfl)
set_option tactic.hygienic false in
theorem e_bin {op : Operator} {r : RE} (h1 : evE call a fr σ = .ok x σ1) (h2 : evE call b fr σ1 = .ok y σ2) (h3 : binV op x y σ2 = r) : evE call (.bin op a b) fr σ = r := by
  show (evE call a fr σ).bind _ = _; rw [h1]; show (evE call b fr σ1).bind _ = _; rw [h2]; exact h3
set_option tactic.hygienic false in
theorem e_cmp {op : CmpOp} (h1 : evE call a fr σ = .ok x σ1) (h2 : evE call b fr σ1 = .ok y σ2) (h3 : cmpV op x y σ2 = some p) : evE call (.cmp op a b) fr σ = .ok (.bool p) σ2 := by
  show (evE call a fr σ).bind _ = _; rw [h1]; show (evE call b fr σ1).bind _ = _; rw [h2]; show ofOptB σ2 (cmpV op x y σ2) = _; rw [h3]; rfl
set_option tactic.hygienic false in
theorem e_cmp2 {o1 o2 : CmpOp} (h1 : evE call a fr σ = .ok x σ) (h2 : evE call b fr σ = .ok y σ) (h3 : cmpV o1 x y σ = some p) (h4 : p = true → evE call c fr σ = .ok z σ) (h5 : p = true → cmpV o2 y z σ = some q) : evE call (.cmp2 o1 o2 a b c) fr σ = .ok (.bool (p && q)) σ := by
  show (evE call a fr σ).bind _ = _; rw [h1]; show (evE call b fr σ).bind _ = _; rw [h2]
  show (match cmpV o1 x y σ with | some true => (evE call c fr σ).bind fun z σ => ofOptB σ (cmpV o2 y z σ) | some false => .ok (.bool false) σ | none => .bad) = _
  rw [h3]
  cases p with
  | false => rfl
  | true => show (evE call c fr σ).bind _ = _; rw [h4 rfl]; show ofOptB σ (cmpV o2 y z σ) = _; rw [h5 rfl]; rfl
set_option tactic.hygienic false in
theorem e_sub (h1 : evE call a fr σ = .ok x σ1) (h2 : evE call b fr σ1 = .ok y σ2) (h3 : subV x y σ2 = some v) : evE call (.sub a b) fr σ = .ok v σ2 := by
  show (evE call a fr σ).bind _ = _; rw [h1]; show (evE call b fr σ1).bind _ = _; rw [h2]; show ofOpt σ2 (subV x y σ2) = _; rw [h3]; rfl
set_option tactic.hygienic false in
theorem e_slo {l k : Nat} {xs : List V} {r : RE} (h1 : evE call a fr σ = .ok (.ref l) σ1) (h2 : evE call b fr σ1 = .ok (.int k) σ2) (h3 : getL σ2 l = some xs) (h4 : newL (xs.drop k) σ2 = r) : evE call (.slo a b) fr σ = r := by
  show (evE call a fr σ).bind _ = _; rw [h1]; show (evE call b fr σ1).bind _ = _; rw [h2]
  show (match getL σ2 l with | some xs => if (0 : Int) ≤ (k : Int) then newL (xs.drop (k : Int).toNat) σ2 else .bad | none => .bad) = _
  rw [h3]; show (if (0 : Int) ≤ (k : Int) then newL (xs.drop (k : Int).toNat) σ2 else .bad) = _
  rw [if_pos (Int.natCast_nonneg k)]; exact h4
set_option tactic.hygienic false in
theorem e_shi {l k : Nat} {xs : List V} {r : RE} (h1 : evE call a fr σ = .ok (.ref l) σ1) (h2 : evE call b fr σ1 = .ok (.int k) σ2) (h3 : getL σ2 l = some xs) (h4 : newL (xs.take k) σ2 = r) : evE call (.shi a b) fr σ = r := by
  show (evE call a fr σ).bind _ = _; rw [h1]; show (evE call b fr σ1).bind _ = _; rw [h2]
  show (match getL σ2 l with | some xs => if (0 : Int) ≤ (k : Int) then newL (xs.take (k : Int).toNat) σ2 else .bad | none => .bad) = _
  rw [h3]; show (if (0 : Int) ≤ (k : Int) then newL (xs.take (k : Int).toNat) σ2 else .bad) = _
  rw [if_pos (Int.natCast_nonneg k)]; exact h4
set_option tactic.hygienic false in
theorem e_attr {k : Nat} (h1 : evE call a fr σ = .ok x σ1) (h2 : attrV x k σ1 = some v) : evE call (.attr a k) fr σ = .ok v σ1 := by
  show (evE call a fr σ).bind _ = _; rw [h1]; show ofOpt σ1 (attrV x k σ1) = _; rw [h2]; rfl
set_option tactic.hygienic false in
theorem e_list {r : RE} (h : evEs call es fr σ = .ok vs σ1) (h2 : newL vs σ1 = r) : evE call (.list es) fr σ = r := by
  show (evEs call es fr σ).bind _ = _; rw [h]; exact h2
set_option tactic.hygienic false in
theorem e_tup (h : evEs call es fr σ = .ok vs σ1) (h2 : vs.length ≤ 1000) : evE call (.tup es) fr σ = .ok (.tup vs) σ1 := by
  show (evEs call es fr σ).bind _ = _; rw [h]; exact if_pos h2
set_option tactic.hygienic false in
theorem e_dict0 : evE call .dict0 fr σ = .ok (.ref σ.length) (σ ++ [.dT []]) := rfl
set_option tactic.hygienic false in
theorem e_dict1 {k : Int} (h1 : evE call a fr σ = .ok (.int k) σ1) (h2 : evE call b fr σ1 = .ok v σ2) : evE call (.dict1 a b) fr σ = .ok (.ref σ2.length) (σ2 ++ [.dI [(k, v)]]) := by
  show (evE call a fr σ).bind _ = _; rw [h1]; show (evE call b fr σ1).bind _ = _; rw [h2]; rfl
set_option tactic.hygienic false in
theorem e_call {k : Nat} {r : RE} (h : evEs call es fr σ = .ok vs σ1) (h2 : call k vs σ1 = r) : evE call (.call k es) fr σ = r := by
  show (evEs call es fr σ).bind _ = _; rw [h]; exact h2
set_option tactic.hygienic false in
theorem e_mk {k : Nat} (h : evEs call es fr σ = .ok vs σ1) (h2 : call k (.ref (σ1.length + 1) :: vs) (σ1 ++ [.att [], .inst σ1.length]) = .ok .none σ2) : evE call (.mk k es) fr σ = .ok (.ref (σ1.length + 1)) σ2 := by
  show (evEs call es fr σ).bind _ = _; rw [h]
  show (match call k (.ref (σ1.length + 1) :: vs) (σ1 ++ [.att [], .inst σ1.length]) with | .ok .none σ' => RE.ok (.ref (σ1.length + 1)) σ' | .ok _ _ => .bad | .ex x σ' => .ex x σ' | .bad => .bad) = _
  rw [h2]
set_option tactic.hygienic false in
theorem e_meth {m : MN} {l : Nat} {xs xs2 : List V} {r : RE} (h : evE call a fr σ = .ok (.ref l) σ1) (hl : getL σ1 l = some xs) (h2 : evEs call es fr σ1 = .ok vs σ2) (hl2 : getL σ2 l = some xs2) (h3 : methV m l xs2 vs σ2 = r) : evE call (.meth a m es) fr σ = r := by
  show (evE call a fr σ).bind _ = _; rw [h]
  show (match getL σ1 l with | some _ => (evEs call es fr σ1).bind _ | none => .bad) = _
  rw [hl]; show (evEs call es fr σ1).bind _ = _; rw [h2]
  show (match getL σ2 l with | some xs => methV m l xs vs σ2 | none => .bad) = _
  rw [hl2]; exact h3
set_option tactic.hygienic false in
theorem e_umeth {k l d : Nat} {ents : List (Nat × V)} {r : RE} (h : evE call a fr σ = .ok (.ref l) σ1) (h1 : σ1[l]? = some (.inst d)) (h2 : σ1[d]? = some (.att ents)) (h3 : evEs call es fr σ1 = .ok vs σ2) (h4 : call k (.ref l :: vs) σ2 = r) : evE call (.umeth a k es) fr σ = r := by
  show (evE call a fr σ).bind _ = _; rw [h]
  show (match σ1[l]? with | some o => (match o with | .inst d => (match σ1[d]? with | some o => (match o with | .att _ => (evEs call es fr σ1).bind _ | _ => .bad) | none => .bad) | _ => .bad) | none => .bad) = _
  rw [h1]; show (match σ1[d]? with | some o => (match o with | .att _ => (evEs call es fr σ1).bind _ | _ => .bad) | none => .bad) = _
  rw [h2]; show (evEs call es fr σ1).bind _ = _; rw [h3]; exact h4
set_option tactic.hygienic false in
theorem e_blt {n : BN} {r : RE} (h : evEs call es fr σ = .ok vs σ1) (h2 : bltV n vs σ1 = r) : evE call (.blt n es) fr σ = r := by
  show (evEs call es fr σ).bind _ = _; rw [h]; exact h2
set_option tactic.hygienic false in
theorem e_maxd {l : Nat} {is : List Int} (h : evE call a fr σ = .ok (.ref l) σ1) (h2 : (getL σ1 l).bind intsOf = some is) (h3 : v = match maxL is with | some i => V.int i | none => V.none) : evE call (.maxd a) fr σ = .ok v σ1 := by
  show (evE call a fr σ).bind _ = _; rw [h]
  show (match (getL σ1 l).bind intsOf with | some [] => RE.ok .none σ1 | some is => ofOpt σ1 ((maxL is).map V.int) | none => .bad) = _
  rw [h2, h3]
  cases is <;> rfl
set_option tactic.hygienic false in
theorem e_isi {ty : Ty} (h : evE call a fr σ = .ok x σ1) (h2 : isiV ty x σ1 = some p) : evE call (.isi a ty) fr σ = .ok (.bool p) σ1 := by
  show (evE call a fr σ).bind _ = _; rw [h]; show ofOptB σ1 (isiV ty x σ1) = _; rw [h2]; rfl
set_option tactic.hygienic false in
theorem e_srt {key : KX} {r : RE} (h : evE call a fr σ = .ok x σ1) (h2 : srtV key fr x σ1 = r) : evE call (.srt a key) fr σ = r := by
  show (evE call a fr σ).bind _ = _; rw [h]; exact h2

set_option tactic.hygienic false in
theorem es_nil : evEs call [] fr σ = .ok [] σ := rfl
set_option tactic.hygienic false in
theorem es_cons (h : evE call a fr σ = .ok v σ1) (h2 : evEs call es fr σ1 = .ok vs σ2) : evEs call (a :: es) fr σ = .ok (v :: vs) σ2 := by
  show (evE call a fr σ).binds _ = _; rw [h]; show (evEs call es fr σ1).binds _ = _; rw [h2]; rfl

variable {ss bs os : List S} {r : RS}
set_option tactic.hygienic false in
theorem s_nil : evSs call wf [] fr σ = .ok .next fr σ := rfl
set_option tactic.hygienic false in
theorem s_cons {s : S} (h : evS call wf s fr σ = .ok .next fr1 σ1) (h2 : evSs call wf ss fr1 σ1 = r) : evSs call wf (s :: ss) fr σ = r := by
  show (match evS call wf s fr σ with | .ok .next fr σ => evSs call wf ss fr σ | r => r) = _; rw [h]; exact h2
set_option tactic.hygienic false in
theorem s_ret1 {s : S} (h : evS call wf s fr σ = .ok (.ret v) fr1 σ1) : evSs call wf (s :: ss) fr σ = .ok (.ret v) fr1 σ1 := by
  show (match evS call wf s fr σ with | .ok .next fr σ => evSs call wf ss fr σ | r => r) = _; rw [h]
set_option tactic.hygienic false in
theorem s_expr' (h : evE call a fr σ = .ok v σ1) (h2 : evSs call wf ss fr σ1 = r) : evSs call wf (.expr a :: ss) fr σ = r :=
  s_cons (by show (evE call a fr σ).bindS fr _ = _; rw [h]; rfl) h2
set_option tactic.hygienic false in
theorem s_asg' (h : evE call a fr σ = .ok v σ1) (hi : i < fr.length) (h2 : evSs call wf ss (fr.set i (some v)) σ1 = r) : evSs call wf (.asg i a :: ss) fr σ = r :=
  s_cons (by show (evE call a fr σ).bindS fr _ = _; rw [h]; exact if_pos hi) h2
set_option tactic.hygienic false in
theorem s_asgT' {is : List Nat} (h : evE call a fr σ = .ok v σ1) (hb : bindT is false v fr = some fr1) (h2 : evSs call wf ss fr1 σ1 = r) : evSs call wf (.asgT is a :: ss) fr σ = r :=
  s_cons (by show (evE call a fr σ).bindS fr _ = _; rw [h]; show (match bindT is false v fr with | some fr => RS.ok .next fr σ1 | none => .bad) = _; rw [hb]) h2
set_option tactic.hygienic false in
theorem s_asgA' {k : Nat} (h : evE call a fr σ = .ok v σ1) (h1 : evE call b fr σ1 = .ok w σ2) (hs : setAttrV w k v σ2 = some σ3) (h2 : evSs call wf ss fr σ3 = r) : evSs call wf (.asgA b k a :: ss) fr σ = r :=
  s_cons (by
    show (evE call a fr σ).bindS fr _ = _; rw [h]; show (evE call b fr σ1).bindS fr _ = _; rw [h1]
    show (match setAttrV w k v σ2 with | some σ => RS.ok .next fr σ | none => .bad) = _; rw [hs]) h2
set_option tactic.hygienic false in
theorem s_asgI' (h : evE call a fr σ = .ok v σ1) (h1 : evE call b fr σ1 = .ok w σ2) (h0 : evE call c fr σ2 = .ok x σ3) (hs : setIdx w x v σ3 = some σ4) (h2 : evSs call wf ss fr σ4 = r) : evSs call wf (.asgI b c a :: ss) fr σ = r :=
  s_cons (by
    show (evE call a fr σ).bindS fr _ = _; rw [h]; show (evE call b fr σ1).bindS fr _ = _; rw [h1]; show (evE call c fr σ2).bindS fr _ = _; rw [h0]
    show (match setIdx w x v σ3 with | some σ => RS.ok .next fr σ | none => .bad) = _; rw [hs]) h2
set_option tactic.hygienic false in
theorem s_ret' (h : evE call a fr σ = .ok v σ1) : evSs call wf (.ret a :: ss) fr σ = .ok (.ret v) fr σ1 :=
  s_ret1 (by show (evE call a fr σ).bindS fr _ = _; rw [h]; rfl)
set_option tactic.hygienic false in
theorem if_t (h : evE call t fr σ = .ok (.bool true) σ1) : evS call wf (.ifS t bs os) fr σ = evSs call wf bs fr σ1 := by
  show (evE call t fr σ).bindS fr _ = _; rw [h]; rfl
set_option tactic.hygienic false in
theorem if_f (h : evE call t fr σ = .ok (.bool false) σ1) : evS call wf (.ifS t bs os) fr σ = evSs call wf os fr σ1 := by
  show (evE call t fr σ).bindS fr _ = _; rw [h]; rfl
set_option tactic.hygienic false in
theorem s_if_t (h : evE call t fr σ = .ok (.bool true) σ1) (h1 : evSs call wf bs fr σ1 = .ok .next fr1 σ2) (h2 : evSs call wf ss fr1 σ2 = r) : evSs call wf (.ifS t bs os :: ss) fr σ = r := s_cons ((if_t h).trans h1) h2
set_option tactic.hygienic false in
theorem s_if_f (h : evE call t fr σ = .ok (.bool false) σ1) (h1 : evSs call wf os fr σ1 = .ok .next fr1 σ2) (h2 : evSs call wf ss fr1 σ2 = r) : evSs call wf (.ifS t bs os :: ss) fr σ = r := s_cons ((if_f h).trans h1) h2
set_option tactic.hygienic false in
theorem s_skip (h : evE call t fr σ = .ok (.bool false) σ1) (h2 : evSs call wf ss fr σ1 = r) : evSs call wf (.ifS t bs [] :: ss) fr σ = r := s_if_f h s_nil h2
set_option tactic.hygienic false in
theorem s_if_ret (h : evE call t fr σ = .ok (.bool true) σ1) (h1 : evSs call wf bs fr σ1 = .ok (.ret v) fr1 σ2) : evSs call wf (.ifS t bs os :: ss) fr σ = .ok (.ret v) fr1 σ2 := s_ret1 ((if_t h).trans h1)
end

section
variable {P : Nat → Option Fn} {wf n : Nat} {fr' : Fra} {σ σ' : Sto} {v : V}
set_option tactic.hygienic false in
theorem f_ret {k : Nat} {fn : Fn} {vs : List V} (hP : P k = some fn) (hl : vs.length = fn.ps.length) (h : evSs (evFn P wf n) wf fn.body (frame0 fn vs) σ = .ok (.ret v) fr' σ') : evFn P wf (n + 1) k vs σ = .ok v σ' := by
  show (match P k with | none => RE.bad | some fn => if vs.length = fn.ps.length then (match evSs (evFn P wf n) wf fn.body (frame0 fn vs) σ with | .ok (.ret v) _ σ => .ok v σ | .ok .next _ σ => .ok .none σ | .ok _ _ _ => .bad | .ex x _ σ => .ex x σ | .bad => .bad) else .bad) = _
  rw [hP]
  show (if vs.length = fn.ps.length then (match evSs (evFn P wf n) wf fn.body (frame0 fn vs) σ with | .ok (.ret v) _ σ => RE.ok v σ | .ok .next _ σ => .ok .none σ | .ok _ _ _ => .bad | .ex x _ σ => .ex x σ | .bad => .bad) else .bad) = _
  rw [if_pos hl, h]
set_option tactic.hygienic false in
theorem f_next {k : Nat} {fn : Fn} {vs : List V} (hP : P k = some fn) (hl : vs.length = fn.ps.length) (h : evSs (evFn P wf n) wf fn.body (frame0 fn vs) σ = .ok .next fr' σ') : evFn P wf (n + 1) k vs σ = .ok .none σ' := by
  show (match P k with | none => RE.bad | some fn => if vs.length = fn.ps.length then (match evSs (evFn P wf n) wf fn.body (frame0 fn vs) σ with | .ok (.ret v) _ σ => .ok v σ | .ok .next _ σ => .ok .none σ | .ok _ _ _ => .bad | .ex x _ σ => .ex x σ | .bad => .bad) else .bad) = _
  rw [hP]
  show (if vs.length = fn.ps.length then (match evSs (evFn P wf n) wf fn.body (frame0 fn vs) σ with | .ok (.ret v) _ σ => RE.ok v σ | .ok .next _ σ => .ok .none σ | .ok _ _ _ => .bad | .ex x _ σ => .ex x σ | .bad => .bad) else .bad) = _
  rw [if_pos hl, h]
end
end Mine

set_option autoImplicit false
set_option linter.unusedVariables false
namespace Mine
open PySem

set_option tactic.hygienic false in
theorem ap {σ τ : Sto} {l : Nat} {o : AO} (h : σ[l]? = some o) : (σ ++ τ)[l]? = some o := by
  rw [List.getElem?_append_left (List.getElem?_eq_some_iff.mp h).1]; exact h
set_option tactic.hygienic false in
theorem ap_new {σ τ : Sto} {o : AO} : (σ ++ o :: τ)[σ.length]? = some o := by rw [List.getElem?_append_right (Nat.le_refl _), Nat.sub_self]; rfl
set_option tactic.hygienic false in
theorem getL_some {σ : Sto} {l : Nat} {xs : List V} (h : σ[l]? = some (.lst xs)) : getL σ l = some xs := by unfold getL; rw [h]
set_option tactic.hygienic false in
theorem newL_fits {xs : List V} {σ : Sto} (h : xs.length ≤ 16777216) : newL xs σ = .ok (.ref σ.length) (σ ++ [.lst xs]) := if_pos h

set_option tactic.hygienic false in
theorem set_off {fr : Fra} {v : Option V} {i j : Nat} (h : j ≠ i) : (fr.set i v)[j]? = fr[j]? := List.getElem?_set_ne (Ne.symm h)
set_option tactic.hygienic false in
theorem foldl_len : ∀ (l : List (Nat × V)) (fr : Fra), (l.foldl (fun f p => f.set p.1 (some p.2)) fr).length = fr.length
  | [], _ => rfl
  | p :: l, fr => by rw [List.foldl_cons, foldl_len l, List.length_set]
set_option tactic.hygienic false in
theorem foldl_off : ∀ (l : List (Nat × V)) (fr : Fra) (j : Nat), j ∉ l.map (·.1) → (l.foldl (fun f p => f.set p.1 (some p.2)) fr)[j]? = fr[j]?
  | [], _, _, _ => rfl
  | p :: l, fr, j, h => by
    rw [List.map_cons, List.mem_cons, not_or] at h
    rw [List.foldl_cons, foldl_off l _ j h.2, set_off h.1]
set_option tactic.hygienic false in
theorem foldl_same : ∀ (l : List (Nat × V)) (f1 f2 : Fra), f1.length = f2.length → (∀ j, j ∉ l.map (·.1) → f1[j]? = f2[j]?) → l.foldl (fun f p => f.set p.1 (some p.2)) f1 = l.foldl (fun f p => f.set p.1 (some p.2)) f2
  | [], f1, f2, _, h => List.ext_getElem? fun j => h j (nomatch ·)
  | p :: l, f1, f2, hl, h => by
    rw [List.foldl_cons, List.foldl_cons]
    refine foldl_same l _ _ (by rw [List.length_set, List.length_set]; exact hl) fun j hj => ?_
    by_cases hp : j = p.1
    · subst hp
      rw [List.getElem?_set, List.getElem?_set, if_pos rfl, if_pos rfl, hl]
    · rw [set_off hp, set_off hp]
      exact h j (by rw [List.map_cons, List.mem_cons, not_or]; exact ⟨hp, hj⟩)
set_option tactic.hygienic false in
theorem bindT_again {tg : List Nat} {one : Bool} {v v' : V} {fr fr1 : Fra} (h : bindT tg one v fr = some fr1) : bindT tg one v' fr1 = bindT tg one v' fr := by
  unfold bindT at h ⊢
  cases one with
  | true =>
    rcases tg with _ | ⟨i, _ | ⟨j, tg⟩⟩
    · rfl
    · have h : (if i < fr.length then some (fr.set i (some v)) else none) = some fr1 := h
      show (if i < fr1.length then some (fr1.set i (some v')) else none) = if i < fr.length then some (fr.set i (some v')) else none
      by_cases hi : i < fr.length
      · rw [if_pos hi] at h; cases h
        rw [List.length_set, if_pos hi, if_pos hi, List.set_set]
      · rw [if_neg hi] at h; cases h
    · rfl
  | false =>
    cases v with
    | tup vs =>
      have h : (if vs.length = tg.length ∧ tg.all (· < fr.length) then some ((tg.zip vs).foldl (fun f p => f.set p.1 (some p.2)) fr) else none) = some fr1 := h
      by_cases hc : vs.length = tg.length ∧ tg.all (· < fr.length)
      · rw [if_pos hc] at h; cases h
        cases v' with
        | tup ws =>
          show (if ws.length = tg.length ∧ tg.all (· < ((tg.zip vs).foldl (fun f p => f.set p.1 (some p.2)) fr).length) then some ((tg.zip ws).foldl (fun f p => f.set p.1 (some p.2)) ((tg.zip vs).foldl (fun f p => f.set p.1 (some p.2)) fr)) else none) = if ws.length = tg.length ∧ tg.all (· < fr.length) then some ((tg.zip ws).foldl (fun f p => f.set p.1 (some p.2)) fr) else none
          rw [foldl_len]
          by_cases hw : ws.length = tg.length ∧ tg.all (· < fr.length)
          · rw [if_pos hw, if_pos hw]
            refine congrArg some (foldl_same _ _ _ (foldl_len _ _) fun j hj => foldl_off _ _ j ?_)
            rw [List.map_fst_zip (by lia)] at hj ⊢
            exact hj
          · rw [if_neg hw, if_neg hw]
        | _ => rfl
      · rw [if_neg hc] at h; cases h
    | _ => exact absurd h (by intro q; cases q)

section
variable {call : Nat → List V → Sto → RE} {wf : Nat} {fr fr1 : Fra} {σ σ1 : Sto} {tg : List Nat} {one : Bool} {cond elt : Fra → Sto → RE} {α : Type}

set_option tactic.hygienic false in
theorem compF_pure {v y : V} {p : Bool} {acc : List V} (h1 : bindT tg one v fr = some fr1) (h2 : cond fr1 σ = .ok (.bool p) σ) (h3 : p = true → elt fr1 σ = .ok y σ) : compF tg one cond elt v fr σ acc = .inl (some (fr1, (if p then acc ++ [y] else acc), σ)) := by
  unfold compF
  rw [h1]
  show (match cond fr1 σ with
    | .ok (.bool true) σ => (match elt fr1 σ with | .ok y σ => Sum.inl (some (fr1, acc ++ [y], σ)) | .ex x σ => .inr (x, σ) | .bad => .inl none)
    | .ok (.bool false) σ => .inl (some (fr1, acc, σ)) | .ex x σ => .inr (x, σ) | _ => .inl none) = _
  rw [h2]
  cases p with
  | false => rfl
  | true =>
    show (match elt fr1 σ with | .ok y σ => Sum.inl (some (fr1, acc ++ [y], σ)) | .ex x σ => .inr (x, σ) | .bad => .inl none) = _
    rw [h3 rfl]; rfl
def Turn1 (tg : List Nat) (one : Bool) (cond elt : Fra → Sto → RE) (fr : Fra) (σ : Sto) (v : V) (p : Bool) (y : V) : Prop := ∃ fr1, bindT tg one v fr = some fr1 ∧ cond fr1 σ = .ok (.bool p) σ ∧ (p = true → elt fr1 σ = .ok y σ)
set_option tactic.hygienic false in
theorem filt_cons {p : α → Bool} {f : α → V} {a : α} {ws : List α} {acc : List V} : (if p a then acc ++ [f a] else acc) ++ (ws.filter p).map f = acc ++ ((a :: ws).filter p).map f := by
  rw [List.filter_cons]
  cases p a with
  | true => simp
  | false => rfl
set_option tactic.hygienic false in
theorem compV_pure {g : α → V} {p : α → Bool} {f : α → V} {fr0 : Fra} : ∀ (ws : List α) (fr : Fra) (acc : List V), (∀ v, bindT tg one v fr = bindT tg one v fr0) → (∀ a ∈ ws, Turn1 tg one cond elt fr0 σ (g a) (p a) (f a)) →
    compV tg one cond elt (ws.map g) fr σ acc = .ok (acc ++ (ws.filter p).map f) σ
  | [], fr, acc, _, _ => by rw [List.map_nil, compV]; simp
  | a :: ws, fr, acc, hfr, h => by
    obtain ⟨fr1, h1, h2, h3⟩ := h a (.head _)
    rw [List.map_cons, compV, compF_pure ((hfr _).trans h1) h2 h3]
    show compV tg one cond elt (ws.map g) fr1 σ _ = _
    rw [compV_pure ws fr1 _ (fun v => bindT_again h1) fun b hb => h b (.tail _ hb), filt_cons]
set_option tactic.hygienic false in
theorem compL_pure {g : α → V} {p : α → Bool} {f : α → V} {fr0 : Fra} {l : Nat} {xs : List V} (hl : getL σ l = some xs) : ∀ (ws : List α) (n i : Nat) (fr : Fra) (acc : List V), xs.drop i = ws.map g → ws.length < n → (∀ v, bindT tg one v fr = bindT tg one v fr0) →
    (∀ a ∈ ws, Turn1 tg one cond elt fr0 σ (g a) (p a) (f a)) → compL tg one cond elt l n i fr σ acc = .ok (acc ++ (ws.filter p).map f) σ
  | [], 0, i, fr, acc, hd, hn, hfr, h => absurd hn (Nat.not_lt_zero _)
  | [], n + 1, i, fr, acc, hd, hn, hfr, h => by
    have : xs[i]? = none := by rw [List.getElem?_eq_none_iff]; exact List.drop_eq_nil_iff.mp hd
    rw [compL, hl]
    show (match xs[i]? with | none => REs.ok acc σ | some v => _) = _
    rw [this]; simp
  | a :: ws, 0, i, fr, acc, hd, hn, hfr, h => absurd hn (Nat.not_lt_zero _)
  | a :: ws, n + 1, i, fr, acc, hd, hn, hfr, h => by
    have hv : xs[i]? = some (g a) := by
      have := congrArg (fun l => l[0]?) hd
      simpa using this
    obtain ⟨fr1, h1, h2, h3⟩ := h a (.head _)
    rw [compL, hl]
    show (match xs[i]? with | none => REs.ok acc σ | some v => (match compF tg one cond elt v fr σ acc with | .inl (some (fr, acc, σ)) => compL tg one cond elt l n (i + 1) fr σ acc | .inl none => .bad | .inr (x, σ) => .ex x σ)) = _
    rw [hv]
    show (match compF tg one cond elt (g a) fr σ acc with | .inl (some (fr, acc, σ)) => compL tg one cond elt l n (i + 1) fr σ acc | .inl none => .bad | .inr (x, σ) => .ex x σ) = _
    rw [compF_pure ((hfr _).trans h1) h2 h3]
    show compL tg one cond elt l n (i + 1) fr1 σ _ = _
    rw [compL_pure hl ws n (i + 1) fr1 _ (by rw [← List.drop_drop, hd]; rfl) (Nat.lt_of_succ_lt_succ hn) (fun v => bindT_again h1) fun b hb => h b (.tail _ hb), filt_cons]

variable {it el : E} {cs : List E} {frm : List (Option Nat)} {g : α → V} {p : α → Bool} {f : α → V} {ws : List α} {r : RE}
set_option tactic.hygienic false in
theorem e_comp {l : Nat} (h : evE call it fr σ = .ok (.ref l) σ1) (hl : getL σ1 l = some (ws.map g)) (hp : ∀ a ∈ ws, Turn1 tg one (testL (evTs call cs)) (evE call el) (subFr fr frm) σ1 (g a) (p a) (f a)) (hn : newL ((ws.filter p).map f) σ1 = r) :
    evE call (.comp tg one it cs el frm) fr σ = r := by
  show (evE call it fr σ).bind _ = _; rw [h]
  show (match getL σ1 l with | some xs => (compL tg one (testL (evTs call cs)) (evE call el) l (xs.length + 1) 0 (subFr fr frm) σ1 []).bind fun ys σ => newL ys σ | none => .bad) = _
  rw [hl]
  show (compL tg one (testL (evTs call cs)) (evE call el) l ((ws.map g).length + 1) 0 (subFr fr frm) σ1 []).bind _ = _
  rw [compL_pure hl ws _ 0 _ [] rfl (by rw [List.length_map]; exact Nat.lt_succ_self _) (fun _ => rfl) hp]
  exact hn
set_option tactic.hygienic false in
theorem e_compR {lo hi : Int} (h : evE call it fr σ = .ok (.rng lo hi) σ1) (hw : rngL lo hi = ws.map g) (hp : ∀ a ∈ ws, Turn1 tg one (testL (evTs call cs)) (evE call el) (subFr fr frm) σ1 (g a) (p a) (f a)) (hn : newL ((ws.filter p).map f) σ1 = r) :
    evE call (.comp tg one it cs el frm) fr σ = r := by
  show (evE call it fr σ).bind _ = _; rw [h]
  show (compV tg one (testL (evTs call cs)) (evE call el) (rngL lo hi) (subFr fr frm) σ1 []).bind _ = _
  rw [hw, compV_pure ws _ [] (fun _ => rfl) hp]
  exact hn
set_option tactic.hygienic false in
theorem e_compT {vs : List V} (h : evE call it fr σ = .ok (.tup vs) σ1) (hw : vs = ws.map g) (hp : ∀ a ∈ ws, Turn1 tg one (testL (evTs call cs)) (evE call el) (subFr fr frm) σ1 (g a) (p a) (f a)) (hn : newL ((ws.filter p).map f) σ1 = r) :
    evE call (.comp tg one it cs el frm) fr σ = r := by
  show (evE call it fr σ).bind _ = _; rw [h]
  show (compV tg one (testL (evTs call cs)) (evE call el) vs (subFr fr frm) σ1 []).bind _ = _
  rw [hw, compV_pure ws _ [] (fun _ => rfl) hp]
  exact hn
set_option tactic.hygienic false in
theorem t_nil : testL (evTs call []) fr σ = .ok (.bool true) σ := rfl
set_option tactic.hygienic false in
theorem t_one {c : E} {q : Bool} (h : evE call c fr σ = .ok (.bool q) σ) : testL (evTs call [c]) fr σ = .ok (.bool q) σ := by
  show (evE call c fr σ).bind _ = _; rw [h]
  cases q <;> rfl
end

section
variable {call : Nat → List V → Sto → RE} {wf : Nat} {fr : Fra} {σ σ1 : Sto} {tg : List Nat} {one : Bool} {body : Fra → Sto → RS} {α : Type} {g : α → V}

def Turn (tg : List Nat) (one : Bool) (body : Fra → Sto → RS) (v : V) (fr : Fra) (σ : Sto) (I : Fra → Sto → Prop) (Rt : V → Sto → Prop) : Prop :=
  ∃ fr1, bindT tg one v fr = some fr1 ∧ ((∃ fr2 σ2, body fr1 σ = .ok .next fr2 σ2 ∧ I fr2 σ2) ∨ ∃ w fr2 σ2, body fr1 σ = .ok (.ret w) fr2 σ2 ∧ Rt w σ2)
def Done (r : RS) (I : Fra → Sto → Prop) (Rt : V → Sto → Prop) : Prop := (∃ fr σ, r = .ok .next fr σ ∧ I fr σ) ∨ ∃ w fr σ, r = .ok (.ret w) fr σ ∧ Rt w σ
set_option tactic.hygienic false in
theorem forV_inv (I : Nat → Fra → Sto → Prop) (Rt : V → Sto → Prop) : ∀ (ws : List α) (k : Nat) (fr : Fra) (σ : Sto), (∀ i a fr σ, ws[i]? = some a → I (k + i) fr σ → Turn tg one body (g a) fr σ (I (k + i + 1)) Rt) → I k fr σ → Done (forV tg one body (ws.map g) fr σ) (I (k + ws.length)) Rt
  | [], k, fr, σ, _, h0 => .inl ⟨fr, σ, rfl, h0⟩
  | a :: ws, k, fr, σ, step, h0 => by
    obtain ⟨fr1, h1, h2⟩ := step 0 a fr σ rfl h0
    rw [List.map_cons]
    unfold Done
    rw [forV, h1]
    show Done (match body fr1 σ with | .ok .next fr σ => forV tg one body (ws.map g) fr σ | .ok .cont fr σ => forV tg one body (ws.map g) fr σ | .ok .brk fr σ => .ok .next fr σ | r => r) _ _
    rcases h2 with ⟨fr2, σ2, h2, h3⟩ | ⟨w, fr2, σ2, h2, h3⟩
    · rw [h2]
      have := forV_inv I Rt ws (k + 1) fr2 σ2 (fun i b fr σ hb hi => by
        have e : k + 1 + i = k + (i + 1) := by lia
        rw [e] at hi ⊢
        exact step (i + 1) b fr σ hb hi) h3
      have e : k + (a :: ws).length = k + 1 + ws.length := by rw [List.length_cons]; lia
      rw [e]
      exact this
    · rw [h2]; exact .inr ⟨w, fr2, σ2, rfl, h3⟩
set_option tactic.hygienic false in
theorem forL_inv {l : Nat} {ws : List α} (I : Nat → Fra → Sto → Prop) (Rt : V → Sto → Prop) (hI : ∀ i fr σ, I i fr σ → getL σ l = some (ws.map g)) (step : ∀ i a fr σ, ws[i]? = some a → I i fr σ → Turn tg one body (g a) fr σ (I (i + 1)) Rt) :
    ∀ (n i : Nat) (fr : Fra) (σ : Sto), ws.length < i + n → i ≤ ws.length → I i fr σ → Done (forL tg one body l n i fr σ) (I ws.length) Rt
  | 0, i, fr, σ, hn, hi, _ => by lia
  | n + 1, i, fr, σ, hn, hi, h0 => by
    unfold Done
    rw [forL, hI i fr σ h0]
    show Done (match (ws.map g)[i]? with | none => RS.ok .next fr σ | some v => (match bindT tg one v fr with | none => .bad | some fr => (match body fr σ with | .ok .next fr σ => forL tg one body l n (i + 1) fr σ | .ok .cont fr σ => forL tg one body l n (i + 1) fr σ | .ok .brk fr σ => .ok .next fr σ | r => r))) _ _
    rw [List.getElem?_map]
    cases ha : ws[i]? with
    | none =>
      have : i = ws.length := by have := List.getElem?_eq_none_iff.mp ha; lia
      subst this
      exact .inl ⟨fr, σ, rfl, h0⟩
    | some a =>
      obtain ⟨fr1, h1, h2⟩ := step i a fr σ ha h0
      have hlt := (List.getElem?_eq_some_iff.mp ha).1
      show Done (match bindT tg one (g a) fr with | none => RS.bad | some fr => (match body fr σ with | .ok .next fr σ => forL tg one body l n (i + 1) fr σ | .ok .cont fr σ => forL tg one body l n (i + 1) fr σ | .ok .brk fr σ => .ok .next fr σ | r => r)) _ _
      rw [h1]
      show Done (match body fr1 σ with | .ok .next fr σ => forL tg one body l n (i + 1) fr σ | .ok .cont fr σ => forL tg one body l n (i + 1) fr σ | .ok .brk fr σ => .ok .next fr σ | r => r) _ _
      rcases h2 with ⟨fr2, σ2, h2, h3⟩ | ⟨w, fr2, σ2, h2, h3⟩
      · rw [h2]
        exact forL_inv I Rt hI step n (i + 1) fr2 σ2 (by lia) hlt h3
      · rw [h2]; exact .inr ⟨w, fr2, σ2, rfl, h3⟩

variable {it : E} {bs : List S} {ws : List α}
set_option tactic.hygienic false in
theorem s_forL {l : Nat} (I : Nat → Fra → Sto → Prop) (Rt : V → Sto → Prop) (h : evE call it fr σ = .ok (.ref l) σ1) (hI : ∀ i fr σ, I i fr σ → getL σ l = some (ws.map g))
    (step : ∀ i a fr σ, ws[i]? = some a → I i fr σ → Turn tg one (evSs call wf bs) (g a) fr σ (I (i + 1)) Rt) (h0 : I 0 fr σ1) : Done (evS call wf (.forS tg one (.e it) bs) fr σ) (I ws.length) Rt := by
  have e : evS call wf (.forS tg one (.e it) bs) fr σ = forL tg one (evSs call wf bs) l ((ws.map g).length + 1) 0 fr σ1 := by
    show (evE call it fr σ).bindS fr _ = _; rw [h]
    show (match getL σ1 l with | some xs => forL tg one (evSs call wf bs) l (xs.length + 1) 0 fr σ1 | none => .bad) = _
    rw [hI 0 fr σ1 h0]
  rw [e, List.length_map]
  exact forL_inv I Rt hI step _ 0 fr σ1 (by lia) (Nat.zero_le _) h0
set_option tactic.hygienic false in
theorem s_forR {lo hi : Int} (I : Nat → Fra → Sto → Prop) (Rt : V → Sto → Prop) (h : evE call it fr σ = .ok (.rng lo hi) σ1) (hw : rngL lo hi = ws.map g)
    (step : ∀ i a fr σ, ws[i]? = some a → I i fr σ → Turn tg one (evSs call wf bs) (g a) fr σ (I (i + 1)) Rt) (h0 : I 0 fr σ1) : Done (evS call wf (.forS tg one (.e it) bs) fr σ) (I ws.length) Rt := by
  have e : evS call wf (.forS tg one (.e it) bs) fr σ = forV tg one (evSs call wf bs) (ws.map g) fr σ1 := by
    show (evE call it fr σ).bindS fr _ = _; rw [h, ← hw]; rfl
  rw [e]
  have := forV_inv (g := g) (tg := tg) (one := one) (body := evSs call wf bs) I Rt ws 0 fr σ1 (fun i a fr σ ha hi => by rw [Nat.zero_add] at hi ⊢; exact step i a fr σ ha hi) h0
  rw [Nat.zero_add] at this
  exact this
set_option tactic.hygienic false in
theorem Done.next {r : RS} {I : Fra → Sto → Prop} (h : Done r I (fun _ _ => False)) : ∃ fr σ, r = .ok .next fr σ ∧ I fr σ := h.elim id fun ⟨_, _, _, _, q⟩ => q.elim
set_option tactic.hygienic false in
theorem wh_step {test : Fra → Sto → RE} {n : Nat} {fr2 : Fra} {σ2 : Sto} {r : RS} (h1 : test fr σ = .ok (.bool true) σ1) (h2 : body fr σ1 = .ok .next fr2 σ2) (h3 : whileL test body n fr2 σ2 = r) : whileL test body (n + 1) fr σ = r := by
  rw [whileL, h1]
  show (match body fr σ1 with | .ok .next fr σ => whileL test body n fr σ | .ok .cont fr σ => whileL test body n fr σ | .ok .brk fr σ => .ok .next fr σ | r => r) = _
  rw [h2]; exact h3
set_option tactic.hygienic false in
theorem wh_end {test : Fra → Sto → RE} {n : Nat} (h1 : test fr σ = .ok (.bool false) σ1) : whileL test body (n + 1) fr σ = .ok .next fr σ1 := by
  rw [whileL, h1]; rfl
set_option tactic.hygienic false in
theorem wh_ret {test : Fra → Sto → RE} {n : Nat} {fr2 : Fra} {σ2 : Sto} {w : V} (h1 : test fr σ = .ok (.bool true) σ1) (h2 : body fr σ1 = .ok (.ret w) fr2 σ2) : whileL test body (n + 1) fr σ = .ok (.ret w) fr2 σ2 := by
  rw [whileL, h1]
  show (match body fr σ1 with | .ok .next fr σ => whileL test body n fr σ | .ok .cont fr σ => whileL test body n fr σ | .ok .brk fr σ => .ok .next fr σ | r => r) = _
  rw [h2]
end
end Mine

set_option autoImplicit false
set_option linter.unusedVariables false
namespace Mine
open PySem

noncomputable def fIsWhole : Fn := { ps := [0, 1, 2], size := 6, body := [S.ret (((E.loc 0).isi Ty.int).and (((E.loc 0).isi Ty.bool).not.and (E.cmp2 CmpOp.LtE CmpOp.LtE (E.loc 1) (E.loc 0) (E.loc 2))))] }
noncomputable def fNeed : Fn := { ps := [0, 1], size := 4, body := [S.ifS (E.call 8 [E.loc 1, E.int 0, E.bin Operator.Sub ((E.loc 0).attr 0) (E.int 1)]).not [S.raise 1] []] }
noncomputable def fDelay : Fn := { ps := [0, 1, 2], size := 4, body :=
  [S.expr ((E.loc 0).umeth 12 [E.loc 1]), S.expr ((E.loc 0).umeth 12 [E.loc 2]),
    S.ret (E.comp [1] true ((E.loc 0).attr 1) [(E.cmp CmpOp.Eq ((E.loc 1).sub (E.int 0)) (E.loc 2)).and (E.cmp CmpOp.Eq ((E.loc 1).sub (E.int 1)) (E.loc 3))] ((E.loc 1).sub (E.int 2)) [none, none, some 1, some 2]).maxd] }

noncomputable def wayV (w : Way) : V := .tup [.int w.1, .int w.2.1, .int w.2.2]
structure WebAt (σ : Sto) (l : Nat) (m : Nat) (ws : List Way) : Prop where
  at' : ∃ d lw, σ[l]? = some (.inst d) ∧ σ[d]? = some (.att [(0, .int m), (1, .ref lw)]) ∧ σ[lw]? = some (.lst (ws.map wayV))
set_option tactic.hygienic false in
theorem WebAt.app {σ τ : Sto} {l m : Nat} {ws : List Way} (h : WebAt σ l m ws) : WebAt (σ ++ τ) l m ws :=
  let ⟨d, lw, a, b, c⟩ := h.at'; ⟨d, lw, ap a, ap b, ap c⟩

section
variable {P : Nat → Option Fn} {wf n : Nat} {σ : Sto}

set_option tactic.hygienic false in
theorem is_whole_ok (hP : P 8 = some fIsWhole) (x lo hi : Int) : evFn P wf (n + 1) 8 [.int x, .int lo, .int hi] σ = .ok (.bool (decide (lo ≤ x) && decide (x ≤ hi))) σ :=
  f_ret hP rfl (s_ret' (e_and_t (e_isi (e_loc rfl) rfl) (e_and_t (e_notF (e_isi (e_loc rfl) rfl)) (e_cmp2 (e_loc rfl) (e_loc rfl) rfl (fun _ => e_loc rfl) fun _ => rfl))))
set_option tactic.hygienic false in
theorem is_whole_t (hP : P 8 = some fIsWhole) {x lo hi : Int} (h1 : lo ≤ x) (h2 : x ≤ hi) : evFn P wf (n + 1) 8 [.int x, .int lo, .int hi] σ = .ok (.bool true) σ := by
  rw [is_whole_ok hP, decide_eq_true h1, decide_eq_true h2]; rfl
set_option tactic.hygienic false in
theorem attr_many {l m d lw : Nat} (a : σ[l]? = some (.inst d)) (b : σ[d]? = some (.att [(0, .int m), (1, .ref lw)])) : attrV (.ref l) 0 σ = some (.int m) := by
  unfold attrV; dsimp only; rw [a]; dsimp only; rw [b]; rfl
set_option tactic.hygienic false in
theorem attr_ways {l m d lw : Nat} (a : σ[l]? = some (.inst d)) (b : σ[d]? = some (.att [(0, .int m), (1, .ref lw)])) : attrV (.ref l) 1 σ = some (.ref lw) := by
  unfold attrV; dsimp only; rw [a]; dsimp only; rw [b]; rfl
set_option tactic.hygienic false in
theorem need_ok (h8 : P 8 = some fIsWhole) (h12 : P 12 = some fNeed) {l m x : Nat} {ws : List Way} (w : WebAt σ l m ws) (hx : x < m) : evFn P wf (n + 2) 12 [.ref l, .int x] σ = .ok .none σ := by
  obtain ⟨d, lw, a, b, c⟩ := w.at'
  exact f_next h12 rfl (s_skip (e_notT (e_call (es_cons (e_loc rfl) (es_cons e_int (es_cons (e_bin (e_attr (e_loc rfl) (attr_many a b)) e_int rfl) es_nil))) (is_whole_t h8 (Int.natCast_nonneg x) (by lia)))) s_nil)

set_option tactic.hygienic false in
theorem ints_back : ∀ l : List Nat, intsOf (l.map fun (d : Nat) => V.int d) = some (l.map fun (d : Nat) => (d : Int))
  | [] => rfl
  | x :: l => by
    have := ints_back l
    unfold intsOf at this ⊢
    rw [List.map_cons, mapO, this]; rfl
noncomputable def between (ws : List Way) (a b : Nat) : List Nat := (ws.filter fun w => w.1 == a && w.2.1 == b).map (·.2.2)
set_option tactic.hygienic false in
theorem nat_beq (x y : Nat) : ((x : Int) == (y : Int)) = (x == y) := by
  rw [Bool.eq_iff_iff, beq_iff_eq, beq_iff_eq]; lia
set_option tactic.hygienic false in
theorem delay_ok (h8 : P 8 = some fIsWhole) (h12 : P 12 = some fNeed) (h13 : P 13 = some fDelay) {l m x y : Nat} {ws : List Way} (w : WebAt σ l m ws) (hx : x < m) (hy : y < m) (hz : ws.length ≤ 60) :
    evFn P wf (n + 3) 13 [.ref l, .int x, .int y] σ = .ok (match maxL ((between ws x y).map fun (d : Nat) => (d : Int)) with | some i => V.int i | none => V.none) (σ ++ [.lst ((between ws x y).map fun (d : Nat) => V.int d)]) := by
  obtain ⟨d, lw, a, b, c⟩ := w.at'
  have hn := fun (z : Nat) (hz : z < m) => need_ok (wf := wf) (n := n) h8 h12 w hz
  have e1 : (between ws x y).map (fun (d : Nat) => V.int d) = (ws.filter fun w => w.1 == x && w.2.1 == y).map fun w => V.int w.2.2 := by unfold between; rw [List.map_map]; rfl
  refine f_ret h13 rfl (s_expr' (e_umeth (e_loc rfl) a b (es_cons (e_loc rfl) es_nil) (hn x hx)) (s_expr' (e_umeth (e_loc rfl) a b (es_cons (e_loc rfl) es_nil) (hn y hy)) (s_ret' (e_maxd (l := σ.length) (is := (between ws x y).map fun (d : Nat) => (d : Int)) ?_ ?_ rfl))))
  · rw [e1]
    refine e_comp (ws := ws) (g := wayV) (p := fun w => w.1 == x && w.2.1 == y) (f := fun w => .int w.2.2) (e_attr (e_loc rfl) (attr_ways a b)) (getL_some c) (fun w hw => ⟨_, rfl, t_one ?_, fun _ => e_sub (e_loc rfl) e_int rfl⟩) (newL_fits ?_)
    · exact e_and (e_cmp (e_sub (e_loc rfl) e_int rfl) (e_loc rfl) (congrArg some (nat_beq w.1 x))) fun _ => e_cmp (e_sub (e_loc rfl) e_int rfl) (e_loc rfl) (congrArg some (nat_beq w.2.1 y))
    · rw [List.length_map]; exact Nat.le_trans (List.length_filter_le _ _) (Nat.le_trans hz (by decide))
  · rw [getL_some ap_new]; exact ints_back _
end
end Mine

set_option autoImplicit false
set_option linter.unusedVariables false
namespace Mine
open PySem

noncomputable def gcdBody : List S := [S.asg 2 (E.bin Operator.Mod (E.loc 0) (E.loc 1)), S.asg 0 (E.loc 1), S.asg 1 (E.loc 2)]
noncomputable def fCommon : Fn := { ps := [0, 1], size := 3, body := [S.whileS (E.cmp CmpOp.NotEq (E.loc 1) (E.int 0)) gcdBody, S.ret (E.loc 0)] }
noncomputable def fLowest : Fn := { ps := [0, 1], size := 4, body := [S.asg 2 (E.call 0 [E.loc 0, E.loc 1]), S.ret (E.tup [E.bin Operator.FloorDiv (E.loc 0) (E.loc 2), E.bin Operator.FloorDiv (E.loc 1) (E.loc 2)])] }

set_option tactic.hygienic false in
theorem fmodN (x y : Nat) : Int.fmod (x : Int) (y : Int) = ((x % y : Nat) : Int) := by
  rw [Int.fmod_eq_emod_of_nonneg _ (Int.natCast_nonneg y)]; rfl
set_option tactic.hygienic false in
theorem fdivN (x y : Nat) : Int.fdiv (x : Int) (y : Int) = ((x / y : Nat) : Int) := by
  rw [Int.fdiv_eq_ediv_of_nonneg _ (Int.natCast_nonneg y)]; rfl
set_option tactic.hygienic false in
theorem b_mod {x y : Nat} {σ : Sto} (h : y ≠ 0) : binV .Mod (.int x) (.int y) σ = .ok (.int (x % y : Nat)) σ := by
  show (if (y : Int) = 0 then RE.bad else .ok (.int (Int.fmod x y)) σ) = _
  rw [if_neg (by lia), fmodN]
set_option tactic.hygienic false in
theorem b_div {x y : Nat} {σ : Sto} (h : y ≠ 0) (h' : y < 10 ^ 100) : binV .FloorDiv (.int x) (.int y) σ = .ok (.int (x / y : Nat)) σ := by
  show (if (y : Int) ≠ 0 ∧ (y : Int).natAbs < 10 ^ 100 then RE.ok (.int (Int.fdiv x y)) σ else .bad) = _
  rw [if_pos ⟨by lia, h'⟩, fdivN]

section
variable {P : Nat → Option Fn} {wf n : Nat} {σ : Sto}
set_option tactic.hygienic false in
theorem gcd_wh {call : Nat → List V → Sto → RE} {te : E} (ht : ∀ (x y : Nat) (z : Option V), evE call te [some (.int x), some (.int y), z] σ = .ok (.bool (!(y == 0))) σ) : ∀ (y f x : Nat) (z : Option V), y < f → ∃ z', whileL (evE call te) (evSs call wf gcdBody) f [some (.int x), some (.int y), z] σ = .ok .next [some (.int (Nat.gcd x y)), some (.int 0), z'] σ := by
  intro y
  induction y using Nat.strongRecOn with
  | _ y ih =>
    intro f x z hf
    obtain ⟨f, rfl⟩ : ∃ k, f = k + 1 := ⟨f - 1, by lia⟩
    by_cases hy : y = 0
    · subst hy
      refine ⟨z, ?_⟩
      rw [Nat.gcd_zero_right]
      exact wh_end (ht x 0 z)
    · obtain ⟨z', hz⟩ := ih (x % y) (Nat.mod_lt _ (Nat.pos_of_ne_zero hy)) f y (some (.int (x % y : Nat))) (by have := Nat.mod_lt x (Nat.pos_of_ne_zero hy); lia)
      refine ⟨z', ?_⟩
      have e : Nat.gcd x y = Nat.gcd y (x % y) := by rw [Nat.gcd_comm x y, Nat.gcd_rec y x, Nat.gcd_comm]
      rw [e]
      refine wh_step ((ht x y z).trans ?_) (s_asg' (e_bin (e_loc rfl) (e_loc rfl) (b_mod hy)) (by decide : 2 < 3) (s_asg' (e_loc rfl) (by decide : 0 < 3) (s_asg' (e_loc rfl) (by decide : 1 < 3) s_nil))) hz
      rw [show (y == 0) = false from beq_eq_false_iff_ne.mpr hy]; rfl
set_option tactic.hygienic false in
theorem common_ok (h0 : P 0 = some fCommon) {x y : Nat} (hw : y < wf) : evFn P wf (n + 1) 0 [.int x, .int y] σ = .ok (.int (Nat.gcd x y)) σ := by
  obtain ⟨z, hz⟩ := gcd_wh (call := evFn P wf n) (σ := σ) (te := E.cmp CmpOp.NotEq (E.loc 1) (E.int 0)) (fun x y z => e_cmp (e_loc rfl) e_int (congrArg (fun b => some (!b)) (nat_beq y 0))) y wf x none hw
  exact f_ret h0 rfl (s_cons (show evS (evFn P wf n) wf (S.whileS _ gcdBody) _ σ = _ from hz) (s_ret' (e_loc rfl)))
set_option tactic.hygienic false in
theorem lowest_ok (h0 : P 0 = some fCommon) (h1 : P 1 = some fLowest) {x y : Nat} (hy : 1 ≤ y) (hw : y < wf) (hb : y < 10 ^ 100) : evFn P wf (n + 2) 1 [.int x, .int y] σ = .ok (.tup [.int (x / Nat.gcd x y : Nat), .int (y / Nat.gcd x y : Nat)]) σ := by
  have hg : Nat.gcd x y ≠ 0 := Nat.ne_of_gt (Nat.gcd_pos_of_pos_right _ hy)
  have hgb : Nat.gcd x y < 10 ^ 100 := Nat.lt_of_le_of_lt (Nat.gcd_le_right _ hy) hb
  exact f_ret h1 rfl (s_asg' (e_call (es_cons (e_loc rfl) (es_cons (e_loc rfl) es_nil)) (common_ok h0 hw)) (by decide : 2 < 4) (s_ret' (e_tup (es_cons (e_bin (e_loc rfl) (e_loc rfl) (b_div hg hgb)) (es_cons (e_bin (e_loc rfl) (e_loc rfl) (b_div hg hgb)) es_nil)) (by decide : 2 ≤ 1000))))
end
end Mine

set_option autoImplicit false
set_option linter.unusedVariables false
namespace Mine
open PySem

section
variable {σ : Sto} {l : Nat} {xs : List V}
set_option tactic.hygienic false in
theorem b_len' (h : σ[l]? = some (.lst xs)) : bltV .len [.ref l] σ = .ok (.int xs.length) σ := by
  show ofOpt σ ((lenV (.ref l) σ).map V.int) = _
  unfold lenV; dsimp only; rw [h]; rfl
set_option tactic.hygienic false in
theorem sub_lst {k : Nat} {v : V} (h : σ[l]? = some (.lst xs)) (hv : xs[k]? = some v) : subV (.ref l) (.int k) σ = some v := by
  unfold subV; dsimp only; rw [h]; dsimp only; unfold idxV; rw [if_pos (Int.natCast_nonneg k)]; exact hv
set_option tactic.hygienic false in
theorem sub_neg {v : V} (h : σ[l]? = some (.lst xs)) (hv : xs.getLast? = some v) : subV (.ref l) (.int (-1)) σ = some v := by
  have hl : 1 ≤ xs.length := by
    cases xs with
    | nil => cases hv
    | cons a xs => exact Nat.succ_le_succ (Nat.zero_le _)
  unfold subV; dsimp only; rw [h]; dsimp only; unfold idxV
  rw [if_neg (by decide), if_pos (by lia), show ((-1 : Int) + (xs.length : Int)).toNat = xs.length - 1 by lia, ← List.getLast?_eq_getElem?]
  exact hv
set_option tactic.hygienic false in
theorem rng_nat (k : Nat) : rngL 0 (k : Int) = (List.range k).map fun (i : Nat) => V.int i := by
  unfold rngL
  rw [show ((k : Int) - 0).toNat = k by lia]
  exact List.map_congr_left fun i _ => by rw [Int.zero_add]
set_option tactic.hygienic false in
theorem range_get {k i v : Nat} (h : (List.range k)[i]? = some v) : i < k ∧ i = v := by
  obtain ⟨h1, h2⟩ := List.getElem?_eq_some_iff.mp h
  rw [List.getElem_range] at h2; rw [List.length_range] at h1
  exact ⟨h1, h2⟩
set_option tactic.hygienic false in
theorem b_range' {k : Nat} (h : k ≤ 1000000) : bltV .range [.int k] σ = .ok (.rng 0 k) σ := if_pos ⟨by decide, by decide, by lia, by lia⟩
set_option tactic.hygienic false in
theorem dedup_app : ∀ (is acc : List Int), is.Nodup → (∀ x ∈ is, x ∉ acc) → is.foldl (fun acc v => if acc.any (· == v) then acc else acc ++ [v]) acc = acc ++ is
  | [], acc, _, _ => by rw [List.foldl_nil, List.append_nil]
  | x :: is, acc, nd, h => by
    have nd' := List.nodup_cons.mp nd
    have hx : acc.any (· == x) = false := by
      rw [List.any_eq_false]
      intro y hy q
      exact h x (.head _) (eq_of_beq q ▸ hy)
    rw [List.foldl_cons, hx]
    show is.foldl _ (acc ++ [x]) = _
    rw [dedup_app is (acc ++ [x]) nd'.2 fun y hy q => ?_, List.append_assoc]; rfl
    rcases List.mem_append.mp q with q | q
    · exact h y (.tail _ hy) q
    · rw [List.mem_singleton.mp q] at hy; exact nd'.1 hy
set_option tactic.hygienic false in
theorem dedup_nodup {is : List Int} (h : is.Nodup) : dedup is = is := by
  unfold dedup; rw [dedup_app is [] h (fun _ _ q => nomatch q), List.nil_append]
set_option tactic.hygienic false in
theorem b_set' {r : List Nat} (h : σ[l]? = some (.lst (r.map fun (v : Nat) => V.int v))) (nd : r.Nodup) (hz : r.length ≤ 1000) : bltV .setLen [.ref l] σ = .ok (.int r.length) σ := by
  show (match (getL σ l).bind intsOf with | some is => if is.length ≤ 1000 then RE.ok (.int (dedup is).length) σ else .bad | none => .bad) = _
  rw [getL_some h]
  show (match intsOf (r.map fun (v : Nat) => V.int v) with | some is => if is.length ≤ 1000 then RE.ok (.int (dedup is).length) σ else .bad | none => .bad) = _
  rw [ints_back]
  show (if (r.map fun (d : Nat) => (d : Int)).length ≤ 1000 then RE.ok (.int (dedup (r.map fun (d : Nat) => (d : Int))).length) σ else .bad) = _
  rw [List.length_map, if_pos hz, dedup_nodup (List.Pairwise.map _ (fun a b (hab : a ≠ b) q => hab (by lia)) nd), List.length_map]
end

noncomputable def best (ws : List Way) (a b : Nat) : Nat := (between ws a b).foldl max 0
set_option tactic.hygienic false in
theorem max_fold : ∀ (l : List Nat) (a : Nat), (l.map fun (d : Nat) => (d : Int)).foldl (fun a b => if a < b then b else a) (a : Int) = ((l.foldl max a : Nat) : Int)
  | [], a => rfl
  | x :: l, a => by
    rw [List.map_cons, List.foldl_cons, List.foldl_cons, ← max_fold l (max a x)]
    congr 1
    show (if (a : Int) < (x : Int) then (x : Int) else (a : Int)) = ((max a x : Nat) : Int)
    split <;> lia
set_option tactic.hygienic false in
theorem max_best {ws : List Way} {a b : Nat} (h : between ws a b ≠ []) : maxL ((between ws a b).map fun (d : Nat) => (d : Int)) = some ((best ws a b : Nat) : Int) := by
  unfold best
  cases q : between ws a b with
  | nil => exact absurd q h
  | cons x l =>
    show some ((l.map fun (d : Nat) => (d : Int)).foldl (fun a b => if a < b then b else a) (x : Int)) = _
    rw [max_fold, List.foldl_cons, Nat.zero_max]
structure RingOk (ws : List Way) (m : Nat) (r : List Nat) : Prop where
  ne : r ≠ []
  nd : r.Nodup
  lt : ∀ v ∈ r, v < m
  way : ∀ i, i < r.length → between ws (r.getD i 0) (r.getD ((i + 1) % r.length) 0) ≠ []
noncomputable def rtot (ws : List Way) (r : List Nat) : Nat → Nat
  | 0 => 0
  | k + 1 => rtot ws r k + best ws (r.getD k 0) (r.getD ((k + 1) % r.length) 0)

noncomputable def fMean : Fn := { ps := [0, 1], size := 11, body :=
  [S.forS [2] true (It.e (E.loc 1)) [S.expr ((E.loc 0).umeth 12 [E.loc 2])],
    S.ifS ((E.cmp CmpOp.Eq (E.blt BN.len [E.loc 1]) (E.int 0)).or (E.cmp CmpOp.Lt (E.blt BN.setLen [E.loc 1]) (E.blt BN.len [E.loc 1]))) [S.raise 4] [],
    S.asg 3 (E.int 0),
    S.forS [4] true (It.e (E.blt BN.range [E.blt BN.len [E.loc 1]]))
      [S.asg 5 ((E.loc 0).umeth 13 [(E.loc 1).sub (E.loc 4), (E.loc 1).sub (E.bin Operator.Mod (E.bin Operator.Add (E.loc 4) (E.int 1)) (E.blt BN.len [E.loc 1]))]),
        S.ifS (E.cmp CmpOp.Is (E.loc 5) E.none) [S.raise 4] [], S.asg 3 (E.bin Operator.Add (E.loc 3) (E.loc 5))],
    S.ret (E.call 1 [E.loc 3, E.blt BN.len [E.loc 1]])] }

noncomputable def natsV (r : List Nat) : List V := r.map fun (v : Nat) => V.int v
set_option tactic.hygienic false in
theorem natsV_get {r : List Nat} {k : Nat} (h : k < r.length) : (natsV r)[k]? = some (V.int (r.getD k 0 : Nat)) := by
  unfold natsV; rw [List.getElem?_map, List.getElem?_eq_getElem h, List.getD_eq_getElem?_getD, List.getElem?_eq_getElem h]; rfl
set_option tactic.hygienic false in
theorem natsV_len {r : List Nat} : (natsV r).length = r.length := by unfold natsV; rw [List.length_map]

structure Defs1 (P : Nat → Option Fn) : Prop where
  h0 : P 0 = some fCommon
  h1 : P 1 = some fLowest
  h2 : P 2 = some fMean
  h8 : P 8 = some fIsWhole
  h12 : P 12 = some fNeed
  h13 : P 13 = some fDelay

section
variable {P : Nat → Option Fn} {wf n : Nat} {σ : Sto}
set_option tactic.hygienic false in
theorem mean_ok (H : Defs1 P) {l m lr : Nat} {ws : List Way} {r : List Nat} (w : WebAt σ l m ws) (hz : ws.length ≤ 60) (hr : σ[lr]? = some (.lst (natsV r))) (R : RingOk ws m r) (hm : m ≤ 12) (hl : r.length ≤ 12) (hw : 13 ≤ wf) :
    ∃ τ, evFn P wf (n + 4) 2 [.ref l, .ref lr] σ = .ok (.tup [.int (rtot ws r r.length / Nat.gcd (rtot ws r r.length) r.length : Nat), .int (r.length / Nat.gcd (rtot ws r r.length) r.length : Nat)]) (σ ++ τ) := by
  obtain ⟨d, lw, a, b, c⟩ := w.at'
  have hpos : 1 ≤ r.length := by
    cases q : r with
    | nil => exact absurd q R.ne
    | cons x l => exact Nat.succ_le_succ (Nat.zero_le _)
  -- the first loop
  obtain ⟨fr1, σ1, e1, x2, rfl, rfl⟩ := (s_forL (call := evFn P wf (n + 3)) (wf := wf) (tg := [2]) (one := true) (ws := r) (g := fun (v : Nat) => V.int v) (it := E.loc 1) (bs := [S.expr ((E.loc 0).umeth 12 [E.loc 2])]) (fr := frame0 fMean [.ref l, .ref lr]) (σ := σ)
    (fun i fr σ' => ∃ x2 : Option V, fr = [some (.ref l), some (.ref lr), x2, none, none, none, none, none, none, none, none] ∧ σ' = σ) (fun _ _ => False) (e_loc rfl) (by rintro i _ _ ⟨x2, rfl, rfl⟩; exact getL_some hr)
    (by
      rintro i v _ _ hv ⟨x2, rfl, rfl⟩
      exact ⟨_, rfl, .inl ⟨_, _, s_expr' (e_umeth (e_loc rfl) a b (es_cons (e_loc rfl) es_nil) (need_ok H.h8 H.h12 w (R.lt v (List.mem_of_getElem? hv)))) s_nil, some (.int v), rfl, rfl⟩⟩) ⟨none, rfl, rfl⟩).next
  -- the second
  obtain ⟨fr2, σ2, e2, x4, x5, τ, rfl, rfl⟩ := (s_forR (call := evFn P wf (n + 3)) (wf := wf) (tg := [4]) (one := true) (ws := List.range r.length) (g := fun (v : Nat) => V.int v) (it := E.blt BN.range [E.blt BN.len [E.loc 1]])
    (bs := [S.asg 5 ((E.loc 0).umeth 13 [(E.loc 1).sub (E.loc 4), (E.loc 1).sub (E.bin Operator.Mod (E.bin Operator.Add (E.loc 4) (E.int 1)) (E.blt BN.len [E.loc 1]))]),
        S.ifS (E.cmp CmpOp.Is (E.loc 5) E.none) [S.raise 4] [], S.asg 3 (E.bin Operator.Add (E.loc 3) (E.loc 5))])
    (fr := [some (.ref l), some (.ref lr), x2, some (.int 0), none, none, none, none, none, none, none]) (σ := σ1)
    (fun i fr σ' => ∃ (x4 x5 : Option V) (τ : Sto), fr = [some (.ref l), some (.ref lr), x2, some (.int (rtot ws r i : Nat)), x4, x5, none, none, none, none, none] ∧ σ' = σ1 ++ τ) (fun _ _ => False)
    (e_blt (es_cons (e_blt (es_cons (e_loc rfl) es_nil) (b_len' hr)) es_nil) (b_range' (by rw [natsV_len]; lia))) (by rw [natsV_len]; exact rng_nat _)
    (by
      rintro i v _ _ hv ⟨x4, x5, τ, rfl, rfl⟩
      obtain ⟨hi, hvi⟩ := range_get hv
      subst hvi
      have hi2 : (i + 1) % r.length < r.length := Nat.mod_lt _ hpos
      have mem : ∀ k, k < r.length → r.getD k 0 < m := fun k hk => R.lt _ (by rw [List.getD_eq_getElem?_getD, List.getElem?_eq_getElem hk]; exact List.getElem_mem hk)
      have hd := delay_ok (wf := wf) (n := n) (σ := σ1 ++ τ) H.h8 H.h12 H.h13 w.app (mem i hi) (mem _ hi2) hz
      rw [max_best (R.way i hi)] at hd
      refine ⟨_, rfl, .inl ⟨_, _, s_asg' (e_umeth (e_loc rfl) (ap a) (ap b) (es_cons (e_sub (e_loc rfl) (e_loc rfl) (sub_lst (ap hr) (natsV_get hi))) (es_cons (e_sub (e_loc rfl) (e_bin (e_bin (e_loc rfl) e_int rfl) (e_blt (es_cons (e_loc rfl) es_nil) (b_len' (ap hr))) ?_) (sub_lst (ap hr) (natsV_get hi2))) es_nil)) hd) (by decide : 5 < 11)
        (s_skip (e_cmp (e_loc rfl) e_none rfl) (s_asg' (e_bin (e_loc rfl) (e_loc rfl) rfl) (by decide : 3 < 11) s_nil)), some (.int i), _, _, rfl, List.append_assoc _ _ _⟩⟩
      rw [natsV_len]
      exact b_mod (x := i + 1) (by lia)) ⟨none, none, [], rfl, (List.append_nil _).symm⟩).next
  refine ⟨τ, f_ret H.h2 rfl (s_cons e1 (s_skip (e_or_f (e_cmp (p := false) (e_blt (es_cons (e_loc rfl) es_nil) (b_len' hr)) e_int ?_) (e_cmp (p := false) (e_blt (es_cons (e_loc rfl) es_nil) (b_set' hr R.nd (by lia))) (e_blt (es_cons (e_loc rfl) es_nil) (b_len' hr)) ?_)) (s_asg' e_int (by decide : 3 < 11) (s_cons e2 (s_ret' (e_call (es_cons (e_loc rfl) (es_cons (e_blt (es_cons (e_loc rfl) es_nil) (b_len' (ap hr))) es_nil)) ?_))))))⟩
  · rw [natsV_len]; exact congrArg some (show ((r.length : Int) == 0) = false by simp; exact R.ne)
  · rw [natsV_len]; exact congrArg some (decide_eq_false (Int.lt_irrefl _))
  · rw [natsV_len, List.length_range]; exact lowest_ok H.h0 H.h1 hpos (by lia) (Nat.lt_of_le_of_lt hl (by decide))
end
end Mine

set_option autoImplicit false
set_option linter.unusedVariables false
namespace Mine
open PySem

set_option tactic.hygienic false in
theorem min_fold : ∀ (l : List Int) (a : Int), (l.foldl (fun a b => if b < a then b else a) a = a ∨ l.foldl (fun a b => if b < a then b else a) a ∈ l) ∧ l.foldl (fun a b => if b < a then b else a) a ≤ a ∧ ∀ x ∈ l, l.foldl (fun a b => if b < a then b else a) a ≤ x
  | [], a => ⟨.inl rfl, Int.le_refl _, fun _ h => nomatch h⟩
  | x :: l, a => by
    rw [List.foldl_cons]
    obtain ⟨h1, h2, h3⟩ := min_fold l (if x < a then x else a)
    have h4 : (if x < a then x else a) ≤ a ∧ (if x < a then x else a) ≤ x ∧ ((if x < a then x else a) = a ∨ (if x < a then x else a) = x) := by split <;> lia
    refine ⟨?_, by lia, fun y hy => ?_⟩
    · rcases h1 with h1 | h1
      · rw [h1]
        rcases h4.2.2 with q | q
        · exact .inl q
        · exact .inr (by rw [q]; exact .head _)
      · exact .inr (.tail _ h1)
    · rcases List.mem_cons.mp hy with rfl | hy
      · lia
      · exact h3 y hy
set_option tactic.hygienic false in
theorem min_spec {is : List Int} (h : is ≠ []) : ∃ mn, minL is = some mn ∧ mn ∈ is ∧ ∀ x ∈ is, mn ≤ x := by
  cases is with
  | nil => exact absurd rfl h
  | cons x l =>
    obtain ⟨h1, h2, h3⟩ := min_fold l x
    refine ⟨_, rfl, ?_, fun y hy => ?_⟩
    · rcases h1 with h1 | h1
      · rw [h1]; exact .head _
      · exact .tail _ h1
    · rcases List.mem_cons.mp hy with rfl | hy
      · exact h2
      · exact h3 y hy

noncomputable def fLedOn : Fn := { ps := [0], size := 3, body := [S.asg 1 ((E.loc 0).meth MN.index [E.blt BN.min [E.loc 0]]), S.ret (E.bin Operator.Add ((E.loc 0).slo (E.loc 1)) ((E.loc 0).shi (E.loc 1)))] }
noncomputable def ringWhile : S := S.whileS (E.cmp CmpOp.NotEq ((E.loc 0).sub ((E.loc 4).sub (E.int 1).neg)) (E.loc 1)) [S.expr ((E.loc 4).meth MN.append [(E.loc 0).sub ((E.loc 4).sub (E.int 1).neg)])]
noncomputable def fRingBehind : Fn := { ps := [0, 1, 2], size := 9, body :=
  [S.forS [3] true (It.e (E.blt BN.range [E.loc 2])) [S.asg 1 ((E.loc 0).sub (E.loc 1))], S.asg 4 (E.list [E.loc 1]), ringWhile, S.ret (E.call 3 [E.blt BN.revl [E.loc 4]])] }

set_option tactic.hygienic false in
theorem add_lst {σ : Sto} {l k : Nat} {xs ys : List V} (h1 : σ[l]? = some (.lst xs)) (h2 : σ[k]? = some (.lst ys)) (hz : xs.length + ys.length ≤ 16777216) : binV .Add (.ref l) (.ref k) σ = .ok (.ref σ.length) (σ ++ [.lst (xs ++ ys)]) := by
  show (match getL σ l with | some xs => (match getL σ k with | some ys => newL (xs ++ ys) σ | none => .bad) | none => .bad) = _
  rw [getL_some h1]
  show (match getL σ k with | some ys => newL (xs ++ ys) σ | none => .bad) = _
  rw [getL_some h2]
  exact newL_fits (by rw [List.length_append]; exact hz)
set_option tactic.hygienic false in
theorem ap3 {σ : Sto} {a b c : AO} : σ ++ [a] ++ [b] ++ [c] = σ ++ [a, b, c] := by rw [List.append_assoc, List.append_assoc]; rfl
set_option tactic.hygienic false in
theorem ap2_new {σ : Sto} {a b : AO} : (σ ++ [a] ++ [b])[σ.length + 1]? = some b := by
  have := ap_new (σ := σ ++ [a]) (o := b) (τ := [])
  rwa [List.length_append] at this
set_option tactic.hygienic false in
theorem set_new {σ : Sto} {o o' : AO} {τ : Sto} : (σ ++ o :: τ).set σ.length o' = σ ++ o' :: τ := by
  rw [List.set_append_right _ _ (Nat.le_refl _), Nat.sub_self]; rfl
set_option tactic.hygienic false in
theorem m_app {σ : Sto} {l : Nat} {xs : List V} {v : V} (h : xs.length < 16777216) : methV .append l xs [v] σ = .ok .none (setL σ l (xs ++ [v])) := if_pos h
set_option tactic.hygienic false in
theorem b_rev {σ : Sto} {l : Nat} {xs : List V} (h : σ[l]? = some (.lst xs)) (hz : xs.length ≤ 16777216) : bltV .revl [.ref l] σ = .ok (.ref σ.length) (σ ++ [.lst xs.reverse]) := by
  show (match getL σ l with | some xs => newL xs.reverse σ | none => .bad) = _
  rw [getL_some h]
  exact newL_fits (by rw [List.length_reverse]; exact hz)

section
variable {P : Nat → Option Fn} {wf n : Nat} {σ : Sto}
set_option tactic.hygienic false in
theorem led_on_ok (h3 : P 3 = some fLedOn) {l : Nat} {r : List Nat} (hr : σ[l]? = some (.lst (natsV r))) (ne : r ≠ []) (hlt : ∀ v ∈ r, v < 12) (hl : r.length ≤ 12) :
    ∃ k, k < r.length ∧ (∀ x ∈ r, r.getD k 0 ≤ x) ∧ evFn P wf (n + 1) 3 [.ref l] σ = .ok (.ref (σ.length + 2)) (σ ++ [.lst (natsV (r.drop k)), .lst (natsV (r.take k)), .lst (natsV (r.drop k ++ r.take k))]) := by
  have hi : (getL σ l).bind intsOf = some (r.map fun (d : Nat) => (d : Int)) := by rw [getL_some hr]; exact ints_back r
  obtain ⟨mn, h1, h2, h4⟩ := min_spec (is := r.map fun (d : Nat) => (d : Int)) (by simpa using ne)
  have hk : (r.map fun (d : Nat) => (d : Int)).idxOf mn < r.length := by have := List.idxOf_lt_length_of_mem h2; rwa [List.length_map] at this
  have hmn : ((r.getD ((r.map fun (d : Nat) => (d : Int)).idxOf mn) 0 : Nat) : Int) = mn := by
    have e1 : (r.map fun (d : Nat) => (d : Int))[(r.map fun (d : Nat) => (d : Int)).idxOf mn]'(by rw [List.length_map]; exact hk) = mn := List.getElem_idxOf _
    rw [List.getElem_map] at e1
    rw [List.getD_eq_getElem?_getD, List.getElem?_eq_getElem hk]; exact e1
  refine ⟨(r.map fun (d : Nat) => (d : Int)).idxOf mn, hk, fun x hx => ?_, ?_⟩
  · have := h4 (x : Int) (List.mem_map.mpr ⟨x, hx, rfl⟩)
    lia
  · have emin : bltV .min [.ref l] σ = .ok (.int mn) σ := by
      show ofOpt σ ((((getL σ l).bind intsOf).bind minL).map V.int) = _
      rw [hi]; show ofOpt σ ((minL _).map V.int) = _; rw [h1]; rfl
    have eidx : methV .index l (natsV r) [.int mn] σ = .ok (.int ((r.map fun (d : Nat) => (d : Int)).idxOf mn : Nat)) σ := by
      show (match intsOf (natsV r) with | some is => if idxOk mn is then RE.ok (.int (is.idxOf mn)) σ else .bad | none => .bad) = _
      have : intsOf (natsV r) = some (r.map fun (d : Nat) => (d : Int)) := ints_back r
      rw [this]
      exact if_pos ⟨h2, by rw [List.length_map]; lia, fun j hj => by
        obtain ⟨x, hx, rfl⟩ := List.mem_map.mp hj
        have := hlt x hx
        lia⟩
    refine f_ret h3 rfl (s_asg' (e_meth (e_loc rfl) (getL_some hr) (es_cons (e_blt (es_cons (e_loc rfl) es_nil) emin) es_nil) (getL_some hr) eidx) (by decide : 1 < 3) (s_ret' (e_bin (e_slo (e_loc rfl) (e_loc rfl) (getL_some hr) (newL_fits ?_)) (e_shi (e_loc rfl) (e_loc rfl) (getL_some (ap hr)) (newL_fits ?_)) ?_)))
    · rw [List.length_drop, natsV_len]; lia
    · rw [List.length_take, natsV_len]; lia
    · have e1 : (natsV r).drop ((r.map fun (d : Nat) => (d : Int)).idxOf mn) = natsV (r.drop ((r.map fun (d : Nat) => (d : Int)).idxOf mn)) := by unfold natsV; rw [List.map_drop]
      have e2 : (natsV r).take ((r.map fun (d : Nat) => (d : Int)).idxOf mn) = natsV (r.take ((r.map fun (d : Nat) => (d : Int)).idxOf mn)) := by unfold natsV; rw [List.map_take]
      rw [e1, e2]
      generalize (r.map fun (d : Nat) => (d : Int)).idxOf mn = k
      rw [List.length_append]
      refine (add_lst (ap ap_new) (ap2_new (σ := σ)) ?_).trans ?_
      · rw [natsV_len, natsV_len, List.length_drop, List.length_take]; lia
      · rw [ap3, show natsV (r.drop k ++ r.take k) = natsV (r.drop k) ++ natsV (r.take k) from List.map_append]
        show RE.ok (.ref (σ ++ [_] ++ [_]).length) _ = _
        rw [List.length_append, List.length_append]; rfl
end
end Mine

set_option autoImplicit false
set_option linter.unusedVariables false
namespace Mine
open PySem

set_option tactic.hygienic false in
theorem fun_get {m v : Nat} {B : Nat → Nat} (h : v < m) : (natsV ((List.range m).map B))[v]? = some (V.int (B v : Nat)) := by
  unfold natsV; rw [List.getElem?_map, List.getElem?_map, List.getElem?_range h]; rfl
set_option tactic.hygienic false in
theorem backs_last {B : Nat → Nat} {u k : Nat} : (natsV (backs B u (k + 1))).getLast? = some (V.int (iter B k u : Nat)) := by
  unfold natsV; rw [backs_succ, List.map_append, List.map_cons, List.map_nil, List.getLast?_concat]
set_option tactic.hygienic false in
theorem ne_int {x y : Nat} {σ : Sto} (h : x ≠ y) : cmpV .NotEq (.int x) (.int y) σ = some true := congrArg some (show ((x : Int) != (y : Int)) = true by simp; lia)
set_option tactic.hygienic false in
theorem ne_int_f {x : Nat} {σ : Sto} : cmpV .NotEq (.int x) (.int x) σ = some false := congrArg some (show ((x : Int) != (x : Int)) = false by simp)

section
variable {P : Nat → Option Fn} {wf n : Nat} {σ : Sto}
set_option tactic.hygienic false in
theorem ring_loop {call : Nat → List V → Sto → RE} {B : Nat → Nat} {lb m u q : Nat} {x2 x3 : Option V} {rest : Fra} (hb : σ[lb]? = some (.lst (natsV ((List.range m).map B)))) (hlt : ∀ k, iter B k u < m) (hq : iter B q u = u) (hmin : ∀ k, 1 ≤ k → k < q → iter B k u ≠ u) (hz : q ≤ 1000) :
    ∀ (d k f : Nat), k + 1 + d = q → d < f → whileL (evE call (E.cmp CmpOp.NotEq ((E.loc 0).sub ((E.loc 4).sub (E.int 1).neg)) (E.loc 1))) (evSs call wf [S.expr ((E.loc 4).meth MN.append [(E.loc 0).sub ((E.loc 4).sub (E.int 1).neg)])]) f
      (some (.ref lb) :: some (.int u) :: x2 :: x3 :: some (.ref σ.length) :: rest) (σ ++ [.lst (natsV (backs B u (k + 1)))]) = .ok .next (some (.ref lb) :: some (.int u) :: x2 :: x3 :: some (.ref σ.length) :: rest) (σ ++ [.lst (natsV (backs B u q))]) := by
  intro d
  have look : ∀ k, evE call ((E.loc 0).sub ((E.loc 4).sub (E.int 1).neg)) (some (.ref lb) :: some (.int u) :: x2 :: x3 :: some (.ref σ.length) :: rest) (σ ++ [.lst (natsV (backs B u (k + 1)))]) = .ok (.int (iter B (k + 1) u : Nat)) (σ ++ [.lst (natsV (backs B u (k + 1)))]) := fun k =>
    e_sub (e_loc rfl) (e_sub (e_loc rfl) (e_neg e_int) (sub_neg ap_new backs_last)) (sub_lst (ap hb) (fun_get (hlt k)))
  induction d with
  | zero =>
    intro k f hk hf
    obtain ⟨f, rfl⟩ : ∃ g, f = g + 1 := ⟨f - 1, by lia⟩
    have hk : k + 1 = q := by lia
    rw [← hk]
    refine wh_end (e_cmp (look k) (e_loc rfl) ?_)
    rw [hk, hq]; exact ne_int_f
  | succ d ih =>
    intro k f hk hf
    obtain ⟨f, rfl⟩ : ∃ g, f = g + 1 := ⟨f - 1, by lia⟩
    refine wh_step (e_cmp (look k) (e_loc rfl) (ne_int (hmin (k + 1) (by lia) (by lia)))) (s_expr' (e_meth (e_loc rfl) (getL_some ap_new) (es_cons (look k) es_nil) (getL_some ap_new) (m_app ?_)) s_nil) ?_
    · rw [natsV_len, backs_len]; lia
    · have e1 : setL (σ ++ [.lst (natsV (backs B u (k + 1)))]) σ.length (natsV (backs B u (k + 1)) ++ [V.int (iter B (k + 1) u : Nat)]) = σ ++ [.lst (natsV (backs B u (k + 1 + 1)))] := by
        unfold setL
        rw [set_new, backs_succ (q := k + 1)]
        unfold natsV
        rw [List.map_append]; rfl
      rw [e1]
      exact ih (k + 1) f (by lia) (by lia)

set_option tactic.hygienic false in
theorem ring_behind_ok (h3 : P 3 = some fLedOn) (h4 : P 4 = some fRingBehind) {B : Nat → Nat} {lb m e q : Nat} (hb : σ[lb]? = some (.lst (natsV ((List.range m).map B)))) (hlt : ∀ k, iter B k e < m) (hm : m ≤ 12)
    (q1 : 1 ≤ q) (q2 : q ≤ m) (hq : iter B q (iter B m e) = iter B m e) (hmin : ∀ k, 1 ≤ k → k < q → iter B k (iter B m e) ≠ iter B m e) (hw : 13 ≤ wf) :
    ∃ k τ lr, k < q ∧ σ.length ≤ lr ∧ evFn P wf (n + 2) 4 [.ref lb, .int e, .int m] σ = .ok (.ref lr) (σ ++ τ) ∧ (σ ++ τ)[lr]? = some (.lst (natsV ((backs B (iter B m e) q).reverse.drop k ++ (backs B (iter B m e) q).reverse.take k))) ∧
      ∀ x ∈ (backs B (iter B m e) q).reverse, (backs B (iter B m e) q).reverse.getD k 0 ≤ x := by
  obtain ⟨fr1, σ1, e1, x3, rfl, rfl⟩ := (s_forR (call := evFn P wf (n + 1)) (wf := wf) (tg := [3]) (one := true) (ws := List.range m) (g := fun (v : Nat) => V.int v) (it := E.blt BN.range [E.loc 2]) (bs := [S.asg 1 ((E.loc 0).sub (E.loc 1))]) (fr := frame0 fRingBehind [.ref lb, .int e, .int m]) (σ := σ)
    (fun i fr σ' => ∃ x3 : Option V, fr = [some (.ref lb), some (.int (iter B i e : Nat)), some (.int m), x3, none, none, none, none, none] ∧ σ' = σ) (fun _ _ => False) (e_blt (es_cons (e_loc rfl) es_nil) (b_range' (by lia))) (rng_nat m)
    (by
      rintro i v _ _ hv ⟨x3, rfl, rfl⟩
      exact ⟨_, rfl, .inl ⟨_, _, s_asg' (e_sub (e_loc rfl) (e_loc rfl) (sub_lst hb (fun_get (hlt i)))) (by decide : 1 < 9) s_nil, _, rfl, rfl⟩⟩) ⟨none, rfl, rfl⟩).next
  rw [List.length_range] at e1
  have hlt' : ∀ k, iter B k (iter B m e) < m := fun k => by rw [← iter_add]; exact hlt _
  obtain ⟨k, k1, k2, k3⟩ := led_on_ok (wf := wf) (n := n) (σ := σ1 ++ [.lst (natsV (backs B (iter B m e) q))] ++ [.lst (natsV (backs B (iter B m e) q)).reverse]) h3 (l := (σ1 ++ [AO.lst (natsV (backs B (iter B m e) q))]).length) (r := (backs B (iter B m e) q).reverse) (by rw [ap_new]; unfold natsV; rw [List.map_reverse])
    (by
      intro q
      have := congrArg List.length q
      rw [List.length_reverse, backs_len] at this
      simp at this; lia)
    (fun v hv => by
      obtain ⟨j, hj, rfl⟩ := List.mem_map.mp (List.mem_reverse.mp hv)
      have := hlt' j
      lia) (by rw [List.length_reverse, backs_len]; lia)
  have e5 : ∀ (a b c d f : AO), RE.ok (V.ref ((σ1 ++ [a] ++ [b]).length + 2)) (σ1 ++ [a] ++ [b] ++ [c, d, f]) = RE.ok (V.ref (σ1.length + 4)) (σ1 ++ [a, b, c, d, f]) := fun a b c d f => by
    rw [List.length_append, List.length_append, List.append_assoc, List.append_assoc]; rfl
  rw [e5] at k3
  refine ⟨k, _, σ1.length + 4, by rwa [List.length_reverse, backs_len] at k1, Nat.le_add_right _ _, f_ret h4 rfl (s_cons e1 (s_asg' (e_list (es_cons (e_loc rfl) es_nil) (newL_fits (by decide : 1 ≤ 16777216))) (by decide : 4 < 9) (s_cons (fr1 := [some (.ref lb), some (.int (iter B m e : Nat)), some (.int m), x3, some (.ref σ1.length), none, none, none, none]) (σ1 := σ1 ++ [.lst (natsV (backs B (iter B m e) q))]) ?_ (s_ret' (e_call (es_cons (e_blt (es_cons (e_loc rfl) es_nil) (b_rev ap_new ?_)) es_nil) k3))))), ?_, k2⟩
  · exact ring_loop (σ := σ1) hb hlt' hq hmin (by lia) (q - 1) 0 wf (by lia) (by lia)
  · rw [natsV_len, backs_len]; lia
  · rw [List.getElem?_append_right (by lia), show σ1.length + 4 - σ1.length = 4 by lia]; rfl
end
end Mine

set_option autoImplicit false
set_option linter.unusedVariables false
namespace Mine

set_option tactic.hygienic false in
theorem csum_rev {f : Nat → Int} : ∀ {c : List Nat}, csum f c.reverse = csum f c
  | [] => rfl
  | v :: c => by
    rw [List.reverse_cons, csum_app, csum_rev (c := c), csum_cons, csum_cons]
    show csum f c + (f v + 0) = _
    lia
set_option tactic.hygienic false in
theorem csum_rot {f : Nat → Int} {c : List Nat} (k : Nat) : csum f (c.drop k ++ c.take k) = csum f c := by
  have := csum_app (f := f) (c := c.take k) (d := c.drop k)
  rw [List.take_append_drop] at this
  rw [csum_app]; lia

set_option tactic.hygienic false in
theorem getD_lt {l : List Nat} {i : Nat} (h : i < l.length) : l.getD i 0 = l[i] := by rw [List.getD_eq_getElem?_getD, List.getElem?_eq_getElem h]; rfl
set_option tactic.hygienic false in
theorem getD_mem {l : List Nat} {i : Nat} (h : i < l.length) : l.getD i 0 ∈ l := by rw [getD_lt h]; exact List.getElem_mem h

set_option tactic.hygienic false in
theorem rot_perm {α : Type} {R : List α} {k : Nat} : (R.drop k ++ R.take k).Perm R := List.perm_append_comm.trans (by rw [List.take_append_drop])
set_option tactic.hygienic false in
theorem mod_back {k i q : Nat} (hk : k < q) (hi : i < q) (h : ¬ i < q - k) : (k + i) % q = i - (q - k) := by
  rw [show k + i = (i - (q - k)) + q by lia, Nat.add_mod_right, Nat.mod_eq_of_lt (Nat.lt_of_le_of_lt (Nat.sub_le _ _) hi)]
theorem rot_get {R : List Nat} {k i : Nat} (hk : k < R.length) (hi : i < R.length) : (R.drop k ++ R.take k).getD i 0 = R.getD ((k + i) % R.length) 0 := by
  rw [getD_lt (by rw [rot_perm.length_eq]; exact hi), getD_lt (Nat.mod_lt _ (Nat.zero_lt_of_lt hk)), List.getElem_append]
  split
  · rename_i h
    rw [List.length_drop] at h
    rw [List.getElem_drop]
    congr 1
    rw [Nat.mod_eq_of_lt (Nat.add_comm i k ▸ Nat.add_lt_of_lt_sub h)]
  · rename_i h
    rw [List.length_drop] at h
    rw [List.getElem_take]
    congr 1
    rw [List.length_drop, mod_back hk hi h]
set_option tactic.hygienic false in
theorem rev_get {B : Nat → Nat} {u q s : Nat} (hs : s < q) : (backs B u q).reverse.getD s 0 = iter B (q - 1 - s) u := by
  have hl : (backs B u q).reverse.length = q := by rw [List.length_reverse, backs_len]
  rw [getD_lt (by rw [hl]; exact hs), List.getElem_reverse]
  unfold backs
  rw [List.getElem_map, List.getElem_range, List.length_map, List.length_range]

set_option tactic.hygienic false in
theorem best_ge {ws : List Way} {a b d : Nat} (h : (a, b, d) ∈ ws) : between ws a b ≠ [] ∧ d ≤ best ws a b := by
  have hm : d ∈ between ws a b := List.mem_map.mpr ⟨(a, b, d), List.mem_filter.mpr ⟨h, by simp⟩, rfl⟩
  refine ⟨fun q => (by rw [q] at hm; cases hm), ?_⟩
  have key : ∀ (l : List Nat) (x : Nat), x ≤ l.foldl max x ∧ ∀ y ∈ l, y ≤ l.foldl max x := by
    intro l
    induction l with
    | nil => intro x; exact ⟨Nat.le_refl _, fun _ h => nomatch h⟩
    | cons z l ih =>
      intro x
      obtain ⟨h1, h2⟩ := ih (max x z)
      rw [List.foldl_cons]
      refine ⟨by lia, fun y hy => ?_⟩
      rcases List.mem_cons.mp hy with rfl | hy
      · lia
      · exact h2 y hy
  exact (key _ 0).2 d hm

set_option tactic.hygienic false in
theorem step_back {B : Nat → Nat} {u q s : Nat} (hq : iter B q u = u) (hs : s < q) : iter B (q - 1 - (s + 1) % q + 1) u = iter B (q - 1 - s) u := by
  by_cases hs1 : s + 1 = q
  · rw [hs1, Nat.mod_self, Nat.sub_zero, Nat.sub_add_cancel (Nat.zero_lt_of_lt hs), hq, ← hs1, Nat.add_sub_cancel, Nat.sub_self]; rfl
  · have h : s + 1 < q := Nat.lt_of_le_of_ne hs hs1
    rw [Nat.mod_eq_of_lt h, show q - 1 - (s + 1) + 1 = q - 1 - s by clear hq hs1; lia]
set_option tactic.hygienic false in
theorem rot_one {r : List Nat} (q1 : 1 ≤ r.length) : ((List.range r.length).map fun i => r.getD ((i + 1) % r.length) 0) = r.drop 1 ++ r.take 1 := by
  match r with
  | [x] => show [[x].getD ((0 + 1) % 1) 0] = [x]; rw [Nat.mod_self]; rfl
  | x :: y :: r =>
    apply List.ext_getElem
    · rw [List.length_map, List.length_range, rot_perm.length_eq]
    · intro i h1 h2
      rw [List.length_map, List.length_range] at h1
      rw [List.getElem_map, List.getElem_range, ← getD_lt h2, rot_get (Nat.succ_lt_succ (Nat.zero_lt_succ _)) h1, Nat.add_comm 1 i]
set_option tactic.hygienic false in
theorem csum_lin {div num : Nat} {W : Nat → Nat} (c : List Nat) : csum (fun v => (div : Int) * (W v : Nat) - (num : Int)) c = (div : Int) * csum (fun v => ((W v : Nat) : Int)) c - (num : Int) * c.length := by
  induction c with
  | nil => show (0 : Int) = (div : Int) * 0 - (num : Int) * 0; rw [Int.mul_zero, Int.mul_zero]; rfl
  | cons v c ih => rw [csum_cons, csum_cons, ih, List.length_cons, Int.mul_add, Int.natCast_succ, Int.mul_add, Int.mul_one]; clear ih; lia
set_option tactic.hygienic false in
theorem rot_ring {ws : List Way} {num div m u q k : Nat} {B W : Nat → Nat} {r : List Nat} (hr : r = (backs B u q).reverse.drop k ++ (backs B u q).reverse.take k) (q1 : 1 ≤ q) (hk : k < q) (hq : iter B q u = u) (hmin : ∀ k, 1 ≤ k → k < q → iter B k u ≠ u)
    (hway : ∀ j, (B (iter B j u), iter B j u, W (iter B j u)) ∈ ws) (hlt : ∀ j, iter B j u < m) (hpos : 0 < csum (fun v => (div : Int) * (W v : Nat) - (num : Int)) (backs B u q)) :
    RingOk ws m r ∧ r.length = q ∧ num * q < div * rtot ws r q := by
  have hRl : (backs B u q).reverse.length = q := by rw [List.length_reverse, backs_len]
  have hl : r.length = q := by rw [hr, rot_perm.length_eq, hRl]
  have get : ∀ i, i < q → r.getD i 0 = iter B (q - 1 - (k + i) % q) u := fun i hi => by
    rw [hr, rot_get (by rw [hRl]; exact hk) (by rw [hRl]; exact hi), hRl, rev_get (Nat.mod_lt _ q1)]
  have back : ∀ i, i < q → B (r.getD ((i + 1) % q) 0) = r.getD i 0 := fun i hi => by
    rw [get _ (Nat.mod_lt _ q1), get i hi]
    show iter B (q - 1 - (k + (i + 1) % q) % q + 1) u = _
    have e1 : (k + (i + 1) % q) % q = ((k + i) % q + 1) % q := by rw [Nat.add_mod_mod, Nat.mod_add_mod, Nat.add_assoc]
    rw [e1]
    exact step_back hq (Nat.mod_lt _ q1)
  have way : ∀ i, i < q → (r.getD i 0, r.getD ((i + 1) % q) 0, W (r.getD ((i + 1) % q) 0)) ∈ ws := fun i hi => by
    rw [← back i hi, get _ (Nat.mod_lt _ q1)]
    exact hway _
  have hnd : r.Nodup := by
    rw [hr]
    exact (rot_perm.trans (List.reverse_perm _)).nodup_iff.mpr (backs_nodup hq hmin)
  refine ⟨⟨fun e => ?_, hnd, fun v hv => ?_, fun i hi => ?_⟩, hl, ?_⟩
  · rw [e] at hl; rw [← hl] at q1; exact absurd q1 (by decide)
  · obtain ⟨i, hi, rfl⟩ := List.getElem_of_mem hv
    rw [← getD_lt hi, get i (hl ▸ hi)]
    exact hlt _
  · rw [hl] at hi ⊢
    exact (best_ge (way i hi)).1
  · -- the sum
    have tot : ∀ j, j ≤ q → csum (fun v => ((W v : Nat) : Int)) ((List.range j).map fun i => r.getD ((i + 1) % q) 0) ≤ ((rtot ws r j : Nat) : Int) := by
      intro j
      induction j with
      | zero => intro _; exact Int.le_refl _
      | succ j ih =>
        intro hj
        have h1 := ih (Nat.le_of_lt hj)
        have h2 := (best_ge (way j hj)).2
        rw [List.range_succ, List.map_append, csum_app]
        show _ + (((W (r.getD ((j + 1) % q) 0) : Nat) : Int) + 0) ≤ ((rtot ws r j + best ws (r.getD j 0) (r.getD ((j + 1) % r.length) 0) : Nat) : Int)
        rw [hl, Int.add_zero, Int.natCast_add]
        exact Int.add_le_add h1 (Int.ofNat_le.mpr h2)
    have t := tot q (Nat.le_refl _)
    subst hl
    rw [rot_one q1, csum_rot] at t
    have e2 : csum (fun v => (div : Int) * (W v : Nat) - (num : Int)) (backs B u r.length) = csum (fun v => (div : Int) * (W v : Nat) - (num : Int)) r := by
      have : csum (fun v => (div : Int) * (W v : Nat) - (num : Int)) r = csum (fun v => (div : Int) * (W v : Nat) - (num : Int)) ((backs B u r.length).reverse.drop k ++ (backs B u r.length).reverse.take k) := congrArg _ hr
      rw [this, csum_rot, csum_rev]
    rw [e2, csum_lin] at hpos
    have h4 : (div : Int) * csum (fun v => ((W v : Nat) : Int)) r ≤ (div : Int) * ((rtot ws r r.length : Nat) : Int) := Int.mul_le_mul_of_nonneg_left t (Int.natCast_nonneg _)
    have h5 : ((num * r.length : Nat) : Int) < ((div * rtot ws r r.length : Nat) : Int) := by rw [Int.natCast_mul, Int.natCast_mul]; exact Int.lt_of_lt_of_le (Int.lt_of_sub_pos hpos) h4
    exact Int.ofNat_lt.mp h5
end Mine

set_option autoImplicit false
set_option linter.unusedVariables false
namespace Mine
open PySem

noncomputable def slowInner : List S :=
  [S.asg 10 (E.bin Operator.Sub (E.bin Operator.Add ((E.loc 3).sub (E.loc 7)) (E.bin Operator.Mult (E.loc 2) (E.loc 9))) (E.loc 1)),
    S.ifS (E.cmp CmpOp.Lt ((E.loc 3).sub (E.loc 8)) (E.loc 10)) [S.asgI (E.loc 3) (E.loc 8) (E.loc 10), S.asgI (E.loc 4) (E.loc 8) (E.loc 7), S.asg 6 (E.loc 8)] []]
noncomputable def slowPass : List S := [S.asg 6 E.none, S.forS [7, 8, 9] false (It.e ((E.loc 0).attr 1)) slowInner, S.ifS (E.cmp CmpOp.Is (E.loc 6) E.none) [S.ret (E.tup [E.none, E.loc 3])] []]
noncomputable def fSlower : Fn := { ps := [0, 1, 2], size := 14, body :=
  [S.ifS ((E.cmp CmpOp.Lt (E.loc 1) (E.int 0)).or (E.cmp CmpOp.Lt (E.loc 2) (E.int 1))) [S.raise 5] [],
    S.asg 3 (E.bin Operator.Mult (E.list [E.int 0]) ((E.loc 0).attr 0)), S.asg 4 (E.bin Operator.Mult (E.list [E.int 0]) ((E.loc 0).attr 0)),
    S.forS [5] true (It.e (E.blt BN.range [E.bin Operator.Add ((E.loc 0).attr 0) (E.int 1)])) slowPass,
    S.ret (E.tup [E.call 4 [E.loc 4, E.loc 6, (E.loc 0).attr 0], E.none])] }

noncomputable def intsV (m : Nat) (S : Nat → Int) : List V := (List.range m).map fun v => V.int (S v)
set_option tactic.hygienic false in
theorem intsV_len {m : Nat} {S : Nat → Int} : (intsV m S).length = m := by unfold intsV; rw [List.length_map, List.length_range]
set_option tactic.hygienic false in
theorem intsV_get {m v : Nat} {S : Nat → Int} (h : v < m) : (intsV m S)[v]? = some (V.int (S v)) := by unfold intsV; rw [List.getElem?_map, List.getElem?_range h]; rfl
set_option tactic.hygienic false in
theorem map_set {α : Type} {m e : Nat} {f : Nat → α} {x : α} : ((List.range m).map f).set e x = (List.range m).map (upd f e x) := by
  apply List.ext_getElem
  · rw [List.length_set, List.length_map, List.length_map]
  · intro i h1 h2
    rw [List.getElem_set, List.getElem_map, List.getElem_map, List.getElem_range]
    unfold upd
    by_cases h : e = i
    · rw [if_pos h, if_pos h.symm]
    · rw [if_neg h, if_neg (Ne.symm h)]
set_option tactic.hygienic false in
theorem intsV_set {m e : Nat} {S : Nat → Int} {x : Int} : (intsV m S).set e (V.int x) = intsV m (upd S e x) := by
  unfold intsV
  rw [map_set]
  refine List.map_congr_left fun v _ => ?_
  unfold upd; split <;> rfl
set_option tactic.hygienic false in
theorem natsV_set {m e x : Nat} {B : Nat → Nat} : (natsV ((List.range m).map B)).set e (V.int x) = natsV ((List.range m).map (upd B e x)) := by
  unfold natsV
  rw [List.map_map, List.map_map, map_set]
  refine List.map_congr_left fun v _ => ?_
  show upd _ e _ v = V.int ((upd B e x v : Nat) : Int)
  unfold upd; split <;> rfl
set_option tactic.hygienic false in
theorem set_lst {σ : Sto} {l k : Nat} {xs : List V} {v : V} (h : σ[l]? = some (.lst xs)) (hk : k < xs.length) : setIdx (.ref l) (.int k) v σ = some (setL σ l (xs.set k v)) := by
  unfold setIdx; dsimp only; rw [h]; dsimp only; rw [if_pos ⟨Int.natCast_nonneg k, Int.ofNat_lt.mpr hk⟩]; rfl

noncomputable def slowS (σ : Sto) (m : Nat) (S : Nat → Int) (B : Nat → Nat) : Sto := σ ++ [.lst [.int 0], .lst (intsV m S), .lst [.int 0], .lst (natsV ((List.range m).map B))]
section
variable {σ : Sto} {m : Nat} {S : Nat → Int} {B : Nat → Nat}
set_option tactic.hygienic false in
theorem slow_s : (slowS σ m S B)[σ.length + 1]? = some (.lst (intsV m S)) := by unfold slowS; rw [List.getElem?_append_right (by lia), show σ.length + 1 - σ.length = 1 by lia]; rfl
set_option tactic.hygienic false in
theorem slow_b : (slowS σ m S B)[σ.length + 3]? = some (.lst (natsV ((List.range m).map B))) := by unfold slowS; rw [List.getElem?_append_right (by lia), show σ.length + 3 - σ.length = 3 by lia]; rfl
set_option tactic.hygienic false in
theorem slow_set {e : Nat} {x : Int} : setL (slowS σ m S B) (σ.length + 1) ((intsV m S).set e (V.int x)) = slowS σ m (upd S e x) B := by
  unfold setL slowS
  rw [intsV_set, List.set_append_right _ _ (by lia), show σ.length + 1 - σ.length = 1 by lia]; rfl
set_option tactic.hygienic false in
theorem slow_setB {e x : Nat} : setL (slowS σ m S B) (σ.length + 3) ((natsV ((List.range m).map B)).set e (V.int x)) = slowS σ m S (upd B e x) := by
  unfold setL slowS
  rw [natsV_set, List.set_append_right _ _ (by lia), show σ.length + 3 - σ.length = 3 by lia]; rfl
end

noncomputable def lastV : Option Nat → V
  | none => .none
  | some e => .int e

section
variable {P : Nat → Option Fn} {wf n : Nat} {σ : Sto} {l m num div : Nat} {ws : List Way}
noncomputable def slowF (σ : Sto) (l num div : Nat) (x5 x6 x7 x8 x9 x10 : Option V) : Fra := [some (.ref l), some (.int num), some (.int div), some (.ref (σ.length + 1)), some (.ref (σ.length + 3)), x5, x6, x7, x8, x9, x10, none, none, none]

set_option tactic.hygienic false in
theorem slow_turn {call : Nat → List V → Sto → RE} {t i : Nat} {w : Way} {st : St} {x5 x7 x8 x9 x10 : Option V} (ht : 1 ≤ t) (hd : div < 2 ^ 64) (hm : ∀ w ∈ ws, w.1 < m ∧ w.2.1 < m) (I : Inv ws num div t i st) (hw : ws[i]? = some w) :
    Turn [7, 8, 9] false (evSs call wf slowInner) (wayV w) (slowF σ l num div x5 (some (lastV st.last)) x7 x8 x9 x10) (slowS σ m st.S st.B)
      (fun fr σ' => ∃ (st' : St) (x7 x8 x9 x10 : Option V), Inv ws num div t (i + 1) st' ∧ fr = slowF σ l num div x5 (some (lastV st'.last)) x7 x8 x9 x10 ∧ σ' = slowS σ m st'.S st'.B ∧ ((∀ v, st.B v < m) → ∀ v, st'.B v < m)) (fun _ _ => False) := by
  obtain ⟨b, e, d⟩ := w
  have hmem := List.mem_of_getElem? hw
  obtain ⟨hb, he⟩ : b < m ∧ e < m := hm _ hmem
  have I' := relax_inv ht I hw
  have mul : ∀ σ : Sto, binV .Mult (.int div) (.int d) σ = .ok (.int ((div : Int) * d)) σ := fun σ => if_pos (.inl hd)
  have look : evE call (E.bin Operator.Sub (E.bin Operator.Add ((E.loc 3).sub (E.loc 7)) (E.bin Operator.Mult (E.loc 2) (E.loc 9))) (E.loc 1)) (slowF σ l num div x5 (some (lastV st.last)) (some (.int b)) (some (.int e)) (some (.int d)) x10) (slowS σ m st.S st.B) = .ok (.int (wanted num div st.S (b, e, d))) (slowS σ m st.S st.B) :=
    e_bin (e_bin (e_sub (e_loc rfl) (e_loc rfl) (sub_lst slow_s (intsV_get hb))) (e_bin (e_loc rfl) (e_loc rfl) (mul _)) rfl) (e_loc rfl) rfl
  refine ⟨slowF σ l num div x5 (some (lastV st.last)) (some (.int b)) (some (.int e)) (some (.int d)) x10, rfl, .inl ?_⟩
  unfold relax at I'
  by_cases hlt : st.S e < wanted num div st.S (b, e, d)
  · rw [if_pos hlt] at I'
    refine ⟨_, _, s_asg' look (by decide : 10 < 14) (s_if_t (e_cmp (e_sub (e_loc rfl) (e_loc rfl) (sub_lst slow_s (intsV_get he))) (e_loc rfl) (congrArg some (decide_eq_true hlt)))
      (s_asgI' (e_loc rfl) (e_loc rfl) (e_loc rfl) (set_lst slow_s (by rw [intsV_len]; exact he)) (s_asgI' (e_loc rfl) (e_loc rfl) (e_loc rfl) (by rw [slow_set]; exact set_lst slow_b (by rw [natsV_len, List.length_map, List.length_range]; exact he)) (s_asg' (e_loc rfl) (by decide : 6 < 14) s_nil))) s_nil), _, _, _, _, _, I', rfl, ?_, fun hB v => ?_⟩
    · rw [slow_setB]
    · show upd st.B e b v < m
      unfold upd; split
      · exact hb
      · exact hB v
  · rw [if_neg hlt] at I'
    exact ⟨_, _, s_asg' look (by decide : 10 < 14) (s_skip (e_cmp (e_sub (e_loc rfl) (e_loc rfl) (sub_lst slow_s (intsV_get he))) (e_loc rfl) (congrArg some (decide_eq_false hlt))) s_nil), _, _, _, _, _, I', rfl, rfl, fun hB => hB⟩
end
end Mine

set_option autoImplicit false
set_option linter.unusedVariables false
namespace Mine
open PySem

set_option tactic.hygienic false in
theorem Done.turn {tg : List Nat} {one : Bool} {body : Fra → Sto → RS} {v : V} {fr fr1 : Fra} {σ : Sto} {I J : Fra → Sto → Prop} {Rt : V → Sto → Prop} (h : bindT tg one v fr = some fr1) (d : Done (body fr1 σ) I Rt) (hIJ : ∀ fr σ, I fr σ → J fr σ) : Turn tg one body v fr σ J Rt :=
  ⟨fr1, h, d.elim (fun ⟨f, s, e, i⟩ => .inl ⟨f, s, e, hIJ _ _ i⟩) fun ⟨w, f, s, e, i⟩ => .inr ⟨w, f, s, e, i⟩⟩

structure SlowEnd (σ : Sto) (m num div : Nat) (ws : List Way) (v : V) (σ' : Sto) : Prop where
  ex : ∃ S B, v = .tup [.none, .ref (σ.length + 1)] ∧ σ' = slowS σ m S B ∧ ∀ w ∈ ws, Settled num div S w
structure SlowMid (σ : Sto) (l m num div : Nat) (ws : List Way) (t : Nat) (x5 : Option V) (fr : Fra) (σ' : Sto) : Prop where
  ex : ∃ (st : St) (e : Nat) (x7 x8 x9 x10 : Option V), Inv ws num div t ws.length st ∧ st.last = some e ∧ fr = slowF σ l num div x5 (some (.int e)) x7 x8 x9 x10 ∧ σ' = slowS σ m st.S st.B ∧ ∀ v, st.B v < m

section
variable {P : Nat → Option Fn} {wf n : Nat} {σ : Sto} {l m num div : Nat} {ws : List Way}
set_option tactic.hygienic false in
theorem slow_pass {call : Nat → List V → Sto → RE} {t : Nat} {st : St} {x5 x6 x7 x8 x9 x10 : Option V} (W : WebAt σ l m ws) (ht : 1 ≤ t) (hd : div < 2 ^ 64) (hm : ∀ w ∈ ws, w.1 < m ∧ w.2.1 < m) (I : Inv ws num div t 0 { st with last := none }) (hB : ∀ v, st.B v < m) :
    Done (evSs call wf slowPass (slowF σ l num div x5 x6 x7 x8 x9 x10) (slowS σ m st.S st.B)) (SlowMid σ l m num div ws t x5) (SlowEnd σ m num div ws) := by
  obtain ⟨dd, lw, a, b, c⟩ := W.at'
  have lp := s_forL (call := call) (wf := wf) (tg := [7, 8, 9]) (one := false) (ws := ws) (g := wayV) (it := (E.loc 0).attr 1) (bs := slowInner) (fr := slowF σ l num div x5 (some .none) x7 x8 x9 x10) (σ := slowS σ m st.S st.B)
    (fun i fr σ' => ∃ (st : St) (x7 x8 x9 x10 : Option V), Inv ws num div t i st ∧ fr = slowF σ l num div x5 (some (lastV st.last)) x7 x8 x9 x10 ∧ σ' = slowS σ m st.S st.B ∧ ∀ v, st.B v < m) (fun _ _ => False)
    (e_attr (e_loc rfl) (attr_ways (ap a) (ap b))) (by rintro i _ _ ⟨st, _, _, _, _, _, _, rfl, _⟩; exact getL_some (ap c))
    (by
      rintro i w _ _ hw ⟨st, y7, y8, y9, y10, I, rfl, rfl, hB⟩
      obtain ⟨fr1, h1, h2 | ⟨_, _, _, _, q⟩⟩ := slow_turn (call := call) (wf := wf) (σ := σ) (l := l) (x5 := x5) (x7 := y7) (x8 := y8) (x9 := y9) (x10 := y10) ht hd hm I hw
      · obtain ⟨fr2, σ2, h2, st', z7, z8, z9, z10, I', hf, hs, hB'⟩ := h2
        exact ⟨fr1, h1, .inl ⟨fr2, σ2, h2, st', z7, z8, z9, z10, I', hf, hs, hB' hB⟩⟩
      · exact q.elim) ⟨{ st with last := none }, x7, x8, x9, x10, I, rfl, rfl, hB⟩
  obtain ⟨fr1, σ1, e1, st1, y7, y8, y9, y10, I1, rfl, rfl, hB1⟩ := lp.next
  have e0 : ∀ r, evSs call wf [S.ifS (E.cmp CmpOp.Is (E.loc 6) E.none) [S.ret (E.tup [E.none, E.loc 3])] []] (slowF σ l num div x5 (some (lastV st1.last)) y7 y8 y9 y10) (slowS σ m st1.S st1.B) = r → evSs call wf slowPass (slowF σ l num div x5 x6 x7 x8 x9 x10) (slowS σ m st.S st.B) = r :=
    fun r h => s_asg' e_none (by decide : 6 < 14) (s_cons e1 h)
  cases hl : st1.last with
  | none =>
    refine .inr ⟨_, _, _, e0 _ (s_if_ret (e_cmp (p := true) (e_loc rfl) e_none (by rw [hl]; rfl)) (s_ret' (e_tup (es_cons e_none (es_cons (e_loc rfl) es_nil)) (by decide : 2 ≤ 1000)))), ⟨_, _, rfl, rfl, end_none I1 hl⟩⟩
  | some e =>
    refine .inl ⟨_, _, e0 _ (s_skip (e_cmp (p := false) (e_loc rfl) e_none (by rw [hl]; rfl)) s_nil), ⟨st1, e, y7, y8, y9, y10, I1, hl, by rw [hl]; rfl, rfl, hB1⟩⟩

inductive SlowRes (σ : Sto) (m num div : Nat) (ws : List Way) : V → Sto → Prop
  | none (ls : Nat) (S : Nat → Int) (τ : Sto) (h : (σ ++ τ)[ls]? = some (.lst (intsV m S))) (hs : ∀ w ∈ ws, Settled num div S w) (hf : σ.length ≤ ls) : SlowRes σ m num div ws (.tup [.none, .ref ls]) (σ ++ τ)
  | ring (lr : Nat) (r : List Nat) (τ : Sto) (h : (σ ++ τ)[lr]? = some (.lst (natsV r))) (R : RingOk ws m r) (hlt : num * r.length < div * rtot ws r r.length) (hmin : ∀ x ∈ r, r.getD 0 0 ≤ x) (hf : σ.length ≤ lr) : SlowRes σ m num div ws (.tup [.ref lr, .none]) (σ ++ τ)

set_option tactic.hygienic false in
theorem slower_ok (h3 : P 3 = some fLedOn) (h4 : P 4 = some fRingBehind) (h5 : P 5 = some fSlower) (W : WebAt σ l m ws) (m1 : 1 ≤ m) (m2 : m ≤ 12) (d1 : 1 ≤ div) (hd : div < 2 ^ 64) (hm : ∀ w ∈ ws, w.1 < m ∧ w.2.1 < m) (hw : 13 ≤ wf) :
    ∃ v σ', evFn P wf (n + 3) 5 [.ref l, .int num, .int div] σ = .ok v σ' ∧ SlowRes σ m num div ws v σ' := by
  obtain ⟨dd, lw, a, b, c⟩ := W.at'
  have rep : ∀ σ' : Sto, binV .Mult (.ref σ'.length) (.int m) (σ' ++ [.lst [.int 0]]) = .ok (.ref (σ'.length + 1)) (σ' ++ [.lst [.int 0]] ++ [.lst (List.replicate m (.int 0))]) := fun σ' => by
    show repN (getL (σ' ++ [.lst [.int 0]]) σ'.length) m (σ' ++ [.lst [.int 0]]) = _
    rw [getL_some ap_new]
    show (if (-1000000 : Int) ≤ (m : Int) then newL (List.replicate (m : Int).toNat (V.int 0)) (σ' ++ [.lst [.int 0]]) else .bad) = _
    rw [if_pos (by lia), newL_fits (by rw [List.length_replicate]; lia), List.length_append]; rfl
  have z1 : List.replicate m (V.int 0) = intsV m (fun _ => 0) := by
    unfold intsV
    apply List.ext_getElem
    · rw [List.length_replicate, List.length_map, List.length_range]
    · intro i h1 h2; rw [List.getElem_replicate, List.getElem_map]
  have z2 : List.replicate m (V.int 0) = natsV ((List.range m).map fun _ => 0) := by
    rw [z1]; unfold intsV natsV; rw [List.map_map]; rfl
  have lp := s_forR (call := evFn P wf (n + 2)) (wf := wf) (tg := [5]) (one := true) (ws := List.range (m + 1)) (g := fun (v : Nat) => V.int v) (it := E.blt BN.range [E.bin Operator.Add ((E.loc 0).attr 0) (E.int 1)]) (bs := slowPass) (fr := slowF σ l num div none none none none none none) (σ := slowS σ m (fun _ => 0) (fun _ => 0))
    (fun i fr σ' => ∃ (st : St) (x5 x6 x7 x8 x9 x10 : Option V), Inv ws num div (i + 1) 0 { st with last := none } ∧ (∀ v, st.B v < m) ∧ (1 ≤ i → Inv ws num div i ws.length st ∧ ∃ e, st.last = some e ∧ x6 = some (.int e)) ∧ fr = slowF σ l num div x5 x6 x7 x8 x9 x10 ∧ σ' = slowS σ m st.S st.B) (SlowEnd σ m num div ws)
    (e_blt (es_cons (e_bin (e_attr (e_loc rfl) (attr_many (ap a) (ap b))) e_int rfl) es_nil) (b_range' (k := m + 1) (by lia))) (rng_nat (m + 1))
    (by
      rintro i v _ _ hv ⟨st, x5, x6, x7, x8, x9, x10, I, hB, _, rfl, rfl⟩
      refine Done.turn rfl (slow_pass (x5 := some (.int v)) W (Nat.succ_le_succ (Nat.zero_le _)) hd hm I hB) ?_
      rintro _ _ ⟨st', e, y7, y8, y9, y10, I', hl, rfl, rfl, hB'⟩
      exact ⟨st', _, _, y7, y8, y9, y10, next_inv I', hB', fun _ => ⟨I', e, hl, rfl⟩, rfl, rfl⟩)
    ⟨⟨fun _ => 0, fun _ => 0, none, fun _ => 0, fun _ => 0⟩, none, none, none, none, none, none, start_inv, fun _ => m1, fun h => absurd h (by decide), rfl, rfl⟩
  have e0 : ∀ r, evSs (evFn P wf (n + 2)) wf [S.forS [5] true (It.e (E.blt BN.range [E.bin Operator.Add ((E.loc 0).attr 0) (E.int 1)])) slowPass, S.ret (E.tup [E.call 4 [E.loc 4, E.loc 6, (E.loc 0).attr 0], E.none])] (slowF σ l num div none none none none none none) (slowS σ m (fun _ => 0) (fun _ => 0)) = r →
      evSs (evFn P wf (n + 2)) wf fSlower.body (frame0 fSlower [.ref l, .int num, .int div]) σ = r := fun r h => by
    refine s_skip (e_or_f (e_cmp (p := false) (e_loc rfl) e_int (congrArg some (decide_eq_false (by lia)))) (e_cmp (p := false) (e_loc rfl) e_int (congrArg some (decide_eq_false (by lia))))) (s_asg' (e_bin (e_list (es_cons e_int es_nil) (newL_fits (by decide : 1 ≤ 16777216))) (e_attr (e_loc rfl) (attr_many (ap a) (ap b))) (rep σ)) (by decide : 3 < 14)
      (s_asg' (e_bin (e_list (es_cons e_int es_nil) (newL_fits (by decide : 1 ≤ 16777216))) (e_attr (e_loc rfl) (attr_many (ap (ap (ap a))) (ap (ap (ap b))))) (rep _)) (by decide : 4 < 14) ?_))
    have e3 : (σ ++ [AO.lst [V.int 0]] ++ [AO.lst (List.replicate m (V.int 0))] ++ [AO.lst [V.int 0]] ++ [AO.lst (List.replicate m (V.int 0))]) = slowS σ m (fun _ => 0) (fun _ => 0) := by
      unfold slowS; rw [← z1, ← z2, List.append_assoc, List.append_assoc, List.append_assoc]; rfl
    rw [e3]
    have e4 : (σ ++ [AO.lst [V.int 0]] ++ [AO.lst (List.replicate m (V.int 0))]).length + 1 = σ.length + 3 := by rw [List.length_append, List.length_append]; rfl
    rw [e4]
    exact h
  rcases lp with ⟨fr, σ1, e1, st, x5, x6, x7, x8, x9, x10, _, hB, hI, rfl, rfl⟩ | ⟨v, fr, σ1, e1, S, B, rfl, rfl, hs⟩
  · rw [List.length_range] at hI
    obtain ⟨I, e, hl, rfl⟩ := hI (Nat.succ_le_succ (Nat.zero_le _))
    obtain ⟨q, q1, q2, q3, q4, q5⟩ := behind_ring (fun w hw => (hm w hw).2) I hl
    have hway : ∀ k, (st.B (iter st.B k e), iter st.B k e, st.W (iter st.B k e)) ∈ ws := fun k => (I.A _ (q5 k)).1
    have hlt : ∀ k, iter st.B k e < m := fun k => (hm _ (hway k)).2
    obtain ⟨k, τ, lr, k1, kf, k2, k3, k4⟩ := ring_behind_ok (wf := wf) (n := n) (σ := slowS σ m st.S st.B) h3 h4 slow_b hlt m2 q1 q2 q3 q4 hw
    obtain ⟨R, R1, R2⟩ := rot_ring (ws := ws) (num := num) (div := div) (m := m) (W := st.W) rfl q1 k1 q3 q4 (fun j => by rw [← iter_add]; exact hway _) (fun j => by rw [← iter_add]; exact hlt _) (I.D _ (fun v hv => by
      obtain ⟨j, _, rfl⟩ := List.mem_map.mp hv
      rw [← iter_add]; exact q5 _) (backs_cyc q1 q3))
    refine ⟨_, _, f_ret h5 rfl (e0 _ (s_cons e1 (s_ret' (e_tup (es_cons (e_call (es_cons (e_loc rfl) (es_cons (e_loc rfl) (es_cons (e_attr (e_loc rfl) (attr_many (ap a) (ap b))) es_nil))) k2) (es_cons e_none es_nil)) (by decide : 2 ≤ 1000))))), ?_⟩
    have ea : slowS σ m st.S st.B ++ τ = σ ++ ([.lst [.int 0], .lst (intsV m st.S), .lst [.int 0], .lst (natsV ((List.range m).map st.B))] ++ τ) := by unfold slowS; rw [List.append_assoc]
    rw [ea] at k3 ⊢
    refine .ring lr _ _ k3 R (by rw [R1]; exact R2) (fun x hx => ?_) (Nat.le_trans (List.Sublist.length_le (List.sublist_append_left _ _)) kf)
    have hq : (backs st.B (iter st.B m e) q).reverse.length = q := by rw [List.length_reverse, backs_len]
    rw [rot_get (by rw [hq]; exact k1) (by rw [hq]; exact q1), Nat.add_zero, Nat.mod_eq_of_lt (by rw [hq]; exact k1)]
    refine k4 x ?_
    rcases List.mem_append.mp hx with h | h
    · exact List.mem_of_mem_drop h
    · exact List.mem_of_mem_take h
  · exact ⟨_, _, f_ret h5 rfl (e0 _ (s_ret1 e1)), .none _ S _ slow_s hs (Nat.le_add_right _ _)⟩
end
end Mine

set_option autoImplicit false
set_option linter.unusedVariables false
namespace Mine
open PySem

set_option tactic.hygienic false in
theorem ring_len {ws : List Way} {m : Nat} {r : List Nat} (R : RingOk ws m r) : r.length ≤ m := nodup_lt m r R.nd R.lt
set_option tactic.hygienic false in
theorem ring_pos {ws : List Way} {m : Nat} {r : List Nat} (R : RingOk ws m r) : 1 ≤ r.length := Nat.pos_of_ne_zero fun e => R.ne (List.length_eq_zero_iff.mp e)
set_option tactic.hygienic false in
theorem ring_rot {ws : List Way} {m : Nat} {r : List Nat} (R : RingOk ws m r) {k : Nat} (hk : k < r.length) : RingOk ws m (r.drop k ++ r.take k) := by
  have hl : (r.drop k ++ r.take k).length = r.length := rot_perm.length_eq
  have p : (r.drop k ++ r.take k).Perm r := List.perm_append_comm.trans (by rw [List.take_append_drop])
  refine ⟨fun q => ?_, p.nodup_iff.mpr R.nd, fun v hv => R.lt v (p.mem_iff.mp hv), fun i hi => ?_⟩
  · rw [q] at hl; have : r.length = 0 := hl.symm
    lia
  · rw [hl] at hi ⊢
    rw [rot_get hk hi, rot_get hk (Nat.mod_lt _ (by lia)), Nat.add_mod_mod, ← Nat.add_assoc, ← Nat.mod_add_mod (k + i)]
    exact R.way _ (Nat.mod_lt _ (by lia))

noncomputable def outs (ws : List Way) (a : Nat) : List Nat := (ws.filter fun w => w.1 == a).map (·.2.1)
noncomputable def nx (ws : List Way) (a : Nat) : Nat := (outs ws a).headD 0
def Outs (ws : List Way) (m : Nat) : Prop := ∀ a, a < m → ∃ w ∈ ws, w.1 = a
section
variable {ws : List Way} {m : Nat}
set_option tactic.hygienic false in
theorem nx_spec (hO : Outs ws m) {a : Nat} (h : a < m) : (outs ws a)[0]? = some (nx ws a) ∧ ∃ d, (a, nx ws a, d) ∈ ws := by
  obtain ⟨w, hw, rfl⟩ := hO a h
  unfold nx
  cases q : outs ws w.1 with
  | nil =>
    have : w.2.1 ∈ outs ws w.1 := List.mem_map.mpr ⟨w, List.mem_filter.mpr ⟨hw, by simp⟩, rfl⟩
    rw [q] at this; cases this
  | cons x l =>
    refine ⟨rfl, ?_⟩
    have : x ∈ outs ws w.1 := by rw [q]; exact .head _
    obtain ⟨u, hu, rfl⟩ := List.mem_map.mp this
    obtain ⟨hu, he⟩ := List.mem_filter.mp hu
    have he : u.1 = w.1 := by simpa using he
    exact ⟨u.2.2, by rw [← he]; exact hu⟩
set_option tactic.hygienic false in
theorem nx_lt (hO : Outs ws m) (hm : ∀ w ∈ ws, w.1 < m ∧ w.2.1 < m) {a : Nat} (h : a < m) : nx ws a < m := let ⟨_, d, hd⟩ := nx_spec hO h; (hm _ hd).2
set_option tactic.hygienic false in
theorem nx_iter (hO : Outs ws m) (hm : ∀ w ∈ ws, w.1 < m ∧ w.2.1 < m) {a : Nat} (h : a < m) : ∀ k, iter (nx ws) k a < m
  | 0 => h
  | k + 1 => nx_lt hO hm (nx_iter hO hm h k)
set_option tactic.hygienic false in
theorem backs_at {B : Nat → Nat} {u q i : Nat} (h : i < q) : (backs B u q).getD i 0 = iter B i u := by rw [List.getD_eq_getElem?_getD, backs_get h]; rfl
set_option tactic.hygienic false in
theorem fwd_ring (hO : Outs ws m) (hm : ∀ w ∈ ws, w.1 < m ∧ w.2.1 < m) {u q : Nat} (hu : u < m) (q1 : 1 ≤ q) (hq : iter (nx ws) q u = u) (nd : (backs (nx ws) u q).Nodup) : RingOk ws m (backs (nx ws) u q) := by
  refine ⟨fun e => ?_, nd, fun v hv => ?_, fun i hi => ?_⟩
  · have := congrArg List.length e
    rw [backs_len] at this
    simp at this; lia
  · obtain ⟨j, _, rfl⟩ := List.mem_map.mp hv
    exact nx_iter hO hm hu j
  · rw [backs_len] at hi ⊢
    have e : (backs (nx ws) u q).getD ((i + 1) % q) 0 = nx ws (iter (nx ws) i u) := by
      rw [backs_at (Nat.mod_lt _ q1)]
      by_cases h : i + 1 = q
      · rw [h, Nat.mod_self]
        show u = iter (nx ws) (i + 1) u
        rw [h, hq]
      · rw [Nat.mod_eq_of_lt (by lia)]; rfl
    rw [e, backs_at hi]
    obtain ⟨_, d, hd⟩ := nx_spec hO (nx_iter hO hm hu i)
    exact (best_ge hd).1
end

noncomputable def anyBody : List S :=
  [S.asg 2 ((E.comp [1] true ((E.loc 0).attr 1) [E.cmp CmpOp.Eq ((E.loc 1).sub (E.int 0)) ((E.loc 2).sub (E.int 1).neg)] ((E.loc 1).sub (E.int 1)) [none, none, some 1]).sub (E.int 0)),
    S.ifS (E.cmp CmpOp.In (E.loc 2) (E.loc 1)) [S.ret (E.call 3 [(E.loc 1).slo ((E.loc 1).meth MN.index [E.loc 2])])] [],
    S.expr ((E.loc 1).meth MN.append [E.loc 2])]
noncomputable def fAnyRing : Fn := { ps := [0], size := 4, body := [S.asg 1 (E.list [E.int 0]), S.whileS (E.bool true) anyBody] }

set_option tactic.hygienic false in
theorem mem_int {x : Nat} {r : List Nat} : ((x : Int) ∈ r.map fun (d : Nat) => (d : Int)) ↔ x ∈ r := by
  rw [List.mem_map]
  exact ⟨fun ⟨y, hy, e⟩ => by rwa [← Int.ofNat.inj e], fun h => ⟨x, h, rfl⟩⟩
set_option tactic.hygienic false in
theorem in_lst {σ : Sto} {l x : Nat} {r : List Nat} (h : σ[l]? = some (.lst (natsV r))) : cmpV .In (.int x) (.ref l) σ = some (decide (x ∈ r)) := by
  show inV σ (.int x) (.ref l) = _
  unfold inV; dsimp only; rw [h]; dsimp only
  have : intsOf (natsV r) = some (r.map fun (d : Nat) => (d : Int)) := ints_back r
  rw [this]
  show some (decide ((x : Int) ∈ _)) = _
  exact congrArg some (decide_eq_decide.mpr mem_int)
set_option tactic.hygienic false in
theorem m_idx {σ : Sto} {l x : Nat} {r : List Nat} (hx : x ∈ r) (hl : r.length ≤ 1000) (hlt : ∀ v ∈ r, v < 1000) : ∃ k, r[k]? = some x ∧ methV .index l (natsV r) [.int x] σ = .ok (.int (k : Nat)) σ := by
  have hx' : (x : Int) ∈ r.map fun (d : Nat) => (d : Int) := mem_int.mpr hx
  have hk : (r.map fun (d : Nat) => (d : Int)).idxOf (x : Int) < (r.map fun (d : Nat) => (d : Int)).length := List.idxOf_lt_length_of_mem hx'
  refine ⟨(r.map fun (d : Nat) => (d : Int)).idxOf (x : Int), ?_, ?_⟩
  · have e1 : (r.map fun (d : Nat) => (d : Int))[(r.map fun (d : Nat) => (d : Int)).idxOf (x : Int)] = (x : Int) := List.getElem_idxOf _
    rw [List.getElem_map] at e1
    rw [List.getElem?_eq_getElem (by rwa [List.length_map] at hk)]
    exact congrArg some (Int.ofNat.inj e1)
  · show (match intsOf (natsV r) with | some is => if idxOk (x : Int) is then RE.ok (.int (is.idxOf (x : Int))) σ else .bad | none => .bad) = _
    have : intsOf (natsV r) = some (r.map fun (d : Nat) => (d : Int)) := ints_back r
    rw [this]
    exact if_pos ⟨hx', by rw [List.length_map]; exact hl, fun j hj => by
      obtain ⟨y, hy, rfl⟩ := List.mem_map.mp hj
      have := hlt y hy
      lia⟩

section
variable {P : Nat → Option Fn} {wf n : Nat} {σ : Sto} {l m : Nat} {ws : List Way}
def GivesRing (σ : Sto) (ws : List Way) (m : Nat) (v : V) (σ' : Sto) : Prop := ∃ lr r τ, v = .ref lr ∧ σ' = σ ++ τ ∧ (σ ++ τ)[lr]? = some (.lst (natsV r)) ∧ RingOk ws m r ∧ (∀ x ∈ r, r.getD 0 0 ≤ x) ∧ σ.length ≤ lr

set_option tactic.hygienic false in
theorem backs_drop {B : Nat → Nat} {i k : Nat} (hi : i < k) : (backs B 0 k).drop i = backs B (iter B i 0) (k - i) := by
  apply List.ext_getElem?
  intro j
  rw [List.getElem?_drop]
  by_cases hj : j < k - i
  · rw [backs_get (Nat.add_lt_of_lt_sub' hj), backs_get hj, iter_add]
  · rw [List.getElem?_eq_none_iff.mpr (by rw [backs_len]; lia), List.getElem?_eq_none_iff.mpr (by rw [backs_len]; exact Nat.le_of_not_lt hj)]
set_option tactic.hygienic false in
theorem drop_ring {ws : List Way} {m i k : Nat} (hO : Outs ws m) (hm : ∀ w ∈ ws, w.1 < m ∧ w.2.1 < m) (lt : ∀ k, iter (nx ws) k 0 < m) (hi : i < k + 1) (hii : iter (nx ws) i 0 = iter (nx ws) (k + 1) 0) (hne : ∀ i j, i < j → j ≤ k → iter (nx ws) i 0 ≠ iter (nx ws) j 0) : RingOk ws m ((backs (nx ws) 0 (k + 1)).drop i) := by
  rw [backs_drop hi]
  refine fwd_ring hO hm (lt i) (Nat.sub_pos_of_lt hi) (by rw [← iter_add, Nat.add_sub_cancel' (Nat.le_of_lt hi)]; exact hii.symm) ?_
  rw [← backs_drop hi]
  refine List.Sublist.nodup (List.drop_sublist _ _) ?_
  unfold backs
  rw [List.Nodup, List.pairwise_iff_getElem]
  intro p q hp hq hpq e
  rw [List.length_map, List.length_range] at hq
  rw [List.getElem_map, List.getElem_map, List.getElem_range, List.getElem_range] at e
  exact hne p q hpq (Nat.le_of_lt_succ hq) e
set_option tactic.hygienic false in
theorem any_loop (h3 : P 3 = some fLedOn) (W : WebAt σ l m ws) (hz : ws.length ≤ 60) (m1 : 1 ≤ m) (m2 : m ≤ 12) (hO : Outs ws m) (hm : ∀ w ∈ ws, w.1 < m ∧ w.2.1 < m) : ∀ (d k f : Nat) (τ : Sto) (x2 : Option V), k + d = m → d < f → (∀ i j, i < j → j ≤ k → iter (nx ws) i 0 ≠ iter (nx ws) j 0) →
    ∃ v fr σ', whileL (evE (evFn P wf (n + 1)) (.bool true)) (evSs (evFn P wf (n + 1)) wf anyBody) f [some (.ref l), some (.ref σ.length), x2, none] (σ ++ .lst (natsV (backs (nx ws) 0 (k + 1))) :: τ) = .ok (.ret v) fr σ' ∧ GivesRing σ ws m v σ' := by
  obtain ⟨dd, lw, a, b, c⟩ := W.at'
  have lt : ∀ k, iter (nx ws) k 0 < m := nx_iter hO hm m1
  intro d
  induction d with
  | zero =>
    intro k f τ x2 hk hf hne
    obtain ⟨i, j, hij, hj, e⟩ := pigeon (m := m) (f := fun j => iter (nx ws) j 0) fun j _ => lt j
    exact absurd e (hne i j hij (by rw [← hk] at hj; exact hj))
  | succ d ih =>
    intro k f τ x2 hk hf hne
    obtain ⟨f, rfl⟩ := Nat.exists_eq_succ_of_ne_zero (Nat.ne_zero_of_lt hf)
    have hk' := lt k
    have hk12 : k + 1 ≤ 12 := Nat.le_trans (by rw [← hk]; exact Nat.add_le_add_left (Nat.succ_pos d) k) m2
    have look : evE (evFn P wf (n + 1)) ((E.comp [1] true ((E.loc 0).attr 1) [E.cmp CmpOp.Eq ((E.loc 1).sub (E.int 0)) ((E.loc 2).sub (E.int 1).neg)] ((E.loc 1).sub (E.int 1)) [none, none, some 1]).sub (E.int 0))
        [some (.ref l), some (.ref σ.length), x2, none] (σ ++ .lst (natsV (backs (nx ws) 0 (k + 1))) :: τ) = .ok (.int (iter (nx ws) (k + 1) 0 : Nat)) (σ ++ .lst (natsV (backs (nx ws) 0 (k + 1))) :: (τ ++ [.lst (natsV (outs ws (iter (nx ws) k 0)))])) := by
      have e1 : natsV (outs ws (iter (nx ws) k 0)) = (ws.filter fun w => w.1 == iter (nx ws) k 0).map fun w => V.int w.2.1 := by unfold natsV outs; rw [List.map_map]; rfl
      have e2 : σ ++ .lst (natsV (backs (nx ws) 0 (k + 1))) :: (τ ++ [.lst (natsV (outs ws (iter (nx ws) k 0)))]) = (σ ++ .lst (natsV (backs (nx ws) 0 (k + 1))) :: τ) ++ [.lst (natsV (outs ws (iter (nx ws) k 0)))] := by rw [List.append_assoc, List.cons_append]
      rw [e2, e1]
      refine e_sub (e_comp (ws := ws) (g := wayV) (p := fun w => w.1 == iter (nx ws) k 0) (f := fun w => V.int w.2.1) (e_attr (e_loc rfl) (attr_ways (ap a) (ap b))) (getL_some (ap c)) (fun w hw => ⟨_, rfl, t_one (e_cmp (e_sub (e_loc rfl) e_int rfl) (e_sub (e_loc rfl) (e_neg e_int) (sub_neg ap_new backs_last)) (congrArg some (nat_beq _ _))), fun _ => e_sub (e_loc rfl) e_int rfl⟩) (newL_fits ?_)) e_int ?_
      · rw [List.length_map]; exact Nat.le_trans (List.length_filter_le _ _) (Nat.le_trans hz (by decide))
      · rw [← e1]
        refine sub_lst (k := 0) ap_new ?_
        unfold natsV
        rw [List.getElem?_map, (nx_spec hO hk').1]; rfl
    by_cases hin : iter (nx ws) (k + 1) 0 ∈ backs (nx ws) 0 (k + 1)
    · obtain ⟨i, hi, hx⟩ := m_idx (σ := σ ++ .lst (natsV (backs (nx ws) 0 (k + 1))) :: (τ ++ [.lst (natsV (outs ws (iter (nx ws) k 0)))])) (l := σ.length) hin (by rw [backs_len]; exact Nat.le_trans hk12 (by decide)) (fun v hv => by
        obtain ⟨j, _, rfl⟩ := List.mem_map.mp hv
        exact Nat.lt_of_lt_of_le (lt j) (Nat.le_trans m2 (by decide)))
      have hi' : i < k + 1 := by have := (List.getElem?_eq_some_iff.mp hi).1; rwa [backs_len] at this
      have hii : iter (nx ws) i 0 = iter (nx ws) (k + 1) 0 := by rw [backs_get hi'] at hi; exact Option.some.inj hi
      have R := drop_ring hO hm lt hi' hii hne
      obtain ⟨q, q1, q2, q3⟩ := led_on_ok (wf := wf) (n := n) (σ := σ ++ .lst (natsV (backs (nx ws) 0 (k + 1))) :: (τ ++ [.lst (natsV (outs ws (iter (nx ws) k 0)))]) ++ [.lst (natsV ((backs (nx ws) 0 (k + 1)).drop i))]) h3 ap_new R.ne (fun v hv => Nat.lt_of_lt_of_le (R.lt v hv) m2) (Nat.le_trans (ring_len R) m2)
      have ex : (natsV (backs (nx ws) 0 (k + 1))).drop i = natsV ((backs (nx ws) 0 (k + 1)).drop i) := by unfold natsV; rw [List.map_drop]
      generalize (backs (nx ws) 0 (k + 1)).drop i = r at *
      rw [← ex] at q3
      refine ⟨_, _, _, wh_ret e_bool (s_asg' look (by decide : 2 < 4) (s_if_ret (e_cmp (p := true) (e_loc rfl) (e_loc rfl) ((in_lst ap_new).trans (congrArg some (decide_eq_true hin)))) (s_ret' (e_call (es_cons (e_slo (e_loc rfl) (e_meth (e_loc rfl) (getL_some ap_new) (es_cons (e_loc rfl) es_nil) (getL_some ap_new) hx) (getL_some ap_new) (newL_fits ?_)) es_nil) q3)))), ?_⟩
      · exact Nat.le_trans (List.Sublist.length_le (List.drop_sublist _ _)) (by rw [natsV_len, backs_len]; exact Nat.le_trans hk12 (by decide))
      · rw [ex]
        refine ⟨_, r.drop q ++ r.take q, .lst (natsV (backs (nx ws) 0 (k + 1))) :: (τ ++ [.lst (natsV (outs ws (iter (nx ws) k 0)))]) ++ [.lst (natsV r)] ++ [.lst (natsV (r.drop q)), .lst (natsV (r.take q)), .lst (natsV (r.drop q ++ r.take q))], rfl, ?_, ?_, ring_rot R q1, fun x hx => ?_, ?_⟩
        · rw [List.append_assoc, List.append_assoc, List.append_assoc]
        · rw [← List.append_assoc, ← List.append_assoc, List.getElem?_append_right (Nat.le_add_right _ 2), Nat.add_sub_cancel_left]; rfl
        · rw [rot_get q1 (ring_pos R), Nat.add_zero, Nat.mod_eq_of_lt q1]
          refine q2 x ?_
          rcases List.mem_append.mp hx with h | h
          · exact List.mem_of_mem_drop h
          · exact List.mem_of_mem_take h
        · exact Nat.le_trans (List.Sublist.length_le ((List.sublist_append_left _ _).trans (List.sublist_append_left _ _))) (Nat.le_add_right _ _)
    · have nin : ∀ i, i ≤ k → iter (nx ws) i 0 ≠ iter (nx ws) (k + 1) 0 := fun i hi e => hin (List.mem_map.mpr ⟨i, List.mem_range.mpr (Nat.lt_succ_of_le hi), e⟩)
      obtain ⟨v, fr, σ', h1, h2⟩ := ih (k + 1) f (τ ++ [.lst (natsV (outs ws (iter (nx ws) k 0)))]) (some (.int (iter (nx ws) (k + 1) 0 : Nat))) (by rw [Nat.add_right_comm]; exact hk) (Nat.lt_of_succ_lt_succ hf) (fun i j hij hj => by
        by_cases h : j = k + 1
        · subst h; exact nin i (Nat.le_of_lt_succ hij)
        · exact hne i j hij (Nat.le_of_lt_succ (Nat.lt_of_le_of_ne hj h)))
      refine ⟨v, fr, σ', wh_step e_bool (s_asg' look (by decide : 2 < 4) (s_skip (e_cmp (p := false) (e_loc rfl) (e_loc rfl) ((in_lst ap_new).trans (congrArg some (decide_eq_false hin)))) (s_expr' (e_meth (e_loc rfl) (getL_some ap_new) (es_cons (e_loc rfl) es_nil) (getL_some ap_new) (m_app ?_)) s_nil))) ?_, h2⟩
      · rw [natsV_len, backs_len]; exact Nat.lt_of_le_of_lt hk12 (by decide)
      · have e1 : setL (σ ++ .lst (natsV (backs (nx ws) 0 (k + 1))) :: (τ ++ [.lst (natsV (outs ws (iter (nx ws) k 0)))])) σ.length (natsV (backs (nx ws) 0 (k + 1)) ++ [V.int (iter (nx ws) (k + 1) 0 : Nat)]) = σ ++ .lst (natsV (backs (nx ws) 0 (k + 1 + 1))) :: (τ ++ [.lst (natsV (outs ws (iter (nx ws) k 0)))]) := by
          unfold setL
          rw [set_new, backs_succ (q := k + 1)]
          unfold natsV
          rw [List.map_append]; rfl
        rw [e1]
        exact h1

set_option tactic.hygienic false in
theorem any_ring_ok (h3 : P 3 = some fLedOn) (h6 : P 6 = some fAnyRing) (W : WebAt σ l m ws) (hz : ws.length ≤ 60) (m1 : 1 ≤ m) (m2 : m ≤ 12) (hO : Outs ws m) (hm : ∀ w ∈ ws, w.1 < m ∧ w.2.1 < m) (hw : 13 ≤ wf) :
    ∃ v σ', evFn P wf (n + 2) 6 [.ref l] σ = .ok v σ' ∧ GivesRing σ ws m v σ' := by
  obtain ⟨v, fr, σ', h1, h2⟩ := any_loop (P := P) (wf := wf) (n := n) h3 W hz m1 m2 hO hm m 0 wf [] none (by lia) (by lia) (fun i j hij hj => by lia)
  exact ⟨v, σ', f_ret h6 rfl (s_asg' (e_list (es_cons e_int es_nil) (newL_fits (by decide : 1 ≤ 16777216))) (by decide : 1 < 4) (s_ret1 h1)), h2⟩
end
end Mine

set_option autoImplicit false
set_option linter.unusedVariables false
namespace Mine

inductive Walk (ws : List Way) (a : Nat) : Nat → Nat → Nat → Prop
  | nil : Walk ws a a 0 0
  | step {b c d n t : Nat} (h : Walk ws a b n t) (hw : (b, c, d) ∈ ws) : Walk ws a c (n + 1) (t + d)

structure MaxMean (ws : List Way) (N D : Nat) : Prop where
  pos : 1 ≤ D
  att : ∃ a n t, 1 ≤ n ∧ Walk ws a a n t ∧ N * n = D * t
  bound : ∀ a n t, Walk ws a a n t → D * t ≤ N * n

set_option tactic.hygienic false in
theorem best_mem {ws : List Way} {a b : Nat} (h : between ws a b ≠ []) : (a, b, best ws a b) ∈ ws := by
  have key : ∀ (l : List Nat) (x : Nat), l.foldl max x = x ∨ l.foldl max x ∈ l := by
    intro l
    induction l with
    | nil => intro x; exact .inl rfl
    | cons y l ih =>
      intro x
      rw [List.foldl_cons]
      rcases ih (max x y) with e | e
      · rw [e]
        by_cases hxy : x ≤ y
        · rw [Nat.max_eq_right hxy]; exact .inr (.head _)
        · rw [Nat.max_eq_left (by lia)]; exact .inl rfl
      · exact .inr (.tail _ e)
  have hm : best ws a b ∈ between ws a b := by
    unfold best
    cases q : between ws a b with
    | nil => exact absurd q h
    | cons x l =>
      rw [List.foldl_cons, Nat.zero_max]
      rcases key l x with e | e
      · rw [e]; exact .head _
      · exact .tail _ e
  obtain ⟨w, hw, e⟩ := List.mem_map.mp hm
  obtain ⟨h1, h2⟩ := List.mem_filter.mp hw
  obtain ⟨wa, wb, wd⟩ := w
  have h2 : wa = a ∧ wb = b := by simpa using h2
  rw [← e, ← h2.1, ← h2.2]; exact h1

section
variable {ws : List Way} {m : Nat}
set_option tactic.hygienic false in
theorem ring_walk {r : List Nat} (R : RingOk ws m r) : ∀ k, k ≤ r.length → Walk ws (r.getD 0 0) (r.getD (k % r.length) 0) k (rtot ws r k)
  | 0, _ => by rw [Nat.zero_mod]; exact .nil
  | k + 1, h => by
    have h1 := ring_walk R k (by lia)
    rw [Nat.mod_eq_of_lt (by lia)] at h1
    exact .step h1 (best_mem (R.way k (by lia)))
set_option tactic.hygienic false in
theorem rtot_le {r : List Nat} {M : Nat} (hd : ∀ w ∈ ws, w.2.2 ≤ M) (R : RingOk ws m r) : ∀ k, k ≤ r.length → rtot ws r k ≤ M * k
  | 0, _ => Nat.zero_le _
  | k + 1, h => by
    have h1 := rtot_le hd R k (by lia)
    have h2 : best ws (r.getD k 0) (r.getD ((k + 1) % r.length) 0) ≤ M := hd _ (best_mem (R.way k (by lia)))
    rw [Nat.mul_succ]
    exact Nat.add_le_add h1 h2
theorem walk_pot {N D : Nat} {S : Nat → Int} (hs : ∀ w ∈ ws, Settled N D S w) {a b n t : Nat} (h : Walk ws a b n t) : S a + (D : Int) * t - (N : Int) * n ≤ S b := by
  induction h with
  | nil => rw [Int.natCast_zero, Int.mul_zero, Int.mul_zero]; lia
  | step h hw ih =>
    rename_i b c d n t
    have h1 : S b + (D : Int) * d - N ≤ S c := hs _ hw
    rw [Int.natCast_add, Int.natCast_add, Int.mul_add, Int.mul_add, Int.natCast_one, Int.mul_one]
    lia
set_option tactic.hygienic false in
theorem settled_bound {N D : Nat} {S : Nat → Int} (hs : ∀ w ∈ ws, Settled N D S w) {a n t : Nat} (h : Walk ws a a n t) : D * t ≤ N * n := by
  have := walk_pot hs h
  have h2 : ((D * t : Nat) : Int) ≤ ((N * n : Nat) : Int) := by rw [Int.natCast_mul, Int.natCast_mul]; lia
  exact Int.ofNat_le.mp h2

set_option tactic.hygienic false in
theorem low_eq {t n g : Nat} (hg : g = Nat.gcd t n) (hn : 1 ≤ n) : t / g * n = n / g * t ∧ 1 ≤ n / g ∧ Nat.gcd (t / g) (n / g) = 1 ∧ t = g * (t / g) ∧ n = g * (n / g) := by
  subst hg
  have gp : 0 < Nat.gcd t n := Nat.gcd_pos_of_pos_right _ hn
  have d1 : t = Nat.gcd t n * (t / Nat.gcd t n) := (Nat.mul_div_cancel' (Nat.gcd_dvd_left _ _)).symm
  have d2 : n = Nat.gcd t n * (n / Nat.gcd t n) := (Nat.mul_div_cancel' (Nat.gcd_dvd_right _ _)).symm
  refine ⟨?_, ?_, Nat.Coprime.gcd_eq_one (Nat.coprime_div_gcd_div_gcd gp), d1, d2⟩
  · generalize Nat.gcd t n = g at *
    generalize t / g = x at *
    generalize n / g = y at *
    rw [d1, d2, ← Nat.mul_assoc, ← Nat.mul_assoc, Nat.mul_comm x g, Nat.mul_comm y g, Nat.mul_right_comm]
  · exact Nat.div_pos (Nat.gcd_le_right _ hn) gp
set_option tactic.hygienic false in
theorem max_of {r : List Nat} {S : Nat → Int} {N D : Nat} (R : RingOk ws m r) (hN : N = rtot ws r r.length / Nat.gcd (rtot ws r r.length) r.length) (hD : D = r.length / Nat.gcd (rtot ws r r.length) r.length) (hs : ∀ w ∈ ws, Settled N D S w) : MaxMean ws N D ∧ Nat.gcd N D = 1 := by
  obtain ⟨h1, h2, h3, _⟩ := low_eq (t := rtot ws r r.length) rfl (ring_pos R)
  rw [← hN, ← hD] at h1 h3
  rw [← hD] at h2
  have hw := ring_walk R r.length (Nat.le_refl _)
  rw [Nat.mod_self] at hw
  exact ⟨⟨h2, ⟨_, _, _, ring_pos R, hw, h1⟩, fun a n t h => settled_bound hs h⟩, h3⟩

set_option tactic.hygienic false in
theorem grows {t n t' n' a a' N D : Nat} (hg : N * n = D * t) (hD : 1 ≤ D) (hn : 1 ≤ n) (h : N * n' < D * t') (e : n * a = n' * a') (ha : 1 ≤ n * a) : t * a < t' * a' := by
  -- t/n < t'/n'
  have h1 : t * n' < t' * n := by
    apply Decidable.byContradiction
    intro hn1
    have h2 : t' * n ≤ t * n' := by lia
    have h3 : D * (t' * n) ≤ D * (t * n') := Nat.mul_le_mul_left _ h2
    have h4 : D * (t * n') = N * n' * n := by rw [← Nat.mul_assoc, ← hg, Nat.mul_right_comm]
    have h5 : N * n' * n < D * t' * n := Nat.mul_lt_mul_of_pos_right h hn
    rw [h4, ← Nat.mul_assoc] at h3
    lia
  have a1 : 1 ≤ a' := Nat.pos_of_ne_zero fun q => by rw [q, Nat.mul_zero] at e; lia
  have a0 : 1 ≤ a := Nat.pos_of_ne_zero fun q => by rw [q, Nat.mul_zero] at ha; lia
  have h6 : t * n' * (a * a') < t' * n * (a * a') := Nat.mul_lt_mul_of_pos_right h1 (Nat.mul_pos a0 a1)
  have e1 : t * n' * (a * a') = t * a * (n * a) := by rw [e, Nat.mul_comm a a', Nat.mul_assoc, Nat.mul_assoc, ← Nat.mul_assoc n', Nat.mul_comm _ a]
  have e2 : t' * n * (a * a') = t' * a' * (n * a) := by rw [Nat.mul_assoc, Nat.mul_assoc, ← Nat.mul_assoc n, Nat.mul_comm _ a']
  rw [e1, e2] at h6
  exact Nat.lt_of_mul_lt_mul_right h6

end
end Mine

set_option autoImplicit false
set_option linter.unusedVariables false
namespace Mine
open PySem

noncomputable def paceBody : List S :=
  [S.asgT [2, 3] (E.call 2 [E.loc 0, E.loc 1]), S.asg 4 (E.call 5 [E.loc 0, E.loc 2, E.loc 3]),
    S.ifS (E.cmp CmpOp.Is ((E.loc 4).sub (E.int 0)) E.none) [S.ret (E.tup [E.loc 2, E.loc 3, E.loc 1, (E.loc 4).sub (E.int 1)])] [],
    S.asg 1 ((E.loc 4).sub (E.int 0))]
noncomputable def fPace : Fn := { ps := [0], size := 8, body := [S.asg 1 (E.call 6 [E.loc 0]), S.whileS (E.bool true) paceBody] }

structure WebOk (m : Nat) (ws : List Way) : Prop where
  m1 : 1 ≤ m
  m2 : m ≤ 12
  hz : ws.length ≤ 60
  hm : ∀ w ∈ ws, w.1 < m ∧ w.2.1 < m
  hd : ∀ w ∈ ws, w.2.2 ≤ 9999
  hO : Outs ws m
structure Defs2 (P : Nat → Option Fn) : Prop extends Defs1 P where
  h3 : P 3 = some fLedOn
  h4 : P 4 = some fRingBehind
  h5 : P 5 = some fSlower
  h6 : P 6 = some fAnyRing
  h7 : P 7 = some fPace

structure PaceRes (σ : Sto) (m : Nat) (ws : List Way) (N D lr : Nat) (r : List Nat) (ls : Nat) (S : Nat → Int) (τ : Sto) : Prop where
  ring : (σ ++ τ)[lr]? = some (.lst (natsV r))
  start : (σ ++ τ)[ls]? = some (.lst (intsV m S))
  ok : RingOk ws m r
  min : ∀ x ∈ r, r.getD 0 0 ≤ x
  hN : N = rtot ws r r.length / Nat.gcd (rtot ws r r.length) r.length
  hD : D = r.length / Nat.gcd (rtot ws r r.length) r.length
  set : ∀ w ∈ ws, Settled N D S w
  fresh : σ.length ≤ lr ∧ σ.length ≤ ls
set_option tactic.hygienic false in
theorem PaceRes.max {σ : Sto} {m : Nat} {ws : List Way} {N D lr : Nat} {r : List Nat} {ls : Nat} {S : Nat → Int} {τ : Sto} (h : PaceRes σ m ws N D lr r ls S τ) : MaxMean ws N D ∧ Nat.gcd N D = 1 := max_of h.ok h.hN h.hD h.set

set_option tactic.hygienic false in
theorem parts : ∀ n : Nat, 1 ≤ n → n ≤ 12 → n * (27720 / n) = 27720 := by
  intro n h1 h2
  have : ∀ n : Fin 13, 1 ≤ n.1 → n.1 * (27720 / n.1) = 27720 := by decide
  exact this ⟨n, by lia⟩ h1

section
variable {P : Nat → Option Fn} {wf n : Nat} {σ : Sto} {l m : Nat} {ws : List Way}
noncomputable def far (ws : List Way) (r : List Nat) : Nat := rtot ws r r.length * (27720 / r.length)
set_option tactic.hygienic false in
theorem far_le (hd : ∀ w ∈ ws, w.2.2 ≤ 9999) (m2 : m ≤ 12) {r : List Nat} (R : RingOk ws m r) : far ws r ≤ 9999 * 27720 := by
  have h := Nat.mul_le_mul_right (27720 / r.length) (rtot_le hd R _ (Nat.le_refl _))
  rw [Nat.mul_assoc, parts _ (ring_pos R) (Nat.le_trans (ring_len R) m2)] at h
  exact h
def PaceOut (σ : Sto) (m : Nat) (ws : List Way) (v : V) (σ' : Sto) : Prop := ∃ N D lr r ls S τ, v = .tup [.int (N : Nat), .int (D : Nat), .ref lr, .ref ls] ∧ σ' = σ ++ τ ∧ PaceRes σ m ws N D lr r ls S τ
set_option tactic.hygienic false in
theorem pace_loop (H : Defs2 P) (W : WebAt σ l m ws) (O : WebOk m ws) (hw : 13 ≤ wf) : ∀ (d f lr : Nat) (r : List Nat) (τ : Sto) (x2 x3 x4 : Option V), 9999 * 27720 ≤ far ws r + d → d < f → (σ ++ τ)[lr]? = some (.lst (natsV r)) → RingOk ws m r → (∀ x ∈ r, r.getD 0 0 ≤ x) → σ.length ≤ lr →
    ∃ v fr σ', whileL (evE (evFn P wf (n + 4)) (.bool true)) (evSs (evFn P wf (n + 4)) wf paceBody) f [some (.ref l), some (.ref lr), x2, x3, x4, none, none, none] (σ ++ τ) = .ok (.ret v) fr σ' ∧ PaceOut σ m ws v σ' := by
  intro d
  induction d using Nat.strongRecOn with
  | _ d ih =>
    intro f lr r τ x2 x3 x4 hd hf hr R hmin hfr
    obtain ⟨f, rfl⟩ : ∃ g, f = g + 1 := ⟨f - 1, by lia⟩
    have hrl := Nat.le_trans (ring_len R) O.m2
    obtain ⟨τ1, e1⟩ := mean_ok (wf := wf) (n := n) H.toDefs1 (W.app (τ := τ)) O.hz hr R O.m2 hrl hw
    obtain ⟨g1, g2, g3, g4, g5⟩ := low_eq (t := rtot ws r r.length) rfl (ring_pos R)
    generalize hN : rtot ws r r.length / Nat.gcd (rtot ws r r.length) r.length = N at e1 g1 g3 g4
    generalize hD : r.length / Nat.gcd (rtot ws r r.length) r.length = D at e1 g1 g2 g3 g5
    have hDl : D < 2 ^ 64 := by
      have : D ≤ r.length := by rw [← hD]; exact Nat.div_le_self _ _
      exact Nat.lt_of_le_of_lt (Nat.le_trans this hrl) (by decide)
    obtain ⟨v, σ2, e2, res⟩ := slower_ok (wf := wf) (n := n + 1) (num := N) (div := D) H.h3 H.h4 H.h5 (W.app (τ := τ).app (τ := τ1)) O.m1 O.m2 g2 hDl O.hm hw
    cases res with
    | none ls S τ2 hls hs hfs =>
      refine ⟨_, _, _, wh_ret e_bool (s_asgT' (e_call (es_cons (e_loc rfl) (es_cons (e_loc rfl) es_nil)) e1) rfl (s_asg' (e_call (es_cons (e_loc rfl) (es_cons (e_loc rfl) (es_cons (e_loc rfl) es_nil))) e2) (by decide : 4 < 8) (s_if_ret (e_cmp (e_sub (e_loc rfl) e_int rfl) e_none rfl) (s_ret' (e_tup (es_cons (e_loc rfl) (es_cons (e_loc rfl) (es_cons (e_loc rfl) (es_cons (e_sub (e_loc rfl) e_int rfl) es_nil)))) (by decide : 4 ≤ 1000)))))), N, D, lr, r, ls, S, τ ++ τ1 ++ τ2, rfl, ?_, ?_⟩
      · rw [List.append_assoc, List.append_assoc, List.append_assoc]
      · have ea : σ ++ (τ ++ τ1 ++ τ2) = σ ++ τ ++ τ1 ++ τ2 := by rw [List.append_assoc, List.append_assoc, List.append_assoc]
        exact ⟨by rw [ea]; exact ap (ap hr), by rw [ea]; exact hls, R, hmin, hN.symm, hD.symm, hs, hfr, Nat.le_trans (List.Sublist.length_le ((List.sublist_append_left _ _).trans (List.sublist_append_left _ _))) hfs⟩
    | ring lr' r' τ2 hr' R' hlt hmin' hfs =>
      have hf' := far_le O.hd O.m2 R'
      have hg : far ws r < far ws r' := grows g1 g2 (ring_pos R) hlt ((parts _ (ring_pos R) hrl).trans (parts _ (ring_pos R') (Nat.le_trans (ring_len R') O.m2)).symm) (by rw [parts _ (ring_pos R) hrl]; decide)
      have ea : σ ++ τ ++ τ1 ++ τ2 = σ ++ (τ ++ τ1 ++ τ2) := by rw [List.append_assoc, List.append_assoc, List.append_assoc]
      rw [ea] at hr' e2
      obtain ⟨v, fr, σ', h1, h2⟩ := ih (far ws r + d - far ws r') (by lia) f lr' r' (τ ++ τ1 ++ τ2) (some (.int N)) (some (.int D)) (some (.tup [.ref lr', .none])) (by lia) (by lia) hr' R' hmin' (Nat.le_trans (List.Sublist.length_le ((List.sublist_append_left _ _).trans (List.sublist_append_left _ _))) hfs)
      exact ⟨v, fr, σ', wh_step e_bool (s_asgT' (e_call (es_cons (e_loc rfl) (es_cons (e_loc rfl) es_nil)) e1) rfl (s_asg' (e_call (es_cons (e_loc rfl) (es_cons (e_loc rfl) (es_cons (e_loc rfl) es_nil))) e2) (by decide : 4 < 8) (s_skip (e_cmp (e_sub (e_loc rfl) e_int rfl) e_none rfl) (s_asg' (e_sub (e_loc rfl) e_int rfl) (by decide : 1 < 8) s_nil)))) h1, h2⟩

set_option tactic.hygienic false in
theorem pace_ok (H : Defs2 P) (W : WebAt σ l m ws) (O : WebOk m ws) (hw : 9999 * 27720 < wf) : ∃ v σ', evFn P wf (n + 5) 7 [.ref l] σ = .ok v σ' ∧ PaceOut σ m ws v σ' := by
  obtain ⟨v, σ', e1, lr, r, τ, rfl, rfl, hr, R, hmin, hfr⟩ := any_ring_ok (wf := wf) (n := n + 2) H.h3 H.h6 W O.hz O.m1 O.m2 O.hO O.hm (Nat.le_trans (by decide) (Nat.le_of_lt hw))
  obtain ⟨v, fr, σ', h1, h2⟩ := pace_loop (n := n) H W O (Nat.le_trans (by decide) (Nat.le_of_lt hw)) (9999 * 27720) wf lr r τ none none none (Nat.le_add_left _ _) hw hr R hmin hfr
  exact ⟨v, σ', f_ret H.h7 rfl (s_asg' (e_call (es_cons (e_loc rfl) es_nil) e1) (by decide : 1 < 8) (s_ret1 h1)), h2⟩
end
end Mine

set_option autoImplicit false
set_option linter.unusedVariables false
namespace Mine
open PySem

set_option tactic.hygienic false in
theorem mapO_map {α β γ : Type} {f : β → Option γ} {g : α → β} {h : α → γ} : ∀ {l : List α}, (∀ a ∈ l, f (g a) = some (h a)) → mapO f (l.map g) = some (l.map h)
  | [], _ => rfl
  | a :: l, H => by rw [List.map_cons, List.map_cons, mapO, H a (.head _), mapO_map fun b hb => H b (.tail _ hb)]
set_option tactic.hygienic false in
theorem toD_lst {σ : Sto} {l n : Nat} {xs : List V} {ds : List PyData} (h : σ[l]? = some (.lst xs)) (hd : mapO (toD n σ) xs = some ds) : toD (n + 1) σ (.ref l) = some (.list ds) := by
  show (match getL σ l with | some vs => (mapO (toD n σ) vs).map PyData.list | none => none) = _
  rw [getL_some h]
  show (mapO (toD n σ) xs).map PyData.list = _
  rw [hd]; rfl
set_option tactic.hygienic false in
theorem eqv_nil {ds : List PyData} : PyData.eqv (.list ds) (.list []) = ds.isEmpty := by
  cases ds with
  | nil => rfl
  | cons d ds => rfl
set_option tactic.hygienic false in
theorem eqV_nil {σ : Sto} {l k : Nat} {xs : List V} {ds : List PyData} (h : σ[l]? = some (.lst xs)) (hd : mapO (toD 4 σ) xs = some ds) (hk : σ[k]? = some (.lst [])) : eqV σ (.ref l) (.ref k) = some ds.isEmpty := by
  unfold eqV
  rw [toD_lst h hd, toD_lst (ds := []) hk rfl]
  exact congrArg some eqv_nil
noncomputable def natsD (r : List Nat) : List PyData := r.map fun (v : Nat) => .int v
noncomputable def wayD (w : Way) : PyData := .tuple [.int w.1, .int w.2.1, .int w.2.2]
set_option tactic.hygienic false in
theorem natsD_of {σ : Sto} {r : List Nat} : mapO (toD 4 σ) (natsV r) = some (natsD r) := mapO_map fun _ _ => rfl
set_option tactic.hygienic false in
theorem wayD_of {σ : Sto} {ws : List Way} : mapO (toD 4 σ) (ws.map wayV) = some (ws.map wayD) := mapO_map fun _ _ => rfl

noncomputable def comeIf : S := S.ifS ((E.cmp CmpOp.Eq ((E.loc 5).sub (E.int 0)) (E.loc 4)).and (E.cmp CmpOp.NotIn ((E.loc 5).sub (E.int 1)) (E.loc 2)))
  [S.asgI (E.loc 2) ((E.loc 5).sub (E.int 1)) (E.bool true), S.expr ((E.loc 3).meth MN.append [(E.loc 5).sub (E.int 1)])] []
noncomputable def comeBody : List S := [S.asg 4 ((E.loc 3).meth MN.pop []), S.forS [5] true (It.e (E.loc 1)) [comeIf]]
noncomputable def fComeTo : Fn := { ps := [0, 1], size := 6, body :=
  [S.asg 2 ((E.int 0).dict1 (E.bool true)), S.asg 3 (E.list [E.int 0]), S.whileS (E.cmp CmpOp.NotEq (E.loc 3) (E.list [])) comeBody, S.ret (E.loc 2)] }

noncomputable def keysV (F : List Nat) : List (Int × V) := F.map fun (v : Nat) => ((v : Int), V.bool true)
set_option tactic.hygienic false in
theorem keys_any {F : List Nat} {x : Nat} : ((keysV F).any fun e => e.1 == (x : Int)) = decide (x ∈ F) := by
  rw [Bool.eq_iff_iff, List.any_eq_true, decide_eq_true_eq]
  constructor
  · rintro ⟨e, he, q⟩
    obtain ⟨v, hv, rfl⟩ := List.mem_map.mp he
    have : (v : Int) = (x : Int) := eq_of_beq q
    rwa [← Int.ofNat.inj this]
  · intro h
    exact ⟨_, List.mem_map.mpr ⟨x, h, rfl⟩, beq_self_eq_true _⟩
set_option tactic.hygienic false in
theorem keys_put {x : Nat} : ∀ {F : List Nat}, x ∉ F → putI (x : Int) (.bool true) (keysV F) = keysV (F ++ [x])
  | [], _ => rfl
  | v :: F, h => by
    rw [List.mem_cons, not_or] at h
    show (if ((v : Int) == (x : Int)) then ((v : Int), V.bool true) :: keysV F else ((v : Int), V.bool true) :: putI (x : Int) (.bool true) (keysV F)) = _
    rw [nat_beq, if_neg (by simpa using Ne.symm h.1), keys_put h.2]; rfl

noncomputable def comeS (σ : Sto) (F Q : List Nat) (τ : Sto) : Sto := σ ++ .dI (keysV F) :: .lst (natsV Q) :: τ
section
variable {σ τ : Sto} {F Q : List Nat}
set_option tactic.hygienic false in
theorem come_d : (comeS σ F Q τ)[σ.length]? = some (.dI (keysV F)) := ap_new
set_option tactic.hygienic false in
theorem come_q : (comeS σ F Q τ)[σ.length + 1]? = some (.lst (natsV Q)) := by unfold comeS; rw [List.getElem?_append_right (by lia), show σ.length + 1 - σ.length = 1 by lia]; rfl
set_option tactic.hygienic false in
theorem come_setd {x : Nat} (h : x ∉ F) (hl : F.length ≤ 1000) : setIdx (.ref σ.length) (.int x) (.bool true) (comeS σ F Q τ) = some (comeS σ (F ++ [x]) Q τ) := by
  unfold setIdx; dsimp only; rw [come_d]; dsimp only
  rw [if_pos (by unfold keysV; rw [List.length_map]; lia), keys_put h]
  unfold comeS
  rw [set_new]
set_option tactic.hygienic false in
theorem come_setq {Q' : List Nat} : setL (comeS σ F Q τ) (σ.length + 1) (natsV Q') = comeS σ F Q' τ := by
  unfold setL comeS
  rw [List.set_append_right _ _ (by lia), show σ.length + 1 - σ.length = 1 by lia]; rfl
set_option tactic.hygienic false in
theorem come_notin {x : Nat} : cmpV .NotIn (.int x) (.ref σ.length) (comeS σ F Q τ) = some (decide (x ∉ F)) := by
  show notInV (comeS σ F Q τ) (.int x) (.ref σ.length) = _
  unfold notInV; dsimp only; rw [come_d]; dsimp only
  rw [keys_any]
  refine congrArg some ?_
  by_cases h : x ∈ F <;> simp [h]
set_option tactic.hygienic false in
theorem come_app {o : AO} : comeS σ F Q τ ++ [o] = comeS σ F Q (τ ++ [o]) := by unfold comeS; rw [List.append_assoc]; rfl
end

structure Come (m : Nat) (F Q : List Nat) (ex : Nat → List Way) (ws : List Way) : Prop where
  nd : F.Nodup
  lt : ∀ v ∈ F, v < m
  zero : 0 ∈ F
  sub : ∀ v ∈ Q, v ∈ F
  cl : ∀ w ∈ ws, w.1 ∈ F → w.1 ∉ Q → w ∉ ex w.1 → w.2.1 ∈ F

section
variable {P : Nat → Option Fn} {wf n : Nat} {σ : Sto} {lw m : Nat} {ws : List Way}
noncomputable def comeF (σ : Sto) (m lw : Nat) (x4 x5 : Option V) : Fra := [some (.int m), some (.ref lw), some (.ref σ.length), some (.ref (σ.length + 1)), x4, x5]
noncomputable def after (ws : List Way) (h i : Nat) (v : Nat) : List Way := if v = h then ws.drop i else []

theorem come_turn {call : Nat → List V → Sto → RE} {h i c : Nat} {w : Way} {F Q : List Nat} {τ : Sto} {x5 : Option V} (hm : ∀ w ∈ ws, w.1 < m ∧ w.2.1 < m) (m2 : m ≤ 12) (hw : ws[i]? = some w) (C : Come m F Q (after ws h i) ws) (hF : h ∈ F) (hc : Q.length + c = F.length) :
    Turn [5] true (evSs call wf [comeIf]) (wayV w) (comeF σ m lw (some (.int h)) x5) (comeS σ F Q τ)
      (fun fr σ' => ∃ (F Q : List Nat) (τ' : Sto) (x5 : Option V), Come m F Q (after ws h (i + 1)) ws ∧ h ∈ F ∧ Q.length + c = F.length ∧ fr = comeF σ m lw (some (.int h)) x5 ∧ σ' = comeS σ F Q τ') (fun _ _ => False) := by
  have hmem := List.mem_of_getElem? hw
  have hlen := nodup_lt m F C.nd C.lt
  obtain ⟨a, b, d⟩ := w
  have hb : b < m := (hm _ hmem).2
  have hdrop : ws.drop i = (a, b, d) :: ws.drop (i + 1) := by
    obtain ⟨h1, h2⟩ := List.getElem?_eq_some_iff.mp hw
    rw [List.drop_eq_getElem_cons h1, h2]
  have next : ∀ u : Way, u ∉ after ws h (i + 1) u.1 → u ≠ (a, b, d) → u ∉ after ws h i u.1 := fun u hu hne => by
    unfold after at hu ⊢
    split at hu
    · rename_i e
      rw [if_pos e, hdrop, List.mem_cons, not_or]; exact ⟨hne, hu⟩
    · rename_i e
      rw [if_neg e]; exact hu
  have test1 : evE call (E.cmp CmpOp.Eq ((E.loc 5).sub (E.int 0)) (E.loc 4)) (comeF σ m lw (some (.int h)) (some (wayV (a, b, d)))) (comeS σ F Q τ) = .ok (.bool (a == h)) (comeS σ F Q τ) := e_cmp (e_sub (e_loc rfl) e_int rfl) (e_loc rfl) (congrArg some (nat_beq a h))
  refine ⟨comeF σ m lw (some (.int h)) (some (wayV (a, b, d))), rfl, .inl ?_⟩
  by_cases hn : a = h ∧ b ∉ F
  · obtain ⟨rfl, hn⟩ := hn
    refine ⟨_, _, s_if_t (e_and_t (test1.trans (by rw [beq_self_eq_true])) (e_cmp (p := true) (e_sub (e_loc rfl) e_int rfl) (e_loc rfl) (come_notin.trans (congrArg some (decide_eq_true hn)))))
      (s_asgI' e_bool (e_loc rfl) (e_sub (e_loc rfl) e_int rfl) (come_setd hn (by lia)) (s_expr' (e_meth (e_loc rfl) (getL_some come_q) (es_cons (e_sub (e_loc rfl) e_int rfl) es_nil) (getL_some come_q) (m_app ?_)) s_nil)) s_nil, F ++ [b], Q ++ [b], τ, some (wayV (a, b, d)), ⟨?_, ?_, ?_, ?_, ?_⟩, List.mem_append_left _ hF, ?_, rfl, ?_⟩
    · rw [natsV_len]
      lia
    · rw [List.nodup_append]
      exact ⟨C.nd, by simp, fun x hx y hy e => hn (by rw [← List.mem_singleton.mp hy, ← e]; exact hx)⟩
    · intro v hv
      rcases List.mem_append.mp hv with hv | hv
      · exact C.lt v hv
      · rw [List.mem_singleton.mp hv]; exact hb
    · exact List.mem_append_left _ C.zero
    · intro v hv
      rcases List.mem_append.mp hv with hv | hv
      · exact List.mem_append_left _ (C.sub v hv)
      · exact List.mem_append_right _ hv
    · intro u hu h1 h2 h3
      by_cases e : u = (a, b, d)
      · rw [e]; exact List.mem_append_right _ (.head _)
      · rw [List.mem_append, not_or] at h2
        rcases List.mem_append.mp h1 with h1 | h1
        · exact List.mem_append_left _ (C.cl u hu h1 h2.1 (next u h3 e))
        · exact absurd h1 h2.2
    · rw [List.length_append, List.length_append]
      show Q.length + 1 + c = F.length + 1
      lia
    · have e1 : natsV Q ++ [V.int (b : Nat)] = natsV (Q ++ [b]) := by unfold natsV; rw [List.map_append]; rfl
      show setL _ _ (natsV Q ++ [V.int (b : Nat)]) = _
      rw [e1, come_setq]
  · refine ⟨_, _, s_skip ((e_and (p := a == h) (q := decide (b ∉ F)) test1 fun _ => e_cmp (e_sub (e_loc rfl) e_int rfl) (e_loc rfl) come_notin).trans ?_) s_nil, F, Q, τ, some (wayV (a, b, d)), ⟨C.nd, C.lt, C.zero, C.sub, fun u hu h1 h2 h3 => ?_⟩, hF, hc, rfl, rfl⟩
    · have : (a == h && decide (b ∉ F)) = false := by
        rw [Bool.eq_false_iff]
        intro q
        rw [Bool.and_eq_true, beq_iff_eq, decide_eq_true_eq] at q
        exact hn q
      rw [this]
    · by_cases e : u = (a, b, d)
      · subst e
        by_cases ha : a = h
        · exact Decidable.byContradiction fun hb => hn ⟨ha, hb⟩
        · exact C.cl _ hu h1 h2 (by unfold after; rw [if_neg ha]; exact fun q => nomatch q)
      · exact C.cl u hu h1 h2 (next u h3 e)
end
end Mine

set_option autoImplicit false
set_option linter.unusedVariables false
namespace Mine
open PySem

def Reach (ws : List Way) (a b : Nat) : Prop := ∃ n t, Walk ws a b n t
section
variable {P : Nat → Option Fn} {wf n : Nat} {σ : Sto} {lw m : Nat} {ws : List Way}
set_option tactic.hygienic false in
theorem come_om {a b c q m d : Nat} (hd : a + 1 + m ≤ d + 1 + b) (hq : a + 1 ≤ b) (h2 : q + (b - a) = c) : q + m ≤ d + c ∧ q ≤ c := by lia
set_option tactic.hygienic false in
theorem come_om0 {q m f : Nat} (hd : q + m ≤ 0 + f) (hl : f ≤ m) : q = 0 := by lia
set_option tactic.hygienic false in
theorem come_loop {call : Nat → List V → Sto → RE} (hm : ∀ w ∈ ws, w.1 < m ∧ w.2.1 < m) (m2 : m ≤ 12) (hlw : σ[lw]? = some (.lst (ws.map wayV))) : ∀ (d f : Nat) (F Q : List Nat) (τ : Sto) (x4 x5 : Option V), Q.length + m ≤ d + F.length → d < f → Q.length ≤ F.length → Come m F Q (fun _ => []) ws →
    ∃ F' τ' y4 y5, whileL (evE call (E.cmp CmpOp.NotEq (E.loc 3) (E.list []))) (evSs call wf comeBody) f (comeF σ m lw x4 x5) (comeS σ F Q τ) = .ok .next (comeF σ m lw y4 y5) (comeS σ F' [] τ') ∧ Come m F' [] (fun _ => []) ws := by
  have ct : ∀ (F Q : List Nat) (τ : Sto) (x4 x5 : Option V), evE call (E.cmp CmpOp.NotEq (E.loc 3) (E.list [])) (comeF σ m lw x4 x5) (comeS σ F Q τ) = .ok (.bool (!(natsD Q).isEmpty)) (comeS σ F Q (τ ++ [.lst []])) := fun F Q τ x4 x5 => by
    refine e_cmp (e_loc rfl) (e_list es_nil (newL_fits (by decide : 0 ≤ 16777216))) ?_ |>.trans (by rw [come_app])
    show (eqV _ _ _).map _ = _
    rw [eqV_nil (ap come_q) natsD_of ap_new]; rfl
  have cf : ∀ (F : List Nat) (τ : Sto) (x4 x5 : Option V), evE call (E.cmp CmpOp.NotEq (E.loc 3) (E.list [])) (comeF σ m lw x4 x5) (comeS σ F [] τ) = .ok (.bool false) (comeS σ F [] (τ ++ [.lst []])) := fun F τ x4 x5 => (ct F [] τ x4 x5).trans rfl
  intro d
  induction d with
  | zero =>
    intro f F Q τ x4 x5 hd hf hq C
    obtain ⟨f, rfl⟩ := Nat.exists_eq_succ_of_ne_zero (Nat.ne_zero_of_lt hf)
    have : Q = [] := List.length_eq_zero_iff.mp (come_om0 hd (nodup_lt m F C.nd C.lt))
    subst this
    exact ⟨F, τ ++ [.lst []], x4, x5, wh_end (cf F τ x4 x5), C⟩
  | succ d ih =>
    intro f F Q τ x4 x5 hd hf hq C
    obtain ⟨f, rfl⟩ := Nat.exists_eq_succ_of_ne_zero (Nat.ne_zero_of_lt hf)
    rcases List.eq_nil_or_concat Q with rfl | ⟨Q0, h, rfl⟩
    · exact ⟨F, τ ++ [.lst []], x4, x5, wh_end (cf F τ x4 x5), C⟩
    · rw [List.concat_eq_append] at *
      have hQ : (Q0 ++ [h]).length = Q0.length + 1 := by rw [List.length_append]; rfl
      rw [hQ] at hd hq
      have hF : h ∈ F := C.sub h (List.mem_append_right _ (.head _))
      have C0 : Come m F Q0 (after ws h 0) ws := ⟨C.nd, C.lt, C.zero, fun v hv => C.sub v (List.mem_append_left _ hv), fun w hw h1 h2 h3 => by
        by_cases e : w.1 = h
        · exact absurd (by unfold after; rw [if_pos e]; exact hw) h3
        · exact C.cl w hw h1 (fun q => (List.mem_append.mp q).elim h2 fun q => e (List.mem_singleton.mp q)) fun q => nomatch q⟩
      have lp := s_forL (call := call) (wf := wf) (tg := [5]) (one := true) (ws := ws) (g := wayV) (it := E.loc 1) (bs := [comeIf]) (fr := comeF σ m lw (some (.int h)) x5) (σ := comeS σ F Q0 (τ ++ [.lst []]))
        (fun i fr σ' => ∃ (F' Q' : List Nat) (τ' : Sto) (x5 : Option V), Come m F' Q' (after ws h i) ws ∧ h ∈ F' ∧ Q'.length + (F.length - Q0.length) = F'.length ∧ fr = comeF σ m lw (some (.int h)) x5 ∧ σ' = comeS σ F' Q' τ') (fun _ _ => False)
        (e_loc rfl) (by rintro i _ _ ⟨F', Q', τ', x5, _, _, _, _, rfl⟩; exact getL_some (ap hlw))
        (by
          rintro i w _ _ hw ⟨F', Q', τ', x5, C', h1, h2, rfl, rfl⟩
          exact come_turn hm m2 hw C' h1 h2) ⟨F, Q0, _, x5, C0, hF, Nat.add_sub_cancel' (Nat.le_of_lt hq), rfl, rfl⟩
      obtain ⟨fr1, σ1, e1, F', Q', τ', y5, C', h1, h2, rfl, rfl⟩ := lp.next
      have C1 : Come m F' Q' (fun _ => []) ws := ⟨C'.nd, C'.lt, C'.zero, C'.sub, fun w hw a1 a2 a3 => C'.cl w hw a1 a2 (by unfold after; rw [List.drop_length, ite_self]; exact a3)⟩
      have om := come_om hd hq h2
      obtain ⟨F2, τ2, z4, z5, e2, C2⟩ := ih f F' Q' τ' (some (.int h)) y5 om.1 (Nat.lt_of_succ_lt_succ hf) om.2 C1
      refine ⟨F2, τ2, z4, z5, wh_step (σ1 := comeS σ F (Q0 ++ [h]) (τ ++ [.lst []])) ((ct F (Q0 ++ [h]) τ x4 x5).trans ?_) (s_asg' (e_meth (e_loc rfl) (getL_some come_q) es_nil (getL_some come_q) (?_ : methV .pop _ _ _ _ = .ok (.int h) (comeS σ F Q0 (τ ++ [.lst []])))) (by decide : 4 < 6) (s_cons e1 s_nil)) e2, C2⟩
      · congr 2
        cases Q0 <;> rfl
      · have e3 : natsV (Q0 ++ [h]) = natsV Q0 ++ [V.int (h : Nat)] := by unfold natsV; rw [List.map_append]; rfl
        show (match (natsV (Q0 ++ [h])).getLast? with | some v => RE.ok v (setL _ _ (natsV (Q0 ++ [h])).dropLast) | none => .bad) = _
        rw [e3, List.getLast?_concat, List.dropLast_concat]
        show RE.ok _ (setL _ _ (natsV Q0)) = _
        rw [come_setq]

set_option tactic.hygienic false in
theorem come_all {F : List Nat} (C : Come m F [] (fun _ => []) ws) (hR : ∀ v, v < m → Reach ws 0 v) : F.length = m := by
  have h1 := nodup_lt m F C.nd C.lt
  have h2 : ∀ {b n t : Nat}, Walk ws 0 b n t → b ∈ F := by
    intro b n t h
    induction h with
    | nil => exact C.zero
    | step h hw ih => exact C.cl _ hw ih (fun q => nomatch q) fun q => nomatch q
  have h3 : (List.range m).length ≤ F.length := (List.nodup_range).length_le_of_subset fun v hv => by
    obtain ⟨n, t, hw⟩ := hR v (List.mem_range.mp hv)
    exact h2 hw
  rw [List.length_range] at h3
  lia
set_option tactic.hygienic false in
theorem come_to_ok (h9 : P 9 = some fComeTo) (hlw : σ[lw]? = some (.lst (ws.map wayV))) (hm : ∀ w ∈ ws, w.1 < m ∧ w.2.1 < m) (m1 : 1 ≤ m) (m2 : m ≤ 12) (hR : ∀ v, v < m → Reach ws 0 v) (hw : 14 ≤ wf) :
    ∃ τ, evFn P wf (n + 1) 9 [.int m, .ref lw] σ = .ok (.ref σ.length) (σ ++ τ) ∧ bltV .len [.ref σ.length] (σ ++ τ) = .ok (.int m) (σ ++ τ) := by
  obtain ⟨F, τ, y4, y5, e1, C⟩ := come_loop (call := evFn P wf n) (wf := wf) hm m2 hlw (m + 1) wf [0] [0] [] none none (by lia) (by lia) (Nat.le_refl _) ⟨by simp, fun v hv => by rw [List.mem_singleton.mp hv]; exact m1, .head _, fun v hv => hv, fun w hw h1 h2 => absurd h1 h2⟩
  have hF := come_all C hR
  refine ⟨_, f_ret h9 rfl (s_asg' (e_dict1 e_int e_bool) (by decide : 2 < 6) (s_asg' (e_list (es_cons e_int es_nil) (newL_fits (by decide : 1 ≤ 16777216))) (by decide : 3 < 6) (s_cons (?_ : evS _ _ _ _ _ = .ok .next (comeF σ m lw y4 y5) (comeS σ F [] τ)) (s_ret' (e_loc rfl))))), ?_⟩
  · have e2 : σ ++ [AO.dI [(0, V.bool true)]] ++ [AO.lst [V.int 0]] = comeS σ [0] [0] [] := by rw [List.append_assoc]; rfl
    have e3 : (σ ++ [AO.dI [(0, V.bool true)]]).length = σ.length + 1 := by rw [List.length_append]; rfl
    rw [e2, e3]
    exact e1
  · show ofOpt _ ((lenV (.ref σ.length) _).map V.int) = _
    unfold lenV; dsimp only; rw [ap_new]; dsimp only
    show RE.ok (.int ((keysV F).length : Nat)) _ = _
    unfold keysV
    rw [List.length_map, hF]
end
end Mine

set_option autoImplicit false
set_option linter.unusedVariables false
namespace Mine
open PySem

noncomputable def flipW (w : Way) : Way := (w.2.1, w.1, w.2.2)
noncomputable def flip (ws : List Way) : List Way := ws.map flipW
set_option tactic.hygienic false in
theorem mem_flip {ws : List Way} {a b d : Nat} : (a, b, d) ∈ flip ws ↔ (b, a, d) ∈ ws := by
  constructor
  · intro h
    obtain ⟨⟨x, y, z⟩, hw, e⟩ := List.mem_map.mp h
    unfold flipW at e
    cases e
    exact hw
  · exact fun h => List.mem_map.mpr ⟨_, h, rfl⟩
set_option tactic.hygienic false in
theorem Walk.app {ws : List Way} {a b c n t n' t' : Nat} (h : Walk ws a b n t) (h' : Walk ws b c n' t') : Walk ws a c (n + n') (t + t') := by
  induction h' with
  | nil => exact h
  | step _ hw ih => rw [← Nat.add_assoc t]; exact .step ih hw
set_option tactic.hygienic false in
theorem Walk.one {ws : List Way} {a b d : Nat} (h : (a, b, d) ∈ ws) : Walk ws a b 1 d := by
  have := Walk.step (Walk.nil (ws := ws) (a := a)) h
  rwa [Nat.zero_add, Nat.zero_add] at this
set_option tactic.hygienic false in
theorem Walk.flip {ws : List Way} {a b n t : Nat} (h : Walk ws a b n t) : Walk (Mine.flip ws) b a n t := by
  induction h with
  | nil => exact .nil
  | @step b c d n t _ hw ih =>
    have := (Walk.one (mem_flip.mpr hw)).app ih
    rwa [Nat.add_comm 1, Nat.add_comm d t] at this
set_option tactic.hygienic false in
theorem Reach.trans {ws : List Way} {a b c : Nat} (h : Reach ws a b) (h' : Reach ws b c) : Reach ws a c :=
  let ⟨_, _, p⟩ := h; let ⟨_, _, q⟩ := h'; ⟨_, _, p.app q⟩
set_option tactic.hygienic false in
theorem Reach.one {ws : List Way} {a b d : Nat} (h : (a, b, d) ∈ ws) : Reach ws a b := ⟨_, _, Walk.one h⟩
set_option tactic.hygienic false in
theorem Reach.self {ws : List Way} {a : Nat} : Reach ws a a := ⟨_, _, Walk.nil⟩
set_option tactic.hygienic false in
theorem Reach.flip {ws : List Way} {a b : Nat} (h : Reach ws a b) : Reach (Mine.flip ws) b a := let ⟨_, _, p⟩ := h; ⟨_, _, p.flip⟩

structure WebGood (m : Nat) (ws : List Way) : Prop where
  m1 : 1 ≤ m
  m2 : m ≤ 12
  hz : ws.length ≤ 60
  hm : ∀ w ∈ ws, w.1 < m ∧ w.2.1 < m
  hd : ∀ w ∈ ws, w.2.2 ≤ 9999
  sc : ∀ a b, a < m → b < m → Reach ws a b
  ne : ws ≠ []
set_option tactic.hygienic false in
theorem out_of {ws : List Way} {a b n t : Nat} (h : Walk ws a b n t) : a = b ∨ ∃ w ∈ ws, w.1 = a := by
  induction h with
  | nil => exact .inl rfl
  | step _ hw ih =>
    rcases ih with rfl | ih
    · exact .inr ⟨_, hw, rfl⟩
    · exact .inr ih
set_option tactic.hygienic false in
theorem WebGood.ok {m : Nat} {ws : List Way} (G : WebGood m ws) : WebOk m ws := by
  refine ⟨G.m1, G.m2, G.hz, G.hm, G.hd, fun a ha => ?_⟩
  by_cases h : m = 1
  · cases q : ws with
    | nil => exact absurd q G.ne
    | cons w r =>
      refine ⟨w, .head _, ?_⟩
      have := (G.hm w (by rw [q]; exact .head _)).1
      lia
  · obtain ⟨b, hb, hab⟩ : ∃ b, b < m ∧ a ≠ b := by
      by_cases h0 : a = 0
      · exact ⟨1, by have := G.m1; lia, by lia⟩
      · exact ⟨0, G.m1, h0⟩
    obtain ⟨n, t, hw⟩ := G.sc a b ha hb
    rcases out_of hw with e | e
    · exact absurd e hab
    · exact e
set_option tactic.hygienic false in
theorem WebGood.flip {m : Nat} {ws : List Way} (G : WebGood m ws) : WebGood m (Mine.flip ws) := by
  refine ⟨G.m1, G.m2, ?_, fun w hw => ?_, fun w hw => ?_, fun a b ha hb => (G.sc b a hb ha).flip, fun q => ?_⟩
  · unfold Mine.flip; rw [List.length_map]; exact G.hz
  · obtain ⟨u, hu, rfl⟩ := List.mem_map.mp hw
    exact ⟨(G.hm u hu).2, (G.hm u hu).1⟩
  · obtain ⟨u, hu, rfl⟩ := List.mem_map.mp hw
    exact G.hd u hu
  · exact G.ne (List.map_eq_nil_iff.mp q)

noncomputable def fIsJoined : Fn := { ps := [0, 1], size := 5, body :=
  [S.ifS (E.cmp CmpOp.Eq (E.loc 1) (E.list [])) [S.ret (E.bool false)] [],
    S.asg 2 (E.comp [1] true (E.loc 1) [] (E.tup [(E.loc 1).sub (E.int 1), (E.loc 1).sub (E.int 0), (E.loc 1).sub (E.int 2)]) [none, none]),
    S.ret ((E.cmp CmpOp.Eq (E.blt BN.len [E.call 9 [E.loc 0, E.loc 1]]) (E.loc 0)).and (E.cmp CmpOp.Eq (E.blt BN.len [E.call 9 [E.loc 0, E.loc 2]]) (E.loc 0)))] }
noncomputable def fInit : Fn := { ps := [0, 1, 2], size := 15, body :=
  [S.ifS (E.call 8 [E.loc 1, E.int 1, E.int 12]).not [S.raise 0] [],
    S.ifS (E.cmp CmpOp.Gt (E.blt BN.len [E.loc 2]) (E.int 60)) [S.raise 0] [],
    S.forS [3] true (It.e (E.loc 2)) [S.ifS ((E.call 8 [(E.loc 3).sub (E.int 0), E.int 0, E.bin Operator.Sub (E.loc 1) (E.int 1)]).not.or (E.call 8 [(E.loc 3).sub (E.int 1), E.int 0, E.bin Operator.Sub (E.loc 1) (E.int 1)]).not) [S.raise 1] []],
    S.forS [3] true (It.e (E.loc 2)) [S.ifS (E.call 8 [(E.loc 3).sub (E.int 2), E.int 0, E.int 9999]).not [S.raise 2] []],
    S.ifS (E.call 10 [E.loc 1, E.loc 2]).not [S.raise 3] [], S.asgA (E.loc 0) 0 (E.loc 1), S.asgA (E.loc 0) 1 (E.blt BN.list [E.loc 2])] }
noncomputable def fTurned : Fn := { ps := [0], size := 2, body :=
  [S.ret (E.mk 11 [(E.loc 0).attr 0, E.comp [1] true ((E.loc 0).attr 1) [] (E.tup [(E.loc 1).sub (E.int 1), (E.loc 1).sub (E.int 0), (E.loc 1).sub (E.int 2)]) [none, none]])] }

section
variable {P : Nat → Option Fn} {wf n : Nat} {σ σ1 : Sto} {lw m : Nat} {ws : List Way}
set_option tactic.hygienic false in
theorem e_flip {call : Nat → List V → Sto → RE} {e : E} {fr : Fra} (h : evE call e fr σ = .ok (.ref lw) σ1) (hlw : σ1[lw]? = some (.lst (ws.map wayV))) (hz : ws.length ≤ 60) :
    evE call (E.comp [1] true e [] (E.tup [(E.loc 1).sub (E.int 1), (E.loc 1).sub (E.int 0), (E.loc 1).sub (E.int 2)]) [none, none]) fr σ = .ok (.ref σ1.length) (σ1 ++ [.lst ((flip ws).map wayV)]) := by
  refine e_comp (ws := ws) (g := wayV) (p := fun _ => true) (f := fun w => wayV (flipW w)) h (getL_some hlw) (fun w hw => ⟨_, rfl, t_nil, fun _ => e_tup (es_cons (e_sub (e_loc rfl) e_int rfl) (es_cons (e_sub (e_loc rfl) e_int rfl) (es_cons (e_sub (e_loc rfl) e_int rfl) es_nil))) (by decide : 3 ≤ 1000)⟩) ?_
  rw [List.filter_eq_self.mpr (fun _ _ => rfl), show (ws.map fun w => wayV (flipW w)) = (flip ws).map wayV by unfold flip; rw [List.map_map]; rfl]
  exact newL_fits (by unfold flip; rw [List.length_map, List.length_map]; lia)

set_option tactic.hygienic false in
theorem is_joined_ok (h9 : P 9 = some fComeTo) (h10 : P 10 = some fIsJoined) (hlw : σ[lw]? = some (.lst (ws.map wayV))) (G : WebGood m ws) (hw : 14 ≤ wf) : ∃ τ, evFn P wf (n + 2) 10 [.int m, .ref lw] σ = .ok (.bool true) (σ ++ τ) := by
  have F := G.flip
  obtain ⟨τ1, a1, a2⟩ := come_to_ok (wf := wf) (n := n) (σ := σ ++ [.lst []] ++ [.lst ((flip ws).map wayV)]) h9 (ap (ap hlw)) G.hm G.m1 G.m2 (fun v hv => G.sc 0 v G.m1 hv) hw
  obtain ⟨τ2, b1, b2⟩ := come_to_ok (wf := wf) (n := n) (σ := σ ++ [.lst []] ++ [.lst ((flip ws).map wayV)] ++ τ1) (lw := (σ ++ [AO.lst []]).length) h9 (ap ap_new) F.hm G.m1 G.m2 (fun v hv => F.sc 0 v G.m1 hv) hw
  refine ⟨[.lst []] ++ [.lst ((flip ws).map wayV)] ++ τ1 ++ τ2, f_ret h10 rfl (s_skip (e_cmp (p := false) (e_loc rfl) (e_list es_nil (newL_fits (by decide : 0 ≤ 16777216))) ?_) (s_asg' (e_flip (e_loc rfl) (ap hlw) G.hz) (by decide : 2 < 5) (s_ret' (e_and_t (e_cmp (e_blt (es_cons (e_call (es_cons (e_loc rfl) (es_cons (e_loc rfl) es_nil)) a1) es_nil) a2) (e_loc rfl) ?_) ((e_cmp (p := true) (e_blt (es_cons (e_call (es_cons (e_loc rfl) (es_cons (e_loc rfl) es_nil)) b1) es_nil) b2) (e_loc rfl) ?_).trans ?_)))))⟩
  · show eqV _ _ _ = _
    rw [eqV_nil (ap hlw) wayD_of ap_new]
    cases q : ws with
    | nil => exact absurd q G.ne
    | cons w r => rfl
  · exact congrArg some (beq_self_eq_true _)
  · exact congrArg some (beq_self_eq_true _)
  · rw [List.append_assoc, List.append_assoc, List.append_assoc, List.append_assoc, List.append_assoc]

structure DefsW (P : Nat → Option Fn) : Prop where
  h8 : P 8 = some fIsWhole
  h9 : P 9 = some fComeTo
  h10 : P 10 = some fIsJoined
  h11 : P 11 = some fInit

set_option tactic.hygienic false in
theorem b_list' {σ : Sto} {l : Nat} {xs : List V} (h : σ[l]? = some (.lst xs)) (hz : xs.length ≤ 16777216) : bltV .list [.ref l] σ = .ok (.ref σ.length) (σ ++ [.lst xs]) := by
  show (match getL σ l with | some xs => newL xs σ | none => .bad) = _
  rw [getL_some h]
  exact newL_fits hz
noncomputable def initS (σ : Sto) (o : List (Nat × V)) (τ : Sto) : Sto := σ ++ [.att o, .inst σ.length] ++ τ
set_option tactic.hygienic false in
theorem init_len {o : List (Nat × V)} {τ : Sto} : (initS σ o τ).length = σ.length + 2 + τ.length := by unfold initS; rw [List.length_append, List.length_append]; rfl
set_option tactic.hygienic false in
theorem init_i {o : List (Nat × V)} {τ : Sto} : (initS σ o τ)[σ.length + 1]? = some (.inst σ.length) := by unfold initS; rw [List.append_assoc, List.getElem?_append_right (by lia), show σ.length + 1 - σ.length = 1 by lia]; rfl
set_option tactic.hygienic false in
theorem init_a {o : List (Nat × V)} {τ : Sto} : (initS σ o τ)[σ.length]? = some (.att o) := by unfold initS; rw [List.append_assoc]; exact ap_new
set_option tactic.hygienic false in
theorem init_set {k : Nat} {v : V} {o : List (Nat × V)} {τ : Sto} (ho : o.length < 100) : setAttrV (.ref (σ.length + 1)) k v (initS σ o τ) = some (initS σ (putA k v o) τ) := by
  unfold setAttrV; dsimp only; rw [init_i]; dsimp only; rw [init_a]; dsimp only
  rw [if_pos ho]
  unfold initS
  rw [List.append_assoc]
  show some ((σ ++ _ :: _).set _ _) = _
  rw [set_new, List.append_assoc]; rfl

set_option tactic.hygienic false in
theorem init_ok (H : DefsW P) (hlw : σ[lw]? = some (.lst (ws.map wayV))) (G : WebGood m ws) (hw : 14 ≤ wf) :
    ∃ τ, evFn P wf (n + 3) 11 [.ref (σ.length + 1), .int m, .ref lw] (σ ++ [.att [], .inst σ.length]) = .ok .none (σ ++ τ) ∧ WebAt (σ ++ τ) (σ.length + 1) m ws := by
  have wh : ∀ {x lo hi : Int} (σ' : Sto), lo ≤ x → x ≤ hi → evFn P wf (n + 2) 8 [.int x, .int lo, .int hi] σ' = .ok (.bool true) σ' := fun σ' h1 h2 => is_whole_t H.h8 h1 h2
  obtain ⟨τ, ej⟩ := is_joined_ok (wf := wf) (n := n) H.h9 H.h10 (ap (τ := [.att [], .inst σ.length]) hlw) G hw
  obtain ⟨fr1, σ1, e1, x3, rfl, rfl⟩ := (s_forL (call := evFn P wf (n + 2)) (wf := wf) (tg := [3]) (one := true) (ws := ws) (g := wayV) (it := E.loc 2) (bs := [S.ifS ((E.call 8 [(E.loc 3).sub (E.int 0), E.int 0, E.bin Operator.Sub (E.loc 1) (E.int 1)]).not.or (E.call 8 [(E.loc 3).sub (E.int 1), E.int 0, E.bin Operator.Sub (E.loc 1) (E.int 1)]).not) [S.raise 1] []]) (fr := frame0 fInit [.ref (σ.length + 1), .int m, .ref lw]) (σ := σ ++ [.att [], .inst σ.length])
    (fun i fr σ' => ∃ x3 : Option V, fr = [some (.ref (σ.length + 1)), some (.int m), some (.ref lw), x3, none, none, none, none, none, none, none, none, none, none, none] ∧ σ' = σ ++ [.att [], .inst σ.length]) (fun _ _ => False) (e_loc rfl) (by rintro i _ _ ⟨x2, rfl, rfl⟩; exact getL_some (ap hlw))
    (by
      rintro i w _ _ hv ⟨x3, rfl, rfl⟩
      have hm := G.hm w (List.mem_of_getElem? hv)
      exact ⟨_, rfl, .inl ⟨_, _, s_skip (e_or_f (e_notT (e_call (es_cons (e_sub (e_loc rfl) e_int rfl) (es_cons e_int (es_cons (e_bin (e_loc rfl) e_int rfl) es_nil))) (wh _ (Int.natCast_nonneg w.1) (by lia)))) (e_notT (e_call (es_cons (e_sub (e_loc rfl) e_int rfl) (es_cons e_int (es_cons (e_bin (e_loc rfl) e_int rfl) es_nil))) (wh _ (Int.natCast_nonneg w.2.1) (by lia))))) s_nil, _, rfl, rfl⟩⟩) ⟨none, rfl, rfl⟩).next
  obtain ⟨fr2, σ2, e2, y3, rfl, rfl⟩ := (s_forL (call := evFn P wf (n + 2)) (wf := wf) (tg := [3]) (one := true) (ws := ws) (g := wayV) (it := E.loc 2) (bs := [S.ifS (E.call 8 [(E.loc 3).sub (E.int 2), E.int 0, E.int 9999]).not [S.raise 2] []]) (fr := [some (.ref (σ.length + 1)), some (.int m), some (.ref lw), x3, none, none, none, none, none, none, none, none, none, none, none]) (σ := σ ++ [.att [], .inst σ.length])
    (fun i fr σ' => ∃ x3 : Option V, fr = [some (.ref (σ.length + 1)), some (.int m), some (.ref lw), x3, none, none, none, none, none, none, none, none, none, none, none] ∧ σ' = σ ++ [.att [], .inst σ.length]) (fun _ _ => False) (e_loc rfl) (by rintro i _ _ ⟨x2, rfl, rfl⟩; exact getL_some (ap hlw))
    (by
      rintro i w _ _ hv ⟨x3, rfl, rfl⟩
      have hd := G.hd w (List.mem_of_getElem? hv)
      exact ⟨_, rfl, .inl ⟨_, _, s_skip (e_notT (e_call (es_cons (e_sub (e_loc rfl) e_int rfl) (es_cons e_int (es_cons e_int es_nil))) (wh _ (Int.natCast_nonneg w.2.2) (by lia)))) s_nil, _, rfl, rfl⟩⟩) ⟨x3, rfl, rfl⟩).next
  have hl1 : (initS σ [(0, .int m)] τ)[lw]? = some (.lst (ws.map wayV)) := ap (ap hlw)
  have e3 : evSs (evFn P wf (n + 2)) wf [S.asgA (E.loc 0) 0 (E.loc 1), S.asgA (E.loc 0) 1 (E.blt BN.list [E.loc 2])] [some (.ref (σ.length + 1)), some (.int m), some (.ref lw), y3, none, none, none, none, none, none, none, none, none, none, none] (initS σ [] τ) = .ok .next [some (.ref (σ.length + 1)), some (.int m), some (.ref lw), y3, none, none, none, none, none, none, none, none, none, none, none] (initS σ [(0, .int m), (1, .ref (σ.length + 2 + τ.length))] (τ ++ [.lst (ws.map wayV)])) := by
    refine s_asgA' (e_loc rfl) (e_loc rfl) (init_set (o := []) (show 0 < 100 by decide)) (s_asgA' (e_blt (es_cons (e_loc rfl) es_nil) ?_) (e_loc rfl) (init_set (o := [(0, .int m)]) (show 1 < 100 by decide)) s_nil)
    show (match getL (initS σ [(0, .int m)] τ) lw with | some xs => newL xs (initS σ [(0, .int m)] τ) | none => .bad) = _
    rw [getL_some hl1]
    refine (newL_fits (by rw [List.length_map]; have := G.hz; lia)).trans ?_
    rw [init_len]
    unfold initS
    rw [List.append_assoc (σ ++ _)]
  have e4 : ∀ o τ', initS σ o τ' = σ ++ ([.att o, .inst σ.length] ++ τ') := fun o τ' => List.append_assoc _ _ _
  refine ⟨[.att [(0, .int m), (1, .ref (σ.length + 2 + τ.length))], .inst σ.length] ++ (τ ++ [.lst (ws.map wayV)]), ?_, ?_⟩
  · rw [← e4]
    refine f_next H.h11 rfl (s_skip (e_notT (e_call (es_cons (e_loc rfl) (es_cons e_int (es_cons e_int es_nil))) (wh _ (by have := G.m1; lia) (by have := G.m2; lia)))) (s_skip (e_cmp (p := false) (e_blt (es_cons (e_loc rfl) es_nil) (b_len' (ap hlw))) e_int ?_) (s_cons e1 (s_cons e2 (s_skip (e_notT (e_call (es_cons (e_loc rfl) (es_cons (e_loc rfl) es_nil)) ej)) e3)))))
    rw [List.length_map]
    exact congrArg some (decide_eq_false (by have := G.hz; lia))
  · rw [← e4]
    refine ⟨σ.length, σ.length + 2 + τ.length, init_i, init_a, ?_⟩
    generalize he : [(0, V.int m), (1, V.ref (σ.length + 2 + τ.length))] = o
    rw [← init_len (σ := σ) (o := o)]
    unfold initS
    rw [← List.append_assoc]
    exact ap_new

set_option tactic.hygienic false in
theorem mk_ok (H : DefsW P) {es : List E} {fr : Fra} (he : evEs (evFn P wf (n + 3)) es fr σ = .ok [.int m, .ref lw] σ1) (hlw : σ1[lw]? = some (.lst (ws.map wayV))) (G : WebGood m ws) (hw : 14 ≤ wf) :
    ∃ l τ, evE (evFn P wf (n + 3)) (.mk 11 es) fr σ = .ok (.ref l) (σ1 ++ τ) ∧ WebAt (σ1 ++ τ) l m ws := by
  obtain ⟨τ, h1, h2⟩ := init_ok (wf := wf) (n := n) H hlw G hw
  exact ⟨_, τ, e_mk he h1, h2⟩
set_option tactic.hygienic false in
theorem turned_ok (H : DefsW P) (h14 : P 14 = some fTurned) {l : Nat} (W : WebAt σ l m ws) (G : WebGood m ws) (hw : 14 ≤ wf) : ∃ l' τ, evFn P wf (n + 4) 14 [.ref l] σ = .ok (.ref l') (σ ++ τ) ∧ WebAt (σ ++ τ) l' m (flip ws) := by
  obtain ⟨d, lw, a, b, c⟩ := W.at'
  obtain ⟨l', τ, h1, h2⟩ := mk_ok (wf := wf) (n := n) (σ := σ) H (es := [(E.loc 0).attr 0, E.comp [1] true ((E.loc 0).attr 1) [] (E.tup [(E.loc 1).sub (E.int 1), (E.loc 1).sub (E.int 0), (E.loc 1).sub (E.int 2)]) [none, none]]) (fr := frame0 fTurned [.ref l])
    (es_cons (e_attr (e_loc rfl) (attr_many a b)) (es_cons (e_flip (e_attr (e_loc rfl) (attr_ways a b)) c G.hz) es_nil)) ap_new G.flip hw
  rw [List.append_assoc] at h1 h2
  exact ⟨l', _, f_ret h14 rfl (s_ret' h1), h2⟩
end
end Mine

set_option autoImplicit false
set_option linter.unusedVariables false
namespace Mine
open PySem

structure Built (m M : Nat) (o : List Nat) (ring : Bool) (i : Nat) (ws : List Way) : Prop where
  len : ws.length ≤ 2 * i
  ends : ∀ w ∈ ws, w.1 < m ∧ w.2.1 < m
  del : ∀ w ∈ ws, w.2.2 < M
  r : ring = true → ∀ k, k < i → ∃ d, (o.getD k 0, o.getD ((k + 1) % m) 0, d) ∈ ws
  t : ring = false → ∀ k, 1 ≤ k → k < i → (∃ p d, p < k ∧ (o.getD p 0, o.getD k 0, d) ∈ ws) ∧ ∃ p d, p < k ∧ (o.getD k 0, o.getD p 0, d) ∈ ws

set_option tactic.hygienic false in
theorem mem_snoc {α : Type} {l : List α} {x y : α} (h : x ∈ l ++ [y]) : x ∈ l ∨ x = y := (List.mem_append.mp h).imp_right fun h => List.mem_singleton.mp h
section
variable {m M i : Nat} {o : List Nat} {ring : Bool} {ws : List Way}
set_option tactic.hygienic false in
theorem Built.start : Built m M o ring 0 [] := ⟨Nat.zero_le _, (fun _ h => nomatch h), (fun _ h => nomatch h), fun _ _ h => absurd h (Nat.not_lt_zero _), fun _ _ _ h => absurd h (Nat.not_lt_zero _)⟩
set_option tactic.hygienic false in
theorem Built.ring1 (B : Built m M o true i ws) (ho : ∀ k, k < m → o.getD k 0 < m) (hi : i < m) {d : Nat} (hd : d < M) : Built m M o true (i + 1) (ws ++ [(o.getD i 0, o.getD ((i + 1) % m) 0, d)]) := by
  refine ⟨?_, fun w hw => ?_, fun w hw => ?_, fun _ k hk => ?_, fun h => nomatch h⟩
  · rw [List.length_append]; have := B.len; show ws.length + 1 ≤ _; lia
  · rcases mem_snoc hw with hw | rfl
    · exact B.ends w hw
    · exact ⟨ho i hi, ho _ (Nat.mod_lt _ (by lia))⟩
  · rcases mem_snoc hw with hw | rfl
    · exact B.del w hw
    · exact hd
  · by_cases e : k = i
    · subst e; exact ⟨d, List.mem_append_right _ (.head _)⟩
    · obtain ⟨d, h⟩ := B.r rfl k (by lia)
      exact ⟨d, List.mem_append_left _ h⟩
set_option tactic.hygienic false in
theorem Built.tree0 (B : Built m M o false 0 ws) : Built m M o false 1 ws := ⟨Nat.le_trans B.len (by decide), B.ends, B.del, (fun h => nomatch h), fun _ k h1 h2 => by lia⟩
set_option tactic.hygienic false in
theorem Built.tree1 (B : Built m M o false i ws) (ho : ∀ k, k < m → o.getD k 0 < m) (hi : i < m) {p q d d' : Nat} (hp : p < i) (hq : q < i) (hd : d < M) (hd' : d' < M) : Built m M o false (i + 1) (ws ++ [(o.getD p 0, o.getD i 0, d)] ++ [(o.getD i 0, o.getD q 0, d')]) := by
  refine ⟨?_, fun w hw => ?_, fun w hw => ?_, (fun h => nomatch h), fun _ k h1 hk => ?_⟩
  · rw [List.length_append, List.length_append]; have := B.len; show ws.length + 1 + 1 ≤ _; lia
  · rcases mem_snoc hw with hw | rfl
    · rcases mem_snoc hw with hw | rfl
      · exact B.ends w hw
      · exact ⟨ho p (by lia), ho i hi⟩
    · exact ⟨ho i hi, ho q (by lia)⟩
  · rcases mem_snoc hw with hw | rfl
    · rcases mem_snoc hw with hw | rfl
      · exact B.del w hw
      · exact hd
    · exact hd'
  · by_cases e : k = i
    · subst e
      exact ⟨⟨p, d, hp, List.mem_append_left _ (List.mem_append_right _ (.head _))⟩, q, d', hq, List.mem_append_right _ (.head _)⟩
    · obtain ⟨⟨p, d, h1, h2⟩, q, d', h3, h4⟩ := B.t rfl k h1 (by lia)
      exact ⟨⟨p, d, h1, List.mem_append_left _ (List.mem_append_left _ h2)⟩, q, d', h3, List.mem_append_left _ (List.mem_append_left _ h4)⟩

structure LawWays (m M K : Nat) (ws : List Way) : Prop where
  len : ws.length ≤ K
  ends : ∀ w ∈ ws, w.1 < m ∧ w.2.1 < m
  del : ∀ w ∈ ws, w.2.2 < M
  sc : ∀ a b, a < m → b < m → Reach ws a b
  ne : ws ≠ []
set_option tactic.hygienic false in
theorem Reach.mono {ws' : List Way} (h : ∀ w ∈ ws, w ∈ ws') {a b : Nat} (r : Reach ws a b) : Reach ws' a b := by
  obtain ⟨n, t, w⟩ := r
  refine ⟨n, t, ?_⟩
  induction w with
  | nil => exact .nil
  | step _ hw ih => exact .step ih (h _ hw)
set_option tactic.hygienic false in
theorem LawWays.more (L : LawWays m M i ws) {w : Way} (h1 : w.1 < m) (h2 : w.2.1 < m) (h3 : w.2.2 < M) : LawWays m M (i + 1) (ws ++ [w]) := by
  refine ⟨?_, fun u hu => ?_, fun u hu => ?_, fun a b ha hb => (L.sc a b ha hb).mono fun w hw => List.mem_append_left _ hw, fun q => L.ne (List.append_eq_nil_iff.mp q).1⟩
  · rw [List.length_append]; exact Nat.succ_le_succ L.len
  · rcases mem_snoc hu with hu | rfl
    · exact L.ends u hu
    · exact ⟨h1, h2⟩
  · rcases mem_snoc hu with hu | rfl
    · exact L.del u hu
    · exact h3
set_option tactic.hygienic false in
theorem Built.good (B : Built m M o ring m ws) (hm : 1 ≤ m) (hr : m = 1 → ring = true) (hp : o.Perm (List.range m)) : LawWays m M (2 * m) ws := by
  have hl : o.length = m := by rw [hp.length_eq, List.length_range]
  have at' : ∀ a, a < m → ∃ k, k < m ∧ o.getD k 0 = a := fun a ha => by
    obtain ⟨k, hk, e⟩ := List.getElem_of_mem (hp.mem_iff.mpr (List.mem_range.mpr ha))
    exact ⟨k, by lia, by rw [getD_lt hk]; exact e⟩
  have sc : ∀ k k', k < m → k' < m → Reach ws (o.getD k 0) (o.getD k' 0) := by
    intro k k' hk hk'
    cases ring with
    | true =>
      have go : ∀ j, Reach ws (o.getD k 0) (o.getD ((k + j) % m) 0) := fun j => by
        induction j with
        | zero => rw [Nat.add_zero, Nat.mod_eq_of_lt hk]; exact Reach.self
        | succ j ih =>
          obtain ⟨d, h⟩ := B.r rfl ((k + j) % m) (Nat.mod_lt _ hm)
          rw [Nat.mod_add_mod] at h
          exact ih.trans (Reach.one h)
      have := go (m - k + k')
      rwa [show k + (m - k + k') = k' + m by lia, Nat.add_mod_right, Nat.mod_eq_of_lt hk'] at this
    | false =>
      have up : ∀ k, k < m → Reach ws (o.getD 0 0) (o.getD k 0) := fun k => by
        induction k using Nat.strongRecOn with
        | _ k ih =>
          intro hk
          by_cases h0 : k = 0
          · subst h0; exact Reach.self
          · obtain ⟨⟨p, d, h1, h2⟩, _⟩ := B.t rfl k (by lia) hk
            exact (ih p h1 (by lia)).trans (Reach.one h2)
      have down : ∀ k, k < m → Reach ws (o.getD k 0) (o.getD 0 0) := fun k => by
        induction k using Nat.strongRecOn with
        | _ k ih =>
          intro hk
          by_cases h0 : k = 0
          · subst h0; exact Reach.self
          · obtain ⟨_, p, d, h1, h2⟩ := B.t rfl k (by lia) hk
            exact (Reach.one h2).trans (ih p h1 (by lia))
      exact (down k hk).trans (up k' hk')
  refine ⟨B.len, B.ends, B.del, fun a b ha hb => ?_, fun q => ?_⟩
  · obtain ⟨k, hk, rfl⟩ := at' a ha
    obtain ⟨k', hk', rfl⟩ := at' b hb
    exact sc k k' hk hk'
  · cases ring with
    | true =>
      obtain ⟨d, h⟩ := B.r rfl 0 hm
      rw [q] at h; cases h
    | false =>
      have : m ≠ 1 := fun e => nomatch hr e
      obtain ⟨⟨p, d, _, h⟩, _⟩ := B.t rfl 1 (Nat.le_refl _) (by lia)
      rw [q] at h; cases h
set_option tactic.hygienic false in
theorem LawWays.good (L : LawWays m M i ws) (m1 : 1 ≤ m) (m2 : m ≤ 12) (hi : i ≤ 60) (hM : M ≤ 10000) : WebGood m ws :=
  ⟨m1, m2, Nat.le_trans L.len hi, L.ends, fun w hw => by have := L.del w hw; lia, L.sc, L.ne⟩
end

set_option tactic.hygienic false in
theorem ins_perm {α : Type} (p : Int × α) : ∀ l : List (Int × α), (insK p l).Perm (p :: l)
  | [] => .refl _
  | q :: r => by
    show (if p.1 < q.1 then p :: q :: r else q :: insK p r).Perm _
    split
    · exact .refl _
    · exact ((ins_perm p r).cons q).trans (.swap _ _ _)
set_option tactic.hygienic false in
theorem srt_perm {α : Type} : ∀ l : List (Int × α), (sortK l).Perm l
  | [] => .refl _
  | p :: r => (ins_perm p _).trans ((srt_perm r).cons p)
noncomputable def natOf (v : V) : Nat := match v with | .int i => i.toNat | _ => 0
set_option tactic.hygienic false in
theorem perm_nats {l : List V} {r : List Nat} (h : l.Perm (natsV r)) : ∃ o : List Nat, l = natsV o ∧ o.Perm r := by
  refine ⟨l.map natOf, ?_, ?_⟩
  · unfold natsV
    rw [List.map_map]
    refine Eq.trans (List.map_id _).symm (List.map_congr_left fun v hv => ?_)
    obtain ⟨x, _, rfl⟩ := List.mem_map.mp (h.mem_iff.mp hv)
    rfl
  · have := h.map natOf
    unfold natsV at this
    rw [List.map_map] at this
    have e : (natOf ∘ fun (v : Nat) => V.int v) = id := rfl
    rwa [e, List.map_id] at this
set_option tactic.hygienic false in
theorem keys_nodup : ∀ (c : Nat), 1 ≤ c → c ≤ 12 → ∀ j k : Nat, j < 12 → k < 12 → (j + 1) * c % 13 = (k + 1) * c % 13 → j = k := by
  intro c c1 c2 j k hj hk
  have : ∀ (c : Fin 13) (j k : Fin 12), 1 ≤ c.1 → (j.1 + 1) * c.1 % 13 = (k.1 + 1) * c.1 % 13 → j.1 = k.1 := by decide
  exact this ⟨c, by lia⟩ ⟨j, hj⟩ ⟨k, hk⟩ c1
end Mine

set_option autoImplicit false
set_option linter.unusedVariables false
namespace Mine
open PySem

noncomputable def fCellAt : Fn := { ps := [0, 1], size := 3, body := [S.ifS (E.cmp CmpOp.Lt (E.loc 1) (E.blt BN.len [E.loc 0])) [S.ret ((E.loc 0).sub (E.loc 1))] [], S.ret (E.int 0)] }
noncomputable def fWhole : Fn := { ps := [0], size := 4, body := [S.ret (((E.loc 0).isi Ty.int).and ((E.loc 0).isi Ty.bool).not)] }
noncomputable def fMixed : Fn := { ps := [0, 1], size := 2, body := [S.ret (E.bin Operator.Mod (E.bin Operator.Mult (E.bin Operator.Add (E.bin Operator.Add (E.loc 0) (E.bin Operator.Mult (E.int 7919) (E.loc 1))) (E.int 1)) (E.int 48271)) (E.int 2147483647))] }
noncomputable def fDelayBy (M : Nat) : Fn := { ps := [0], size := 1, body :=
  [S.ret ((E.list [E.bin Operator.Mod (E.bin Operator.FloorDiv (E.loc 0) (E.int 3)) (E.int 5), E.bin Operator.Mod (E.bin Operator.FloorDiv (E.loc 0) (E.int 3)) (E.int 100), E.bin Operator.Mod (E.bin Operator.FloorDiv (E.loc 0) (E.int 3)) (E.int M)]).sub (E.bin Operator.Mod (E.loc 0) (E.int 3)))] }

set_option tactic.hygienic false in
theorem b_mulL {x y : Int} {σ : Sto} (h : x.natAbs < 2 ^ 64) : binV .Mult (.int x) (.int y) σ = .ok (.int (x * y)) σ := if_pos (.inl h)
set_option tactic.hygienic false in
theorem b_mulR {x y : Int} {σ : Sto} (h : y.natAbs < 2 ^ 64) : binV .Mult (.int x) (.int y) σ = .ok (.int (x * y)) σ := if_pos (.inr (.inl h))
set_option tactic.hygienic false in
theorem b_fmod {x y : Int} {σ : Sto} (h : y ≠ 0) : binV .Mod (.int x) (.int y) σ = .ok (.int (x.fmod y)) σ := if_neg h
set_option tactic.hygienic false in
theorem b_fdiv {x y : Int} {σ : Sto} (h : y ≠ 0) (h' : y.natAbs < 10 ^ 100) : binV .FloorDiv (.int x) (.int y) σ = .ok (.int (x.fdiv y)) σ := if_pos ⟨h, h'⟩

section
variable {P : Nat → Option Fn} {wf n : Nat} {σ : Sto}
def ScriptAt (σ : Sto) (sc : List Int) : Prop := σ[0]? = some (.frz (sc.map V.int))
set_option tactic.hygienic false in
theorem cell_ok (h : P 20 = some fCellAt) {sc : List Int} (hs : ScriptAt σ sc) (k : Nat) : evFn P wf (n + 1) 20 [.ref 0, .int k] σ = .ok (.int (sc.getD k 0)) σ := by
  have hl : bltV .len [.ref 0] σ = .ok (.int sc.length) σ := by
    show ofOpt σ ((lenV (.ref 0) σ).map V.int) = _
    unfold lenV; dsimp only; rw [hs]; dsimp only
    show RE.ok (.int ((sc.map V.int).length : Nat)) σ = _
    rw [List.length_map]
  by_cases hk : k < sc.length
  · refine f_ret h rfl (s_if_ret (e_cmp (e_loc rfl) (e_blt (es_cons (e_loc rfl) es_nil) hl) (congrArg some (decide_eq_true (Int.ofNat_lt.mpr hk)))) (s_ret' (e_sub (e_loc rfl) (e_loc rfl) ?_)))
    unfold subV; dsimp only; rw [hs]; dsimp only; unfold idxV
    rw [if_pos (Int.natCast_nonneg k)]
    show (sc.map V.int)[k]? = _
    rw [List.getElem?_map, List.getElem?_eq_getElem hk, List.getD_eq_getElem?_getD, List.getElem?_eq_getElem hk]; rfl
  · rw [List.getD_eq_getElem?_getD, List.getElem?_eq_none_iff.mpr (Nat.le_of_not_lt hk)]
    exact f_ret h rfl (s_skip (e_cmp (e_loc rfl) (e_blt (es_cons (e_loc rfl) es_nil) hl) (congrArg some (decide_eq_false (by lia)))) (s_ret' e_int))
set_option tactic.hygienic false in
theorem whole_ok (h : P 21 = some fWhole) {x : Int} : evFn P wf (n + 1) 21 [.int x] σ = .ok (.bool true) σ :=
  f_ret h rfl (s_ret' (e_and_t (e_isi (e_loc rfl) rfl) (e_notF (e_isi (e_loc rfl) rfl))))
noncomputable def mixN (c k : Int) : Nat := (Int.fmod ((c + 7919 * k + 1) * 48271) 2147483647).toNat
set_option tactic.hygienic false in
theorem mixed_ok (h : P 22 = some fMixed) {c k : Int} : evFn P wf (n + 1) 22 [.int c, .int k] σ = .ok (.int (mixN c k : Nat)) σ := by
  refine f_ret h rfl (s_ret' (e_bin (e_bin (e_bin (e_bin (e_loc rfl) (e_bin e_int (e_loc rfl) (b_mulL (by decide))) rfl) e_int rfl) e_int (b_mulR (by decide))) e_int ((b_fmod (by decide)).trans ?_)))
  unfold mixN
  rw [Int.toNat_of_nonneg (Int.fmod_nonneg_of_pos _ (by decide))]
set_option tactic.hygienic false in
theorem delay_by_ok {M : Nat} (h : P 23 = some (fDelayBy M)) (hM : 100 ≤ M) (N : Nat) : ∃ d o, d < M ∧ evFn P wf (n + 1) 23 [.int N] σ = .ok (.int (d : Nat)) (σ ++ [o]) := by
  have hb : ∀ q : Nat, q ≠ 0 → evE (evFn P wf n) (E.bin Operator.Mod (E.bin Operator.FloorDiv (E.loc 0) (E.int 3)) (E.int q)) (frame0 (fDelayBy M) [.int N]) σ = .ok (.int (N / 3 % q : Nat)) σ := fun q hq =>
    e_bin (e_bin (e_loc rfl) e_int (b_div (y := 3) (by decide) (by decide))) e_int (b_mod (x := N / 3) hq)
  have hl : N % 3 < 3 := Nat.mod_lt _ (by decide)
  obtain ⟨d, hd, he⟩ : ∃ d, d < M ∧ [V.int (N / 3 % 5 : Nat), V.int (N / 3 % 100 : Nat), V.int (N / 3 % M : Nat)][N % 3]? = some (V.int (d : Nat)) := by
    have h5 : N / 3 % 5 < 5 := Nat.mod_lt _ (by decide)
    have h6 : N / 3 % 100 < 100 := Nat.mod_lt _ (by decide)
    have h7 : N / 3 % M < M := Nat.mod_lt _ (by lia)
    match hr : N % 3, hl with
    | 0, _ => exact ⟨_, by lia, rfl⟩
    | 1, _ => exact ⟨_, by lia, rfl⟩
    | 2, _ => exact ⟨_, h7, rfl⟩
  refine ⟨d, .lst [V.int (N / 3 % 5 : Nat), V.int (N / 3 % 100 : Nat), V.int (N / 3 % M : Nat)], hd, f_ret h rfl (s_ret' (e_sub (e_list (es_cons (hb 5 (by decide)) (es_cons (hb 100 (by decide)) (es_cons (hb M (by lia)) es_nil))) (newL_fits (by decide : 3 ≤ 16777216))) (e_bin (e_loc rfl) e_int (b_mod (y := 3) (by decide))) ?_))⟩
  exact sub_lst ap_new he
end

noncomputable def sWay (a b d : E) : S := S.expr ((E.loc 3).meth MN.append [E.tup [a, b, d]])
noncomputable def ways1 (j : Nat) : List S :=
  [S.asg 5 (E.call 22 [E.call 20 [E.loc 0, E.int 2], E.loc 4]),
    S.ifS ((E.cmp CmpOp.Eq (E.loc 1) (E.int 1)).or (E.cmp CmpOp.Eq (E.bin Operator.Mod (E.bin Operator.FloorDiv (E.loc (j + 6)) (E.int 12)) (E.int 2)) (E.int 0)))
      [sWay ((E.loc 2).sub (E.loc 4)) ((E.loc 2).sub (E.bin Operator.Mod (E.bin Operator.Add (E.loc 4) (E.int 1)) (E.loc 1))) (E.call 23 [E.loc 5])]
      [S.ifS (E.cmp CmpOp.Gt (E.loc 4) (E.int 0))
        [sWay ((E.loc 2).sub (E.bin Operator.Mod (E.bin Operator.FloorDiv (E.loc 5) (E.int 7)) (E.loc 4))) ((E.loc 2).sub (E.loc 4)) (E.call 23 [E.bin Operator.FloorDiv (E.loc 5) (E.int 64)]),
          sWay ((E.loc 2).sub (E.loc 4)) ((E.loc 2).sub (E.bin Operator.Mod (E.bin Operator.FloorDiv (E.loc 5) (E.int 512)) (E.loc 4))) (E.call 23 [E.bin Operator.FloorDiv (E.loc 5) (E.int 4096)])] []]]
noncomputable def ways2 : List S :=
  [S.asg 5 (E.call 22 [E.call 20 [E.loc 0, E.bin Operator.Add (E.int 3) (E.bin Operator.Mod (E.loc 4) (E.int 6))], E.loc 4]),
    sWay (E.bin Operator.Mod (E.loc 5) (E.loc 1)) (E.bin Operator.Mod (E.bin Operator.FloorDiv (E.loc 5) (E.int 16)) (E.loc 1)) (E.call 23 [E.bin Operator.FloorDiv (E.loc 5) (E.int 256)])]
noncomputable def waysKey (j : Nat) : KX := ((KX.par.add (KX.num 1)).mul ((KX.num 1).add ((KX.var (j + 6)).mod (KX.num 12)))).mod (KX.num 13)
noncomputable def fWays (j size : Nat) (md : Int) (rest : List S) : Fn := { ps := [0, 1], size := size, body :=
  (S.asg (j + 6) (E.call 20 [E.loc 0, E.int 1]) :: S.asg 2 ((E.blt BN.range [E.loc 1]).srt (waysKey j)) :: S.asg 3 (E.list []) ::
    S.forS [4] true (It.e (E.blt BN.range [E.loc 1])) (ways1 j) ::
    S.forS [4] true (It.e (E.blt BN.range [E.bin Operator.Mod (E.bin Operator.FloorDiv (E.loc (j + 6)) (E.int 24)) (E.int md)])) ways2 :: rest) }

noncomputable def wayS (β : Sto) (ws : List Way) (τ : Sto) : Sto := β ++ .lst (ws.map wayV) :: τ
noncomputable def wayF (m lo lw : Nat) (x4 x5 : Option V) (rest : Fra) : Fra := some (.ref 0) :: some (.int m) :: some (.ref lo) :: some (.ref lw) :: x4 :: x5 :: rest
section
variable {call : Nat → List V → Sto → RE} {wf : Nat} {β τ τ' : Sto} {ws : List Way} {m lo : Nat} {x4 x5 : Option V} {rest : Fra}
set_option tactic.hygienic false in
theorem s_way {e1 e2 e3 : E} {ss : List S} {r : RS} {a b d : Nat} (h1 : evE call e1 (wayF m lo β.length x4 x5 rest) (wayS β ws τ) = .ok (.int a) (wayS β ws τ)) (h2 : evE call e2 (wayF m lo β.length x4 x5 rest) (wayS β ws τ) = .ok (.int b) (wayS β ws τ))
    (h3 : evE call e3 (wayF m lo β.length x4 x5 rest) (wayS β ws τ) = .ok (.int d) (wayS β ws τ')) (hz : ws.length ≤ 1000) (h : evSs call wf ss (wayF m lo β.length x4 x5 rest) (wayS β (ws ++ [(a, b, d)]) τ') = r) : evSs call wf (sWay e1 e2 e3 :: ss) (wayF m lo β.length x4 x5 rest) (wayS β ws τ) = r := by
  refine s_expr' (e_meth (e_loc rfl) (getL_some ap_new) (es_cons (e_tup (es_cons h1 (es_cons h2 (es_cons h3 es_nil))) (by decide : 3 ≤ 1000)) es_nil) (getL_some ap_new) (m_app ?_)) ?_
  · rw [List.length_map]; lia
  · have e : setL (wayS β ws τ') β.length (ws.map wayV ++ [.tup [.int a, .int b, .int d]]) = wayS β (ws ++ [(a, b, d)]) τ' := by
      unfold setL wayS
      rw [set_new, List.map_append]; rfl
    rw [e]; exact h
set_option tactic.hygienic false in
theorem wayS_app {o : AO} : wayS β ws τ ++ [o] = wayS β ws (τ ++ [o]) := by unfold wayS; rw [List.append_assoc]; rfl
end

structure DefsL (P : Nat → Option Fn) (M : Nat) : Prop where
  h20 : P 20 = some fCellAt
  h21 : P 21 = some fWhole
  h22 : P 22 = some fMixed
  h23 : P 23 = some (fDelayBy M)

section
variable {P : Nat → Option Fn} {wf n : Nat} {β : Sto} {sc : List Int} {m M lo j : Nat} {o : List Nat} {rest : Fra} {cell : Int}
set_option tactic.hygienic false in
theorem delay_e (H : DefsL P M) (hM : 100 ≤ M) {e : E} {fr : Fra} {ws : List Way} {τ : Sto} {N : Nat} (h : evE (evFn P wf (n + 1)) e fr (wayS β ws τ) = .ok (.int N) (wayS β ws τ)) : ∃ d τ', d < M ∧ evE (evFn P wf (n + 1)) (E.call 23 [e]) fr (wayS β ws τ) = .ok (.int (d : Nat)) (wayS β ws τ') := by
  obtain ⟨d, o, hd, hc⟩ := delay_by_ok (wf := wf) (n := n) (σ := wayS β ws τ) H.h23 hM N
  rw [wayS_app] at hc
  exact ⟨d, _, hd, e_call (es_cons h es_nil) hc⟩

structure W1 (β : Sto) (m M lo : Nat) (o : List Nat) (rest : Fra) (ring : Bool) (i : Nat) (fr : Fra) (σ : Sto) : Prop where
  ex : ∃ ws τ x4 x5, Built m M o ring i ws ∧ fr = wayF m lo β.length x4 x5 rest ∧ σ = wayS β ws τ
noncomputable def ringB (m : Nat) (cell : Int) : Bool := (m : Int) == 1 || Int.fmod (Int.fdiv cell 12) 2 == 0

set_option tactic.hygienic false in
theorem ways1_turn (H : DefsL P M) (hM : 100 ≤ M) (hs : ScriptAt β sc) (hlo : β[lo]? = some (.lst (natsV o))) (hol : o.length = m) (ho : ∀ k, k < m → o.getD k 0 < m) (m2 : m ≤ 12) (hj : rest[j]? = some (some (.int cell))) {i : Nat} (hi : i < m) {fr : Fra} {σ : Sto} (I : W1 β m M lo o rest (ringB m cell) i fr σ) :
    Turn [4] true (evSs (evFn P wf (n + 1)) wf (ways1 j)) (.int i) fr σ (W1 β m M lo o rest (ringB m cell) (i + 1)) (fun _ _ => False) := by
  obtain ⟨ws, τ, x4, x5, B, rfl, rfl⟩ := I
  have hlen : ws.length ≤ 24 := by have := B.len; lia
  refine ⟨wayF m lo β.length (some (.int i)) x5 rest, rfl, .inl ?_⟩
  have hsc : ∀ ws τ, ScriptAt (wayS β ws τ) sc := fun ws τ => ap hs
  have hord : ∀ ws τ k, k < m → subV (.ref lo) (.int k) (wayS β ws τ) = some (.int (o.getD k 0 : Nat)) := fun ws τ k hk => sub_lst (ap hlo) (natsV_get (by lia))
  have e1 : evE (evFn P wf (n + 1)) (E.call 22 [E.call 20 [E.loc 0, E.int 2], E.loc 4]) (wayF m lo β.length (some (.int i)) x5 rest) (wayS β ws τ) = .ok (.int (mixN (sc.getD 2 0) i : Nat)) (wayS β ws τ) :=
    e_call (es_cons (e_call (es_cons (e_loc rfl) (es_cons e_int es_nil)) (cell_ok H.h20 (hsc _ _) 2)) (es_cons (e_loc rfl) es_nil)) (mixed_ok H.h22)
  generalize mixN (sc.getD 2 0) i = N at e1
  have et : evE (evFn P wf (n + 1)) ((E.cmp CmpOp.Eq (E.loc 1) (E.int 1)).or (E.cmp CmpOp.Eq (E.bin Operator.Mod (E.bin Operator.FloorDiv (E.loc (j + 6)) (E.int 12)) (E.int 2)) (E.int 0))) (wayF m lo β.length (some (.int i)) (some (.int N)) rest) (wayS β ws τ) = .ok (.bool (ringB m cell)) (wayS β ws τ) := by
    refine e_or (e_cmp (e_loc rfl) e_int rfl) fun _ => e_cmp (e_bin (e_bin (e_loc hj) e_int (b_fdiv (by decide) (by decide))) e_int (b_fmod (by decide))) e_int rfl
  have hmod : evE (evFn P wf (n + 1)) (E.bin Operator.Mod (E.bin Operator.Add (E.loc 4) (E.int 1)) (E.loc 1)) (wayF m lo β.length (some (.int i)) (some (.int N)) rest) (wayS β ws τ) = .ok (.int ((i + 1) % m : Nat)) (wayS β ws τ) := e_bin (e_bin (e_loc rfl) e_int rfl) (e_loc rfl) (b_mod (x := i + 1) (by lia))
  cases hr : ringB m cell with
  | true =>
    rw [hr] at B et
    obtain ⟨d, τ', hd, e2⟩ := delay_e (n := n) (wf := wf) H hM (e := E.loc 5) (fr := wayF m lo β.length (some (.int i)) (some (.int N)) rest) (ws := ws) (τ := τ) (N := N) (e_loc rfl)
    refine ⟨_, _, s_asg' e1 (show 5 < rest.length + 6 by lia) (s_if_t et (s_way (e_sub (e_loc rfl) (e_loc rfl) (hord _ _ i hi)) (e_sub (e_loc rfl) hmod (hord _ _ _ (Nat.mod_lt _ (by lia)))) e2 (by lia) s_nil) s_nil), ⟨_, _, _, _, B.ring1 ho hi hd, rfl, rfl⟩⟩
  | false =>
    rw [hr] at B et
    by_cases h0 : i = 0
    · subst h0
      exact ⟨_, _, s_asg' e1 (show 5 < rest.length + 6 by lia) (s_if_f et (s_skip (e_cmp (p := false) (e_loc rfl) e_int rfl) s_nil) s_nil), ⟨_, _, _, _, B.tree0, rfl, rfl⟩⟩
    · have hdv : ∀ (q : Nat) ws τ, q ≠ 0 → q < 10 ^ 100 → evE (evFn P wf (n + 1)) (E.bin Operator.FloorDiv (E.loc 5) (E.int q)) (wayF m lo β.length (some (.int i)) (some (.int N)) rest) (wayS β ws τ) = .ok (.int (N / q : Nat)) (wayS β ws τ) := fun q ws τ h1 h2 => e_bin (e_loc rfl) e_int (b_div h1 h2)
      obtain ⟨d, τ', hd, e2⟩ := delay_e (n := n) (wf := wf) H hM (ws := ws) (τ := τ) (hdv 64 ws τ (by decide) (by decide))
      obtain ⟨d', τ2, hd', e3⟩ := delay_e (n := n) (wf := wf) H hM (ws := ws ++ [(o.getD (N / 7 % i) 0, o.getD i 0, d)]) (τ := τ') (hdv 4096 _ τ' (by decide) (by decide))
      have b1 : N / 7 % i < i := Nat.mod_lt _ (by lia)
      have b2 : N / 512 % i < i := Nat.mod_lt _ (by lia)
      have hlen1 : (ws ++ [(o.getD (N / 7 % i) 0, o.getD i 0, d)]).length ≤ 1000 := by rw [List.length_append]; show ws.length + 1 ≤ _; lia
      refine ⟨_, _, s_asg' e1 (show 5 < rest.length + 6 by lia) (s_if_f et (s_if_t (e_cmp (p := true) (e_loc rfl) e_int (congrArg some (decide_eq_true (by lia)))) (s_way (e_sub (e_loc rfl) (e_bin (hdv 7 _ _ (by decide) (by decide)) (e_loc rfl) (b_mod h0)) (hord _ _ _ (by lia))) (e_sub (e_loc rfl) (e_loc rfl) (hord _ _ i hi)) e2 (by lia) (s_way (e_sub (e_loc rfl) (e_loc rfl) (hord _ _ i hi)) (e_sub (e_loc rfl) (e_bin (hdv 512 _ _ (by decide) (by decide)) (e_loc rfl) (b_mod h0)) (hord _ _ _ (by lia))) e3 hlen1 s_nil)) s_nil) s_nil), ⟨_, _, _, _, B.tree1 ho hi b1 b2 hd hd', rfl, rfl⟩⟩
end
end Mine

set_option autoImplicit false
set_option linter.unusedVariables false
namespace Mine
open PySem

section
variable {P : Nat → Option Fn} {wf n : Nat} {σ β : Sto} {sc : List Int} {m M lo j : Nat} {o : List Nat} {rest : Fra} {cell : Int}
set_option tactic.hygienic false in
theorem cell_mod (q : Nat) (hq : 1 ≤ q) (c : Int) : ∃ k : Nat, k < q ∧ c.fmod q = (k : Int) := by
  have h1 := Int.fmod_nonneg_of_pos c (b := (q : Int)) (by lia)
  have h2 := Int.fmod_lt_of_pos c (b := (q : Int)) (by lia)
  exact ⟨(c.fmod q).toNat, by lia, by lia⟩

set_option tactic.hygienic false in
theorem order_ok {fr : Fra} {key : KX} (hk : key = waysKey j) (hc : fr[j + 6]? = some (some (.int cell))) (ht : σ[1]? = some (.tab false)) (m1 : 1 ≤ m) (m2 : m ≤ 12) :
    ∃ o : List Nat, o.Perm (List.range m) ∧ srtV key fr (.rng 0 m) σ = .ok (.ref σ.length) (σ.set 1 (AO.tab true) ++ [AO.lst (natsV o)]) := by
  obtain ⟨c, hc1, hc2⟩ := cell_mod 12 (by decide) cell
  have e1 : ∀ i : Nat, i < m → kxV fr (i : Int) (waysKey j) = some (((i + 1) * (c + 1) % 13 : Nat) : Int) := fun i hi => by
    unfold waysKey
    show (((some ((i : Int) + 1)).bind fun p => (((some (1 : Int)).bind fun p => ((kxV fr (i : Int) ((KX.var (j + 6)).mod (KX.num 12))).map fun q => p + q))).bind fun q => if mulOk p q then some (p * q) else none).bind fun p => (some (13 : Int)).bind fun q => if q ≠ 0 then some (p.fmod q) else none) = _
    have ev : kxV fr (i : Int) ((KX.var (j + 6)).mod (KX.num 12)) = some (c : Int) := by
      show ((match fr[j + 6]? with | some (some (.int v)) => some v | _ => none).bind fun p => (some (12 : Int)).bind fun q => if q ≠ 0 then some (p.fmod q) else none) = _
      rw [hc]
      show (if (12 : Int) ≠ 0 then some (cell.fmod 12) else none) = _
      rw [if_pos (by decide)]; exact congrArg some hc2
    rw [ev]
    show ((if mulOk ((i : Int) + 1) (1 + (c : Int)) then some (((i : Int) + 1) * (1 + (c : Int))) else none).bind fun p => if (13 : Int) ≠ 0 then some (p.fmod 13) else none) = _
    rw [if_pos (.inl (by lia))]
    show (if (13 : Int) ≠ 0 then some ((((i : Int) + 1) * (1 + (c : Int))).fmod 13) else none) = _
    rw [if_pos (by decide)]
    have : ((i : Int) + 1) * (1 + (c : Int)) = (((i + 1) * (c + 1) : Nat) : Int) := by rw [Int.natCast_mul, Int.add_comm 1]; rfl
    rw [this]
    exact congrArg some (fmodN _ 13)
  have e2 : mapO (fun (i : Nat) => kxV fr (i : Int) key) (List.range m) = some ((List.range m).map fun i => (((i + 1) * (c + 1) % 13 : Nat) : Int)) := by
    have := mapO_map (f := fun (i : Nat) => kxV fr (i : Int) key) (g := id) (h := fun i => (((i + 1) * (c + 1) % 13 : Nat) : Int)) (l := List.range m) fun i hi => by rw [hk]; exact e1 i (List.mem_range.mp hi)
    rwa [List.map_id] at this
  have nd : ((List.range m).map fun i => (((i + 1) * (c + 1) % 13 : Nat) : Int)).Nodup := by
    rw [List.Nodup, List.pairwise_iff_getElem]
    intro p q hp hq hpq e
    rw [List.length_map, List.length_range] at hp hq
    rw [List.getElem_map, List.getElem_map, List.getElem_range, List.getElem_range] at e
    have := keys_nodup (c + 1) (by lia) (by lia) p q (by lia) (by lia) (Int.ofNat.inj e)
    lia
  have hp : ((sortK (((List.range m).map fun i => (((i + 1) * (c + 1) % 13 : Nat) : Int)).zip (rngL 0 m))).map (·.2)).Perm (natsV (List.range m)) := by
    refine ((srt_perm _).map _).trans ?_
    have : (((List.range m).map fun i => (((i + 1) * (c + 1) % 13 : Nat) : Int)).zip (rngL 0 m)).map (·.2) = rngL 0 m := List.map_snd_zip (by rw [rng_nat, List.length_map, List.length_map]; exact Nat.le_refl _)
    rw [this, rng_nat]
    exact .refl _
  obtain ⟨o, ho, hperm⟩ := perm_nats hp
  refine ⟨o, hperm, ?_⟩
  show (if (0 : Int) = 0 ∧ (m : Int) < 60 then srtT σ[1]? (srtL (mapO (fun (i : Nat) => kxV fr (i : Int) key) (List.range (m : Int).toNat)) m σ) else .bad) = _
  rw [if_pos ⟨rfl, by lia⟩, ht]
  show srtL (mapO (fun (i : Nat) => kxV fr (i : Int) key) (List.range m)) m σ = _
  rw [e2]
  show (if ((List.range m).map fun i => (((i + 1) * (c + 1) % 13 : Nat) : Int)).Nodup then newL ((sortK (((List.range m).map fun i => (((i + 1) * (c + 1) % 13 : Nat) : Int)).zip (rngL 0 m))).map (·.2)) (σ.set 1 (.tab true)) else .bad) = _
  rw [if_pos nd, ho, newL_fits (by rw [natsV_len, hperm.length_eq, List.length_range]; lia), List.length_set]

structure W2 (β : Sto) (m M lo K : Nat) (rest : Fra) (i : Nat) (fr : Fra) (σ : Sto) : Prop where
  ex : ∃ ws τ x4 x5, LawWays m M (K + i) ws ∧ fr = wayF m lo β.length x4 x5 rest ∧ σ = wayS β ws τ
set_option tactic.hygienic false in
theorem ways2_turn (H : DefsL P M) (hM : 100 ≤ M) (hs : ScriptAt β sc) (m1 : 1 ≤ m) {K i : Nat} (hK : K + i ≤ 1000) {fr : Fra} {σ : Sto} (I : W2 β m M lo K rest i fr σ) :
    Turn [4] true (evSs (evFn P wf (n + 1)) wf ways2) (.int i) fr σ (W2 β m M lo K rest (i + 1)) (fun _ _ => False) := by
  obtain ⟨ws, τ, x4, x5, L, rfl, rfl⟩ := I
  refine ⟨wayF m lo β.length (some (.int i)) x5 rest, rfl, .inl ?_⟩
  have e1 : evE (evFn P wf (n + 1)) (E.call 22 [E.call 20 [E.loc 0, E.bin Operator.Add (E.int 3) (E.bin Operator.Mod (E.loc 4) (E.int 6))], E.loc 4]) (wayF m lo β.length (some (.int i)) x5 rest) (wayS β ws τ) = .ok (.int (mixN (sc.getD (3 + i % 6) 0) i : Nat)) (wayS β ws τ) :=
    e_call (es_cons (e_call (es_cons (e_loc rfl) (es_cons (e_bin e_int (e_bin (e_loc rfl) e_int (b_mod (x := i) (y := 6) (by decide))) rfl) es_nil)) (cell_ok H.h20 (show ScriptAt (wayS β ws τ) sc from ap hs) (3 + i % 6))) (es_cons (e_loc rfl) es_nil)) (mixed_ok H.h22)
  generalize mixN (sc.getD (3 + i % 6) 0) i = N at e1
  obtain ⟨d, τ', hd, e2⟩ := delay_e (n := n) (wf := wf) H hM (e := E.bin Operator.FloorDiv (E.loc 5) (E.int 256)) (fr := wayF m lo β.length (some (.int i)) (some (.int N)) rest) (ws := ws) (τ := τ) (N := N / 256) (e_bin (e_loc rfl) e_int (b_div (y := 256) (by decide) (by decide)))
  have hlen := L.len
  exact ⟨_, _, s_asg' e1 (show 5 < rest.length + 6 by lia) (s_way (e_bin (e_loc rfl) (e_loc rfl) (b_mod (by lia))) (e_bin (e_bin (e_loc rfl) e_int (b_div (y := 16) (by decide) (by decide))) (e_loc rfl) (b_mod (by lia))) e2 (by lia) s_nil), ⟨_, _, _, _, L.more (Nat.mod_lt _ m1) (Nat.mod_lt _ m1) hd, rfl, rfl⟩⟩

set_option tactic.hygienic false in
theorem ways_front (H : DefsL P M) (hM : 100 ≤ M) (hs : ScriptAt σ sc) (ht : σ[1]? = some (.tab false)) (m1 : 1 ≤ m) (m2 : m ≤ 12) {size md : Nat} (hd1 : 1 ≤ md) (hd2 : md ≤ 100) {tail : List S} {rest0 : Fra} (hfr : frame0 (fWays j size md tail) [.ref 0, .int m] = some (.ref 0) :: some (.int m) :: none :: none :: none :: none :: rest0) (hj : j < rest0.length) :
    ∃ ws o τ x4 x5, LawWays m M (2 * m + (md - 1)) ws ∧ ∀ r, evSs (evFn P wf (n + 1)) wf tail (wayF m σ.length (σ.length + 1) x4 x5 (rest0.set j (some (.int (sc.getD 1 0))))) (wayS (σ.set 1 (.tab true) ++ [o]) ws τ) = r → evSs (evFn P wf (n + 1)) wf (fWays j size md tail).body (frame0 (fWays j size md tail) [.ref 0, .int m]) σ = r := by
  generalize hcell : sc.getD 1 0 = cell
  have hj' : (rest0.set j (some (V.int cell)))[j]? = some (some (.int cell)) := List.getElem?_set_self hj
  obtain ⟨o, hp, eo⟩ := order_ok (σ := σ) (m := m) (j := j) (cell := cell) (fr := some (.ref 0) :: some (.int m) :: none :: none :: none :: none :: rest0.set j (some (.int cell))) rfl hj' ht m1 m2
  have hol : o.length = m := by rw [hp.length_eq, List.length_range]
  have ho : ∀ k, k < m → o.getD k 0 < m := fun k hk => List.mem_range.mp (hp.mem_iff.mp (getD_mem (by lia)))
  have hlb : (σ.set 1 (AO.tab true) ++ [AO.lst (natsV o)]).length = σ.length + 1 := by rw [List.length_append, List.length_set]; rfl
  have hlo : (σ.set 1 (AO.tab true) ++ [AO.lst (natsV o)])[σ.length]? = some (.lst (natsV o)) := by
    have := ap_new (σ := σ.set 1 (.tab true)) (o := .lst (natsV o)) (τ := [])
    rwa [List.length_set] at this
  have hs' : ScriptAt (σ.set 1 (AO.tab true) ++ [AO.lst (natsV o)]) sc := ap (by rw [List.getElem?_set_ne (by decide)]; exact hs)
  obtain ⟨k, hk1, hk2⟩ := cell_mod md hd1 (Int.fdiv cell 24)
  generalize hβ : σ.set 1 (AO.tab true) ++ [AO.lst (natsV o)] = β at *
  obtain ⟨fr1, σ1, l1, ws1, τ1, y4, y5, B, rfl, rfl⟩ := (s_forR (call := evFn P wf (n + 1)) (wf := wf) (tg := [4]) (one := true) (ws := List.range m) (g := fun (v : Nat) => V.int v) (it := E.blt BN.range [E.loc 1]) (bs := ways1 j) (fr := wayF m σ.length β.length none none (rest0.set j (some (.int cell)))) (σ := wayS β [] [])
    (W1 β m M σ.length o (rest0.set j (some (.int cell))) (ringB m cell)) (fun _ _ => False) (e_blt (es_cons (e_loc rfl) es_nil) (b_range' (by lia))) (rng_nat m)
    (by
      intro i v fr σ' hv I
      obtain ⟨hi, rfl⟩ := range_get hv
      exact ways1_turn H hM hs' hlo hol ho m2 hj' hi I) ⟨[], [], none, none, Built.start, rfl, rfl⟩).next
  rw [List.length_range] at B
  have L := B.good m1 (fun e => by unfold ringB; rw [e]; rfl) hp
  obtain ⟨fr2, σ2, l2, ws2, τ2, z4, z5, L2, rfl, rfl⟩ := (s_forR (call := evFn P wf (n + 1)) (wf := wf) (tg := [4]) (one := true) (ws := List.range k) (g := fun (v : Nat) => V.int v) (it := E.blt BN.range [E.bin Operator.Mod (E.bin Operator.FloorDiv (E.loc (j + 6)) (E.int 24)) (E.int md)]) (bs := ways2) (fr := wayF m σ.length β.length y4 y5 (rest0.set j (some (.int cell)))) (σ := wayS β ws1 τ1)
    (W2 β m M σ.length (2 * m) (rest0.set j (some (.int cell)))) (fun _ _ => False) (e_blt (es_cons (e_bin (e_bin (e_loc hj') e_int (b_fdiv (by decide) (by decide))) e_int ((b_fmod (by lia)).trans (by rw [hk2]))) es_nil) (b_range' (k := k) (by lia))) (rng_nat k)
    (by
      intro i v fr σ' hv I
      obtain ⟨hi, rfl⟩ := range_get hv
      exact ways2_turn H hM hs' m1 (by lia) I) ⟨ws1, τ1, y4, y5, L, rfl, rfl⟩).next
  rw [List.length_range] at L2
  refine ⟨ws2, .lst (natsV o), τ2, z4, z5, ⟨Nat.le_trans L2.len (by lia), L2.ends, L2.del, L2.sc, L2.ne⟩, fun r h => ?_⟩
  rw [hfr]
  rw [hβ, ← hlb] at h
  refine s_asg' (e_call (es_cons (e_loc rfl) (es_cons e_int es_nil)) (cell_ok H.h20 hs 1)) (show j + 6 < rest0.length + 6 by lia) ?_
  rw [hcell]
  refine s_asg' (e_srt (e_blt (es_cons (e_loc rfl) es_nil) (b_range' (by lia))) eo) (show 2 < _ + 6 by lia) (s_asg' (e_list es_nil (newL_fits (by decide : 0 ≤ 16777216))) (show 3 < _ + 6 by lia) (s_cons l1 (s_cons l2 h)))
set_option tactic.hygienic false in
theorem cell_e (HL : P 20 = some fCellAt) {sc : List Int} (hs : ScriptAt σ sc) {fr : Fra} {e : E} {k q : Nat} (h0 : fr[0]? = some (some (.ref 0))) (he : evE (evFn P wf (n + 1)) e fr σ = .ok (.int q) σ) (hq : 1 ≤ q) :
    ∃ c : Nat, c < q ∧ evE (evFn P wf (n + 1)) (E.bin Operator.Mod (E.call 20 [E.loc 0, E.int k]) e) fr σ = .ok (.int c) σ := by
  obtain ⟨c, h1, h2⟩ := cell_mod q hq (sc.getD k 0)
  refine ⟨c, h1, e_bin (e_call (es_cons (e_loc h0) (es_cons e_int es_nil)) (cell_ok HL hs k)) he ((b_fmod (by lia)).trans ?_)⟩
  rw [h2]
end
end Mine

set_option autoImplicit false
set_option linter.unusedVariables false
namespace Mine
open PySem

set_option tactic.hygienic false in
theorem maxI_fold (l : List Int) : ∀ a : Int, (l.foldl (fun a b => if a < b then b else a) a = a ∨ l.foldl (fun a b => if a < b then b else a) a ∈ l) ∧ a ≤ l.foldl (fun a b => if a < b then b else a) a ∧ ∀ x ∈ l, x ≤ l.foldl (fun a b => if a < b then b else a) a := by
  induction l with
  | nil => exact fun a => ⟨.inl rfl, Int.le_refl _, nofun⟩
  | cons x l ih =>
    intro a
    rw [List.foldl_cons]
    obtain ⟨h1, h2, h3⟩ := ih (if a < x then x else a)
    have h4 : a ≤ (if a < x then x else a) ∧ x ≤ (if a < x then x else a) ∧ ((if a < x then x else a) = a ∨ (if a < x then x else a) = x) := by split <;> lia
    refine ⟨?_, Int.le_trans h4.1 h2, fun y hy => ?_⟩
    · rcases h1 with h1 | h1
      · rw [h1]
        rcases h4.2.2 with q | q
        · exact .inl q
        · exact .inr (by rw [q]; exact .head _)
      · exact .inr (.tail _ h1)
    · rcases List.mem_cons.mp hy with rfl | hy
      · exact Int.le_trans h4.2.1 h2
      · exact h3 y hy
set_option tactic.hygienic false in
theorem maxI_spec {is : List Int} (h : is ≠ []) : ∃ mx, maxL is = some mx ∧ mx ∈ is ∧ ∀ x ∈ is, x ≤ mx := by
  cases is with
  | nil => exact absurd rfl h
  | cons x l =>
    obtain ⟨h1, h2, h3⟩ := maxI_fold l x
    refine ⟨_, rfl, ?_, fun y hy => ?_⟩
    · rcases h1 with h1 | h1
      · rw [h1]; exact .head _
      · exact .tail _ h1
    · rcases List.mem_cons.mp hy with rfl | hy
      · exact h2
      · exact h3 y hy
noncomputable def innT (ws : List Way) (x : Nat → Int) (v : Nat) : List Int := (ws.filter fun w => w.2.1 == v).map fun w => x w.1 + (w.2.2 : Int)
noncomputable def nextT (ws : List Way) (x : Nat → Int) (v : Nat) : Int := (maxL (innT ws x v)).getD 0
noncomputable def runT (ws : List Way) (x : Nat → Int) : Nat → Nat → Int
  | 0 => x
  | t + 1 => nextT ws (runT ws x t)
structure Ins (ws : List Way) (m : Nat) : Prop where
  hm : ∀ w ∈ ws, w.1 < m ∧ w.2.1 < m
  inn : ∀ v, v < m → ∃ w ∈ ws, w.2.1 = v

section
variable {ws : List Way} {m : Nat} {x y S : Nat → Int} {c : Int}
set_option tactic.hygienic false in
theorem innT_ne (H : Ins ws m) {v : Nat} (hv : v < m) : innT ws x v ≠ [] := fun e => by
  obtain ⟨w, hw, rfl⟩ := H.inn v hv
  have : x w.1 + (w.2.2 : Int) ∈ innT ws x w.2.1 := List.mem_map.mpr ⟨w, List.mem_filter.mpr ⟨hw, beq_self_eq_true _⟩, rfl⟩
  rw [e] at this; cases this
set_option tactic.hygienic false in
theorem next_max (H : Ins ws m) {v : Nat} (hv : v < m) : maxL (innT ws x v) = some (nextT ws x v) := by
  obtain ⟨mx, h, _⟩ := maxI_spec (innT_ne (x := x) H hv)
  unfold nextT; rw [h]; rfl
end
end Mine

set_option autoImplicit false
set_option linter.unusedVariables false
namespace Mine
open PySem

noncomputable def fInto : Fn := { ps := [0, 1], size := 2, body :=
  [S.expr ((E.loc 0).umeth 12 [E.loc 1]), S.ret (E.comp [1] true ((E.loc 0).attr 1) [E.cmp CmpOp.Eq ((E.loc 1).sub (E.int 1)) (E.loc 2)] (E.tup [(E.loc 1).sub (E.int 0), (E.loc 1).sub (E.int 2)]) [none, none, some 1])] }
noncomputable def eAhead : E := E.comp [1, 2] false ((E.loc 0).umeth 15 [E.loc 3]) [] (E.bin Operator.Add ((E.loc 3).sub (E.loc 1)) (E.loc 2)) [none, none, none, some 1]
noncomputable def aheadB : List S := [S.expr ((E.loc 2).meth MN.append [E.blt BN.max [eAhead]])]
noncomputable def fAhead : Fn := { ps := [0, 1], size := 8, body :=
  [S.ifS (E.cmp CmpOp.NotEq (E.blt BN.len [E.loc 1]) ((E.loc 0).attr 0)) [S.raise 0] [], S.asg 2 (E.list []),
    S.forS [3] true (It.e (E.blt BN.range [(E.loc 0).attr 0])) aheadB, S.ret (E.loc 2)] }
noncomputable def turnsB : List S := [S.expr ((E.loc 3).meth MN.append [(E.loc 0).umeth 16 [(E.loc 3).sub (E.int 1).neg]])]
noncomputable def fTurns : Fn := { ps := [0, 1, 2], size := 9, body :=
  [S.ifS (E.cmp CmpOp.NotEq (E.blt BN.len [E.loc 1]) ((E.loc 0).attr 0)) [S.raise 0] [], S.asg 3 (E.list [E.blt BN.list [E.loc 1]]),
    S.forS [4] true (It.e (E.blt BN.range [E.loc 2])) turnsB, S.ret (E.loc 3)] }

noncomputable def pairV (w : Way) : V := .tup [.int w.1, .int w.2.2]
noncomputable def accS (σ : Sto) (xs : List V) (τ : Sto) : Sto := σ ++ .lst xs :: τ
set_option tactic.hygienic false in
theorem accS_set {σ τ : Sto} {xs ys : List V} : setL (accS σ xs τ) σ.length ys = accS σ ys τ := by unfold setL accS; exact set_new
set_option tactic.hygienic false in
theorem accS_app {σ τ υ : Sto} {xs : List V} : accS σ xs τ ++ υ = accS σ xs (τ ++ υ) := List.append_assoc _ _ _
set_option tactic.hygienic false in
theorem intsV_succ {i : Nat} {y : Nat → Int} : intsV (i + 1) y = intsV i y ++ [V.int (y i)] := by
  unfold intsV; rw [List.range_succ, List.map_append]; rfl
set_option tactic.hygienic false in
theorem intsI_of (is : List Int) : intsOf (is.map V.int) = some is := by
  have : mapO intOf (is.map V.int) = some (is.map id) := mapO_map fun _ _ => rfl
  rwa [List.map_id] at this
set_option tactic.hygienic false in
theorem b_maxI {σ : Sto} {l : Nat} {is : List Int} {i : Int} (h : σ[l]? = some (.lst (is.map V.int))) (h2 : maxL is = some i) : bltV .max [.ref l] σ = .ok (.int i) σ := by
  show ofOpt σ ((((getL σ l).bind intsOf).bind maxL).map V.int) = _
  rw [getL_some h]
  show ofOpt σ (((intsOf (is.map V.int)).bind maxL).map V.int) = _
  rw [intsI_of]
  show ofOpt σ ((maxL is).map V.int) = _
  rw [h2]; rfl
set_option tactic.hygienic false in
theorem WebGood.ins {m : Nat} {ws : List Way} (G : WebGood m ws) : Ins ws m := ⟨G.hm, fun v hv => by
  obtain ⟨w, hw, e⟩ := G.flip.ok.hO v hv
  obtain ⟨a, b, d⟩ := w
  exact ⟨(b, a, d), mem_flip.mp hw, e⟩⟩

structure DefsT (P : Nat → Option Fn) : Prop where
  h8 : P 8 = some fIsWhole
  h12 : P 12 = some fNeed
  h15 : P 15 = some fInto
  h16 : P 16 = some fAhead
  h17 : P 17 = some fTurns
section
variable {P : Nat → Option Fn} {wf n : Nat} {σ : Sto} {l m lt : Nat} {ws : List Way} {x : Nat → Int}
set_option tactic.hygienic false in
theorem into_ok (H : DefsT P) (W : WebAt σ l m ws) (hz : ws.length ≤ 60) {v : Nat} (hv : v < m) : evFn P wf (n + 3) 15 [.ref l, .int v] σ = .ok (.ref σ.length) (σ ++ [.lst ((ws.filter fun w => w.2.1 == v).map pairV)]) := by
  obtain ⟨d, lw, a, b, c⟩ := W.at'
  refine f_ret H.h15 rfl (s_expr' (e_umeth (e_loc rfl) a b (es_cons (e_loc rfl) es_nil) (need_ok (n := n) H.h8 H.h12 W hv)) (s_ret' (e_comp (ws := ws) (g := wayV) (p := fun w => w.2.1 == v) (f := pairV) (e_attr (e_loc rfl) (attr_ways a b)) (getL_some c) (fun w hw => ⟨_, rfl, t_one (e_cmp (e_sub (e_loc rfl) e_int rfl) (e_loc rfl) (congrArg some (nat_beq w.2.1 v))), fun _ => e_tup (es_cons (e_sub (e_loc rfl) e_int rfl) (es_cons (e_sub (e_loc rfl) e_int rfl) es_nil)) (by decide : 2 ≤ 1000)⟩) (newL_fits ?_))))
  rw [List.length_map]; exact Nat.le_trans (List.length_filter_le _ _) (Nat.le_trans hz (by decide))
set_option tactic.hygienic false in
theorem ahead_e (H : DefsT P) (W : WebAt σ l m ws) (G : WebGood m ws) (ht : σ[lt]? = some (.lst (intsV m x))) {v : Nat} (hv : v < m) {fr : Fra} (h0 : fr[0]? = some (some (.ref l))) (h3 : fr[3]? = some (some (.int v))) (hs : subFr fr [none, none, none, some 1] = [none, none, none, some (.ref lt)]) :
    ∃ τ, evE (evFn P wf (n + 3)) (E.blt BN.max [eAhead]) fr σ = .ok (.int (nextT ws x v)) (σ ++ τ) := by
  obtain ⟨d, lw, a, b, c⟩ := W.at'
  refine ⟨[.lst ((ws.filter fun w => w.2.1 == v).map pairV)] ++ [.lst ((innT ws x v).map V.int)], ?_⟩
  rw [← List.append_assoc]
  refine e_blt (es_cons (e_comp (ws := ws.filter fun w => w.2.1 == v) (g := pairV) (p := fun _ => true) (f := fun w => V.int (x w.1 + (w.2.2 : Int))) (e_umeth (e_loc h0) a b (es_cons (e_loc h3) es_nil) (into_ok (n := n) H W G.hz hv)) (getL_some ap_new) (fun w hw => ?_) ?_) es_nil) (b_maxI ap_new (next_max G.ins hv))
  · rw [hs]
    exact ⟨_, rfl, t_nil, fun _ => e_bin (e_sub (e_loc rfl) (e_loc rfl) (sub_lst (ap ht) (intsV_get (G.hm w (List.mem_filter.mp hw).1).1))) (e_loc rfl) rfl⟩
  · rw [List.filter_eq_self.mpr (fun _ _ => rfl), show ((ws.filter fun w => w.2.1 == v).map fun w => V.int (x w.1 + (w.2.2 : Int))) = (innT ws x v).map V.int by unfold innT; rw [List.map_map]; rfl]
    refine newL_fits ?_
    unfold innT
    rw [List.length_map, List.length_map]; exact Nat.le_trans (List.length_filter_le _ _) (Nat.le_trans G.hz (by decide))
set_option tactic.hygienic false in
theorem s_push {call : Nat → List V → Sto → RE} {e : E} {k : Nat} {fr : Fra} {xs : List V} {τ τ' : Sto} {v : V} (hk : fr[k]? = some (some (.ref σ.length))) (he : evE call e fr (accS σ xs τ) = .ok v (accS σ xs τ')) (hz : xs.length < 16777216) : evSs call wf [S.expr ((E.loc k).meth MN.append [e])] fr (accS σ xs τ) = .ok .next fr (accS σ (xs ++ [v]) τ') := by
  refine s_expr' (e_meth (e_loc hk) (getL_some ap_new) (es_cons he es_nil) (getL_some ap_new) (m_app hz)) ?_
  rw [accS_set]; exact s_nil
set_option tactic.hygienic false in
theorem ne_len (h : σ[lt]? = some (.lst (intsV m x))) {d lw : Nat} {call : Nat → List V → Sto → RE} {fr : Fra} (h0 : fr[0]? = some (some (.ref l))) (h1 : fr[1]? = some (some (.ref lt))) (a : σ[l]? = some (.inst d)) (b : σ[d]? = some (.att [(0, .int m), (1, .ref lw)])) :
    evE call (E.cmp CmpOp.NotEq (E.blt BN.len [E.loc 1]) ((E.loc 0).attr 0)) fr σ = .ok (.bool false) σ := by
  refine e_cmp (e_blt (es_cons (e_loc h1) es_nil) (b_len' h)) (e_attr (e_loc h0) (attr_many a b)) ?_
  rw [intsV_len]; exact ne_int_f
set_option tactic.hygienic false in
theorem ahead_ok (H : DefsT P) (W : WebAt σ l m ws) (G : WebGood m ws) (ht : σ[lt]? = some (.lst (intsV m x))) :
    ∃ τ, evFn P wf (n + 4) 16 [.ref l, .ref lt] σ = .ok (.ref σ.length) (accS σ (intsV m (nextT ws x)) τ) := by
  obtain ⟨d, lw, a, b, c⟩ := W.at'
  have hm := G.m2
  obtain ⟨fr1, σ1, e1, x3, τ, rfl, rfl⟩ := (s_forR (call := evFn P wf (n + 3)) (wf := wf) (tg := [3]) (one := true) (ws := List.range m) (g := fun (v : Nat) => V.int v) (it := E.blt BN.range [(E.loc 0).attr 0]) (bs := aheadB) (fr := [some (.ref l), some (.ref lt), some (.ref σ.length), none, none, none, none, none]) (σ := accS σ [] [])
    (fun i fr σ' => ∃ (x3 : Option V) (τ : Sto), fr = [some (.ref l), some (.ref lt), some (.ref σ.length), x3, none, none, none, none] ∧ σ' = accS σ (intsV i (nextT ws x)) τ) (fun _ _ => False)
    (e_blt (es_cons (e_attr (e_loc rfl) (attr_many (ap a) (ap b))) es_nil) (b_range' (by lia))) (rng_nat m)
    (by
      rintro i v _ _ hv ⟨x3, τ, rfl, rfl⟩
      obtain ⟨hi, rfl⟩ := range_get hv
      obtain ⟨υ, e⟩ := ahead_e (wf := wf) (n := n) (σ := accS σ (intsV i (nextT ws x)) τ) (x := x) (fr := [some (.ref l), some (.ref lt), some (.ref σ.length), some (.int i), none, none, none, none]) H (W.app (τ := _)) G (ap ht) hi rfl rfl rfl
      rw [accS_app] at e
      refine ⟨_, rfl, .inl ⟨_, _, s_push rfl e (by rw [intsV_len]; lia), some (.int i), τ ++ υ, rfl, ?_⟩⟩
      rw [intsV_succ]) ⟨none, [], rfl, rfl⟩).next
  rw [List.length_range] at e1
  exact ⟨τ, f_ret H.h16 rfl (s_skip (ne_len ht rfl rfl a b) (s_asg' (e_list es_nil (newL_fits (by decide : 0 ≤ 16777216))) (by decide : 2 < 8) (s_cons e1 (s_ret' (e_loc rfl)))))⟩
end
end Mine

set_option autoImplicit false
set_option linter.unusedVariables false
namespace Mine
open PySem

noncomputable def eShape : E := E.blt BN.tuple [E.comp [1] true (E.loc 3) [] (E.bin Operator.Sub (E.loc 1) ((E.loc 2).sub (E.int 0))) [none, none, some 3]]
noncomputable def settleB : List S :=
  [S.asg 7 eShape,
    S.ifS (E.cmp CmpOp.In (E.loc 7) (E.loc 4)) [S.ret (E.tup [(E.loc 4).sub (E.loc 7), E.bin Operator.Sub (E.loc 6) ((E.loc 4).sub (E.loc 7)), E.bin Operator.Sub ((E.loc 3).sub (E.int 0)) ((E.loc 5).sub ((E.loc 4).sub (E.loc 7)))])] [],
    S.asgI (E.loc 4) (E.loc 7) (E.loc 6), S.expr ((E.loc 5).meth MN.append [(E.loc 3).sub (E.int 0)]), S.asg 3 ((E.loc 0).umeth 16 [E.loc 3])]
noncomputable def fSettled : Fn := { ps := [0, 1, 2], size := 10, body :=
  [S.asg 3 (((E.loc 0).umeth 17 [E.loc 1, E.int 0]).sub (E.int 0)), S.asg 4 E.dict0, S.asg 5 (E.list []),
    S.forS [6] true (It.e (E.blt BN.range [E.bin Operator.Add (E.loc 2) (E.int 1)])) settleB, S.ret E.none] }

noncomputable def shapeL (m : Nat) (x : Nat → Int) : List Int := (List.range m).map fun v => x v - x 0
set_option tactic.hygienic false in
theorem shape_eq {m : Nat} {x y : Nat → Int} (h : shapeL m x = shapeL m y) {v : Nat} (hv : v < m) : y v = x v + (y 0 - x 0) := by
  have := congrArg (fun l => l[v]?) h
  unfold shapeL at this
  rw [List.getElem?_map, List.getElem?_map, List.getElem?_range hv] at this
  have h2 : x v - x 0 = y v - y 0 := Option.some.inj this
  lia
noncomputable def seenL (m : Nat) (X : Nat → Nat → Int) (i : Nat) : List (List Int × V) := (List.range i).map fun t => (shapeL m (X t), V.int (t : Nat))
set_option tactic.hygienic false in
theorem seen_succ {m i : Nat} {X : Nat → Nat → Int} : seenL m X (i + 1) = seenL m X i ++ [(shapeL m (X i), V.int (i : Nat))] := by
  unfold seenL; rw [List.range_succ, List.map_append]; rfl
set_option tactic.hygienic false in
theorem put_new {k : List Int} {v : V} {es : List (List Int × V)} (h : (es.any fun e => e.1 == k) = false) : putT k v es = es ++ [(k, v)] := by
  induction es with
  | nil => rfl
  | cons e es ih =>
    rw [List.any_cons, Bool.or_eq_false_iff] at h
    show (if (e.1 == k) = true then (e.1, v) :: es else e :: putT k v es) = _
    rw [h.1, ih h.2]; rfl
set_option tactic.hygienic false in
theorem seen_get {m i : Nat} {X : Nat → Nat → Int} {k : List Int} (h : ((seenL m X i).any fun e => e.1 == k) = true) : ∃ t, t < i ∧ shapeL m (X t) = k ∧ (seenL m X i).lookup k = some (V.int (t : Nat)) := by
  induction i with
  | zero => exact absurd h Bool.false_ne_true
  | succ i ih =>
    rw [seen_succ] at h ⊢
    have happ : ∀ {es es' : List (List Int × V)}, (es ++ es').lookup k = (es.lookup k).or (es'.lookup k) := fun {es es'} => by
      induction es with
      | nil => rfl
      | cons e es ih2 =>
        rw [List.cons_append, List.lookup_cons, List.lookup_cons, ih2]
        cases k == e.1 <;> rfl
    rw [happ]
    by_cases h1 : ((seenL m X i).any fun e => e.1 == k) = true
    · obtain ⟨t, ht, hk, hl⟩ := ih h1
      exact ⟨t, by lia, hk, by rw [hl]; rfl⟩
    · have h1 := Bool.eq_false_iff.mpr h1
      rw [List.any_append, h1, Bool.false_or, List.any_cons, List.any_nil, Bool.or_false] at h
      have hk : shapeL m (X i) = k := eq_of_beq h
      have hn : (seenL m X i).lookup k = none := by
        rw [List.lookup_eq_none_iff]
        intro e he
        rw [List.any_eq_false] at h1
        have := h1 e he
        rw [Bool.not_eq_true, beq_eq_false_iff_ne] at this
        exact bne_iff_ne.mpr (Ne.symm this)
      refine ⟨i, Nat.lt_succ_self _, hk, ?_⟩
      rw [hn, List.lookup_cons, show (k == shapeL m (X i)) = true from beq_iff_eq.mpr hk.symm]; rfl

section
variable {P : Nat → Option Fn} {wf n : Nat} {σ : Sto} {l m lt lh : Nat} {ws : List Way} {x : Nat → Int} {call : Nat → List V → Sto → RE}
set_option tactic.hygienic false in
theorem shape_ok {fr : Fra} (hm : 1 ≤ m ∧ m ≤ 12) (h3 : fr[3]? = some (some (.ref lh))) (hs : subFr fr [none, none, some 3] = [none, none, some (.ref lh)]) (ht : σ[lh]? = some (.lst (intsV m x))) :
    evE call eShape fr σ = .ok (.tup ((shapeL m x).map V.int)) (σ ++ [.lst ((shapeL m x).map V.int)]) := by
  have e1 : evE call (E.comp [1] true (E.loc 3) [] (E.bin Operator.Sub (E.loc 1) ((E.loc 2).sub (E.int 0))) [none, none, some 3]) fr σ = .ok (.ref σ.length) (σ ++ [.lst ((shapeL m x).map V.int)]) := by
    refine e_comp (ws := List.range m) (g := fun v => V.int (x v)) (p := fun _ => true) (f := fun v => V.int (x v - x 0)) (e_loc h3) (getL_some ht) (fun v hv => ?_) ?_
    · rw [hs]
      exact ⟨_, rfl, t_nil, fun _ => e_bin (e_loc rfl) (e_sub (e_loc rfl) e_int (sub_lst (k := 0) ht (intsV_get hm.1))) rfl⟩
    · rw [List.filter_eq_self.mpr (fun _ _ => rfl), show ((List.range m).map fun v => V.int (x v - x 0)) = (shapeL m x).map V.int by unfold shapeL; rw [List.map_map]; rfl]
      refine newL_fits ?_
      unfold shapeL; rw [List.length_map, List.length_map, List.length_range]; lia
  refine e_blt (es_cons e1 es_nil) ?_
  show (match getL (σ ++ [AO.lst ((shapeL m x).map V.int)]) σ.length with | some xs => RE.ok (.tup xs) (σ ++ [AO.lst ((shapeL m x).map V.int)]) | none => .bad) = _
  rw [getL_some ap_new]
set_option tactic.hygienic false in
theorem turns0_ok (H : DefsT P) (W : WebAt σ l m ws) (hm : m ≤ 12) (ht : σ[lt]? = some (.lst (intsV m x))) : evFn P wf (n + 1) 17 [.ref l, .ref lt, .int 0] σ = .ok (.ref (σ.length + 1)) (σ ++ [.lst (intsV m x)] ++ [.lst [.ref σ.length]]) := by
  obtain ⟨d, lw, a, b, c⟩ := W.at'
  have e1 : evE (evFn P wf n) (E.list [E.blt BN.list [E.loc 1]]) (frame0 fTurns [.ref l, .ref lt, .int 0]) σ = .ok (.ref (σ.length + 1)) (σ ++ [.lst (intsV m x)] ++ [.lst [.ref σ.length]]) :=
    (e_list (es_cons (e_blt (es_cons (e_loc rfl) es_nil) (b_list' ht (by rw [intsV_len]; lia))) es_nil) (newL_fits (by decide : 1 ≤ 16777216))).trans (by rw [List.length_append]; rfl)
  exact f_ret H.h17 rfl (s_skip (ne_len ht rfl rfl a b) (s_asg' e1 (by decide : 3 < 9) (s_cons (fr1 := [some (.ref l), some (.ref lt), some (.int 0), some (.ref (σ.length + 1)), none, none, none, none, none]) (σ1 := σ ++ [.lst (intsV m x)] ++ [.lst [.ref σ.length]]) rfl (s_ret' (e_loc rfl)))))
end
end Mine

set_option autoImplicit false
set_option linter.unusedVariables false
namespace Mine
open PySem

noncomputable def setS (σ : Sto) (es : List (List Int × V)) (fs : List V) (τ : Sto) : Sto := σ ++ .dT es :: .lst fs :: τ
section
variable {σ τ : Sto} {es es' : List (List Int × V)} {fs fs' : List V}
set_option tactic.hygienic false in
theorem setS_d : (setS σ es fs τ)[σ.length]? = some (.dT es) := ap_new
set_option tactic.hygienic false in
theorem setS_f : (setS σ es fs τ)[σ.length + 1]? = some (.lst fs) := by
  unfold setS; rw [List.getElem?_append_right (Nat.le_add_right _ _), Nat.add_sub_cancel_left]; rfl
set_option tactic.hygienic false in
theorem setS_app {υ : Sto} : setS σ es fs τ ++ υ = setS σ es fs (τ ++ υ) := List.append_assoc _ _ _
set_option tactic.hygienic false in
theorem setS_putD {o : List (List Int × V)} : (setS σ es fs τ).set σ.length (.dT o) = setS σ o fs τ := set_new
set_option tactic.hygienic false in
theorem setS_putF {o : List V} : setL (setS σ es fs τ) (σ.length + 1) o = setS σ es o τ := by
  unfold setL setS; rw [List.set_append_right _ _ (Nat.le_add_right _ _), Nat.add_sub_cancel_left]; rfl
set_option tactic.hygienic false in
theorem setS_at {k : Nat} (h1 : k ≠ σ.length) (h2 : k ≠ σ.length + 1) : (setS σ es fs τ)[k]? = (setS σ es' fs' τ)[k]? := by
  unfold setS
  by_cases h : k < σ.length
  · rw [List.getElem?_append_left h, List.getElem?_append_left h]
  · obtain ⟨j, rfl⟩ : ∃ j, k = σ.length + (j + 2) := ⟨k - σ.length - 2, by lia⟩
    rw [List.getElem?_append_right (Nat.le_add_right _ _), List.getElem?_append_right (Nat.le_add_right _ _), Nat.add_sub_cancel_left]; rfl
set_option tactic.hygienic false in
theorem setS_len : (setS σ es fs τ).length = σ.length + (2 + τ.length) := by unfold setS; rw [List.length_append, List.length_cons, List.length_cons]; lia
set_option tactic.hygienic false in
theorem in_seen {d : Nat} {k : List Int} (h : σ[d]? = some (.dT es)) : cmpV .In (.tup (k.map V.int)) (.ref d) σ = some (es.any fun e => e.1 == k) := by
  show inV σ (.tup (k.map V.int)) (.ref d) = _
  unfold inV; dsimp only; rw [h]; dsimp only; rw [intsI_of]; rfl
set_option tactic.hygienic false in
theorem sub_seen {d : Nat} {k : List Int} {v : V} (h : σ[d]? = some (.dT es)) (hv : es.lookup k = some v) : subV (.ref d) (.tup (k.map V.int)) σ = some v := by
  unfold subV; dsimp only; rw [h, intsI_of]; exact hv
set_option tactic.hygienic false in
theorem put_seen {d : Nat} {k : List Int} {v : V} (h : σ[d]? = some (.dT es)) (hz : es.length < 1000000) : setIdx (.ref d) (.tup (k.map V.int)) v σ = some (σ.set d (.dT (putT k v es))) := by
  unfold setIdx; dsimp only; rw [h, intsI_of]; exact if_pos hz
end

section
variable {P : Nat → Option Fn} {wf n : Nat} {σ σ0 : Sto} {l m lt : Nat} {ws : List Way} {x : Nat → Int}
noncomputable def setF (l lt most lh d : Nat) (x6 x7 : Option V) : Fra := [some (.ref l), some (.ref lt), some (.int most), some (.ref lh), some (.ref d), some (.ref (d + 1)), x6, x7, none, none]
noncomputable def hitT (m : Nat) (X : Nat → Nat → Int) (i : Nat) : Bool := (seenL m X i).any fun e => e.1 == shapeL m (X i)
noncomputable def valT (m : Nat) (X : Nat → Nat → Int) (i : Nat) : V := match (seenL m X i).lookup (shapeL m (X i)) with
  | some (.int t) => .tup [.int t, .int ((i : Int) - t), .int (X i 0 - X t.toNat 0)]
  | _ => .none
def Settles (m most : Nat) (X : Nat → Nat → Int) (w : V) : Prop := (w = .none ∧ ∀ j, j < most + 1 → hitT m X j = false) ∨ ∃ i, i < most + 1 ∧ hitT m X i = true ∧ (∀ j, j < i → hitT m X j = false) ∧ w = valT m X i
structure S1 (σ : Sto) (l lt most m : Nat) (ws : List Way) (x : Nat → Int) (i : Nat) (fr : Fra) (σ' : Sto) : Prop where
  ex : ∃ lh τ x6 x7, fr = setF l lt most lh σ.length x6 x7 ∧ σ' = setS σ (seenL m (runT ws x) i) (intsV i fun t => runT ws x t 0) τ ∧ σ'[lh]? = some (.lst (intsV m (runT ws x i))) ∧ lh ≠ σ.length + 1 ∧ ∀ j, j < i → hitT m (runT ws x) j = false
structure Again (σ : Sto) (most m : Nat) (ws : List Way) (x : Nat → Int) (w : V) (σ' : Sto) : Prop where
  ex : ∃ (t s : Nat) (g : Int) (τ : Sto), w = .tup [.int t, .int s, .int g] ∧ σ' = σ ++ τ ∧ 1 ≤ s ∧ t + s ≤ most ∧ (∀ v, v < m → runT ws x (t + s) v = runT ws x t v + g) ∧ Settles m most (runT ws x) w
set_option tactic.hygienic false in
theorem settle_turn (H : DefsT P) (W : WebAt σ l m ws) (G : WebGood m ws) {most i : Nat} (hi : i < most + 1) (hmost : most ≤ 1000) {fr : Fra} {σ' : Sto} (I : S1 σ l lt most m ws x i fr σ') :
    Turn [6] true (evSs (evFn P wf (n + 4)) wf settleB) (.int i) fr σ' (S1 σ l lt most m ws x (i + 1)) (Again σ most m ws x) := by
  obtain ⟨lh, τ, x6, x7, rfl, rfl, hh, hne, hno⟩ := I
  have hm : 1 ≤ m ∧ m ≤ 12 := ⟨G.m1, G.m2⟩
  have hd : lh ≠ σ.length := fun q => by rw [q, setS_d] at hh; cases hh
  have e7 := shape_ok (call := evFn P wf (n + 4)) (fr := setF l lt most lh σ.length (some (.int i)) x7) hm rfl rfl hh
  rw [setS_app] at e7
  have hh1 : ∀ es fs, (setS σ es fs (τ ++ [.lst ((shapeL m (runT ws x i)).map V.int)]))[lh]? = some (.lst (intsV m (runT ws x i))) := fun es fs => by
    rw [setS_at hd hne (es' := seenL m (runT ws x) i) (fs' := intsV i fun t => runT ws x t 0), ← setS_app]; exact ap hh
  generalize hτ : τ ++ [.lst ((shapeL m (runT ws x i)).map V.int)] = τ1 at e7 hh1
  have h0 : ∀ es fs, subV (.ref lh) (.int 0) (setS σ es fs τ1) = some (.int (runT ws x i 0)) := fun es fs => sub_lst (k := 0) (hh1 es fs) (intsV_get hm.1)
  refine ⟨setF l lt most lh σ.length (some (.int i)) x7, rfl, ?_⟩
  cases hb : (seenL m (runT ws x) i).any fun e => e.1 == shapeL m (runT ws x i) with
  | true =>
    obtain ⟨t, ht, hk, hl⟩ := seen_get hb
    have hs : ∀ {fr : Fra}, fr[4]? = some (some (.ref σ.length)) → fr[7]? = some (some (.tup ((shapeL m (runT ws x i)).map V.int))) → evE (evFn P wf (n + 4)) ((E.loc 4).sub (E.loc 7)) fr (setS σ (seenL m (runT ws x) i) (intsV i fun t => runT ws x t 0) τ1) = .ok (.int t) (setS σ (seenL m (runT ws x) i) (intsV i fun t => runT ws x t 0) τ1) := fun h4 h7 => e_sub (e_loc h4) (e_loc h7) (sub_seen setS_d hl)
    refine .inr ⟨_, _, _, s_asg' e7 (by decide : 7 < 10) (s_if_ret (e_cmp (e_loc rfl) (e_loc rfl) ((in_seen setS_d).trans (congrArg some hb))) (s_ret' (e_tup (es_cons (hs rfl rfl) (es_cons (e_bin (e_loc rfl) (hs rfl rfl) rfl) (es_cons (e_bin (e_sub (e_loc rfl) e_int (h0 _ _)) (e_sub (e_loc rfl) (hs rfl rfl) (sub_lst setS_f (intsV_get ht))) rfl) es_nil))) (by decide : 3 ≤ 1000)))), t, i - t, runT ws x i 0 - runT ws x t 0, _, ?_, rfl, by lia, by lia, fun v hv => ?_, .inr ⟨i, hi, hb, hno, ?_⟩⟩
    · rw [show ((i - t : Nat) : Int) = (i : Int) - t by lia]
    · rw [show t + (i - t) = i by lia]
      exact shape_eq hk hv
    · unfold valT; rw [hl]; rfl
  | false =>
    have hz : (seenL m (runT ws x) i).length < 1000000 := by unfold seenL; rw [List.length_map, List.length_range]; lia
    obtain ⟨υ, e3⟩ := ahead_ok (wf := wf) (n := n) (σ := setS σ (seenL m (runT ws x) (i + 1)) (intsV (i + 1) fun t => runT ws x t 0) τ1) H W.app G (hh1 _ _)
    obtain ⟨dd, lw, a, b, c⟩ := (W.app (τ := .dT (seenL m (runT ws x) (i + 1)) :: .lst (intsV (i + 1) fun t => runT ws x t 0) :: τ1)).at'
    refine .inl ⟨setF l lt most (setS σ (seenL m (runT ws x) (i + 1)) (intsV (i + 1) fun t => runT ws x t 0) τ1).length σ.length (some (.int i)) (some (.tup ((shapeL m (runT ws x i)).map V.int))), accS (setS σ (seenL m (runT ws x) (i + 1)) (intsV (i + 1) fun t => runT ws x t 0) τ1) (intsV m (nextT ws (runT ws x i))) υ, s_asg' e7 (by decide : 7 < 10) (s_skip (e_cmp (e_loc rfl) (e_loc rfl) ((in_seen setS_d).trans (congrArg some hb))) (s_asgI' (e_loc rfl) (e_loc rfl) (e_loc rfl) (put_seen setS_d hz) ?_)), ?_⟩
    · rw [setS_putD, put_new hb, ← seen_succ]
      refine s_expr' (e_meth (e_loc rfl) (getL_some setS_f) (es_cons (e_sub (e_loc rfl) e_int (h0 _ _)) es_nil) (getL_some setS_f) (m_app (by rw [intsV_len]; lia))) ?_
      rw [setS_putF, show intsV i (fun t => runT ws x t 0) ++ [V.int (runT ws x i 0)] = intsV (i + 1) (fun t => runT ws x t 0) from intsV_succ.symm]
      exact s_asg' (e_umeth (e_loc rfl) a b (es_cons (e_loc rfl) es_nil) e3) (by decide : 3 < 10) s_nil
    · refine ⟨_, τ1 ++ (.lst (intsV m (nextT ws (runT ws x i))) :: υ), _, _, rfl, ?_, ap_new, ?_, fun j hj => ?_⟩
      · exact setS_app
      · rw [setS_len]; lia
      · by_cases q : j = i
        · rw [q]; exact hb
        · exact hno j (Nat.lt_of_le_of_ne (Nat.le_of_lt_succ hj) q)
set_option tactic.hygienic false in
theorem settled_ok' (H : DefsT P) (h18 : P 18 = some fSettled) (W : WebAt σ l m ws) (G : WebGood m ws) (ht : σ[lt]? = some (.lst (intsV m x))) {most : Nat} (hmost : most ≤ 1000) :
    ∃ w τ, evFn P wf (n + 5) 18 [.ref l, .ref lt, .int most] σ = .ok w (σ ++ τ) ∧ (w = .none ∨ ∃ (t s : Nat) (g : Int), w = .tup [.int t, .int s, .int g] ∧ 1 ≤ s ∧ t + s ≤ most ∧ ∀ v, v < m → runT ws x (t + s) v = runT ws x t v + g) ∧ Settles m most (runT ws x) w := by
  obtain ⟨d, lw, a, b, c⟩ := W.at'
  have e0 : evE (evFn P wf (n + 4)) (((E.loc 0).umeth 17 [E.loc 1, E.int 0]).sub (E.int 0)) (frame0 fSettled [.ref l, .ref lt, .int most]) σ = .ok (.ref σ.length) (σ ++ [AO.lst (intsV m x)] ++ [AO.lst [.ref σ.length]]) :=
    e_sub (e_umeth (e_loc rfl) a b (es_cons (e_loc rfl) (es_cons e_int es_nil)) (turns0_ok (n := n + 3) H W G.m2 ht)) e_int (sub_lst (k := 0) ap2_new rfl)
  have hh : (σ ++ [AO.lst (intsV m x)] ++ [AO.lst [.ref σ.length]])[σ.length]? = some (.lst (intsV m x)) := ap ap_new
  have hlen : (σ ++ [AO.lst (intsV m x)] ++ [AO.lst [.ref σ.length]]).length = σ.length + 2 := by rw [List.length_append, List.length_append]; rfl
  have W0 : WebAt (σ ++ [AO.lst (intsV m x)] ++ [AO.lst [.ref σ.length]]) l m ws := W.app.app
  have ea : σ ++ [AO.lst (intsV m x)] ++ [AO.lst [.ref σ.length]] = σ ++ [AO.lst (intsV m x), AO.lst [.ref σ.length]] := by rw [List.append_assoc]; rfl
  generalize hσ : σ ++ [AO.lst (intsV m x)] ++ [AO.lst [.ref σ.length]] = σ0 at *
  have key := s_forR (call := evFn P wf (n + 4)) (wf := wf) (tg := [6]) (one := true) (ws := List.range (most + 1)) (g := fun (v : Nat) => V.int v) (it := E.blt BN.range [E.bin Operator.Add (E.loc 2) (E.int 1)]) (bs := settleB) (fr := setF l lt most σ.length σ0.length none none) (σ := setS σ0 [] [] [])
    (S1 σ0 l lt most m ws x) (Again σ0 most m ws x) (e_blt (es_cons (e_bin (e_loc rfl) e_int rfl) es_nil) (b_range' (k := most + 1) (by lia))) (rng_nat (most + 1))
    (by
      intro i v fr σ' hv I
      obtain ⟨hi, rfl⟩ := range_get hv
      exact settle_turn H W0 G hi hmost I) ⟨σ.length, [], none, none, rfl, rfl, ap hh, by lia, fun j h => absurd h (Nat.not_lt_zero _)⟩
  have front : ∀ r, evSs (evFn P wf (n + 4)) wf (S.forS [6] true (It.e (E.blt BN.range [E.bin Operator.Add (E.loc 2) (E.int 1)])) settleB :: [S.ret E.none]) (setF l lt most σ.length σ0.length none none) (setS σ0 [] [] []) = r → evSs (evFn P wf (n + 4)) wf fSettled.body (frame0 fSettled [.ref l, .ref lt, .int most]) σ = r := fun r h => by
    refine s_asg' e0 (by decide : 3 < 10) (s_asg' e_dict0 (by decide : 4 < 10) (s_asg' (e_list es_nil (newL_fits (by decide : 0 ≤ 16777216))) (by decide : 5 < 10) ?_))
    rw [List.append_assoc, List.length_append]
    exact h
  rcases key with ⟨fr, σ', e, lh, τ, x6, x7, rfl, rfl, _, _, hno⟩ | ⟨w, fr, σ', e, t, s, g, τ, rfl, rfl, h1, h2, h3, h4⟩
  · refine ⟨.none, [AO.lst (intsV m x), AO.lst [.ref σ.length]] ++ (.dT (seenL m (runT ws x) (List.range (most + 1)).length) :: .lst (intsV (List.range (most + 1)).length fun t => runT ws x t 0) :: τ), ?_, .inl rfl, .inl ⟨rfl, fun j hj => hno j (by rw [List.length_range]; exact hj)⟩⟩
    rw [← List.append_assoc, ← ea]
    exact f_ret h18 rfl (front _ (s_cons e (s_ret' e_none)))
  · refine ⟨_, [AO.lst (intsV m x), AO.lst [.ref σ.length]] ++ τ, ?_, .inr ⟨t, s, g, rfl, h1, h2, h3⟩, h4⟩
    rw [← List.append_assoc, ← ea]
    exact f_ret h18 rfl (front _ (s_ret1 e))
set_option tactic.hygienic false in
theorem settled_ok (H : DefsT P) (h18 : P 18 = some fSettled) (W : WebAt σ l m ws) (G : WebGood m ws) (ht : σ[lt]? = some (.lst (intsV m x))) {most : Nat} (hmost : most ≤ 1000) :
    ∃ w τ, evFn P wf (n + 5) 18 [.ref l, .ref lt, .int most] σ = .ok w (σ ++ τ) ∧ (w = .none ∨ ∃ (t s : Nat) (g : Int), w = .tup [.int t, .int s, .int g] ∧ 1 ≤ s ∧ t + s ≤ most ∧ ∀ v, v < m → runT ws x (t + s) v = runT ws x t v + g) :=
  let ⟨w, τ, e, h, _⟩ := settled_ok' H h18 W G ht hmost
  ⟨w, τ, e, h⟩
end
end Mine

set_option autoImplicit false
set_option linter.unusedVariables false
namespace Mine
open PySem

section
variable {P : Nat → Option Fn} {wf n : Nat} {σ : Sto} {m l lt : Nat} {ws : List Way} {x : Nat → Int}
set_option tactic.hygienic false in
theorem accS_at {τ : Sto} {xs ys : List V} {k : Nat} (h : k ≠ σ.length) : (accS σ xs τ)[k]? = (accS σ ys τ)[k]? := by
  unfold accS
  by_cases hk : k < σ.length
  · rw [List.getElem?_append_left hk, List.getElem?_append_left hk]
  · obtain ⟨j, rfl⟩ : ∃ j, k = σ.length + (j + 1) := ⟨k - σ.length - 1, by lia⟩
    rw [List.getElem?_append_right (Nat.le_add_right _ _), List.getElem?_append_right (Nat.le_add_right _ _), Nat.add_sub_cancel_left]; rfl
set_option tactic.hygienic false in
theorem accS_len {τ : Sto} {xs : List V} : (accS σ xs τ).length = σ.length + (1 + τ.length) := by unfold accS; rw [List.length_append, List.length_cons, Nat.add_comm 1]
structure TRows (σ' : Sto) (p : Nat) (ls : List Nat) (X : Nat → Nat → Int) (m i : Nat) : Prop where
  len : ls.length = i
  row : ∀ k l, ls[k]? = some l → l ≠ p ∧ σ'[l]? = some (.lst (intsV m (X k)))
set_option tactic.hygienic false in
theorem TRows.last {σ' : Sto} {p i : Nat} {ls : List Nat} {X : Nat → Nat → Int} (R : TRows σ' p ls X m (i + 1)) : ∃ l, (ls.map V.ref).getLast? = some (V.ref l) ∧ σ'[l]? = some (.lst (intsV m (X i))) := by
  obtain ⟨l, hl⟩ : ∃ l, ls[i]? = some l := ⟨_, List.getElem?_eq_getElem (by rw [R.len]; exact Nat.lt_succ_self _)⟩
  exact ⟨l, by rw [List.getLast?_eq_getElem?, List.length_map, List.getElem?_map, R.len, Nat.add_sub_cancel, hl]; rfl, (R.row i l hl).2⟩
set_option tactic.hygienic false in
theorem TRows.push {τ υ : Sto} {i : Nat} {ls : List Nat} {X : Nat → Nat → Int} (R : TRows (accS σ (ls.map V.ref) τ) σ.length ls X m i) : TRows (accS σ ((ls ++ [(accS σ (ls.map V.ref) τ).length]).map V.ref) (τ ++ (.lst (intsV m (X i)) :: υ))) σ.length (ls ++ [(accS σ (ls.map V.ref) τ).length]) X m (i + 1) := by
  have hne : (accS σ (ls.map V.ref) τ).length ≠ σ.length := by rw [accS_len]; lia
  refine ⟨by rw [List.length_append, R.len]; rfl, fun k l' h => ?_⟩
  have e : ∀ {k}, k ≠ σ.length → (accS σ ((ls ++ [(accS σ (ls.map V.ref) τ).length]).map V.ref) (τ ++ (.lst (intsV m (X i)) :: υ)))[k]? = (accS σ (ls.map V.ref) τ ++ (.lst (intsV m (X i)) :: υ))[k]? := fun hk => by rw [accS_app]; exact accS_at hk
  by_cases hk : k < ls.length
  · rw [List.getElem?_append_left hk] at h
    obtain ⟨h1, h2⟩ := R.row k l' h
    exact ⟨h1, by rw [e h1]; exact ap h2⟩
  · have hk2 : k = ls.length := by
      have := (List.getElem?_eq_some_iff.mp h).1
      rw [List.length_append] at this
      exact Nat.le_antisymm (Nat.le_of_lt_succ this) (Nat.le_of_not_lt hk)
    subst hk2
    rw [List.getElem?_append_right (Nat.le_refl _), Nat.sub_self] at h
    have : (accS σ (ls.map V.ref) τ).length = l' := Option.some.inj h
    subst this
    refine ⟨hne, ?_⟩
    rw [e hne, R.len]; exact ap_new
set_option tactic.hygienic false in
theorem s_row {call : Nat → List V → Sto → RE} {k i : Nat} {e : E} {fr : Fra} {τ υ : Sto} {ls : List Nat} {X : Nat → Nat → Int} (hk : fr[k]? = some (some (.ref σ.length))) (R : TRows (accS σ (ls.map V.ref) τ) σ.length ls X m i) (hi : i < 16777216)
    (he : evE call e fr (accS σ (ls.map V.ref) τ) = .ok (.ref (accS σ (ls.map V.ref) τ).length) (accS (accS σ (ls.map V.ref) τ) (intsV m (X i)) υ)) :
    evSs call wf [S.expr ((E.loc k).meth MN.append [e])] fr (accS σ (ls.map V.ref) τ) = .ok .next fr (accS σ ((ls ++ [(accS σ (ls.map V.ref) τ).length]).map V.ref) (τ ++ (.lst (intsV m (X i)) :: υ))) := by
  have e1 : accS (accS σ (ls.map V.ref) τ) (intsV m (X i)) υ = accS σ (ls.map V.ref) (τ ++ (.lst (intsV m (X i)) :: υ)) := accS_app
  rw [e1] at he
  rw [List.map_append]
  exact s_push hk he (by rw [List.length_map, R.len]; exact hi)
set_option tactic.hygienic false in
theorem turns_ok (H : DefsT P) (W : WebAt σ l m ws) (G : WebGood m ws) (ht : σ[lt]? = some (.lst (intsV m x))) {c : Nat} (hc : c ≤ 1000) :
    ∃ ls τ, evFn P wf (n + 5) 17 [.ref l, .ref lt, .int c] σ = .ok (.ref (σ.length + 1)) (accS (σ ++ [.lst (intsV m x)]) (ls.map V.ref) τ) ∧ TRows (accS (σ ++ [.lst (intsV m x)]) (ls.map V.ref) τ) (σ.length + 1) ls (runT ws x) m (c + 1) ∧ ∀ l ∈ ls, σ.length ≤ l := by
  obtain ⟨d, lw, a, b, _⟩ := W.at'
  have hm := G.m2
  have hlen : (σ ++ [AO.lst (intsV m x)]).length = σ.length + 1 := by rw [List.length_append]; rfl
  have e1 : evE (evFn P wf (n + 4)) (E.list [E.blt BN.list [E.loc 1]]) (frame0 fTurns [.ref l, .ref lt, .int c]) σ = .ok (.ref (σ.length + 1)) (accS (σ ++ [.lst (intsV m x)]) [.ref σ.length] []) :=
    (e_list (es_cons (e_blt (es_cons (e_loc rfl) es_nil) (b_list' ht (by rw [intsV_len]; lia))) es_nil) (newL_fits (by decide : 1 ≤ 16777216))).trans (by rw [hlen]; rfl)
  have W1 : WebAt (σ ++ [.lst (intsV m x)]) l m ws := W.app
  have h0 : (σ ++ [AO.lst (intsV m x)])[σ.length]? = some (.lst (intsV m x)) := ap_new
  rw [← hlen] at e1 ⊢
  generalize hσ : σ ++ [AO.lst (intsV m x)] = σ1 at *
  have hle : σ.length ≤ σ1.length := by rw [hlen]; exact Nat.le_add_right _ _
  obtain ⟨d, lw, a1, b1, _⟩ := W1.at'
  obtain ⟨fr, σ', e2, ls, τ, x4, rfl, rfl, R, hf⟩ := (s_forR (call := evFn P wf (n + 4)) (wf := wf) (tg := [4]) (one := true) (ws := List.range c) (g := fun (v : Nat) => V.int v) (it := E.blt BN.range [E.loc 2]) (bs := turnsB) (fr := [some (.ref l), some (.ref lt), some (.int c), some (.ref σ1.length), none, none, none, none, none]) (σ := accS σ1 [.ref σ.length] [])
    (fun i fr σ' => ∃ (ls : List Nat) (τ : Sto) (x4 : Option V), fr = [some (.ref l), some (.ref lt), some (.int c), some (.ref σ1.length), x4, none, none, none, none] ∧ σ' = accS σ1 (ls.map V.ref) τ ∧ TRows σ' σ1.length ls (runT ws x) m (i + 1) ∧ ∀ l ∈ ls, σ.length ≤ l) (fun _ _ => False)
    (e_blt (es_cons (e_loc rfl) es_nil) (b_range' (by lia))) (rng_nat c)
    (by
      rintro i v _ _ hv ⟨ls, τ, x4, rfl, rfl, R, hf⟩
      obtain ⟨hi, rfl⟩ := range_get hv
      obtain ⟨q, hq1, hq2⟩ := R.last
      obtain ⟨υ, e⟩ := ahead_ok (wf := wf) (n := n) (σ := accS σ1 (ls.map V.ref) τ) H W1.app G hq2
      refine ⟨_, rfl, .inl ⟨_, _, s_row (X := runT ws x) (i := i + 1) rfl R (by lia) (e_umeth (e_loc rfl) (ap a1) (ap b1) (es_cons (e_sub (e_loc rfl) (e_neg e_int) (sub_neg ap_new hq1)) es_nil) e), _, _, some (.int i), rfl, rfl, R.push, fun l hl => ?_⟩⟩
      rcases mem_snoc hl with hl | rfl
      · exact hf l hl
      · rw [accS_len]; exact Nat.le_trans hle (Nat.le_add_right _ _))
    ⟨[σ.length], [], none, rfl, rfl, ⟨rfl, fun k l h => by
      cases k with
      | zero => cases Option.some.inj h; exact ⟨by lia, ap h0⟩
      | succ k => cases h⟩, fun l hl => by rw [List.mem_singleton.mp hl]; exact Nat.le_refl _⟩).next
  rw [List.length_range] at R
  exact ⟨ls, τ, f_ret H.h17 rfl (s_skip (ne_len ht rfl rfl a b) (s_asg' e1 (by decide : 3 < 9) (s_cons e2 (s_ret' (e_loc rfl))))), R, hf⟩
end
end Mine

set_option autoImplicit false
set_option linter.unusedVariables false
namespace Mine
open PySem

noncomputable def eDiv (a b : Int) : E := E.bin Operator.Mod (E.bin Operator.FloorDiv (E.loc 2) (E.int a)) (E.int b)
noncomputable def eSlow : E := E.comp [1] true (E.call 5 [E.loc 0, eDiv 8 50, E.bin Operator.Add (E.int 1) (eDiv 400 5)]) [E.cmp CmpOp.IsNot (E.loc 1) E.none] (E.loc 1) [none, none]
noncomputable def stirB : List S := [S.ifS ((E.loc 5).isi Ty.list) [S.expr ((E.loc 5).meth MN.clear [])] []]
noncomputable def stirIf (k : Int) (b : S) : S := S.ifS (E.cmp CmpOp.Eq (E.loc 3) (E.int k)) [b] []
noncomputable def fStirred : Fn := { ps := [0, 1, 2], size := 12, body :=
  [S.asg 3 (E.bin Operator.Mod (E.loc 2) (E.int 8)), S.asg 4 (E.list []),
    stirIf 1 (S.asg 4 ((E.loc 0).umeth 16 [E.blt BN.list [E.loc 1]])),
    stirIf 2 (S.asg 4 ((E.loc 0).umeth 17 [E.blt BN.list [E.loc 1], E.bin Operator.Add (E.int 1) (eDiv 8 3)])),
    stirIf 3 (S.expr (E.call 18 [E.loc 0, E.blt BN.list [E.loc 1], eDiv 8 7])),
    stirIf 4 (S.asg 4 ((E.call 7 [E.loc 0]).sub (E.bin Operator.Add (E.int 2) (eDiv 8 2)))),
    stirIf 5 (S.asg 4 eSlow),
    stirIf 6 (S.asg 4 ((E.loc 0).umeth 15 [E.bin Operator.Mod (E.bin Operator.FloorDiv (E.loc 2) (E.int 8)) (E.blt BN.len [E.loc 1])])),
    stirIf 7 (S.asg 4 ((((E.loc 0).umeth 14 []).attr 1).shi (E.int 0))),
    S.forS [5] true (It.e (E.loc 4)) stirB, S.expr ((E.loc 4).meth MN.clear []), S.ret (E.bool true)] }

noncomputable def stirF (l lt : Nat) (cell way : Int) (p : Nat) (x5 : Option V) : Fra := [some (.ref l), some (.ref lt), some (.int cell), some (.int way), some (.ref p), x5, none, none, none, none, none, none]
def ToldV (σ σ' : Sto) (p : Nat) (v : V) : Prop := (∃ i, v = .int i) ∨ (∃ ts, v = .tup ts) ∨ ∃ q xs, v = .ref q ∧ σ.length ≤ q ∧ q ≠ p ∧ σ'[q]? = some (.lst xs)
structure Told (σ σ' : Sto) (p : Nat) : Prop where
  pre : ∃ τ, σ' = σ ++ τ
  new : σ.length ≤ p
  lst : ∃ vs, σ'[p]? = some (.lst vs) ∧ ∀ v ∈ vs, ToldV σ σ' p v
section
variable {P : Nat → Option Fn} {wf n : Nat} {σ σ' : Sto} {l lt m p : Nat} {ws : List Way} {x : Nat → Int} {cell way : Int} {call : Nat → List V → Sto → RE}
set_option tactic.hygienic false in
theorem pre_le {τ : Sto} {q : Nat} (h : (σ ++ τ).length ≤ q) : σ.length ≤ q := Nat.le_trans (List.Sublist.length_le (List.sublist_append_left _ _)) h
set_option tactic.hygienic false in
theorem Told.app (T : Told σ σ' p) (τ : Sto) : Told σ (σ' ++ τ) p := by
  obtain ⟨⟨τ0, rfl⟩, h1, vs, h2, h3⟩ := T
  refine ⟨⟨_, List.append_assoc _ _ _⟩, h1, vs, ap h2, fun v hv => ?_⟩
  rcases h3 v hv with h | h | ⟨q, xs, a, b, c, d⟩
  · exact .inl h
  · exact .inr (.inl h)
  · exact .inr (.inr ⟨q, xs, a, b, c, ap d⟩)
set_option tactic.hygienic false in
theorem Told.of {vs : List V} (T : Told σ σ' p) {τ : Sto} {q : Nat} (hq : σ'.length ≤ q) (h : (σ' ++ τ)[q]? = some (.lst vs)) (hv : ∀ v ∈ vs, ToldV σ (σ' ++ τ) q v) : Told σ (σ' ++ τ) q := by
  obtain ⟨⟨τ0, rfl⟩, _⟩ := T
  exact ⟨⟨_, List.append_assoc _ _ _⟩, pre_le hq, vs, h, hv⟩
set_option tactic.hygienic false in
theorem told_ints {y : Nat → Int} {q : Nat} : ∀ v ∈ intsV m y, ToldV σ σ' q v := fun v hv => by
  obtain ⟨k, _, rfl⟩ := List.mem_map.mp hv
  exact .inl ⟨_, rfl⟩
set_option tactic.hygienic false in
theorem told_nats {r : List Nat} {q : Nat} : ∀ v ∈ natsV r, ToldV σ σ' q v := fun v hv => by
  obtain ⟨k, _, rfl⟩ := List.mem_map.mp hv
  exact .inl ⟨_, rfl⟩
set_option tactic.hygienic false in
theorem stir_if (T : Told σ σ' p) {k : Int} {b : S} (hb : ∃ p' σ2, evSs call wf [b] (stirF l lt cell way p none) σ' = .ok .next (stirF l lt cell way p' none) σ2 ∧ Told σ σ2 p') :
    ∃ p' σ2, Told σ σ2 p' ∧ ∀ ss r, evSs call wf ss (stirF l lt cell way p' none) σ2 = r → evSs call wf (stirIf k b :: ss) (stirF l lt cell way p none) σ' = r := by
  by_cases h : way = k
  · obtain ⟨p', σ2, e, T2⟩ := hb
    exact ⟨p', σ2, T2, fun ss r hr => s_if_t (e_cmp (p := true) (e_loc rfl) e_int (congrArg some (beq_iff_eq.mpr h))) e hr⟩
  · exact ⟨p, σ', T, fun ss r hr => s_skip (e_cmp (p := false) (e_loc rfl) e_int (congrArg some (beq_eq_false_iff_ne.mpr h))) hr⟩
set_option tactic.hygienic false in
theorem div_ok' {a q : Nat} (ha : 1 ≤ a) (hb : a < 10 ^ 100) (hq : 1 ≤ q) {fr : Fra} (h2 : fr[2]? = some (some (.int cell))) : ∃ k : Nat, k < q ∧ ∀ σ, evE call (eDiv a q) fr σ = .ok (.int k) σ := by
  obtain ⟨k, hk, ek⟩ := cell_mod q hq (cell.fdiv a)
  exact ⟨k, hk, fun σ => e_bin (e_bin (e_loc h2) e_int (b_fdiv (by lia) (by lia))) e_int ((b_fmod (by lia)).trans (congrArg (fun z => RE.ok (.int z) _) ek))⟩
end
end Mine

set_option autoImplicit false
set_option linter.unusedVariables false
namespace Mine
open PySem

structure StirX (P : Nat → Option Fn) (wf : Nat) (σ : Sto) (l lt m : Nat) (ws : List Way) (x : Nat → Int) : Prop where
  T : DefsT P
  h18 : P 18 = some fSettled
  H : Defs2 P
  HW : DefsW P
  h14 : P 14 = some fTurned
  W : WebAt σ l m ws
  G : WebGood m ws
  ht : σ[lt]? = some (.lst (intsV m x))
  hw : 9999 * 27720 < wf
section
variable {P : Nat → Option Fn} {wf n : Nat} {σ σ' : Sto} {l lt m p : Nat} {ws : List Way} {x : Nat → Int} {cell way : Int}
set_option tactic.hygienic false in
theorem StirX.app (X : StirX P wf σ l lt m ws x) (T : Told σ σ' p) : StirX P wf σ' l lt m ws x := by
  obtain ⟨⟨τ, rfl⟩, _⟩ := T
  exact ⟨X.T, X.h18, X.H, X.HW, X.h14, X.W.app, X.G, ap X.ht, X.hw⟩
set_option tactic.hygienic false in
theorem StirX.copy (X : StirX P wf σ l lt m ws x) {fr : Fra} {call : Nat → List V → Sto → RE} (h1 : fr[1]? = some (some (.ref lt))) : evE call (E.blt BN.list [E.loc 1]) fr σ = .ok (.ref σ.length) (σ ++ [.lst (intsV m x)]) :=
  e_blt (es_cons (e_loc h1) es_nil) (b_list' X.ht (by rw [intsV_len]; exact Nat.le_trans X.G.m2 (by decide)))
set_option tactic.hygienic false in
theorem stir1 (X : StirX P wf σ' l lt m ws x) (T : Told σ σ' p) : ∃ p' σ2, evSs (evFn P wf (n + 5)) wf [S.asg 4 ((E.loc 0).umeth 16 [E.blt BN.list [E.loc 1]])] (stirF l lt cell way p none) σ' = .ok .next (stirF l lt cell way p' none) σ2 ∧ Told σ σ2 p' := by
  obtain ⟨d, lw, a, b, _⟩ := X.W.at'
  obtain ⟨υ, e⟩ := ahead_ok (wf := wf) (n := n + 1) (σ := σ' ++ [.lst (intsV m x)]) (x := x) X.T X.W.app X.G ap_new
  have ea : accS (σ' ++ [AO.lst (intsV m x)]) (intsV m (nextT ws x)) υ = σ' ++ ([AO.lst (intsV m x)] ++ .lst (intsV m (nextT ws x)) :: υ) := List.append_assoc _ _ _
  have h : (accS (σ' ++ [AO.lst (intsV m x)]) (intsV m (nextT ws x)) υ)[(σ' ++ [AO.lst (intsV m x)]).length]? = some (.lst (intsV m (nextT ws x))) := ap_new
  rw [ea] at e h
  exact ⟨_, _, s_asg' (e_umeth (e_loc rfl) a b (es_cons (X.copy rfl) es_nil) e) (by decide : 4 < 12) s_nil, T.of (pre_le (Nat.le_refl _)) h told_ints⟩
set_option tactic.hygienic false in
theorem stir2 (X : StirX P wf σ' l lt m ws x) (T : Told σ σ' p) : ∃ p' σ2, evSs (evFn P wf (n + 5)) wf [S.asg 4 ((E.loc 0).umeth 17 [E.blt BN.list [E.loc 1], E.bin Operator.Add (E.int 1) (eDiv 8 3)])] (stirF l lt cell way p none) σ' = .ok .next (stirF l lt cell way p' none) σ2 ∧ Told σ σ2 p' := by
  obtain ⟨d, lw, a, b, _⟩ := X.W.at'
  obtain ⟨k, hk, ek⟩ := div_ok' (call := evFn P wf (n + 5)) (a := 8) (q := 3) (cell := cell) (fr := stirF l lt cell way p none) (by decide) (by decide) (by decide) rfl
  obtain ⟨ls, τ, e, R, hf⟩ := turns_ok (wf := wf) (n := n) (σ := σ' ++ [.lst (intsV m x)]) (x := x) (c := 1 + k) X.T X.W.app X.G ap_new (by lia)
  have ea : accS (σ' ++ [AO.lst (intsV m x)] ++ [AO.lst (intsV m x)]) (ls.map V.ref) τ = σ' ++ ([AO.lst (intsV m x)] ++ ([AO.lst (intsV m x)] ++ .lst (ls.map V.ref) :: τ)) := by unfold accS; rw [List.append_assoc, List.append_assoc]
  have hlen : (σ' ++ [AO.lst (intsV m x)] ++ [AO.lst (intsV m x)]).length = (σ' ++ [AO.lst (intsV m x)]).length + 1 := by rw [List.length_append]; rfl
  have h : (accS (σ' ++ [AO.lst (intsV m x)] ++ [AO.lst (intsV m x)]) (ls.map V.ref) τ)[(σ' ++ [AO.lst (intsV m x)]).length + 1]? = some (.lst (ls.map V.ref)) := by rw [← hlen]; exact ap_new
  rw [ea] at e h R
  refine ⟨_, _, s_asg' (e_umeth (e_loc rfl) a b (es_cons (X.copy rfl) (es_cons (e_bin e_int (ek _) (rfl : _ = RE.ok (.int ((1 + k : Nat) : Int)) _)) es_nil)) e) (by decide : 4 < 12) s_nil, T.of (Nat.le_trans (pre_le (Nat.le_refl _)) (Nat.le_add_right _ _)) h fun v hv => ?_⟩
  obtain ⟨q, hq, rfl⟩ := List.mem_map.mp hv
  obtain ⟨i, hi⟩ := List.getElem?_of_mem hq
  obtain ⟨h1, h2⟩ := R.row i q hi
  obtain ⟨⟨τ0, rfl⟩, _⟩ := T
  exact .inr (.inr ⟨q, _, rfl, pre_le (pre_le (hf q hq)), h1, h2⟩)
set_option tactic.hygienic false in
theorem stir3 (X : StirX P wf σ' l lt m ws x) (T : Told σ σ' p) : ∃ p' σ2, evSs (evFn P wf (n + 5)) wf [S.expr (E.call 18 [E.loc 0, E.blt BN.list [E.loc 1], eDiv 8 7])] (stirF l lt cell way p none) σ' = .ok .next (stirF l lt cell way p' none) σ2 ∧ Told σ σ2 p' := by
  obtain ⟨k, hk, ek⟩ := div_ok' (call := evFn P wf (n + 5)) (a := 8) (q := 7) (cell := cell) (fr := stirF l lt cell way p none) (by decide) (by decide) (by decide) rfl
  obtain ⟨w, τ, e, _⟩ := settled_ok (wf := wf) (n := n) (σ := σ' ++ [.lst (intsV m x)]) (lt := σ'.length) (x := x) (most := k) X.T X.h18 X.W.app X.G ap_new (by lia)
  exact ⟨p, _, s_expr' (e_call (es_cons (e_loc rfl) (es_cons (X.copy rfl) (es_cons (ek _) es_nil))) e) s_nil, (T.app _).app _⟩
set_option tactic.hygienic false in
theorem stir4 (X : StirX P wf σ' l lt m ws x) (T : Told σ σ' p) : ∃ p' σ2, evSs (evFn P wf (n + 5)) wf [S.asg 4 ((E.call 7 [E.loc 0]).sub (E.bin Operator.Add (E.int 2) (eDiv 8 2)))] (stirF l lt cell way p none) σ' = .ok .next (stirF l lt cell way p' none) σ2 ∧ Told σ σ2 p' := by
  obtain ⟨k, hk, ek⟩ := div_ok' (call := evFn P wf (n + 5)) (a := 8) (q := 2) (cell := cell) (fr := stirF l lt cell way p none) (by decide) (by decide) (by decide) rfl
  obtain ⟨v, σ5, e5, N, D, lr, r, ls, SS, τ5, rfl, rfl, R⟩ := pace_ok (wf := wf) (n := n) X.H X.W X.G.ok X.hw
  have go : ∀ {q : Nat} {vs : List V}, subV (.tup [.int N, .int D, .ref lr, .ref ls]) (.int ((2 + k : Nat) : Int)) (σ' ++ τ5) = some (.ref q) → σ'.length ≤ q → (σ' ++ τ5)[q]? = some (.lst vs) → (∀ v ∈ vs, ToldV σ (σ' ++ τ5) q v) → ∃ p' σ2, evSs (evFn P wf (n + 5)) wf [S.asg 4 ((E.call 7 [E.loc 0]).sub (E.bin Operator.Add (E.int 2) (eDiv 8 2)))] (stirF l lt cell way p none) σ' = .ok .next (stirF l lt cell way p' none) σ2 ∧ Told σ σ2 p' := fun h1 h2 h3 h4 =>
    ⟨_, _, s_asg' (e_sub (e_call (es_cons (e_loc rfl) es_nil) e5) (e_bin e_int (ek _) (rfl : _ = RE.ok (.int ((2 + k : Nat) : Int)) _)) h1) (by decide : 4 < 12) s_nil, T.of h2 h3 h4⟩
  rcases k with _ | _ | k
  · exact go rfl R.fresh.1 R.ring told_nats
  · exact go rfl R.fresh.2 R.start told_ints
  · lia
set_option tactic.hygienic false in
theorem stir5 (X : StirX P wf σ' l lt m ws x) (T : Told σ σ' p) : ∃ p' σ2, evSs (evFn P wf (n + 5)) wf [S.asg 4 eSlow] (stirF l lt cell way p none) σ' = .ok .next (stirF l lt cell way p' none) σ2 ∧ Told σ σ2 p' := by
  obtain ⟨k, hk, ek⟩ := div_ok' (call := evFn P wf (n + 5)) (a := 8) (q := 50) (cell := cell) (fr := stirF l lt cell way p none) (by decide) (by decide) (by decide) rfl
  obtain ⟨j, hj, ej⟩ := div_ok' (call := evFn P wf (n + 5)) (a := 400) (q := 5) (cell := cell) (fr := stirF l lt cell way p none) (by decide) (by decide) (by decide) rfl
  obtain ⟨v, σ2, e2, res⟩ := slower_ok (wf := wf) (n := n + 2) (num := k) (div := 1 + j) X.H.h3 X.H.h4 X.H.h5 X.W X.G.m1 X.G.m2 (by lia) (by lia) X.G.hm (Nat.le_trans (by decide) (Nat.le_of_lt X.hw))
  have ec : evE (evFn P wf (n + 5)) (E.call 5 [E.loc 0, eDiv 8 50, E.bin Operator.Add (E.int 1) (eDiv 400 5)]) (stirF l lt cell way p none) σ' = .ok v σ2 :=
    e_call (es_cons (e_loc rfl) (es_cons (ek _) (es_cons (e_bin e_int (ej _) (rfl : _ = RE.ok (.int ((1 + j : Nat) : Int)) _)) es_nil))) e2
  have go : ∀ {q : Nat} {vs : List V} {τ : Sto} {us : List V}, v = .tup us → σ2 = σ' ++ τ → ((us.filter fun v => !isNone v).map id) = [V.ref q] → us.length = 2 → σ'.length ≤ q → (σ' ++ τ)[q]? = some (.lst vs) → ∃ p' σ2, evSs (evFn P wf (n + 5)) wf [S.asg 4 eSlow] (stirF l lt cell way p none) σ' = .ok .next (stirF l lt cell way p' none) σ2 ∧ Told σ σ2 p' := by
    rintro q vs τ us rfl rfl hus hl hq hv
    have e3 := e_compT (tg := [1]) (one := true) (cs := [E.cmp CmpOp.IsNot (E.loc 1) E.none]) (el := E.loc 1) (frm := [none, none]) (ws := us) (g := id) (p := fun v => !isNone v) (f := id) (r := .ok (.ref (σ' ++ τ).length) (σ' ++ τ ++ [.lst [V.ref q]])) ec (List.map_id _).symm (fun v hv => ⟨_, rfl, t_one (e_cmp (e_loc rfl) e_none rfl), fun _ => e_loc rfl⟩) (by rw [hus]; exact newL_fits (by decide : 1 ≤ 16777216))
    have hne : q ≠ (σ' ++ τ).length := Nat.ne_of_lt (List.getElem?_eq_some_iff.mp hv).1
    rw [List.append_assoc] at e3
    refine ⟨_, _, s_asg' e3 (by decide : 4 < 12) s_nil, T.of (pre_le (Nat.le_refl _)) (by rw [← List.append_assoc]; exact ap_new) fun v hv' => ?_⟩
    rw [List.mem_singleton.mp hv']
    refine .inr (.inr ⟨q, vs, rfl, ?_, hne, by rw [← List.append_assoc]; exact ap hv⟩)
    obtain ⟨⟨τ0, rfl⟩, _⟩ := T
    exact pre_le hq
  cases res with
  | none ls S τ h hs hf => exact go rfl rfl rfl rfl hf h
  | ring lr r τ h R hlt hmin hf => exact go rfl rfl rfl rfl hf h
set_option tactic.hygienic false in
theorem stir6 (X : StirX P wf σ' l lt m ws x) (T : Told σ σ' p) : ∃ p' σ2, evSs (evFn P wf (n + 5)) wf [S.asg 4 ((E.loc 0).umeth 15 [E.bin Operator.Mod (E.bin Operator.FloorDiv (E.loc 2) (E.int 8)) (E.blt BN.len [E.loc 1])])] (stirF l lt cell way p none) σ' = .ok .next (stirF l lt cell way p' none) σ2 ∧ Told σ σ2 p' := by
  obtain ⟨d, lw, a, b, _⟩ := X.W.at'
  obtain ⟨k, hk, ek⟩ := cell_mod m X.G.m1 (cell.fdiv 8)
  have e := into_ok (wf := wf) (n := n + 2) X.T X.W X.G.hz hk
  have hl : bltV .len [.ref lt] σ' = .ok (.int m) σ' := by have := b_len' X.ht; rwa [intsV_len] at this
  refine ⟨_, _, s_asg' (e_umeth (e_loc rfl) a b (es_cons (e_bin (e_bin (e_loc rfl) e_int (b_fdiv (by decide) (by decide))) (e_blt (es_cons (e_loc rfl) es_nil) hl) ((b_fmod (by have := X.G.m1; lia)).trans (congrArg (fun z => RE.ok (.int z) _) ek))) es_nil) e) (by decide : 4 < 12) s_nil, T.of (Nat.le_refl _) ap_new fun v hv => ?_⟩
  obtain ⟨w, _, rfl⟩ := List.mem_map.mp hv
  exact .inr (.inl ⟨_, rfl⟩)
set_option tactic.hygienic false in
theorem stir7 (X : StirX P wf σ' l lt m ws x) (T : Told σ σ' p) : ∃ p' σ2, evSs (evFn P wf (n + 5)) wf [S.asg 4 ((((E.loc 0).umeth 14 []).attr 1).shi (E.int 0))] (stirF l lt cell way p none) σ' = .ok .next (stirF l lt cell way p' none) σ2 ∧ Told σ σ2 p' := by
  obtain ⟨d, lw, a, b, _⟩ := X.W.at'
  obtain ⟨l', τ, e, W'⟩ := turned_ok (wf := wf) (n := n + 1) X.HW X.h14 X.W X.G (Nat.le_trans (by decide) (Nat.le_of_lt X.hw))
  obtain ⟨d', lw', a', b', c'⟩ := W'.at'
  have e1 : evE (evFn P wf (n + 5)) ((((E.loc 0).umeth 14 []).attr 1).shi (E.int 0)) (stirF l lt cell way p none) σ' = .ok (.ref (σ' ++ τ).length) (σ' ++ τ ++ [.lst []]) :=
    e_shi (k := 0) (e_attr (e_umeth (e_loc rfl) a b es_nil e) (attr_ways a' b')) e_int (getL_some c') (newL_fits (Nat.zero_le _))
  rw [List.append_assoc] at e1
  exact ⟨_, _, s_asg' e1 (by decide : 4 < 12) s_nil, T.of (vs := []) (pre_le (Nat.le_refl _)) (by rw [← List.append_assoc]; exact ap_new) (fun v hv => nomatch hv)⟩

set_option tactic.hygienic false in
theorem isi_list {q : Nat} {xs : List V} (h : σ[q]? = some (.lst xs)) : isiV .list (.ref q) σ = some true := by
  unfold isiV; dsimp only; rw [h]
set_option tactic.hygienic false in
theorem set_pre {τ : Sto} {q : Nat} {o : AO} (h : σ.length ≤ q) : (σ ++ τ).set q o = σ ++ τ.set (q - σ.length) o := List.set_append_right _ _ h
structure Clr (σ : Sto) (l lt : Nat) (cell way : Int) (p : Nat) (vs : List V) (i : Nat) (fr : Fra) (σ' : Sto) : Prop where
  ex : ∃ x5 τ, fr = stirF l lt cell way p x5 ∧ σ' = σ ++ τ ∧ σ'[p]? = some (.lst vs) ∧ ∀ v ∈ vs, ToldV σ σ' p v
set_option tactic.hygienic false in
theorem clr_turn {call : Nat → List V → Sto → RE} {vs : List V} {i : Nat} {v : V} (hv : vs[i]? = some v) {fr : Fra} (I : Clr σ l lt cell way p vs i fr σ') : Turn [5] true (evSs call wf stirB) (id v) fr σ' (Clr σ l lt cell way p vs (i + 1)) (fun _ _ => False) := by
  obtain ⟨x5, τ, rfl, rfl, hp, hT⟩ := I
  refine ⟨stirF l lt cell way p (some v), rfl, .inl ?_⟩
  have skip : isiV .list v (σ ++ τ) = some false → ∃ fr2 σ2, evSs call wf stirB (stirF l lt cell way p (some v)) (σ ++ τ) = .ok .next fr2 σ2 ∧ Clr σ l lt cell way p vs (i + 1) fr2 σ2 := fun h =>
    ⟨_, _, s_skip (e_isi (e_loc rfl) h) s_nil, _, τ, rfl, rfl, hp, hT⟩
  rcases hT v (List.mem_of_getElem? hv) with ⟨i, rfl⟩ | ⟨ts, rfl⟩ | ⟨q, xs, rfl, h1, h2, h3⟩
  · exact skip rfl
  · exact skip rfl
  · have hi := isi_list h3
    refine ⟨_, _, s_if_t (e_isi (e_loc rfl) hi) (s_expr' (e_meth (e_loc rfl) (getL_some h3) es_nil (getL_some h3) (rfl : methV .clear q xs [] (σ ++ τ) = .ok .none (setL (σ ++ τ) q []))) s_nil) s_nil, _, _, rfl, set_pre h1, ?_, fun u hu => ?_⟩
    · unfold setL; rw [List.getElem?_set_ne h2]; exact hp
    · rcases hT u hu with h | h | ⟨q2, xs2, rfl, k1, k2, k3⟩
      · exact .inl h
      · exact .inr (.inl h)
      · by_cases hq : q = q2
        · subst hq
          exact .inr (.inr ⟨q, [], rfl, k1, k2, List.getElem?_set_self (List.getElem?_eq_some_iff.mp k3).1⟩)
        · exact .inr (.inr ⟨q2, xs2, rfl, k1, k2, by unfold setL; rw [List.getElem?_set_ne hq]; exact k3⟩)
set_option tactic.hygienic false in
theorem stirred_ok (h19 : P 19 = some fStirred) (X : StirX P wf σ l lt m ws x) : ∃ τ, evFn P wf (n + 6) 19 [.ref l, .ref lt, .int cell] σ = .ok (.bool true) (σ ++ τ) := by
  have T0 : Told σ (σ ++ [.lst []]) σ.length := ⟨⟨_, rfl⟩, Nat.le_refl _, [], ap_new, fun v hv => nomatch hv⟩
  obtain ⟨p1, σ1, T1, e1⟩ := stir_if (call := evFn P wf (n + 5)) (wf := wf) (l := l) (lt := lt) (cell := cell) (way := cell.fmod 8) (k := 1) T0 (stir1 (n := n) (X.app T0) T0)
  obtain ⟨p2, σ2, T2, e2⟩ := stir_if (call := evFn P wf (n + 5)) (wf := wf) (l := l) (lt := lt) (cell := cell) (way := cell.fmod 8) (k := 2) T1 (stir2 (n := n) (X.app T1) T1)
  obtain ⟨p3, σ3, T3, e3⟩ := stir_if (call := evFn P wf (n + 5)) (wf := wf) (l := l) (lt := lt) (cell := cell) (way := cell.fmod 8) (k := 3) T2 (stir3 (n := n) (X.app T2) T2)
  obtain ⟨p4, σ4, T4, e4⟩ := stir_if (call := evFn P wf (n + 5)) (wf := wf) (l := l) (lt := lt) (cell := cell) (way := cell.fmod 8) (k := 4) T3 (stir4 (n := n) (X.app T3) T3)
  obtain ⟨p5, σ5, T5, e5⟩ := stir_if (call := evFn P wf (n + 5)) (wf := wf) (l := l) (lt := lt) (cell := cell) (way := cell.fmod 8) (k := 5) T4 (stir5 (n := n) (X.app T4) T4)
  obtain ⟨p6, σ6, T6, e6⟩ := stir_if (call := evFn P wf (n + 5)) (wf := wf) (l := l) (lt := lt) (cell := cell) (way := cell.fmod 8) (k := 6) T5 (stir6 (n := n) (X.app T5) T5)
  obtain ⟨p, σ7, T7, e7⟩ := stir_if (call := evFn P wf (n + 5)) (wf := wf) (l := l) (lt := lt) (cell := cell) (way := cell.fmod 8) (k := 7) T6 (stir7 (n := n) (X.app T6) T6)
  obtain ⟨⟨τ7, rfl⟩, hp, vs, h7, hT⟩ := T7
  obtain ⟨fr8, σ8, e8, x5, τ8, rfl, rfl, h8, _⟩ := (s_forL (call := evFn P wf (n + 5)) (wf := wf) (tg := [5]) (one := true) (ws := vs) (g := id) (it := E.loc 4) (bs := stirB) (fr := stirF l lt cell (cell.fmod 8) p none) (σ := σ ++ τ7)
    (Clr σ l lt cell (cell.fmod 8) p vs) (fun _ _ => False) (e_loc rfl) (by rintro i _ _ ⟨x5, τ, rfl, rfl, h, _⟩; rw [List.map_id]; exact getL_some h) (fun i v fr σ' hv I => clr_turn hv I) ⟨none, τ7, rfl, rfl, h7, hT⟩).next
  refine ⟨τ8.set (p - σ.length) (.lst []), f_ret (fr' := stirF l lt cell (cell.fmod 8) p x5) h19 rfl (s_asg' (e_bin (e_loc rfl) e_int (b_fmod (by decide))) (by decide : 3 < 12) (s_asg' (e_list es_nil (newL_fits (by decide : 0 ≤ 16777216))) (by decide : 4 < 12) (e1 _ _ (e2 _ _ (e3 _ _ (e4 _ _ (e5 _ _ (e6 _ _ (e7 _ _ (s_cons e8 (s_expr' (e_meth (e_loc rfl) (getL_some h8) es_nil (getL_some h8) (rfl : methV .clear p vs [] (σ ++ τ8) = .ok .none (setL (σ ++ τ8) p []))) ?_)))))))))))⟩
  unfold setL
  rw [set_pre hp]
  exact s_ret' e_bool
end
end Mine

set_option autoImplicit false
set_option linter.unusedVariables false
namespace Mine
open PySem

section
variable {P : Nat → Option Fn} {wf n : Nat} {σ : Sto} {m lw lr : Nat} {ws : List Way} {r : List Nat}
set_option tactic.hygienic false in
theorem eq_int {x : Int} : cmpV .Eq (.int x) (.int x) σ = some true := congrArg some (beq_self_eq_true x)

end
end Mine

set_option autoImplicit false
set_option linter.unusedVariables false
namespace Mine
open PySem

noncomputable def ext (m : Nat) (r : List Nat) (i : Nat) : List (List Nat) := ((List.range i).filter fun k => !decide (k ∈ r)).map fun k => r ++ [k]
noncomputable def rowO (r : List Nat) : Option AO := some (.lst (natsV r))
def RowsAt (σ : Sto) (ls : List Nat) (rs : List (List Nat)) : Prop := ls.map (fun l => σ[l]?) = rs.map rowO
set_option tactic.hygienic false in
theorem RowsAt.app {σ τ : Sto} : ∀ {ls : List Nat} {rs : List (List Nat)}, RowsAt σ ls rs → RowsAt (σ ++ τ) ls rs
  | [], [], _ => rfl
  | [], _ :: _, h => nomatch h
  | _ :: _, [], h => nomatch h
  | l :: ls, r :: rs, h => by
    unfold RowsAt at h ⊢
    rw [List.map_cons, List.map_cons] at h ⊢
    obtain ⟨h1, h2⟩ := List.cons.inj h
    have h3 := RowsAt.app (τ := τ) (ls := ls) (rs := rs) h2
    unfold RowsAt at h3
    rw [h3, ap (show σ[l]? = some (.lst (natsV r)) from h1)]; rfl
set_option tactic.hygienic false in
theorem RowsAt.add {σ : Sto} {ls ls' : List Nat} {rs rs' : List (List Nat)} (h : RowsAt σ ls rs) (h' : RowsAt σ ls' rs') : RowsAt σ (ls ++ ls') (rs ++ rs') := by
  unfold RowsAt at *; rw [List.map_append, List.map_append, h, h']
set_option tactic.hygienic false in
theorem RowsAt.len {σ : Sto} {ls : List Nat} {rs : List (List Nat)} (h : RowsAt σ ls rs) : ls.length = rs.length := by
  have := congrArg List.length h; rwa [List.length_map, List.length_map] at this
set_option tactic.hygienic false in
theorem RowsAt.get {σ : Sto} {ls : List Nat} {rs : List (List Nat)} (h : RowsAt σ ls rs) {i l : Nat} (hl : ls[i]? = some l) : ∃ r, rs[i]? = some r ∧ σ[l]? = some (.lst (natsV r)) := by
  have := congrArg (fun x => x[i]?) h
  simp only [List.getElem?_map, hl, Option.map_some] at this
  cases q : rs[i]? with
  | none => rw [q] at this; cases this
  | some r => rw [q] at this; exact ⟨r, rfl, Option.some.inj this⟩

section
variable {call : Nat → List V → Sto → RE} {fr fr1 : Fra} {σ σ1 : Sto} {tg : List Nat} {one : Bool} {cond elt : Fra → Sto → RE} {α : Type} {g : α → V}
end
end Mine

set_option autoImplicit false
set_option linter.unusedVariables false
namespace Mine
open PySem

noncomputable def fMany : Fn := { ps := [0], size := 3, body :=
  [S.asg 1 (E.call 20 [E.loc 0, E.int 0]), S.ifS (E.cmp CmpOp.Eq (E.bin Operator.Mod (E.bin Operator.FloorDiv (E.loc 1) (E.int 6)) (E.int 8)) (E.int 1)) [S.ret (E.bin Operator.Add (E.int 7) (E.bin Operator.Mod (E.bin Operator.FloorDiv (E.loc 1) (E.int 48)) (E.int 6)))] [],
    S.ret (E.bin Operator.Add (E.int 1) (E.bin Operator.Mod (E.loc 1) (E.int 6)))] }
noncomputable def waysTail : List S := [S.asg 6 (E.bin Operator.Mod (E.call 20 [E.loc 0, E.int 2]) (E.blt BN.len [E.loc 3])), S.ret (E.bin Operator.Add ((E.loc 3).slo (E.loc 6)) ((E.loc 3).shi (E.loc 6)))]
set_option tactic.hygienic false in
theorem LawWays.rot {m M K k : Nat} {ws : List Way} (L : LawWays m M K ws) : LawWays m M K (ws.drop k ++ ws.take k) := by
  have hm : ∀ {w}, w ∈ ws.drop k ++ ws.take k → w ∈ ws := fun h => rot_perm.mem_iff.mp h
  exact ⟨by rw [rot_perm.length_eq]; exact L.len, fun w hw => L.ends w (hm hw), fun w hw => L.del w (hm hw), fun a b ha hb => (L.sc a b ha hb).mono fun w hw => rot_perm.mem_iff.mpr hw, fun q => L.ne (List.length_eq_zero_iff.mp ((rot_perm (R := ws) (k := k)).length_eq.symm.trans (by rw [q]; rfl)))⟩
section
variable {P : Nat → Option Fn} {wf n : Nat} {σ : Sto} {m lw lr : Nat} {ws : List Way} {r : List Nat}
set_option tactic.hygienic false in
theorem many_ok (h20 : P 20 = some fCellAt) (h24 : P 24 = some fMany) {sc : List Int} (hs : ScriptAt σ sc) : ∃ m : Nat, 1 ≤ m ∧ m ≤ 12 ∧ evFn P wf (n + 2) 24 [.ref 0] σ = .ok (.int m) σ := by
  have ec : evE (evFn P wf (n + 1)) (E.call 20 [E.loc 0, E.int 0]) (frame0 fMany [.ref 0]) σ = .ok (.int (sc.getD 0 0)) σ := e_call (es_cons (e_loc rfl) (es_cons e_int es_nil)) (cell_ok h20 hs 0)
  generalize sc.getD 0 0 = c at ec
  obtain ⟨k, hk, ek⟩ := cell_mod 6 (by decide) (c.fdiv 48)
  obtain ⟨j, hj, ej⟩ := cell_mod 6 (by decide) c
  have e1 : ∀ b, (Int.fmod (c.fdiv 6) 8 == 1) = b → evE (evFn P wf (n + 1)) (E.cmp CmpOp.Eq (E.bin Operator.Mod (E.bin Operator.FloorDiv (E.loc 1) (E.int 6)) (E.int 8)) (E.int 1)) [some (.ref 0), some (.int c), none] σ = .ok (.bool b) σ := fun b hb => e_cmp (e_bin (e_bin (e_loc rfl) e_int (b_fdiv (by decide) (by decide))) e_int (b_fmod (by decide))) e_int (congrArg some hb)
  cases hb : (Int.fmod (c.fdiv 6) 8 == 1) with
  | true => exact ⟨7 + k, by lia, by lia, f_ret h24 rfl (s_asg' ec (by decide : 1 < 3) (s_if_ret (e1 _ hb) (s_ret' (e_bin e_int (e_bin (e_bin (e_loc rfl) e_int (b_fdiv (by decide) (by decide))) e_int ((b_fmod (by decide)).trans (congrArg (fun z => RE.ok (.int z) _) ek))) (rfl : _ = RE.ok (.int ((7 + k : Nat) : Int)) _)))))⟩
  | false => exact ⟨1 + j, by lia, by lia, f_ret h24 rfl (s_asg' ec (by decide : 1 < 3) (s_skip (e1 _ hb) (s_ret' (e_bin e_int (e_bin (e_loc rfl) e_int ((b_fmod (by decide)).trans (congrArg (fun z => RE.ok (.int z) _) ej))) (rfl : _ = RE.ok (.int ((1 + j : Nat) : Int)) _)))))⟩
set_option tactic.hygienic false in
theorem all_true {α : Type} (is : List α) : allB (is.map fun _ => V.bool true) = some true := by
  induction is with
  | nil => rfl
  | cons i is ih =>
    show (match allB (is.map fun _ => V.bool true) with | some c => some (true && c) | none => none) = _
    rw [ih]; rfl
set_option tactic.hygienic false in
theorem all_ok (h21 : P 21 = some fWhole) {it : E} {fr : Fra} {l : Nat} {is : List Int} (he : evE (evFn P wf (n + 1)) it fr σ = .ok (.ref l) σ) (h : σ[l]? = some (.lst (is.map V.int))) (hz : is.length ≤ 1000) :
    evE (evFn P wf (n + 1)) (E.blt BN.all [E.comp [1] true it [] (E.call 21 [E.loc 1]) [none, none, none]]) fr σ = .ok (.bool true) (σ ++ [AO.lst (is.map fun _ => V.bool true)]) := by
  refine e_blt (es_cons (e_comp (ws := is) (g := V.int) (p := fun _ => true) (f := fun _ => V.bool true) (r := .ok (.ref σ.length) (σ ++ [AO.lst (is.map fun _ => V.bool true)])) he (getL_some h) (fun v hv => ⟨_, rfl, t_nil, fun _ => e_call (es_cons (e_loc rfl) es_nil) (whole_ok h21)⟩) ?_) es_nil) ?_
  · rw [List.filter_eq_self.mpr (fun _ _ => rfl)]
    exact newL_fits (by rw [List.length_map]; exact Nat.le_trans hz (by decide))
  · show ofOpt _ (((getL (σ ++ [AO.lst (is.map fun _ => V.bool true)]) σ.length).bind allB).map V.bool) = _
    rw [getL_some ap_new]
    show ofOpt _ ((allB (is.map fun _ => V.bool true)).map V.bool) = _
    rw [all_true]; rfl
end
end Mine

set_option autoImplicit false
set_option linter.unusedVariables false
namespace Mine
open PySem

set_option tactic.hygienic false in
theorem getD_ap {l l' : List Nat} {i : Nat} (h : i < l.length) : (l ++ l').getD i 0 = l.getD i 0 := by
  rw [List.getD_eq_getElem?_getD, List.getElem?_append_left h, List.getD_eq_getElem?_getD]
set_option tactic.hygienic false in
theorem getD_at {l l' : List Nat} {x i : Nat} (h : i = l.length) : (l ++ x :: l').getD i 0 = x := by
  subst h; rw [List.getD_eq_getElem?_getD, List.getElem?_append_right (Nat.le_refl _), Nat.sub_self]; rfl
set_option tactic.hygienic false in
theorem getD_drop {l : List Nat} {k i : Nat} : (l.drop k).getD i 0 = l.getD (k + i) 0 := by
  rw [List.getD_eq_getElem?_getD, List.getElem?_drop, List.getD_eq_getElem?_getD]
structure Gone (ws : List Way) (m : Nat) (r : List Nat) (h : Nat) : Prop where
  nd : r.Nodup
  lt : ∀ x ∈ r, x < m
  hl : h < m
  way : ∀ i, i < r.length → between ws ((r ++ [h]).getD i 0) ((r ++ [h]).getD (i + 1) 0) ≠ []
section
variable {m h : Nat} {ws : List Way} {r : List Nat}
set_option tactic.hygienic false in
theorem len_snoc {x : Nat} : (r ++ [x]).length = r.length + 1 := List.length_append
set_option tactic.hygienic false in
theorem Gone.on (g : Gone ws m r h) (hn : h ∉ r) {h' : Nat} (hl : h' < m) (hw : between ws h h' ≠ []) : Gone ws m (r ++ [h]) h' := by
  refine ⟨List.nodup_append.mpr ⟨g.nd, List.nodup_cons.mpr ⟨nofun, List.nodup_nil⟩, fun x hx y hy e => hn ?_⟩, fun x hx => ?_, hl, fun i hi => ?_⟩
  · rw [List.mem_singleton.mp hy] at e; rwa [← e]
  · rcases mem_snoc hx with hx | rfl
    · exact g.lt x hx
    · exact g.hl
  · rw [getD_ap hi]
    by_cases e : i = r.length
    · rw [getD_at e, getD_at (by rw [e, len_snoc])]; exact hw
    · rw [len_snoc] at hi
      have hi' : i < r.length := Nat.lt_of_le_of_ne (Nat.le_of_lt_succ hi) e
      rw [getD_ap (l := r ++ [h]) (by rw [len_snoc]; exact Nat.succ_lt_succ hi')]
      exact g.way i hi'
set_option tactic.hygienic false in
theorem Gone.ring (g : Gone ws m r h) {k : Nat} (hk : r[k]? = some h) : RingOk ws m (r.drop k) := by
  obtain ⟨hk1, hk2⟩ := List.getElem?_eq_some_iff.mp hk
  have hkd : r.getD k 0 = h := by rw [getD_lt hk1]; exact hk2
  have hl : (r.drop k).length = r.length - k := List.length_drop
  refine ⟨fun q => ?_, g.nd.sublist (List.drop_sublist _ _), fun x hx => g.lt x (List.mem_of_mem_drop hx), fun i hi => ?_⟩
  · rw [q] at hl; exact absurd hl (Nat.ne_of_lt (Nat.sub_pos_of_lt hk1))
  · rw [hl] at hi ⊢
    have hw := g.way (k + i) (Nat.add_lt_of_lt_sub' hi)
    rw [getD_ap (Nat.add_lt_of_lt_sub' hi)] at hw
    rw [getD_drop, getD_drop]
    by_cases e : i + 1 = r.length - k
    · rw [e, Nat.mod_self, Nat.add_zero, hkd]
      rwa [getD_at (by lia)] at hw
    · have hi' : i + 1 < r.length - k := Nat.lt_of_le_of_ne hi e
      rw [Nat.mod_eq_of_lt hi']
      rwa [Nat.add_assoc, getD_ap (Nat.add_lt_of_lt_sub' hi')] at hw
end
section
variable {P : Nat → Option Fn} {wf n : Nat} {σ : Sto} {m lw : Nat} {ws : List Way} {sc : List Int} {M : Nat}
noncomputable def goneF (lw m l h : Nat) (x5 x6 : Option V) : Fra := [some (.ref 0), some (.ref lw), some (.int m), some (.ref l), some (.int h), x5, x6, none, none, none, none]
structure GoneI (σ : Sto) (ws : List Way) (lw m i : Nat) (fr : Fra) (σ' : Sto) : Prop where
  ex : ∃ r h x5 x6 τ, fr = goneF lw m σ.length h x5 x6 ∧ σ' = accS σ (natsV r) τ ∧ Gone ws m r h ∧ (r.length = i ∨ h ∈ r)
end
end Mine

set_option autoImplicit false
set_option linter.unusedVariables false
namespace Mine
open PySem

section
variable {P : Nat → Option Fn} {wf n : Nat} {σ σ1 : Sto} {m lw : Nat} {ws : List Way} {sc : List Int}
structure StirG (P : Nat → Option Fn) (wf m : Nat) (ws : List Way) : Prop where
  T : DefsT P
  h18 : P 18 = some fSettled
  h19 : P 19 = some fStirred
  H : Defs2 P
  HW : DefsW P
  h14 : P 14 = some fTurned
  h20 : P 20 = some fCellAt
  G : WebGood m ws
  hw : 9999 * 27720 < wf
set_option tactic.hygienic false in
theorem StirG.fl (S : StirG P wf m ws) : StirG P wf m (flip ws) := ⟨S.T, S.h18, S.h19, S.H, S.HW, S.h14, S.h20, S.G.flip, S.hw⟩
set_option tactic.hygienic false in
theorem ways10_ok (H : DefsL P 10000) (h25 : P 25 = some (fWays 1 14 13 waysTail)) (m1 : 1 ≤ m) (m2 : m ≤ 12) :
    ∃ ws l σ', WebGood m ws ∧ evFn P wf (n + 2) 25 [.ref 0, .int m] [.frz (sc.map V.int), .tab false] = .ok (.ref l) σ' ∧ ScriptAt σ' sc ∧ σ'[1]? = some (.tab true) ∧ σ'[l]? = some (.lst (ws.map wayV)) := by
  obtain ⟨ws, o, τ, x4, x5, L, e2⟩ := ways_front (P := P) (wf := wf) (n := n) (j := 1) (size := 14) (md := 13) (tail := waysTail) (σ := [.frz (sc.map V.int), .tab false]) (sc := sc) (m := m) H (by decide) rfl rfl m1 m2 (by decide) (by decide) (rest0 := [none, none, none, none, none, none, none, none]) rfl (by decide : 1 < 8)
  have hl : (ws.map wayV).length ≤ 16777216 := by rw [List.length_map]; exact Nat.le_trans L.len (by lia)
  have h3 : (wayS ([.frz (sc.map V.int), .tab true] ++ [o]) ws τ)[3]? = some (.lst (ws.map wayV)) := rfl
  have hs : ScriptAt (wayS ([.frz (sc.map V.int), .tab true] ++ [o]) ws τ) sc := rfl
  have ht : (wayS ([.frz (sc.map V.int), .tab true] ++ [o]) ws τ)[1]? = some (.tab true) := rfl
  generalize hσ : wayS ([.frz (sc.map V.int), .tab true] ++ [o]) ws τ = σ at *
  have hlen : 1 ≤ (ws.map wayV).length := by rw [List.length_map]; exact Nat.pos_of_ne_zero fun e => L.ne (List.length_eq_zero_iff.mp e)
  obtain ⟨k, hk, e6⟩ := cell_e (wf := wf) (n := n) (P := P) H.h20 hs (fr := wayF m 2 3 x4 x5 [none, some (.int (sc.getD 1 0)), none, none, none, none, none, none]) (e := E.blt BN.len [E.loc 3]) (k := 2) rfl (e_blt (es_cons (e_loc rfl) es_nil) (b_len' h3)) hlen
  have hd : ((ws.map wayV).drop k).length + ((ws.map wayV).take k).length ≤ 16777216 := by rw [List.length_drop, List.length_take]; lia
  have hd1 := Nat.le_trans (Nat.le_add_right _ _) hd
  have hd2 := Nat.le_trans (Nat.le_add_left _ _) hd
  have c2 : evFn P wf (n + 2) 25 [.ref 0, .int m] [.frz (sc.map V.int), .tab false] = .ok (.ref _) (σ ++ [.lst ((ws.map wayV).drop k)] ++ [.lst ((ws.map wayV).take k)] ++ [.lst ((ws.map wayV).drop k ++ (ws.map wayV).take k)]) :=
    f_ret h25 rfl (e2 _ (by
      show evSs (evFn P wf (n + 1)) wf waysTail (wayF m 2 3 x4 x5 [none, some (.int (sc.getD 1 0)), none, none, none, none, none, none]) (wayS ([.frz (sc.map V.int), .tab true] ++ [o]) ws τ) = _
      rw [hσ]
      exact s_asg' e6 (by decide : 6 < 14) (s_ret' (e_bin (e_slo (e_loc rfl) (e_loc rfl) (getL_some h3) (newL_fits hd1)) (e_shi (e_loc rfl) (e_loc rfl) (getL_some (ap h3)) (newL_fits hd2)) (add_lst (ap ap_new) ap_new hd)))))
  rw [show (ws.map wayV).drop k ++ (ws.map wayV).take k = (ws.drop k ++ ws.take k).map wayV by rw [List.map_append, List.map_drop, List.map_take]] at c2
  exact ⟨_, _, _, L.rot.good m1 m2 (by lia) (Nat.le_refl _), c2, ap (ap (ap hs)), ap (ap (ap ht)), ap_new⟩
set_option tactic.hygienic false in
theorem eqv_ways (us : List Way) : PyData.eqvAll (us.map wayD) (us.map wayD) = true := by
  induction us with
  | nil => rfl
  | cons w us ih =>
    show (((w.1 : Int) == (w.1 : Int) && ((w.2.1 : Int) == (w.2.1 : Int) && ((w.2.2 : Int) == (w.2.2 : Int) && true))) && PyData.eqvAll (us.map wayD) (us.map wayD)) = true
    rw [ih, beq_self_eq_true, beq_self_eq_true, beq_self_eq_true]; rfl
set_option tactic.hygienic false in
theorem eq_ways {l k : Nat} (h : σ[l]? = some (.lst (ws.map wayV))) (h' : σ[k]? = some (.lst (ws.map wayV))) : cmpV .Eq (.ref l) (.ref k) σ = some true := by
  show eqV σ (.ref l) (.ref k) = _
  unfold eqV
  rw [toD_lst h wayD_of, toD_lst h' wayD_of]
  exact congrArg some (eqv_ways ws)
set_option tactic.hygienic false in
theorem s_clear {call : Nat → List V → Sto → RE} {e : E} {fr : Fra} {l : Nat} {xs : List V} {ss : List S} {r : RS} (he : evE call e fr σ = .ok (.ref l) σ) (h : σ[l]? = some (.lst xs)) (h2 : evSs call wf ss fr (σ.set l (.lst [])) = r) : evSs call wf (.expr (e.meth MN.clear []) :: ss) fr σ = r :=
  s_expr' (e_meth he (getL_some h) es_nil (getL_some h) (rfl : methV .clear l xs [] σ = .ok .none (setL σ l []))) h2
set_option tactic.hygienic false in
theorem set_keep {k l : Nat} {o o' : AO} (h : σ[k]? = some o) (hk : k ≠ l) : (σ.set l o')[k]? = some o := by rw [List.getElem?_set_ne hk.symm]; exact h
set_option tactic.hygienic false in
theorem set_some {k l : Nat} {xs : List V} (h : σ[k]? = some (.lst xs)) : ∃ ys, (σ.set l (.lst []))[k]? = some (.lst ys) := by
  by_cases e : k = l
  · subst e; exact ⟨[], List.getElem?_set_self (List.getElem?_eq_some_iff.mp h).1⟩
  · exact ⟨xs, set_keep h e⟩
end
end Mine

set_option autoImplicit false
set_option linter.unusedVariables false
namespace Mine
open PySem

noncomputable def eNext : E := E.comp [1] true (E.loc 0) [E.cmp CmpOp.Eq ((E.loc 1).sub (E.int 1)) (E.loc 2)] (E.bin Operator.Add ((E.loc 3).sub ((E.loc 1).sub (E.int 0))) ((E.loc 1).sub (E.int 2))) [none, none, some 3, some 1]
noncomputable def nextB : List S := [S.expr ((E.loc 2).meth MN.append [E.blt BN.max [eNext]])]
noncomputable def fNext : Fn := { ps := [0, 1], size := 7, body := [S.asg 2 (E.list []), S.forS [3] true (It.e (E.blt BN.range [E.blt BN.len [E.loc 1]])) nextB, S.ret (E.loc 2)] }
set_option tactic.hygienic false in
theorem eqv_ints (is : List Int) : PyData.eqvAll (is.map .int) (is.map .int) = true := by
  induction is with
  | nil => rfl
  | cons i is ih =>
    show ((i == i) && PyData.eqvAll (is.map .int) (is.map .int)) = true
    rw [ih, beq_self_eq_true]; rfl
section
variable {P : Nat → Option Fn} {wf n : Nat} {σ : Sto} {m lw lt : Nat} {ws : List Way} {x y : Nat → Int}
set_option tactic.hygienic false in
theorem intsV_map : intsV m y = ((List.range m).map y).map V.int := by unfold intsV; rw [List.map_map]; rfl
set_option tactic.hygienic false in
theorem ne_ints {l k : Nat} (h : σ[l]? = some (.lst (intsV m y))) (h' : σ[k]? = some (.lst (intsV m y))) : cmpV .NotEq (.ref l) (.ref k) σ = some false := by
  have hd : mapO (toD 4 σ) (intsV m y) = some (((List.range m).map y).map PyData.int) := by rw [intsV_map]; exact mapO_map fun _ _ => rfl
  show (eqV σ (.ref l) (.ref k)).map (!·) = _
  unfold eqV
  rw [toD_lst h hd, toD_lst h' hd]
  show some (!PyData.eqvAll (((List.range m).map y).map PyData.int) (((List.range m).map y).map PyData.int)) = _
  rw [eqv_ints]; rfl
set_option tactic.hygienic false in
theorem next_e {call : Nat → List V → Sto → RE} (hlw : σ[lw]? = some (.lst (ws.map wayV))) (G : WebGood m ws) (ht : σ[lt]? = some (.lst (intsV m x))) {v : Nat} (hv : v < m) {fr : Fra} (h0 : fr[0]? = some (some (.ref lw))) (hs : subFr fr [none, none, some 3, some 1] = [none, none, some (.int v), some (.ref lt)]) :
    evE call (E.blt BN.max [eNext]) fr σ = .ok (.int (nextT ws x v)) (σ ++ [.lst ((innT ws x v).map V.int)]) := by
  refine e_blt (es_cons (e_comp (ws := ws) (g := wayV) (p := fun w => w.2.1 == v) (f := fun w => V.int (x w.1 + (w.2.2 : Int))) (e_loc h0) (getL_some hlw) (fun w hw => ?_) ?_) es_nil) (b_maxI ap_new (next_max G.ins hv))
  · rw [hs]
    exact ⟨_, rfl, t_one (e_cmp (e_sub (e_loc rfl) e_int rfl) (e_loc rfl) (congrArg some (nat_beq w.2.1 v))), fun _ => e_bin (e_sub (e_loc rfl) (e_sub (e_loc rfl) e_int rfl) (sub_lst ht (intsV_get (G.hm w hw).1))) (e_sub (e_loc rfl) e_int rfl) rfl⟩
  · rw [show ((ws.filter fun w => w.2.1 == v).map fun w => V.int (x w.1 + (w.2.2 : Int))) = (innT ws x v).map V.int by unfold innT; rw [List.map_map]; rfl]
    refine newL_fits ?_
    unfold innT
    rw [List.length_map, List.length_map]; exact Nat.le_trans (List.length_filter_le _ _) (Nat.le_trans G.hz (by decide))
set_option tactic.hygienic false in
theorem next_ok (h27 : P 27 = some fNext) (hlw : σ[lw]? = some (.lst (ws.map wayV))) (G : WebGood m ws) (ht : σ[lt]? = some (.lst (intsV m x))) :
    ∃ τ, evFn P wf (n + 1) 27 [.ref lw, .ref lt] σ = .ok (.ref σ.length) (accS σ (intsV m (nextT ws x)) τ) := by
  have hm := G.m2
  obtain ⟨fr1, σ1, e1, x3, τ, rfl, rfl⟩ := (s_forR (call := evFn P wf n) (wf := wf) (tg := [3]) (one := true) (ws := List.range m) (g := fun (v : Nat) => V.int v) (it := E.blt BN.range [E.blt BN.len [E.loc 1]]) (bs := nextB) (fr := [some (.ref lw), some (.ref lt), some (.ref σ.length), none, none, none, none]) (σ := accS σ [] [])
    (fun i fr σ' => ∃ (x3 : Option V) (τ : Sto), fr = [some (.ref lw), some (.ref lt), some (.ref σ.length), x3, none, none, none] ∧ σ' = accS σ (intsV i (nextT ws x)) τ) (fun _ _ => False)
    (e_blt (es_cons (e_blt (es_cons (e_loc rfl) es_nil) (b_len' (ap ht))) es_nil) (b_range' (by rw [intsV_len]; lia))) (by rw [intsV_len]; exact rng_nat m)
    (by
      rintro i v _ _ hv ⟨x3, τ, rfl, rfl⟩
      obtain ⟨hi, rfl⟩ := range_get hv
      have e := next_e (call := evFn P wf n) (σ := accS σ (intsV i (nextT ws x)) τ) (x := x) (fr := [some (.ref lw), some (.ref lt), some (.ref σ.length), some (.int i), none, none, none]) (ap hlw) G (ap ht) hi rfl rfl
      rw [accS_app] at e
      refine ⟨_, rfl, .inl ⟨_, _, s_push rfl e (by rw [intsV_len]; lia), some (.int i), τ ++ [.lst ((innT ws x i).map V.int)], rfl, ?_⟩⟩
      rw [intsV_succ]) ⟨none, [], rfl, rfl⟩).next
  rw [List.length_range] at e1
  exact ⟨τ, f_ret h27 rfl (s_asg' (e_list es_nil (newL_fits (by decide : 0 ≤ 16777216))) (by decide : 2 < 7) (s_cons e1 (s_ret' (e_loc rfl))))⟩

set_option tactic.hygienic false in
theorem three {a b c : Int} {w : Nat} (h : w < 3) : ∃ d, [V.int a, V.int b, V.int c][w]? = some (V.int d) ∧ (d = a ∨ d = b ∨ d = c) := by
  rcases w with _ | _ | _ | w
  · exact ⟨a, rfl, .inl rfl⟩
  · exact ⟨b, rfl, .inr (.inl rfl)⟩
  · exact ⟨c, rfl, .inr (.inr rfl)⟩
  · lia
end
end Mine

set_option autoImplicit false
set_option linter.unusedVariables false
namespace Mine
open PySem

noncomputable def rowsB : List S :=
  [S.ifS ((((E.loc 0).sub (E.loc 2)).isi Ty.list).not.or (E.blt BN.all [E.comp [1] true ((E.loc 0).sub (E.loc 2)) [] (E.call 21 [E.loc 1]) [none, none, none]]).not) [S.ret (E.bool false)] [],
    S.ifS (E.cmp CmpOp.NotEq ((E.loc 0).sub (E.loc 2)) ((E.loc 1).sub (E.loc 2))) [S.ret (E.bool false)] []]
noncomputable def fRowsGood : Fn := { ps := [0, 1], size := 8, body :=
  [S.ifS (((E.loc 0).isi Ty.list).not.or (E.cmp CmpOp.NotEq (E.blt BN.len [E.loc 0]) (E.blt BN.len [E.loc 1]))) [S.ret (E.bool false)] [],
    S.forS [2] true (It.e (E.blt BN.range [E.blt BN.len [E.loc 1]])) rowsB, S.ret (E.bool true)] }
noncomputable def dueB : List S := [S.expr ((E.loc 4).meth MN.append [E.call 27 [E.loc 1, (E.loc 4).sub (E.int 1).neg]])]
noncomputable def fTurnsGood : Fn := { ps := [0, 1, 2, 3], size := 11, body :=
  [S.asg 4 (E.list [E.blt BN.list [E.loc 2]]), S.forS [5] true (It.e (E.blt BN.range [E.loc 3])) dueB, S.ifS (E.call 28 [E.loc 0, E.loc 4]).not [S.ret (E.bool false)] [],
    S.forS [6] true (It.e (E.loc 0)) [S.expr ((E.loc 6).meth MN.clear [])], S.expr ((E.loc 0).meth MN.clear []), S.ret (E.bool true)] }

def Kept (b e : Nat) (σ σ' : Sto) : Prop := ∀ k o, (k < b ∨ e ≤ k) → σ[k]? = some o → σ'[k]? = some o
section
variable {P : Nat → Option Fn} {wf n : Nat} {σ σ' σ2 : Sto} {m lw lt t b e b' e' c : Nat} {ws : List Way} {x : Nat → Int} {X : Nat → Nat → Int} {ls : List Nat}
set_option tactic.hygienic false in
theorem Kept.refl : Kept b e σ σ := fun _ _ _ h => h
set_option tactic.hygienic false in
theorem Kept.app {τ : Sto} : Kept b e σ (σ ++ τ) := fun _ _ _ h => ap h
set_option tactic.hygienic false in
theorem Kept.trans (h : Kept b e σ σ') (h' : Kept b e σ' σ2) : Kept b e σ σ2 := fun k o hk ho => h' k o hk (h k o hk ho)
set_option tactic.hygienic false in
theorem Kept.wide (h : Kept b e σ σ') (hb : b' ≤ b) (he : e ≤ e') : Kept b' e' σ σ' := fun k o hk ho => h k o (hk.imp (fun h => Nat.lt_of_lt_of_le h hb) (fun h => Nat.le_trans he h)) ho
set_option tactic.hygienic false in
theorem Kept.set {k : Nat} {o : AO} (hb : b ≤ k) (he : k < e) : Kept b e σ (σ.set k o) := fun j o' hj ho => set_keep ho (fun q => by subst q; exact hj.elim (fun h => Nat.lt_irrefl _ (Nat.lt_of_lt_of_le h hb)) (fun h => Nat.lt_irrefl _ (Nat.lt_of_lt_of_le he h)))
structure Held (σ : Sto) (t m : Nat) (X : Nat → Nat → Int) (c b e : Nat) (ls : List Nat) : Prop where
  hf : σ[t]? = some (.lst (ls.map V.ref))
  R : TRows σ t ls X m (c + 1)
  ht : b ≤ t ∧ t < e
  hl : ∀ l ∈ ls, b ≤ l ∧ l < e
set_option tactic.hygienic false in
theorem Held.keep (H : Held σ t m X c b e ls) (K : Kept b' e' σ σ') (d : e ≤ b' ∨ e' ≤ b) : Held σ' t m X c b e ls := by
  have off : ∀ {k}, b ≤ k ∧ k < e → k < b' ∨ e' ≤ k := fun hk => d.imp (fun h => Nat.lt_of_lt_of_le hk.2 h) (fun h => Nat.le_trans h hk.1)
  exact ⟨K _ _ (off H.ht) H.hf, ⟨H.R.len, fun k l h => ⟨(H.R.row k l h).1, K _ _ (off (H.hl l (List.mem_of_getElem? h))) (H.R.row k l h).2⟩⟩, H.ht, H.hl⟩

set_option tactic.hygienic false in
theorem eq_ints {l k : Nat} (h : σ[l]? = some (.lst (intsV m x))) (h' : σ[k]? = some (.lst (intsV m x))) : cmpV .Eq (.ref l) (.ref k) σ = some true := by
  have h0 : (eqV σ (.ref l) (.ref k)).map (!·) = some false := ne_ints h h'
  show eqV σ (.ref l) (.ref k) = _
  cases q : eqV σ (.ref l) (.ref k) with
  | none => rw [q] at h0; cases h0
  | some p =>
    rw [q] at h0
    cases p with
    | true => rfl
    | false => cases h0
set_option tactic.hygienic false in
theorem rows_good_ok (h21 : P 21 = some fWhole) (h28 : P 28 = some fRowsGood) {p : Nat} {ls' : List Nat} (hf : σ[t]? = some (.lst (ls.map V.ref))) (hd : σ[p]? = some (.lst (ls'.map V.ref))) (R : TRows σ t ls X m c) (R' : TRows σ p ls' X m c) (hc : c ≤ 1001) (hm : m ≤ 12) :
    ∃ τ, evFn P wf (n + 2) 28 [.ref t, .ref p] σ = .ok (.bool true) (σ ++ τ) := by
  have l1 : ∀ τ, bltV .len [.ref t] (σ ++ τ) = .ok (.int c) (σ ++ τ) := fun τ => by have := b_len' (ap (τ := τ) hf); rwa [List.length_map, R.len] at this
  have l2 : ∀ τ, bltV .len [.ref p] (σ ++ τ) = .ok (.int c) (σ ++ τ) := fun τ => by have := b_len' (ap (τ := τ) hd); rwa [List.length_map, R'.len] at this
  have l1 := l1 []; have l2 := l2 []
  rw [List.append_nil] at l1 l2
  obtain ⟨fr, σ', e, x2, τ, rfl, rfl⟩ := (s_forR (call := evFn P wf (n + 1)) (wf := wf) (tg := [2]) (one := true) (ws := List.range c) (g := fun (v : Nat) => V.int v) (it := E.blt BN.range [E.blt BN.len [E.loc 1]]) (bs := rowsB) (fr := frame0 fRowsGood [.ref t, .ref p]) (σ := σ)
    (fun i fr σ' => ∃ (x2 : Option V) (τ : Sto), fr = [some (.ref t), some (.ref p), x2, none, none, none, none, none] ∧ σ' = σ ++ τ) (fun _ _ => False)
    (e_blt (es_cons (e_blt (es_cons (e_loc rfl) es_nil) l2) es_nil) (b_range' (Nat.le_trans hc (by decide)))) (rng_nat c)
    (by
      rintro i v _ _ hv ⟨x2, τ, rfl, rfl⟩
      obtain ⟨hi, rfl⟩ := range_get hv
      obtain ⟨a1, h1⟩ : ∃ l, ls[i]? = some l := ⟨_, List.getElem?_eq_getElem (by rw [R.len]; exact hi)⟩
      obtain ⟨a2, h2⟩ : ∃ l, ls'[i]? = some l := ⟨_, List.getElem?_eq_getElem (by rw [R'.len]; exact hi)⟩
      have r1 := (R.row _ _ h1).2
      have r2 := (R'.row _ _ h2).2
      have g1 : ∀ {τ}, subV (.ref t) (.int i) (σ ++ τ) = some (.ref a1) := sub_lst (ap hf) (by rw [List.getElem?_map, h1]; rfl)
      have g2 : ∀ {τ}, subV (.ref p) (.int i) (σ ++ τ) = some (.ref a2) := sub_lst (ap hd) (by rw [List.getElem?_map, h2]; rfl)
      have ea := all_ok (wf := wf) (n := n) (fr := [some (.ref t), some (.ref p), some (.int i), none, none, none, none, none]) (it := (E.loc 0).sub (E.loc 2)) (σ := σ ++ τ) h21 (e_sub (e_loc rfl) (e_loc rfl) g1) (is := (List.range m).map (X i)) (by rw [← intsV_map]; exact ap r1) (by rw [List.length_map, List.length_range]; exact Nat.le_trans hm (by decide))
      rw [List.append_assoc] at ea
      exact ⟨_, rfl, .inl ⟨_, _, s_skip (e_or_f (e_notT (e_isi (e_sub (e_loc rfl) (e_loc rfl) g1) (isi_list (ap r1)))) (e_notT ea)) (s_skip (e_cmp (e_sub (e_loc rfl) (e_loc rfl) g1) (e_sub (e_loc rfl) (e_loc rfl) g2) (ne_ints (ap r1) (ap r2))) s_nil), _, _, rfl, rfl⟩⟩) ⟨none, [], rfl, (List.append_nil _).symm⟩).next
  exact ⟨τ, f_ret h28 rfl (s_skip (e_or_f (e_notT (e_isi (e_loc rfl) (isi_list hf))) (e_cmp (e_blt (es_cons (e_loc rfl) es_nil) l1) (e_blt (es_cons (e_loc rfl) es_nil) l2) ne_int_f)) (s_cons e (s_ret' e_bool)))⟩

set_option tactic.hygienic false in
theorem bind1 {fr : Fra} {i : Nat} {v : V} (h : i < fr.length) : bindT [i] true v fr = some (fr.set i (some v)) := if_pos h
noncomputable def tgF (t lw lt c p : Nat) (x5 x6 : Option V) (rest : Fra) : Fra := some (.ref t) :: some (.ref lw) :: some (.ref lt) :: some (.int c) :: some (.ref p) :: x5 :: x6 :: rest
set_option tactic.hygienic false in
theorem due_ok {us : List Way} (h27 : ∀ {σ : Sto} {lq : Nat} {y : Nat → Int}, σ[lw]? = some (.lst (ws.map wayV)) → σ[lq]? = some (.lst (intsV m y)) → ∃ τ, evFn P wf (n + 1) 27 [.ref lw, .ref lq] σ = .ok (.ref σ.length) (accS σ (intsV m (nextT us y)) τ))
    (hlw : σ[lw]? = some (.lst (ws.map wayV))) (m2 : m ≤ 12) (ht : σ[lt]? = some (.lst (intsV m x))) {c0 : Nat} (hc : c ≤ 1000) {eR : E} {rest : Fra} (hR : ∀ {fr : Fra} {σ : Sto}, fr[3]? = some (some (.int c0)) → evE (evFn P wf (n + 1)) eR fr σ = .ok (.rng 0 c) σ) :
    ∃ ls τ x5, TRows (accS (σ ++ [.lst (intsV m x)]) (ls.map V.ref) τ) (σ ++ [AO.lst (intsV m x)]).length ls (runT us x) m (c + 1) ∧ ∀ ss r, evSs (evFn P wf (n + 1)) wf ss (tgF t lw lt c0 (σ ++ [AO.lst (intsV m x)]).length x5 none rest) (accS (σ ++ [.lst (intsV m x)]) (ls.map V.ref) τ) = r →
      evSs (evFn P wf (n + 1)) wf (S.asg 4 (E.list [E.blt BN.list [E.loc 2]]) :: S.forS [5] true (It.e eR) dueB :: ss) (some (.ref t) :: some (.ref lw) :: some (.ref lt) :: some (.int c0) :: none :: none :: none :: rest) σ = r := by
  have e1 : evE (evFn P wf (n + 1)) (E.list [E.blt BN.list [E.loc 2]]) (some (.ref t) :: some (.ref lw) :: some (.ref lt) :: some (.int c0) :: none :: none :: none :: rest) σ = .ok (.ref (σ ++ [AO.lst (intsV m x)]).length) (accS (σ ++ [.lst (intsV m x)]) [.ref σ.length] []) :=
    e_list (es_cons (e_blt (es_cons (e_loc rfl) es_nil) (b_list' ht (by rw [intsV_len]; exact Nat.le_trans m2 (by decide)))) es_nil) (newL_fits (by decide : 1 ≤ 16777216))
  have hlw1 : (σ ++ [AO.lst (intsV m x)])[lw]? = some (.lst (ws.map wayV)) := ap hlw
  have h0 : (σ ++ [AO.lst (intsV m x)])[σ.length]? = some (.lst (intsV m x)) := ap_new
  have hne : σ.length ≠ (σ ++ [AO.lst (intsV m x)]).length := by rw [List.length_append]; exact Nat.ne_of_lt (Nat.lt_succ_self _)
  generalize σ ++ [AO.lst (intsV m x)] = σ1 at *
  obtain ⟨fr, σ', e2, ls, τ, x5, rfl, rfl, R⟩ := (s_forR (call := evFn P wf (n + 1)) (wf := wf) (tg := [5]) (one := true) (ws := List.range c) (g := fun (v : Nat) => V.int v) (it := eR) (bs := dueB) (fr := tgF t lw lt c0 σ1.length none none rest) (σ := accS σ1 [.ref σ.length] [])
    (fun i fr σ' => ∃ (ls : List Nat) (τ : Sto) (x5 : Option V), fr = tgF t lw lt c0 σ1.length x5 none rest ∧ σ' = accS σ1 (ls.map V.ref) τ ∧ TRows σ' σ1.length ls (runT us x) m (i + 1)) (fun _ _ => False)
    (hR rfl) (rng_nat c)
    (by
      rintro i v _ _ hv ⟨ls, τ, x5, rfl, rfl, R⟩
      obtain ⟨hi, rfl⟩ := range_get hv
      obtain ⟨q, hq1, hq2⟩ := R.last
      obtain ⟨υ, e⟩ := h27 (σ := accS σ1 (ls.map V.ref) τ) (ap hlw1) hq2
      exact ⟨tgF t lw lt c0 σ1.length (some (.int i)) none rest, bind1 (show 5 < rest.length + 7 by lia), .inl ⟨_, _, s_row (X := runT us x) (i := i + 1) rfl R (by lia) (e_call (es_cons (e_loc rfl) (es_cons (e_sub (e_loc rfl) (e_neg e_int) (sub_neg ap_new hq1)) es_nil)) e), _, _, some (.int i), rfl, rfl, R.push⟩⟩)
    ⟨[σ.length], [], none, rfl, rfl, ⟨rfl, fun k l h => by
      cases k with
      | zero => cases Option.some.inj h; exact ⟨hne, ap h0⟩
      | succ k => cases h⟩⟩).next
  rw [List.length_range] at R
  exact ⟨ls, τ, x5, R, fun ss r h => s_asg' e1 (by show 4 < rest.length + 7; lia) (s_cons e2 h)⟩
set_option tactic.hygienic false in
theorem TRows.app {τ : Sto} (R : TRows σ t ls X m c) : TRows (σ ++ τ) t ls X m c := ⟨R.len, fun k l h => ⟨(R.row k l h).1, ap (R.row k l h).2⟩⟩
structure ClrI (σ : Sto) (t b e : Nat) (ls : List Nat) (F : Option V → Fra) (fr : Fra) (σ' : Sto) : Prop where
  hfr : ∃ x6, fr = F x6
  hf : σ'[t]? = some (.lst (ls.map V.ref))
  hl : ∀ l ∈ ls, ∃ xs, σ'[l]? = some (.lst xs)
  K : Kept b e σ σ'
set_option tactic.hygienic false in
theorem turns_good_ok (h21 : P 21 = some fWhole) (h27 : P 27 = some fNext) (h28 : P 28 = some fRowsGood) (h29 : P 29 = some fTurnsGood) (hlw : σ[lw]? = some (.lst (ws.map wayV))) (G : WebGood m ws) (ht : σ[lt]? = some (.lst (intsV m x))) (hc : c ≤ 1000) (H : Held σ t m (runT ws x) c b e ls) :
    ∃ σ', evFn P wf (n + 3) 29 [.ref t, .ref lw, .ref lt, .int c] σ = .ok (.bool true) σ' ∧ Kept b e σ σ' := by
  obtain ⟨ls', τ, x5, R', e1⟩ := due_ok (wf := wf) (n := n + 1) (t := t) (c0 := c) (eR := E.blt BN.range [E.loc 3]) (rest := [none, none, none, none]) (fun hw hq => next_ok h27 hw G hq) hlw G.m2 ht hc (fun h3 => e_blt (es_cons (e_loc h3) es_nil) (b_range' (Nat.le_trans hc (by decide))))
  have hp : (accS (σ ++ [.lst (intsV m x)]) (ls'.map V.ref) τ)[(σ ++ [AO.lst (intsV m x)]).length]? = some (.lst (ls'.map V.ref)) := ap_new
  have hs : accS (σ ++ [.lst (intsV m x)]) (ls'.map V.ref) τ = σ ++ ([.lst (intsV m x)] ++ (.lst (ls'.map V.ref) :: τ)) := List.append_assoc _ _ _
  generalize (σ ++ [AO.lst (intsV m x)]).length = p at *
  rw [hs] at hp R' e1
  generalize [AO.lst (intsV m x)] ++ (.lst (ls'.map V.ref) :: τ) = τ1 at *
  obtain ⟨τ2, e2⟩ := rows_good_ok (wf := wf) (n := n) h21 h28 (ap (τ := τ1) H.hf) hp H.R.app R' (Nat.succ_le_succ hc) G.m2
  obtain ⟨fr, σ', e3, I⟩ := (s_forL (call := evFn P wf (n + 2)) (wf := wf) (tg := [6]) (one := true) (ws := ls) (g := V.ref) (it := E.loc 0) (bs := [S.expr ((E.loc 6).meth MN.clear [])]) (fr := tgF t lw lt c p x5 none [none, none, none, none]) (σ := σ ++ τ1 ++ τ2)
    (fun i => ClrI σ t b e ls (fun x6 => tgF t lw lt c p x5 x6 [none, none, none, none])) (fun _ _ => False) (e_loc rfl) (fun i fr σ' I => getL_some I.hf)
    (by
      intro i l fr σ' hl I
      obtain ⟨⟨x6, rfl⟩, hf, hls, K⟩ := I
      have hm := List.mem_of_getElem? hl
      obtain ⟨xs, hx⟩ := hls l hm
      exact ⟨_, rfl, .inl ⟨_, _, s_clear (e_loc rfl) hx s_nil, ⟨_, rfl⟩, set_keep hf (fun q => (H.R.row i l hl).1 q.symm), fun l' hl' => (hls l' hl').elim fun ys hy => set_some hy, K.trans (Kept.set (H.hl l hm).1 (H.hl l hm).2)⟩⟩)
    ⟨⟨none, rfl⟩, ap (ap H.hf), fun l hl => by
      obtain ⟨k, hk⟩ := List.getElem?_of_mem hl
      exact ⟨_, ap (ap (H.R.row k l hk).2)⟩, Kept.app.trans Kept.app⟩).next
  obtain ⟨⟨x6, rfl⟩, hf, _, K⟩ := I
  exact ⟨_, f_ret h29 rfl (e1 _ _ (s_skip (e_notT (e_call (es_cons (e_loc rfl) (es_cons (e_loc rfl) es_nil)) e2)) (s_cons e3 (s_clear (e_loc rfl) hf (s_ret' e_bool))))), K.trans (Kept.set H.ht.1 H.ht.2)⟩
end
end Mine

set_option autoImplicit false
set_option linter.unusedVariables false
namespace Mine
open PySem

noncomputable def times05B : List S :=
  [S.asg 4 (E.call 20 [E.loc 0, E.bin Operator.Add (E.int 10) (E.loc 3)]),
    S.asg 5 ((E.list [E.int 11, E.int 1000, E.bin Operator.Sub (E.bin Operator.Mult (E.int 2) (E.pow 10 60)) (E.int 1)]).sub (E.bin Operator.Mod (E.call 20 [E.loc 0, E.int 9]) (E.int 3))),
    S.expr ((E.loc 2).meth MN.append [E.bin Operator.Sub (E.bin Operator.Mod (E.loc 4) (E.loc 5)) ((E.list [E.int 5, E.int 0, E.bin Operator.Sub (E.pow 10 60) (E.int 1)]).sub (E.bin Operator.Mod (E.call 20 [E.loc 0, E.int 9]) (E.int 3)))])]
noncomputable def fTimes05 : Fn := { ps := [0, 1], size := 8, body := [S.asg 2 (E.list []), S.forS [3] true (It.e (E.blt BN.range [E.loc 1])) times05B, S.ret (E.loc 2)] }
noncomputable def law05A : List S :=
  [S.expr (E.call 19 [E.loc 5, (E.loc 8).sub (E.loc 6), E.call 20 [E.loc 0, E.bin Operator.Add (E.int 30) (E.loc 6)]]),
    S.expr ((E.loc 10).meth MN.clear []), S.expr ((E.loc 10).meth MN.extend [(E.loc 8).sub (E.loc 6)]),
    S.expr ((E.loc 11).meth MN.append [(E.loc 5).umeth 17 [E.loc 10, (E.loc 9).sub (E.loc 6)]]),
    S.ifS (E.cmp CmpOp.NotEq (E.loc 10) ((E.loc 8).sub (E.loc 6))) [S.ret (E.bool false)] []]
noncomputable def law05B : List S :=
  [S.ifS (E.call 29 [(E.loc 11).sub (E.loc 6), E.loc 2, (E.loc 8).sub (E.loc 6), (E.loc 9).sub (E.loc 6)]).not [S.ret (E.bool false)] []]
noncomputable def fLaw05 : Fn := { ps := [0], size := 22, body := [
  S.asg 1 (E.call 24 [E.loc 0]), S.asg 2 (E.call 25 [E.loc 0, E.loc 1]), S.asg 3 (E.call 26 [E.loc 0, E.loc 1]),
  S.asg 4 (E.bin Operator.Mod (E.call 20 [E.loc 0, E.int 22]) ((E.list [E.int 20, E.int 8]).sub (E.blt BN.int [E.cmp CmpOp.Gt (E.loc 1) (E.int 6)]))),
  S.ifS ((E.cmp CmpOp.Lt (E.loc 1) (E.int 3)).and (E.cmp CmpOp.Eq (E.bin Operator.Mod (E.bin Operator.FloorDiv (E.call 20 [E.loc 0, E.int 22]) (E.int 20)) (E.int 3)) (E.int 1)))
    [S.asg 4 (E.bin Operator.Mod (E.bin Operator.FloorDiv (E.call 20 [E.loc 0, E.int 22]) (E.int 60)) (E.int 200))] [],
  S.asg 5 (E.mk 11 [E.loc 1, E.blt BN.list [E.loc 2]]),
  S.asg 7 (E.comp [1] true (E.blt BN.range [E.loc 1]) [] (E.bin Operator.FloorDiv ((E.loc 3).sub (E.bin Operator.Sub (E.bin Operator.Sub (E.loc 2) (E.int 1)) (E.loc 1))) (E.int 2)) [none, none, some 1, some 3]),
  S.asg 8 (E.list [E.loc 3, E.loc 7, E.loc 7, E.loc 3]),
  S.asg 9 (E.list [E.loc 4, E.loc 4, E.bin Operator.Mod (E.bin Operator.Add (E.loc 4) (E.int 3)) (E.int 6), E.loc 4]),
  S.asg 10 (E.list []), S.asg 11 (E.list []),
  S.forS [6] true (It.e (E.blt BN.range [E.int 4])) law05A, S.forS [6] true (It.e (E.blt BN.range [E.int 4])) law05B,
  S.ret ((E.cmp CmpOp.Eq (E.loc 10) (E.loc 3)).and (E.cmp CmpOp.Eq ((E.loc 5).attr 1) (E.loc 2)))] }

section
variable {P : Nat → Option Fn} {wf n : Nat} {σ σ' : Sto} {m lw lt : Nat} {ws : List Way} {x y : Nat → Int} {sc : List Int}
set_option tactic.hygienic false in
theorem ints_of {xs : List Int} (hx : xs.length = m) : xs.map V.int = intsV m (fun v => xs.getD v 0) := by
  subst hx
  unfold intsV
  refine List.ext_getElem? fun v => ?_
  rw [List.getElem?_map, List.getElem?_map]
  by_cases hv : v < xs.length
  · rw [List.getElem?_range hv, List.getElem?_eq_getElem hv, Option.map_some, Option.map_some]
    exact congrArg (fun q => some (V.int q)) (by show _ = xs.getD v 0; rw [List.getD_eq_getElem?_getD, List.getElem?_eq_getElem hv]; rfl)
  · rw [List.getElem?_eq_none_iff.mpr (Nat.le_of_not_lt hv), List.getElem?_eq_none_iff.mpr (by rw [List.length_range]; exact Nat.le_of_not_lt hv)]; rfl
set_option tactic.hygienic false in
theorem accS_snoc {xs : List Int} {z : Int} {τ : Sto} : accS σ (xs.map V.int ++ [V.int z]) τ = accS σ ((xs ++ [z]).map V.int) τ := by rw [List.map_append]; rfl
set_option tactic.hygienic false in
theorem pick_e {call : Nat → List V → Sto → RE} {fr : Fra} {e1 e2 e3 ei : E} {a b c d : Int} {k : Nat} (h1 : evE call e1 fr σ = .ok (.int a) σ) (h2 : evE call e2 fr σ = .ok (.int b) σ) (h3 : evE call e3 fr σ = .ok (.int c) σ) (hi : ∀ τ, evE call ei fr (σ ++ τ) = .ok (.int k) (σ ++ τ)) (hd : [V.int a, V.int b, V.int c][k]? = some (.int d)) :
    evE call ((E.list [e1, e2, e3]).sub ei) fr σ = .ok (.int d) (σ ++ [.lst [.int a, .int b, .int c]]) :=
  e_sub (e_list (es_cons h1 (es_cons h2 (es_cons h3 es_nil))) (newL_fits (by decide : 3 ≤ 16777216))) (hi _) (sub_lst ap_new hd)
set_option tactic.hygienic false in
theorem times05_ok (h20 : P 20 = some fCellAt) (h26 : P 26 = some fTimes05) (hs : ScriptAt σ sc) (hm : m ≤ 12) : ∃ x τ, evFn P wf (n + 2) 26 [.ref 0, .int m] σ = .ok (.ref σ.length) (accS σ (intsV m x) τ) := by
  obtain ⟨k, hk, ek⟩ := cell_mod 3 (by decide) (sc.getD 9 0)
  obtain ⟨a, ha, ha'⟩ := three (a := 11) (b := 1000) (c := 2 * 10 ^ 60 - 1) hk
  obtain ⟨b, hb, _⟩ := three (a := 5) (b := 0) (c := 10 ^ 60 - 1) hk
  have ha0 : a ≠ 0 := by rcases ha' with rfl | rfl | rfl <;> decide
  obtain ⟨fr1, σ1, e1, xs, hx, x3, x4, x5, τ, rfl, rfl⟩ := (s_forR (call := evFn P wf (n + 1)) (wf := wf) (tg := [3]) (one := true) (ws := List.range m) (g := fun (v : Nat) => V.int v) (it := E.blt BN.range [E.loc 1]) (bs := times05B) (fr := [some (.ref 0), some (.int m), some (.ref σ.length), none, none, none, none, none]) (σ := accS σ [] [])
    (fun i fr σ' => ∃ xs : List Int, xs.length = i ∧ ∃ (x3 x4 x5 : Option V) (τ : Sto), fr = [some (.ref 0), some (.int m), some (.ref σ.length), x3, x4, x5, none, none] ∧ σ' = accS σ (xs.map V.int) τ) (fun _ _ => False)
    (e_blt (es_cons (e_loc rfl) es_nil) (b_range' (Nat.le_trans hm (by decide)))) (rng_nat m)
    (by
      rintro i v _ _ hv ⟨xs, hx, x3, x4, x5, τ, rfl, rfl⟩
      obtain ⟨hi, rfl⟩ := range_get hv
      have hs' : ∀ τ, ScriptAt (accS σ (xs.map V.int) τ) sc := fun τ => ap hs
      have e9 : ∀ {fr : Fra} τ', fr[0]? = some (some (.ref 0)) → evE (evFn P wf (n + 1)) (E.bin Operator.Mod (E.call 20 [E.loc 0, E.int 9]) (E.int 3)) fr (accS σ (xs.map V.int) τ ++ τ') = .ok (.int k) (accS σ (xs.map V.int) τ ++ τ') := fun τ' h0 => e_bin (e_call (es_cons (e_loc h0) (es_cons e_int es_nil)) (cell_ok h20 (ap (hs' τ)) 9)) e_int ((b_fmod (by decide)).trans (congrArg (fun z => RE.ok (.int z) _) ek))
      have e4 : evE (evFn P wf (n + 1)) (E.call 20 [E.loc 0, E.bin Operator.Add (E.int 10) (E.loc 3)]) [some (.ref 0), some (.int m), some (.ref σ.length), some (.int i), x4, x5, none, none] (accS σ (xs.map V.int) τ) = .ok (.int (sc.getD (10 + i) 0)) (accS σ (xs.map V.int) τ) :=
        e_call (es_cons (e_loc rfl) (es_cons (e_bin e_int (e_loc rfl) rfl) es_nil)) (cell_ok h20 (hs' τ) (10 + i))
      generalize sc.getD (10 + i) 0 = cc at e4
      have e5 := pick_e (call := evFn P wf (n + 1)) (σ := accS σ (xs.map V.int) τ) (fr := [some (.ref 0), some (.int m), some (.ref σ.length), some (.int i), some (.int cc), x5, none, none]) (e1 := E.int 11) (e2 := E.int 1000) (e3 := E.bin Operator.Sub (E.bin Operator.Mult (E.int 2) (E.pow 10 60)) (E.int 1)) e_int e_int (e_bin (e_bin e_int e_pow (b_mulL (by decide))) e_int rfl) (fun τ' => e9 τ' rfl) ha
      have e6 := pick_e (call := evFn P wf (n + 1)) (σ := accS σ (xs.map V.int) τ ++ [.lst [.int 11, .int 1000, .int (2 * 10 ^ 60 - 1)]]) (fr := [some (.ref 0), some (.int m), some (.ref σ.length), some (.int i), some (.int cc), some (.int a), none, none]) (e1 := E.int 5) (e2 := E.int 0) (e3 := E.bin Operator.Sub (E.pow 10 60) (E.int 1)) e_int e_int (e_bin e_pow e_int rfl) (fun τ' => by rw [List.append_assoc]; exact e9 _ rfl) hb
      have e7 := e_bin (op := .Sub) (e_bin (op := .Mod) (a := E.loc 4) (b := E.loc 5) (e_loc rfl) (e_loc rfl) (b_fmod (x := cc) ha0)) e6 (rfl : binV .Sub (.int (cc.fmod a)) (.int b) _ = .ok (.int (cc.fmod a - b)) _)
      rw [accS_app] at e5
      rw [accS_app, accS_app] at e7
      exact ⟨_, rfl, .inl ⟨_, _, s_asg' e4 (by decide : 4 < 8) (s_asg' e5 (by decide : 5 < 8) (s_push rfl e7 (by rw [List.length_map]; lia))), xs ++ [cc.fmod a - b], by rw [List.length_append, hx]; rfl, _, _, _, _, rfl, accS_snoc⟩⟩) ⟨[], rfl, none, none, none, [], rfl, rfl⟩).next
  rw [List.length_range] at hx
  refine ⟨fun v => xs.getD v 0, τ, ?_⟩
  rw [← ints_of hx]
  exact f_ret h26 rfl (s_asg' (e_list es_nil (newL_fits (by decide : 0 ≤ 16777216))) (by decide : 2 < 8) (s_cons e1 (s_ret' (e_loc rfl))))

def Up (σ σ' : Sto) : Prop := ∀ (k : Nat) (o : AO), σ[k]? = some o → σ'[k]? = some o
structure Base05 (σ : Sto) (sc : List Int) (m lw l5 lr lc : Nat) (ws : List Way) (L : Nat → Nat) (X : Nat → Nat → Int) (C : Nat → Nat) : Prop where
  hs : ScriptAt σ sc
  hlw : σ[lw]? = some (.lst (ws.map wayV))
  W : WebAt σ l5 m ws
  hr : ∃ rs, σ[lr]? = some (.lst rs) ∧ ∀ j, j < 4 → rs[j]? = some (.ref (L j)) ∧ σ[L j]? = some (.lst (intsV m (X j)))
  hc : ∃ cs, σ[lc]? = some (.lst cs) ∧ ∀ j, j < 4 → cs[j]? = some (.int (C j)) ∧ C j ≤ 1000
section
variable {l5 lr lc : Nat} {L C : Nat → Nat} {X : Nat → Nat → Int} {B i : Nat} {ts : List Nat} {bd : Nat → Nat}
set_option tactic.hygienic false in
theorem Base05.up (A : Base05 σ sc m lw l5 lr lc ws L X C) (U : Up σ σ') : Base05 σ' sc m lw l5 lr lc ws L X C := by
  obtain ⟨d, lw', a, b, c⟩ := A.W.at'
  obtain ⟨rs, r1, r2⟩ := A.hr
  obtain ⟨cs, c1, c2⟩ := A.hc
  exact ⟨U _ _ A.hs, U _ _ A.hlw, ⟨d, lw', U _ _ a, U _ _ b, U _ _ c⟩, ⟨rs, U _ _ r1, fun j hj => ⟨(r2 j hj).1, U _ _ (r2 j hj).2⟩⟩, ⟨cs, U _ _ c1, c2⟩⟩
set_option tactic.hygienic false in
theorem Up.app {τ : Sto} : Up σ (σ ++ τ) := fun _ _ h => ap h
set_option tactic.hygienic false in
theorem Up.of {σ0 : Sto} {τ : Sto} {e : Nat} (h : σ0 = σ ++ τ) (K : Kept σ.length e σ0 σ') : Up σ σ' := fun k o hk => K k o (.inl (List.getElem?_eq_some_iff.mp hk).1) (by rw [h]; exact ap hk)
structure Tolds (σ' : Sto) (ts : List Nat) (m : Nat) (ws : List Way) (X : Nat → Nat → Int) (C : Nat → Nat) (B i : Nat) (bd : Nat → Nat) : Prop where
  ht : σ'[B + 1]? = some (.lst (ts.map V.ref))
  len : ts.length = i
  lo : ∀ j, j ≤ i → B + 2 ≤ bd j
  mono : ∀ j, j < i → bd j ≤ bd (j + 1)
  hi : bd i ≤ σ'.length
  held : ∀ j, j < i → ∃ t ls, ts[j]? = some t ∧ Held σ' t m (runT ws (X j)) (C j) (bd j) (bd (j + 1)) ls
set_option tactic.hygienic false in
theorem Tolds.next {σ5 : Sto} {t : Nat} {ls : List Nat} (T : Tolds σ' ts m ws X C B i bd) (K : Kept B (B + 2) σ' σ5) (hl : bd i ≤ σ5.length) (H : Held σ5 t m (runT ws (X i)) (C i) (bd i) σ5.length ls) (ht : σ5[B + 1]? = some (.lst ((ts ++ [t]).map V.ref))) :
    ∃ bd', Tolds σ5 (ts ++ [t]) m ws X C B (i + 1) bd' := by
  have e1 : ∀ {j}, j ≤ i → (if j ≤ i then bd j else σ5.length) = bd j := fun h => if_pos h
  have e2 : (if i + 1 ≤ i then bd (i + 1) else σ5.length) = σ5.length := if_neg (Nat.not_succ_le_self i)
  have hlo : B + 2 ≤ bd i := T.lo i (Nat.le_refl _)
  refine ⟨fun j => if j ≤ i then bd j else σ5.length, ht, by rw [List.length_append, T.len]; rfl, fun j hj => ?_, fun j hj => ?_, Nat.le_of_eq e2, fun j hj => ?_⟩
  · show B + 2 ≤ if j ≤ i then bd j else σ5.length
    by_cases q : j ≤ i
    · rw [if_pos q]; exact T.lo j q
    · rw [if_neg q]; exact Nat.le_trans hlo hl
  · show (if j ≤ i then bd j else σ5.length) ≤ if j + 1 ≤ i then bd (j + 1) else σ5.length
    rw [e1 (Nat.le_of_lt_succ hj)]
    by_cases q : j + 1 ≤ i
    · rw [if_pos q]; exact T.mono j q
    · have : j = i := Nat.le_antisymm (Nat.le_of_lt_succ hj) (Nat.le_of_not_lt q)
      subst this
      rw [if_neg q]; exact hl
  · show ∃ t' ls', (ts ++ [t])[j]? = some t' ∧ Held σ5 t' m (runT ws (X j)) (C j) (if j ≤ i then bd j else σ5.length) (if j + 1 ≤ i then bd (j + 1) else σ5.length) ls'
    rw [e1 (Nat.le_of_lt_succ hj)]
    by_cases q : j + 1 ≤ i
    · obtain ⟨t', ls', h1, h2⟩ := T.held j q
      rw [if_pos q]
      exact ⟨t', ls', by rw [List.getElem?_append_left (by rw [T.len]; exact q)]; exact h1, h2.keep K (.inr (T.lo j (Nat.le_of_lt q)))⟩
    · have : j = i := Nat.le_antisymm (Nat.le_of_lt_succ hj) (Nat.le_of_not_lt q)
      subst this
      rw [if_neg q]
      exact ⟨t, ls, by rw [← T.len, List.getElem?_append_right (Nat.le_refl _), Nat.sub_self]; rfl, H⟩

noncomputable def lawF05 (m lw lt c l5 : Nat) (x6 : Option V) (lo lr lc B : Nat) : Fra := [some (.ref 0), some (.int m), some (.ref lw), some (.ref lt), some (.int c), some (.ref l5), x6, some (.ref lo), some (.ref lr), some (.ref lc), some (.ref B), some (.ref (B + 1)), none, none, none, none, none, none, none, none, none, none]
structure In1 (σ0 : Sto) (F : Option V → Fra) (m : Nat) (ws : List Way) (X : Nat → Nat → Int) (C : Nat → Nat) (B i : Nat) (fr : Fra) (σ' : Sto) : Prop where
  hfr : ∃ x6, fr = F x6
  K : Kept B (B + 2) σ0 σ'
  hh : ∃ hs, σ'[B]? = some (.lst hs) ∧ (1 ≤ i → hs = intsV m (X (i - 1)))
  T : ∃ ts bd, Tolds σ' ts m ws X C B i bd
set_option tactic.hygienic false in
theorem law05_turn {c lo : Nat} {σ0 : Sto} (S : StirG P wf m ws) (A : Base05 σ sc m lw l5 lr lc ws L X C) (hB : σ.length = B) {τ0 : Sto} (h0 : σ0 = σ ++ τ0) (hi : i < 4) {fr : Fra} (I : In1 σ0 (fun x6 => lawF05 m lw lt c l5 x6 lo lr lc B) m ws X C B i fr σ') :
    Turn [6] true (evSs (evFn P wf (n + 6)) wf law05A) (.int i) fr σ' (In1 σ0 (fun x6 => lawF05 m lw lt c l5 x6 lo lr lc B) m ws X C B (i + 1)) (fun _ _ => False) := by
  obtain ⟨⟨x6, rfl⟩, K, ⟨hs, hh, _⟩, ts, bd, T⟩ := I
  refine ⟨lawF05 m lw lt c l5 (some (.int i)) lo lr lc B, rfl, .inl ?_⟩
  have A1 := A.up (Up.of h0 (by rw [hB]; exact K))
  obtain ⟨rs, hr1, hr2⟩ := A1.hr
  obtain ⟨cs, hc1, hc2⟩ := A1.hc
  obtain ⟨hrj, hLj⟩ := hr2 i hi
  obtain ⟨hcj, hCj⟩ := hc2 i hi
  have hLB : L i < B := by
    obtain ⟨_, _, q⟩ := A.hr
    rw [← hB]; exact (List.getElem?_eq_some_iff.mp (q i hi).2).1
  have lt1 : ∀ {k o}, σ[k]? = some o → k ≠ B ∧ k ≠ B + 1 := fun h => by
    have := (List.getElem?_eq_some_iff.mp h).1
    rw [hB] at this
    exact ⟨Nat.ne_of_lt this, Nat.ne_of_lt (Nat.lt_succ_of_lt this)⟩
  obtain ⟨τ1, e1⟩ := stirred_ok (wf := wf) (n := n) (cell := sc.getD (30 + i) 0) S.h19 (σ := σ') (lt := L i) (x := X i) ⟨S.T, S.h18, S.H, S.HW, S.h14, A1.W, S.G, hLj, S.hw⟩
  have hm16 : (intsV m (X i)).length ≤ 16777216 := by rw [intsV_len]; exact Nat.le_trans S.G.m2 (by decide)
  -- the handed list
  have k3 : Kept B (B + 2) σ' (((σ' ++ τ1).set B (.lst [])).set B (.lst (intsV m (X i)))) := Kept.app.trans ((Kept.set (Nat.le_refl _) (Nat.lt_add_of_pos_right (by decide))).trans (Kept.set (Nat.le_refl _) (Nat.lt_add_of_pos_right (by decide))))
  have l3 : σ'.length ≤ (((σ' ++ τ1).set B (.lst [])).set B (.lst (intsV m (X i)))).length := by rw [List.length_set, List.length_set, List.length_append]; exact Nat.le_add_right _ _
  have hB1 : B < (σ' ++ τ1).length := (List.getElem?_eq_some_iff.mp (ap (τ := τ1) hh)).1
  have h3 : (((σ' ++ τ1).set B (.lst [])).set B (.lst (intsV m (X i))))[B]? = some (.lst (intsV m (X i))) := List.getElem?_set_self (by rw [List.length_set]; exact hB1)
  have h3t : (((σ' ++ τ1).set B (.lst [])).set B (.lst (intsV m (X i))))[B + 1]? = some (.lst (ts.map V.ref)) := set_keep (set_keep (ap T.ht) (Nat.succ_ne_self B)) (Nat.succ_ne_self B)
  have h2 : ((σ' ++ τ1).set B (.lst []))[B]? = some (.lst []) := List.getElem?_set_self hB1
  have h2L : ((σ' ++ τ1).set B (.lst []))[L i]? = some (.lst (intsV m (X i))) := set_keep (ap hLj) (Nat.ne_of_lt hLB)
  have h2r : ((σ' ++ τ1).set B (.lst []))[lr]? = some (.lst rs) := by
    obtain ⟨rs', q, _⟩ := A.hr
    exact set_keep (ap hr1) (lt1 q).1
  have ext : methV .extend B [] [.ref (L i)] ((σ' ++ τ1).set B (.lst [])) = .ok .none (((σ' ++ τ1).set B (.lst [])).set B (.lst (intsV m (X i)))) := by
    show (match getL ((σ' ++ τ1).set B (.lst [])) (L i) with | some ys => if ([] : List V).length + ys.length ≤ 16777216 ∧ L i ≠ B then RE.ok .none (setL ((σ' ++ τ1).set B (.lst [])) B ([] ++ ys)) else .bad | none => .bad) = _
    rw [getL_some h2L]
    exact if_pos ⟨by rw [List.length_nil, Nat.zero_add]; exact hm16, Nat.ne_of_lt hLB⟩
  have A3 := A.up (Up.of h0 (by rw [hB]; exact K.trans k3))
  generalize ((σ' ++ τ1).set B (.lst [])).set B (.lst (intsV m (X i))) = σ3 at *
  -- the turns
  obtain ⟨ls, τ4, e4, R4, f4⟩ := turns_ok (wf := wf) (n := n + 1) (c := C i) S.T A3.W S.G h3 hCj
  obtain ⟨d, lw', a, b, _⟩ := A3.W.at'
  have h4 : ∀ {k o}, σ3[k]? = some o → (accS (σ3 ++ [.lst (intsV m (X i))]) (ls.map V.ref) τ4)[k]? = some o := fun h => ap (ap h)
  have ht4 : (accS (σ3 ++ [.lst (intsV m (X i))]) (ls.map V.ref) τ4)[σ3.length + 1]? = some (.lst (ls.map V.ref)) := by
    have := ap_new (σ := σ3 ++ [.lst (intsV m (X i))]) (o := .lst (ls.map V.ref)) (τ := τ4)
    rwa [List.length_append] at this
  have k4 : Kept B (B + 2) σ3 (accS (σ3 ++ [.lst (intsV m (X i))]) (ls.map V.ref) τ4) := fun _ _ _ h => h4 h
  generalize hσ4 : accS (σ3 ++ [.lst (intsV m (X i))]) (ls.map V.ref) τ4 = σ4 at *
  have l4 : σ3.length ≤ σ4.length := by rw [← hσ4]; unfold accS; rw [List.append_assoc, List.length_append]; exact Nat.le_add_right _ _
  have k5 : Kept B (B + 2) σ4 (σ4.set (B + 1) (.lst ((ts ++ [σ3.length + 1]).map V.ref))) := Kept.set (Nat.le_succ _) (Nat.lt_succ_self _)
  have hb3 : bd i ≤ σ3.length := Nat.le_trans T.hi l3
  have H4 : Held σ4 (σ3.length + 1) m (runT ws (X i)) (C i) (bd i) σ4.length ls := by
    refine ⟨ht4, R4, ⟨Nat.le_succ_of_le hb3, (List.getElem?_eq_some_iff.mp ht4).1⟩, fun l hl => ⟨Nat.le_trans hb3 (f4 l hl), ?_⟩⟩
    obtain ⟨k, hk⟩ := List.getElem?_of_mem hl
    exact (List.getElem?_eq_some_iff.mp (R4.row k l hk).2).1
  have H5 := H4.keep k5 (.inr (T.lo i (Nat.le_refl _)))
  have l5' : (σ4.set (B + 1) (.lst ((ts ++ [σ3.length + 1]).map V.ref))).length = σ4.length := List.length_set
  have ht5 : (σ4.set (B + 1) (.lst ((ts ++ [σ3.length + 1]).map V.ref)))[B + 1]? = some (.lst ((ts ++ [σ3.length + 1]).map V.ref)) := List.getElem?_set_self (List.getElem?_eq_some_iff.mp (h4 h3t)).1
  have app : methV .append (B + 1) (ts.map V.ref) [.ref (σ3.length + 1)] σ4 = .ok .none (σ4.set (B + 1) (.lst ((ts ++ [σ3.length + 1]).map V.ref))) := by
    refine (m_app ?_).trans ?_
    · rw [List.length_map, T.len]; exact Nat.lt_trans hi (by decide)
    · unfold setL; rw [List.map_append]; rfl
  have U5 := A.up (Up.of h0 (by rw [hB]; exact K.trans (k3.trans (k4.trans k5))))
  have h5 : (σ4.set (B + 1) (.lst ((ts ++ [σ3.length + 1]).map V.ref)))[B]? = some (.lst (intsV m (X i))) := set_keep (h4 h3) (Nat.ne_of_lt (Nat.lt_succ_self _))
  have h5L : (σ4.set (B + 1) (.lst ((ts ++ [σ3.length + 1]).map V.ref)))[L i]? = some (.lst (intsV m (X i))) := by
    obtain ⟨_, _, q⟩ := U5.hr
    exact (q i hi).2
  have h5r : (σ4.set (B + 1) (.lst ((ts ++ [σ3.length + 1]).map V.ref)))[lr]? = some (.lst rs) := (k3.trans (k4.trans k5)) _ _ (.inl (by
    obtain ⟨rs', q, _⟩ := A.hr
    rw [← hB]; exact (List.getElem?_eq_some_iff.mp q).1)) hr1
  have h3c : σ3[lc]? = some (.lst cs) := k3 _ _ (.inl (by
    obtain ⟨cs', q, _⟩ := A.hc
    rw [← hB]; exact (List.getElem?_eq_some_iff.mp q).1)) hc1
  obtain ⟨bd', T'⟩ := T.next (k3.trans (k4.trans k5)) (by rw [l5']; exact Nat.le_trans hb3 l4) (by rw [l5']; exact H5) ht5
  exact ⟨_, _, s_expr' (e_call (es_cons (e_loc rfl) (es_cons (e_sub (e_loc rfl) (e_loc rfl) (sub_lst hr1 hrj)) (es_cons (e_call (es_cons (e_loc rfl) (es_cons (e_bin e_int (e_loc rfl) rfl) es_nil)) (cell_ok S.h20 A1.hs (30 + i))) es_nil))) e1)
    (s_clear (e_loc rfl) (ap hh) (s_expr' (e_meth (e_loc rfl) (getL_some h2) (es_cons (e_sub (e_loc rfl) (e_loc rfl) (sub_lst h2r hrj)) es_nil) (getL_some h2) ext)
      (s_expr' (e_meth (e_loc rfl) (getL_some h3t) (es_cons (e_umeth (e_loc rfl) a b (es_cons (e_loc rfl) (es_cons (e_sub (e_loc rfl) (e_loc rfl) (sub_lst h3c hcj)) es_nil)) e4) es_nil) (getL_some (h4 h3t)) app)
        (s_skip (e_cmp (e_loc rfl) (e_sub (e_loc rfl) (e_loc rfl) (sub_lst h5r hrj)) (ne_ints h5 h5L)) s_nil)))),
    ⟨_, rfl⟩, K.trans (k3.trans (k4.trans k5)), ⟨_, h5, fun _ => rfl⟩, _, _, T'⟩
set_option tactic.hygienic false in
theorem law05_turn2 {c lo : Nat} {σ1 : Sto} (S : StirG P wf m ws) (A : Base05 σ sc m lw l5 lr lc ws L X C) (hB : σ.length = B) (U : Up σ σ1) (h21 : P 21 = some fWhole) (h27 : P 27 = some fNext) (h28 : P 28 = some fRowsGood) (h29 : P 29 = some fTurnsGood) (T : Tolds σ1 ts m ws X C B 4 bd) (hi : i < 4) {fr : Fra} (hfr : ∃ x6, fr = lawF05 m lw lt c l5 x6 lo lr lc B) (K : Kept (bd 0) (bd i) σ1 σ') :
    Turn [6] true (evSs (evFn P wf (n + 6)) wf law05B) (.int i) fr σ' (fun fr σ' => (∃ x6, fr = lawF05 m lw lt c l5 x6 lo lr lc B) ∧ Kept (bd 0) (bd (i + 1)) σ1 σ') (fun _ _ => False) := by
  obtain ⟨x6, rfl⟩ := hfr
  refine ⟨lawF05 m lw lt c l5 (some (.int i)) lo lr lc B, rfl, .inl ?_⟩
  have hlo := T.lo 0 (Nat.zero_le _)
  have A1 := A.up (σ' := σ') fun k o h => K k o (.inl (Nat.lt_of_lt_of_le (by rw [← hB]; exact (List.getElem?_eq_some_iff.mp h).1) (Nat.le_trans (Nat.le_add_right _ _) hlo))) (U k o h)
  obtain ⟨rs, hr1, hr2⟩ := A1.hr
  obtain ⟨cs, hc1, hc2⟩ := A1.hc
  obtain ⟨hrj, hLj⟩ := hr2 i hi
  obtain ⟨hcj, hCj⟩ := hc2 i hi
  obtain ⟨t, ls, ht, H⟩ := T.held i hi
  obtain ⟨σ2, e, K2⟩ := turns_good_ok (wf := wf) (n := n + 3) h21 h27 h28 h29 A1.hlw S.G hLj hCj (H.keep K (.inr (Nat.le_refl _)))
  have up : ∀ j, j ≤ i → bd 0 ≤ bd j := fun j hj => by
    induction j with
    | zero => exact Nat.le_refl _
    | succ j ih => exact Nat.le_trans (ih (Nat.le_of_succ_le hj)) (T.mono j (Nat.lt_trans hj hi))
  have htl : σ'[B + 1]? = some (.lst (ts.map V.ref)) := K _ _ (.inl hlo) T.ht
  exact ⟨_, _, s_skip (e_notT (e_call (es_cons (e_sub (e_loc rfl) (e_loc rfl) (sub_lst htl (by rw [List.getElem?_map, ht]; rfl))) (es_cons (e_loc rfl) (es_cons (e_sub (e_loc rfl) (e_loc rfl) (sub_lst hr1 hrj)) (es_cons (e_sub (e_loc rfl) (e_loc rfl) (sub_lst hc1 hcj)) es_nil)))) e)) s_nil, ⟨_, rfl⟩,
    (K.wide (Nat.le_refl _) (T.mono i hi)).trans (K2.wide (up i (Nat.le_refl _)) (Nat.le_refl _))⟩
end
noncomputable def preF (m lw lt : Nat) (x4 x5 x7 x8 x9 x10 x11 : Option V) : Fra := [some (.ref 0), some (.int m), some (.ref lw), some (.ref lt), x4, x5, none, x7, x8, x9, x10, x11, none, none, none, none, none, none, none, none, none, none]
set_option tactic.hygienic false in
theorem count_ok (h20 : P 20 = some fCellAt) (hs : ScriptAt σ sc) : ∃ c τ, c ≤ 1000 ∧ ∀ ss r, evSs (evFn P wf (n + 1)) wf ss (preF m lw lt (some (.int (c : Nat))) none none none none none none) (σ ++ τ) = r →
    evSs (evFn P wf (n + 1)) wf (S.asg 4 (E.bin Operator.Mod (E.call 20 [E.loc 0, E.int 22]) ((E.list [E.int 20, E.int 8]).sub (E.blt BN.int [E.cmp CmpOp.Gt (E.loc 1) (E.int 6)]))) ::
      S.ifS ((E.cmp CmpOp.Lt (E.loc 1) (E.int 3)).and (E.cmp CmpOp.Eq (E.bin Operator.Mod (E.bin Operator.FloorDiv (E.call 20 [E.loc 0, E.int 22]) (E.int 20)) (E.int 3)) (E.int 1)))
        [S.asg 4 (E.bin Operator.Mod (E.bin Operator.FloorDiv (E.call 20 [E.loc 0, E.int 22]) (E.int 60)) (E.int 200))] [] :: ss) (preF m lw lt none none none none none none none) σ = r := by
  have ec : ∀ {fr : Fra} τ, fr[0]? = some (some (.ref 0)) → evE (evFn P wf (n + 1)) (E.call 20 [E.loc 0, E.int 22]) fr (σ ++ τ) = .ok (.int (sc.getD 22 0)) (σ ++ τ) := fun τ h0 => e_call (es_cons (e_loc h0) (es_cons e_int es_nil)) (cell_ok h20 (ap hs) 22)
  generalize sc.getD 22 0 = cell at ec
  have ec0 := ec (fr := preF m lw lt none none none none none none none) [] rfl
  rw [List.append_nil] at ec0
  obtain ⟨q, hq, eq⟩ : ∃ q : Nat, (1 ≤ q ∧ q ≤ 20) ∧ evE (evFn P wf (n + 1)) ((E.list [E.int 20, E.int 8]).sub (E.blt BN.int [E.cmp CmpOp.Gt (E.loc 1) (E.int 6)])) (preF m lw lt none none none none none none none) σ = .ok (.int q) (σ ++ [.lst [.int 20, .int 8]]) := by
    have go : ∀ (b : Bool) (k q : Nat), decide ((6 : Int) < (m : Int)) = b → (bltV .int [.bool b] (σ ++ [.lst [.int 20, .int 8]]) = .ok (.int k) (σ ++ [.lst [.int 20, .int 8]])) → [V.int 20, V.int 8][k]? = some (.int q) → evE (evFn P wf (n + 1)) ((E.list [E.int 20, E.int 8]).sub (E.blt BN.int [E.cmp CmpOp.Gt (E.loc 1) (E.int 6)])) (preF m lw lt none none none none none none none) σ = .ok (.int q) (σ ++ [.lst [.int 20, .int 8]]) := fun b k q hb hk hq =>
      e_sub (e_list (es_cons e_int (es_cons e_int es_nil)) (newL_fits (by decide : 2 ≤ 16777216))) (e_blt (es_cons (e_cmp (p := b) (e_loc rfl) e_int (congrArg some hb)) es_nil) hk) (sub_lst ap_new hq)
    cases hb : decide ((6 : Int) < (m : Int)) with
    | true => exact ⟨8, by decide, go true 1 8 hb rfl rfl⟩
    | false => exact ⟨20, by decide, go false 0 20 hb rfl rfl⟩
  obtain ⟨c, hc, ecc⟩ := cell_mod q hq.1 cell
  obtain ⟨c', hc', ecc'⟩ := cell_mod 200 (by decide) (cell.fdiv 60)
  have e4 := e_bin (op := .Mod) ec0 eq ((b_fmod (by have := hq.1; lia)).trans (congrArg (fun z => RE.ok (.int z) (σ ++ [.lst [.int 20, .int 8]])) ecc))
  have hl : 4 < (preF m lw lt none none none none none none none).length := (by decide : 4 < 22)
  have et : evE (evFn P wf (n + 1)) ((E.cmp CmpOp.Lt (E.loc 1) (E.int 3)).and (E.cmp CmpOp.Eq (E.bin Operator.Mod (E.bin Operator.FloorDiv (E.call 20 [E.loc 0, E.int 22]) (E.int 20)) (E.int 3)) (E.int 1))) (preF m lw lt (some (.int c)) none none none none none none) (σ ++ [.lst [.int 20, .int 8]]) = .ok (.bool (decide ((m : Int) < 3) && ((cell.fdiv 20).fmod 3 == 1))) (σ ++ [.lst [.int 20, .int 8]]) :=
    e_and (e_cmp (e_loc rfl) e_int rfl) fun _ => e_cmp (e_bin (e_bin (ec _ rfl) e_int (b_fdiv (by decide) (by decide))) e_int (b_fmod (by decide))) e_int rfl
  cases hb : (decide ((m : Int) < 3) && ((cell.fdiv 20).fmod 3 == 1)) with
  | true =>
    rw [hb] at et
    exact ⟨c', [.lst [.int 20, .int 8]], Nat.le_trans (Nat.le_of_lt hc') (by decide), fun ss r h => s_asg' e4 hl (s_if_t et (s_asg' (e_bin (e_bin (ec _ rfl) e_int (b_fdiv (by decide) (by decide))) e_int ((b_fmod (by decide)).trans (congrArg (fun z => RE.ok (.int z) (σ ++ [.lst [.int 20, .int 8]])) ecc'))) (by decide : 4 < 22) s_nil) h)⟩
  | false =>
    rw [hb] at et
    exact ⟨c, [.lst [.int 20, .int 8]], Nat.le_trans (Nat.le_of_lt hc) (Nat.le_trans hq.2 (by decide)), fun ss r h => s_asg' e4 hl (s_skip et h)⟩
noncomputable def sel {α : Type} (a b : α) : Nat → α
  | 1 => b
  | 2 => b
  | _ => a
noncomputable def selC (c d : Nat) : Nat → Nat
  | 2 => d
  | _ => c
set_option tactic.hygienic false in
theorem four {p : Nat → Prop} (h0 : p 0) (h1 : p 1) (h2 : p 2) (h3 : p 3) : ∀ j, j < 4 → p j
  | 0, _ => h0
  | 1, _ => h1
  | 2, _ => h2
  | 3, _ => h3
  | j + 4, h => absurd h (Nat.not_lt_of_le (Nat.le_add_left _ _))
set_option tactic.hygienic false in
theorem back_ok {call : Nat → List V → Sto → RE} {c l5 : Nat} (hm : m ≤ 12) (hlt : σ[lt]? = some (.lst (intsV m x))) :
    evE call (E.comp [1] true (E.blt BN.range [E.loc 1]) [] (E.bin Operator.FloorDiv ((E.loc 3).sub (E.bin Operator.Sub (E.bin Operator.Sub (E.loc 2) (E.int 1)) (E.loc 1))) (E.int 2)) [none, none, some 1, some 3]) (preF m lw lt (some (.int (c : Nat))) (some (.ref l5)) none none none none none) σ
      = .ok (.ref σ.length) (σ ++ [.lst (intsV m fun v => (x (m - 1 - v)).fdiv 2)]) := by
  refine e_compR (ws := List.range m) (g := fun (v : Nat) => V.int v) (p := fun _ => true) (f := fun v => V.int ((x (m - 1 - v)).fdiv 2)) (e_blt (es_cons (e_loc rfl) es_nil) (b_range' (Nat.le_trans hm (by decide)))) (rng_nat m) (fun v hv => ⟨_, rfl, t_nil, fun _ => ?_⟩) ?_
  · have hv' := List.mem_range.mp hv
    refine e_bin (e_sub (e_loc rfl) (e_bin (e_bin (e_loc rfl) e_int rfl) (e_loc rfl) (?_ : _ = RE.ok (.int (m - 1 - v : Nat)) _)) (sub_lst hlt (intsV_get (by lia)))) e_int (b_fdiv (by decide) (by decide))
    show RE.ok (V.int ((m : Int) - 1 - (v : Int))) _ = _
    rw [show ((m : Int) - 1 - (v : Int)) = ((m - 1 - v : Nat) : Int) by lia]
  · rw [List.filter_eq_self.mpr (fun _ _ => rfl)]
    exact newL_fits (by rw [List.length_map, List.length_range]; exact Nat.le_trans hm (by decide))
set_option tactic.hygienic false in
theorem law05_end {c l5 lo lr lc : Nat} (Z : StirG P wf m ws) (h21 : P 21 = some fWhole) (h27 : P 27 = some fNext) (h28 : P 28 = some fRowsGood) (h29 : P 29 = some fTurnsGood) (hs : ScriptAt σ sc) (ht1 : σ[1]? = some (.tab true)) (hlw : σ[lw]? = some (.lst (ws.map wayV))) (W : WebAt σ l5 m ws) (hlt : σ[lt]? = some (.lst (intsV m x))) (hlo : σ[lo]? = some (.lst (intsV m y)))
    (hr : σ[lr]? = some (.lst [.ref lt, .ref lo, .ref lo, .ref lt])) {d : Nat} (hc : σ[lc]? = some (.lst [.int c, .int c, .int d, .int c])) (h1 : c ≤ 1000) (h2 : d ≤ 1000) :
    ∃ fr σ', evSs (evFn P wf (n + 6)) wf [S.asg 10 (E.list []), S.asg 11 (E.list []), S.forS [6] true (It.e (E.blt BN.range [E.int 4])) law05A, S.forS [6] true (It.e (E.blt BN.range [E.int 4])) law05B,
      S.ret ((E.cmp CmpOp.Eq (E.loc 10) (E.loc 3)).and (E.cmp CmpOp.Eq ((E.loc 5).attr 1) (E.loc 2)))] (preF m lw lt (some (.int c)) (some (.ref l5)) (some (.ref lo)) (some (.ref lr)) (some (.ref lc)) none none) σ = .ok (.ret (.bool true)) fr σ' ∧ ScriptAt σ' sc ∧ σ'[1]? = some (.tab true) := by
  have A : Base05 σ sc m lw l5 lr lc ws (sel lt lo) (sel x y) (selC c d) := ⟨hs, hlw, W, ⟨_, hr, four ⟨rfl, hlt⟩ ⟨rfl, hlo⟩ ⟨rfl, hlo⟩ ⟨rfl, hlt⟩⟩, ⟨_, hc, four ⟨rfl, h1⟩ ⟨rfl, h1⟩ ⟨rfl, h2⟩ ⟨rfl, h1⟩⟩⟩
  have hB2 : (σ ++ [AO.lst []])[σ.length]? = some (.lst []) := ap_new
  have hl2 : (σ ++ [AO.lst []]).length = σ.length + 1 := by rw [List.length_append]; rfl
  have hB3 : (σ ++ [AO.lst []] ++ [AO.lst []])[σ.length + 1]? = some (.lst []) := ap2_new
  have hσ : σ ++ [AO.lst []] ++ [AO.lst []] = σ ++ ([.lst []] ++ [.lst []]) := List.append_assoc _ _ _
  have hl3 : (σ ++ [AO.lst []] ++ [AO.lst []]).length = σ.length + 2 := by rw [List.length_append, List.length_append]; rfl
  obtain ⟨fr1, σ1, e1, I⟩ := (s_forR (call := evFn P wf (n + 6)) (wf := wf) (tg := [6]) (one := true) (ws := List.range 4) (g := fun (v : Nat) => V.int v) (it := E.blt BN.range [E.int 4]) (bs := law05A) (fr := lawF05 m lw lt c l5 none lo lr lc σ.length) (σ := σ ++ [AO.lst []] ++ [AO.lst []])
    (In1 (σ ++ [AO.lst []] ++ [AO.lst []]) (fun x6 => lawF05 m lw lt c l5 x6 lo lr lc σ.length) m ws (sel x y) (selC c d) σ.length) (fun _ _ => False) (e_blt (es_cons e_int es_nil) (b_range' (k := 4) (by decide))) (rng_nat 4)
    (by
      intro i v fr σ' hv I
      obtain ⟨hi, rfl⟩ := range_get hv
      exact law05_turn Z A rfl hσ hi I)
    ⟨⟨none, rfl⟩, Kept.refl, ⟨[], ap hB2, fun h => absurd h (by decide)⟩, [], fun _ => σ.length + 2, hB3, rfl, fun _ _ => Nat.le_refl _, fun _ _ => Nat.le_refl _, Nat.le_of_eq hl3.symm, fun j h => absurd h (Nat.not_lt_zero _)⟩).next
  rw [List.length_range] at I
  obtain ⟨⟨x6, rfl⟩, K, ⟨hs1, hh, hh'⟩, ts, bd, T⟩ := I
  have hh := hh' (by decide) ▸ hh
  have U := Up.of hσ K
  obtain ⟨fr2, σ2, e2, ⟨y6, rfl⟩, K2⟩ := (s_forR (call := evFn P wf (n + 6)) (wf := wf) (tg := [6]) (one := true) (ws := List.range 4) (g := fun (v : Nat) => V.int v) (it := E.blt BN.range [E.int 4]) (bs := law05B) (fr := lawF05 m lw lt c l5 x6 lo lr lc σ.length) (σ := σ1)
    (fun i fr σ' => (∃ x6, fr = lawF05 m lw lt c l5 x6 lo lr lc σ.length) ∧ Kept (bd 0) (bd i) σ1 σ') (fun _ _ => False) (e_blt (es_cons e_int es_nil) (b_range' (k := 4) (by decide))) (rng_nat 4)
    (by
      intro i v fr σ' hv I
      obtain ⟨hi, rfl⟩ := range_get hv
      exact law05_turn2 Z A rfl U h21 h27 h28 h29 T hi I.1 I.2) ⟨⟨x6, rfl⟩, Kept.refl⟩).next
  have hlo0 := T.lo 0 (Nat.zero_le _)
  have up : ∀ {k o}, σ[k]? = some o → σ2[k]? = some o := fun {k o} h => K2 k o (.inl (Nat.lt_of_lt_of_le (List.getElem?_eq_some_iff.mp h).1 (Nat.le_trans (Nat.le_add_right _ _) hlo0))) (U k o h)
  have hh2 : σ2[σ.length]? = some (.lst (intsV m x)) := K2 _ _ (.inl (Nat.lt_of_lt_of_le (Nat.lt_add_of_pos_right (by decide)) hlo0)) hh
  obtain ⟨dd, lw', a, b, c'⟩ := W.at'
  exact ⟨_, _, s_asg' (e_list es_nil (newL_fits (by decide : 0 ≤ 16777216))) (by decide : 10 < 22) (s_asg' ((e_list es_nil (newL_fits (by decide : 0 ≤ 16777216))).trans (by rw [hl2])) (by decide : 11 < 22) (s_cons e1 (s_cons e2
    (s_ret' (e_and_t (e_cmp (e_loc rfl) (e_loc rfl) (eq_ints hh2 (up hlt))) (e_cmp (e_attr (e_loc rfl) (attr_ways (up a) (up b))) (e_loc rfl) (eq_ways (up c') (up hlw)))))))), up hs, up ht1⟩
set_option tactic.hygienic false in
theorem law05_ok (HL : DefsL P 10000) (h24 : P 24 = some fMany) (h25 : P 25 = some (fWays 1 14 13 waysTail)) (h26 : P 26 = some fTimes05) (h27 : P 27 = some fNext) (h28 : P 28 = some fRowsGood) (h29 : P 29 = some fTurnsGood) (h30 : P 30 = some fLaw05) (S : ∀ m ws, WebGood m ws → StirG P wf m ws) :
    ∃ σ', evFn P wf (n + 7) 30 [.ref 0] [.frz (sc.map V.int), .tab false] = .ok (.bool true) σ' ∧ σ'[0]? = some (.frz (sc.map V.int)) ∧ ∃ b, σ'[1]? = some (.tab b) := by
  obtain ⟨m, m1, m2, e1⟩ := many_ok (wf := wf) (n := n + 4) (σ := [.frz (sc.map V.int), .tab false]) (sc := sc) HL.h20 h24 rfl
  obtain ⟨ws, lw, σ1, G, e2, hs, ht, hlw⟩ := ways10_ok (wf := wf) (n := n + 4) (sc := sc) HL h25 m1 m2
  have X := S m ws G
  obtain ⟨x, τ2, e3⟩ := times05_ok (wf := wf) (n := n + 4) HL.h20 h26 hs m2
  have hs2 : ScriptAt (accS σ1 (intsV m x) τ2) sc := ap hs
  have ht2 : (accS σ1 (intsV m x) τ2)[1]? = some (.tab true) := ap ht
  have hlw2 : (accS σ1 (intsV m x) τ2)[lw]? = some (.lst (ws.map wayV)) := ap hlw
  have hlt2 : (accS σ1 (intsV m x) τ2)[σ1.length]? = some (.lst (intsV m x)) := ap_new
  generalize σ1.length = lt at *
  generalize accS σ1 (intsV m x) τ2 = σ2 at *
  obtain ⟨c, τ3, hc, e4⟩ := count_ok (P := P) (wf := wf) (n := n + 5) (σ := σ2) (sc := sc) (m := m) (lw := lw) (lt := lt) HL.h20 hs2
  have hz : (ws.map wayV).length ≤ 16777216 := by rw [List.length_map]; exact Nat.le_trans G.hz (by decide)
  obtain ⟨l5, τ5, e5, W⟩ := mk_ok (wf := wf) (n := n + 3) (σ := σ2 ++ τ3) (σ1 := σ2 ++ τ3 ++ [.lst (ws.map wayV)]) X.HW (es := [E.loc 1, E.blt BN.list [E.loc 2]]) (fr := preF m lw lt (some (.int c)) none none none none none none) (es_cons (e_loc rfl) (es_cons (e_blt (es_cons (e_loc rfl) es_nil) (b_list' (ap hlw2) hz)) es_nil)) ap_new G (Nat.le_trans (by decide) (Nat.le_of_lt X.hw))
  have up : ∀ {k o}, σ2[k]? = some o → (σ2 ++ τ3 ++ [.lst (ws.map wayV)] ++ τ5)[k]? = some o := fun h => ap (ap (ap h))
  generalize σ2 ++ τ3 ++ [.lst (ws.map wayV)] ++ τ5 = σ5 at *
  have e7 := back_ok (call := evFn P wf (n + 6)) (lw := lw) (c := c) (l5 := l5) m2 (up hlt2)
  obtain ⟨fr, σ', e9, q1, q2⟩ := law05_end (n := n) (c := c) (d := (c + 3) % 6) (lo := σ5.length) (lr := (σ5 ++ [AO.lst (intsV m fun v => (x (m - 1 - v)).fdiv 2)]).length) (lc := (σ5 ++ [AO.lst (intsV m fun v => (x (m - 1 - v)).fdiv 2)] ++ [AO.lst [.ref lt, .ref σ5.length, .ref σ5.length, .ref lt]]).length) (y := fun v => (x (m - 1 - v)).fdiv 2) (σ := σ5 ++ [.lst (intsV m fun v => (x (m - 1 - v)).fdiv 2)] ++ [.lst [.ref lt, .ref σ5.length, .ref σ5.length, .ref lt]] ++ [.lst [.int c, .int c, .int ((c + 3) % 6 : Nat), .int c]])
    X HL.h21 h27 h28 h29 (ap (ap (ap (up hs2)))) (ap (ap (ap (up ht2)))) (ap (ap (ap (up hlw2)))) W.app.app.app (ap (ap (ap (up hlt2)))) (ap (ap ap_new)) (ap ap_new) ap_new hc (Nat.le_trans (Nat.le_of_lt (Nat.mod_lt _ (by decide))) (by decide))
  exact ⟨σ', f_ret h30 rfl (s_asg' (e_call (es_cons (e_loc rfl) es_nil) e1) (by decide : 1 < 22) (s_asg' (e_call (es_cons (e_loc rfl) (es_cons (e_loc rfl) es_nil)) e2) (by decide : 2 < 22) (s_asg' (e_call (es_cons (e_loc rfl) (es_cons (e_loc rfl) es_nil)) e3) (by decide : 3 < 22) (e4 _ _ (s_asg' e5 (by decide : 5 < 22) (s_asg' e7 (by decide : 7 < 22)
    (s_asg' (e_list (es_cons (e_loc rfl) (es_cons (e_loc rfl) (es_cons (e_loc rfl) (es_cons (e_loc rfl) es_nil)))) (newL_fits (by decide : 4 ≤ 16777216))) (by decide : 8 < 22) (s_asg' (e_list (es_cons (e_loc rfl) (es_cons (e_loc rfl) (es_cons (e_bin (e_bin (e_loc rfl) e_int rfl) e_int (b_mod (x := c + 3) (y := 6) (by decide))) (es_cons (e_loc rfl) es_nil)))) (newL_fits (by decide : 4 ≤ 16777216))) (by decide : 9 < 22) e9)))))))), q1, true, q2⟩
end
end Mine

set_option autoImplicit false
set_option maxRecDepth 100000
namespace Mine
open PySem PyProof.Rows PySem.W

noncomputable def cA : CE := { names := [], fns := [("common", 0), ("lowest", 1), ("mean", 2), ("led_on", 3), ("ring_behind", 4), ("slower", 5), ("any_ring", 6), ("pace", 7), ("is_whole", 8), ("come_to", 9), ("is_joined", 10), ("settled", 18), ("_law_stirred", 19), ("_law_cell_at", 20), ("_law_whole", 21), ("_law_mixed", 22), ("_law_delay_by", 23), ("_law_many", 24), ("_law_ways", 25), ("_law_times", 26), ("_law_next", 27), ("_law_rows_good", 28), ("_law_turns_good", 29)], clss := [("Web", 11)], excs := [("BadCount", 0), ("NoMeeting", 1), ("BadDelay", 2), ("Apart", 3), ("NoRing", 4), ("BadPace", 5)], mths := [("need", 12), ("delay", 13), ("turned", 14), ("into", 15), ("ahead", 16), ("turns", 17)], attrs := [("many", 0), ("ways", 1)], consts := [("MOST_MEETINGS", 12), ("MOST_WAYS", 60), ("MOST_DELAY", 9999)], lam := none }
noncomputable def cL : CE := { cA with lam := some 273 }
noncomputable def cOf (k : Nat) : CE := if k = 25 then cL else cA
noncomputable def faOf (k : Nat) : Option Addr := ([some 180, some 187, some 194, some 201, some 208, some 215, some 220, some 227, some 106, some 113, some 118, some 132, some 139, some 149, some 166, some 144, some 154, some 161, some 232, some 303, some 239, some 246, some 253, some 260, some 267, some 274, some 281, some 286, some 291, some 298, some 308] : List (Option Addr))[k]?.join
structure CompN (K : Frag) : Prop where
  q0 : compFn K cA 180 = some fCommon
  q1 : compFn K cA 187 = some fLowest
  q2 : compFn K cA 194 = some fMean
  q3 : compFn K cA 201 = some fLedOn
  q4 : compFn K cA 208 = some fRingBehind
  q5 : compFn K cA 215 = some fSlower
  q6 : compFn K cA 220 = some fAnyRing
  q7 : compFn K cA 227 = some fPace
  q8 : compFn K cA 106 = some fIsWhole
  q9 : compFn K cA 113 = some fComeTo
  q10 : compFn K cA 118 = some fIsJoined
  q11 : compFn K cA 132 = some fInit
  q12 : compFn K cA 139 = some fNeed
  q13 : compFn K cA 149 = some fDelay
  q14 : compFn K cA 166 = some fTurned
  q15 : compFn K cA 144 = some fInto
  q16 : compFn K cA 154 = some fAhead
  q17 : compFn K cA 161 = some fTurns
  q18 : compFn K cA 232 = some fSettled
  q19 : compFn K cA 303 = some fStirred
  q20 : compFn K cA 239 = some fCellAt
  q21 : compFn K cA 246 = some fWhole
  q22 : compFn K cA 253 = some fMixed
  q23 : compFn K cA 260 = some (fDelayBy 10000)
  q24 : compFn K cA 267 = some fMany
  q25 : compFn K cL 274 = some (fWays 1 14 13 waysTail)
  q26 : compFn K cA 281 = some fTimes05
  q27 : compFn K cA 286 = some fNext
  q28 : compFn K cA 291 = some fRowsGood
  q29 : compFn K cA 298 = some fTurnsGood
  q30 : compFn K cA 308 = some fLaw05
theorem joinN {prog : Program} {w : World} {K : Frag} {mg mb : Str → Option Value} {s₁ : Shared} {scr : Addr} {vs : List Value} {is : List Int}
    (KX : K.In s₁.heap) (Tg : s₁.heap.Ns mainGlobals mg) (Tb : s₁.heap.Ns builtinsNs mb) (hb : ∀ x : Str, x ≠ "__name__" → mb x = bootBuiltins x) (lim : s₁.heap.NoLimit)
    (hl : s₁.heap.get? scr = some { cls := .type "list", data := .seq vs.toArray }) (hi : IntsAre vs is) (hlen : is.length ≤ 63)
    (hT : TabsAt [(273, 269)] s₁.heap) (hB : ∃ bm ob, mg "__builtins__" = some (.ref bm) ∧ bm ≠ builtinsNs ∧ s₁.heap.get? bm = some ob ∧ ob.cls = .type "module" ∧ ob.dict = some builtinsNs ∧ ob.data = .plain)
    (hK : K.all (fun p => !(p.2.cls == .type "list") && !(p.1 == 269)) = true) (chk : chkG K cA 169 [(0, "many"), (1, "ways")] faOf = true) (chk' : chkG K cL 169 [(0, "many"), (1, "ways")] faOf = true) (Q : CompN K)
    {R : Result → Shared → Prop} (hR : ∀ h' tk, (∀ (b : Addr) (o : Obj), (ghostOf s₁.heap [(273, 269)]).get? b = some o → h'.get? b = some o) → GrownAll [(273, 269)] h' → R (.ok (.ret (.bool true))) { s₁ with heap := h', toks := tk }) :
    codeAny (model prog w) callerA (.call (.ref 308) ⟨[.ref scr], []⟩) R s₁ := by
  obtain ⟨σ', ev, h0, h1⟩ := law05_ok (P := Pof K cOf faOf) (wf := 10 ^ 100) (n := 0) (sc := is) ⟨Q.q20, Q.q21, Q.q22, Q.q23⟩ Q.q24 Q.q25 Q.q26 Q.q27 Q.q28 Q.q29 Q.q30 (fun m ws G => ⟨⟨Q.q8, Q.q12, Q.q15, Q.q16, Q.q17⟩, Q.q18, Q.q19, ⟨⟨Q.q0, Q.q1, Q.q2, Q.q8, Q.q12, Q.q13⟩, Q.q3, Q.q4, Q.q5, Q.q6, Q.q7⟩, ⟨Q.q8, Q.q9, Q.q10, Q.q11⟩, Q.q14, Q.q20, G, by decide⟩)
  exact joinT (c := cOf) (C := 169) (at' := [(0, "many"), (1, "ways")]) (fa := faOf) (n := 7) (lawI := 30) KX Tg Tb hb lim hl hi hlen hT hB hK (fun k => by unfold cOf; split; exact chk'; exact chk) (by decide) (by decide) rfl ⟨by decide, by decide, rfl⟩ (fun k x h => by
    unfold cOf at h
    split at h
    · exact (Option.some.inj h).symm
    · cases h) ev h0 h1 hR
end Mine
open PySem PySem.W PyProof.Rows
set_option Elab.async false
set_option maxHeartbeats 8000000 in
theorem PySem.Challenge.cw_uf060017_05_holds : PySem.Challenge.rw_uf060017_05.Holds := by
  w_on
  refine holds_law Mine.ws05 fun said => ?_
  refine PySem.W.holds_open (q := Mine.q05) (loose := []) (Xt := Mine.xt05) (XP := XL Mine.q05 []) (Yf := Mine.hk05.obs) (Ya := Mine.hk05.val) (YP := Mine.hk05.says) (N := 5486) Mine.left05 Mine.hk05.of Mine.hk05.keeps (fun s e => xl_of s (Bool.and_eq_true_iff.mp e).1) XL.keeps (by rfl) (by rfl) (by rfl) (fun s e => recFacts_of (Bool.and_eq_true_iff.mp e).2) (by rfl) said (by decide +kernel) ⟨rfl, rfl, rfl, rfl, rfl, by decide +kernel⟩ ?hw ?hc
  case hw => w_witness2
  intro w s₀ s₁ mg mb G Y fa o pm cd doc dV kV ho hd hcd hD hmg hg args vals as hpre hlay hrd hwl hlo
  have KX : (Mine.K05 w.params).In s₁.heap := km_in_of Y
  have hT : TabsAt [(273, 269)] s₁.heap := fun q hq => by
    cases List.mem_singleton.mp hq
    exact ⟨codeHd_of_K KX (by kernel_rfl), km_tabs_of Y 269 (.head _)⟩
  refine Ground.open G ?_
  intro T B D TE TW
  clear hd hcd hD
  wrow_args hpre hlay hrd hwl hlo
  all_goals (first | refine callC_kw (enter_call ?_) | refine enter_call ?_)
  all_goals (w_top on)
  all_goals (refine kn_post hT (fun _ _ => rfl) ?_)
  rename Well _ _ _ _ => hW
  rename Heap.IsList _ _ _ => hL
  rename IntsAre _ _ => hI
  rename ¬ _ < _ => hcond
  have hfa : fa = 308 := by
    have h1 := mg_of (n := "law") (v := .ref 308) KX T.g (by kernel_rfl)
    have h2 : mg (Str.ofString "law") = some (.ref fa) := hmg
    rw [h2] at h1; cases h1; rfl
  subst hfa
  refine Mine.joinN KX T.g T.b T.builtins T.nolimit (Mine.list_obj hW hL) hI (by omega) hT T.bmain (by kernel_rfl) (by kernel_rfl) (by kernel_rfl) ⟨by kernel_rfl, by kernel_rfl, by kernel_rfl, by kernel_rfl, by kernel_rfl, by kernel_rfl, by kernel_rfl, by kernel_rfl, by kernel_rfl, by kernel_rfl, by kernel_rfl, by kernel_rfl, by kernel_rfl, by kernel_rfl, by kernel_rfl, by kernel_rfl, by kernel_rfl, by kernel_rfl, by kernel_rfl, by kernel_rfl, by kernel_rfl, by kernel_rfl, by kernel_rfl, by kernel_rfl, by kernel_rfl, by kernel_rfl, by kernel_rfl, by kernel_rfl, by kernel_rfl, by kernel_rfl, by kernel_rfl⟩ fun h' tk hk hgr => ?_
  refine ⟨⟨.inl ⟨.bool true, .bool true, [], rfl, fun _ => rfl, .bool true, Mine.law_post _ _ _, fun _ => ⟨List.nodup_nil, fun a ha => nomatch ha⟩⟩, hk, rfl, hg⟩, hgr⟩
