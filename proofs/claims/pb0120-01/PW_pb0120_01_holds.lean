import PyProof.Rows.All
import Wide.All
import OpenK.AllK
import Wide.FinOn
import PySem.Challenge.RW_pb0120_01
open PySem PySem.W PyProof.Rows
set_option Elab.async false
set_option maxRecDepth 100000
set_option maxHeartbeats 8000000
set_option linter.unusedVariables false
set_option linter.unusedSimpArgs false
namespace Mine
noncomputable section
theorem slot_bytes_eq_refl : Slot "bytes" (cmpInfo .Eq).2.2 "bytes.__eq__" :=
  Slot.of (owner := "bytes") (n := "__eq__") (by rw [typeLookup_type, builtinLookup_eq_fast]; kernel_rfl) (by decide +kernel) (by decide +kernel) (by decide +kernel) (.inl (by decide +kernel)) (by rw [isSubtype_type]; kernel_rfl)
theorem sub_bytes_bool' : isSubtype (.type "bytes") (.type "bool") = pure false := by rw [isSubtype_type]; kernel_rfl
theorem sub_bool_bytes' : isSubtype (.type "bool") (.type "bytes") = pure false := by rw [isSubtype_type]; kernel_rfl
theorem int_eq_bool_bytes (a : Bool) (b : Array UInt8) (u : Tok) : Gives (Builtin.«int.__eq__» ⟨[.bool a, .bytes b u], []⟩) (.val (Value.notImplemented)) :=
  .of_wp fun M A E s Q h => by obtain ⟨hp, g, d, tk, os⟩ := s; wp_walk; exact ⟨_, rfl, h⟩
theorem bytes_eq_bytes_bool (a : Bool) (b : Array UInt8) (u : Tok) : Gives (Builtin.«bytes.__eq__» ⟨[.bytes b u, .bool a], []⟩) (.val (Value.notImplemented)) :=
  .of_wp fun M A E s Q h => by
    obtain ⟨hp, g, d, tk, os⟩ := s
    wp_walk
    refine wpAny_of_eq sub_bool_bytes' ?_
    rw [if_pos (by rfl)]
    exact wpAny_bind (wpAny_rule (wpAny_pure ⟨_, rfl, h⟩))
section
variable {prog : Program} {w : World} {A : Around} {E : Value → Shared → Prop} {s : Shared}
theorem rc_bool_bytes {a : Bool} {b : Array UInt8} {u : Tok} {Q : Value → Shared → Prop} (h : Q (.bool false) s) : wpAny (model prog w) A (richCompare .Eq (.bool a) (.bytes b u)) Q E s :=
  EqNone.wpAny_richCompare_eq_decline (k := false) (fun _ => rfl) (fun s' => typeIs_bytes s' b u) (by decide) sub_bytes_bool' F.slot_bool_eq slot_bytes_eq_refl rfl
    (call_gives F.slot_bool_eq (rfl) F.entry_int_eq (F.args_int_eq_2 _ _) (int_eq_bool_bytes a b u)
      ⟨rfl, call_gives slot_bytes_eq_refl (typeIs_bytes s b u) FB.entry_bytes_eq (FB.args_bytes_eq_2 _ _) (bytes_eq_bytes_bool a b u) ⟨rfl, h⟩⟩)
theorem rc_bytes_bool {a : Bool} {b : Array UInt8} {u : Tok} {Q : Value → Shared → Prop} (h : Q (.bool false) s) : wpAny (model prog w) A (richCompare .Eq (.bytes b u) (.bool a)) Q E s :=
  EqNone.wpAny_richCompare_eq_decline (k := false) (fun s' => typeIs_bytes s' b u) (fun _ => rfl) (by decide) sub_bool_bytes' FB.slot_bytes_eq F.slot_bool_eq_refl rfl
    (call_gives FB.slot_bytes_eq (typeIs_bytes s b u) FB.entry_bytes_eq (FB.args_bytes_eq_2 _ _) (bytes_eq_bytes_bool a b u)
      ⟨rfl, call_gives F.slot_bool_eq_refl (rfl) F.entry_int_eq (F.args_int_eq_2 _ _) (int_eq_bool_bytes a b u) ⟨rfl, h⟩⟩)
theorem eqB_bool_bytes {a : Bool} {b : Array UInt8} {u : Tok} {Q : Bool → Shared → Prop} (h : Q false s) : wpAny (model prog w) A (eqBool (.bool a) (.bytes b u)) Q E s := by
  unfold eqBool
  try with_reducible refine wpAny_holding ?_
  rw [if_neg (by intro h; cases eq_of_beq h)]
  exact wpAny_bind (rc_bool_bytes (wpAny_truthy_bool h))
theorem eqB_bytes_bool {a : Bool} {b : Array UInt8} {u : Tok} {Q : Bool → Shared → Prop} (h : Q false s) : wpAny (model prog w) A (eqBool (.bytes b u) (.bool a)) Q E s := by
  unfold eqBool
  try with_reducible refine wpAny_holding ?_
  rw [if_neg (by intro h; cases eq_of_beq h)]
  exact wpAny_bind (rc_bytes_bool (wpAny_truthy_bool h))
end
noncomputable def isKK : Option (List UInt8) → Value → Bool
  | none, .bool b => !b
  | some k, v => isBytes k v
  | _, _ => false
theorem isKK_none {v : Value} (h : isKK none v = true) : v = .bool false := by
  cases v <;> simp [isKK] at h
  subst h; rfl
noncomputable def kkind (prog : Program) (w : World) : KeyKind prog w (Option (List UInt8)) where
  is := isKK
  hash k := match k with | none => reduceHash 0 | some b => (bytesKind prog w).hash b
  inj v a b ha hb := by
    cases a <;> cases b
    · rfl
    · have := isKK_none ha; subst this; simp [isKK, isBytes] at hb
    · have := isKK_none hb; subst this; simp [isKK, isBytes] at ha
    · exact congrArg some ((bytesKind prog w).inj v _ _ ha hb)
  byValue k v h := by
    cases k
    · rw [isKK_none h]; rfl
    · exact (bytesKind prog w).byValue _ v h
  pyHash := fun {A E s k v Q} hv h => by
    cases k with
    | none =>
      rw [isKK_none hv]
      refine pyHash_slot (T := "bool") rfl F.slot_bool_hash entry_int_hash (args_int_hash _) (beq_builtin_none _) (.inl rfl) ?_
      show wpAny _ _ (do ret (← mkInt (rawHash 0))) _ _ s
      exact wpAny_bind (wpAny_mkInt (wpAny_pure ⟨_, _, rfl, h⟩))
    | some b => exact (bytesKind prog w).pyHash hv h
  eqBool := fun {A E s a b u v Q} hu hv h => by
    cases a <;> cases b
    · rw [isKK_none hu, isKK_none hv]
      unfold eqBool
      try with_reducible refine wpAny_holding ?_
      rw [if_pos (by rfl)]
      exact wpAny_bind (wpAny_rule (wpAny_pure h))
    · rw [isKK_none hu]; obtain ⟨t, rfl⟩ := isBytes_shape hv; exact eqB_bool_bytes h
    · rw [isKK_none hv]; obtain ⟨t, rfl⟩ := isBytes_shape hu; exact eqB_bytes_bool h
    · rename_i x y; refine (bytesKind prog w).eqBool (a := x) (b := y) hu hv ?_; simpa using h
  «strs» k x t v h := by cases k <;> cases h
structure FI where
  ns : List (Str × NameKind)
  own : List Str
noncomputable def topS (i : Nat) : Stmt := match PySem.Challenge.pw_pb0120_01.main.body[i]? with | some s => s | none => .Pass default
noncomputable def inS (i j : Nat) : Stmt := match topS i with | .ClassDef _ _ _ b .. => (match b[j]? with | some s => s | none => .Pass default) | _ => .Pass default
noncomputable def bodyS : Stmt → List Stmt | .FunctionDef _ _ b .. => b | _ => []
noncomputable def namesS : Stmt → List (Str × NameKind) | .FunctionDef _ _ _ _ _ _ s .. => s.names | _ => []
noncomputable def sb68 : {b : List Stmt // bodyS (inS 5 0) = b} := ⟨_ :: _, rfl⟩
noncomputable def sn68 : {b : List (Str × NameKind) // namesS (inS 5 0) = b} := ⟨_ :: _, rfl⟩
noncomputable def fi68 : FI := ⟨sn68.1, []⟩
noncomputable def sb110 : {b : List Stmt // bodyS (inS 6 0) = b} := ⟨_ :: _, rfl⟩
noncomputable def sn110 : {b : List (Str × NameKind) // namesS (inS 6 0) = b} := ⟨_ :: _, rfl⟩
noncomputable def fi110 : FI := ⟨sn110.1, []⟩
noncomputable def sb117 : {b : List Stmt // bodyS (inS 6 1) = b} := ⟨_ :: _, rfl⟩
noncomputable def sn117 : {b : List (Str × NameKind) // namesS (inS 6 1) = b} := ⟨_ :: _, rfl⟩
noncomputable def fi117 : FI := ⟨sn117.1, []⟩
noncomputable def sb122 : {b : List Stmt // bodyS (inS 6 2) = b} := ⟨_ :: _, rfl⟩
noncomputable def sn122 : {b : List (Str × NameKind) // namesS (inS 6 2) = b} := ⟨_ :: _, rfl⟩
noncomputable def fi122 : FI := ⟨sn122.1, [Str.ofString "self"]⟩
noncomputable def sb143 : {b : List Stmt // bodyS (inS 7 0) = b} := ⟨_ :: _, rfl⟩
noncomputable def sn143 : {b : List (Str × NameKind) // namesS (inS 7 0) = b} := ⟨_ :: _, rfl⟩
noncomputable def fi143 : FI := ⟨sn143.1, []⟩
noncomputable def sb150 : {b : List Stmt // bodyS (inS 7 1) = b} := ⟨_ :: _, rfl⟩
noncomputable def sn150 : {b : List (Str × NameKind) // namesS (inS 7 1) = b} := ⟨_ :: _, rfl⟩
noncomputable def fi150 : FI := ⟨sn150.1, []⟩
noncomputable def sb157 : {b : List Stmt // bodyS (inS 7 2) = b} := ⟨_ :: _, rfl⟩
noncomputable def sn157 : {b : List (Str × NameKind) // namesS (inS 7 2) = b} := ⟨_ :: _, rfl⟩
noncomputable def fi157 : FI := ⟨sn157.1, []⟩
noncomputable def sb164 : {b : List Stmt // bodyS (inS 7 3) = b} := ⟨_ :: _, rfl⟩
noncomputable def sn164 : {b : List (Str × NameKind) // namesS (inS 7 3) = b} := ⟨_ :: _, rfl⟩
noncomputable def fi164 : FI := ⟨sn164.1, []⟩
noncomputable def sb171 : {b : List Stmt // bodyS (inS 7 4) = b} := ⟨_ :: _, rfl⟩
noncomputable def sn171 : {b : List (Str × NameKind) // namesS (inS 7 4) = b} := ⟨_ :: _, rfl⟩
noncomputable def fi171 : FI := ⟨sn171.1, []⟩
noncomputable def sb178 : {b : List Stmt // bodyS (inS 7 5) = b} := ⟨_ :: _, rfl⟩
noncomputable def sn178 : {b : List (Str × NameKind) // namesS (inS 7 5) = b} := ⟨_ :: _, rfl⟩
noncomputable def fi178 : FI := ⟨sn178.1, []⟩
noncomputable def sb185 : {b : List Stmt // bodyS (inS 7 6) = b} := ⟨_ :: _, rfl⟩
noncomputable def sn185 : {b : List (Str × NameKind) // namesS (inS 7 6) = b} := ⟨_ :: _, rfl⟩
noncomputable def fi185 : FI := ⟨sn185.1, []⟩
noncomputable def sb234 : {b : List Stmt // bodyS (topS 8) = b} := ⟨_ :: _, rfl⟩
noncomputable def sn234 : {b : List (Str × NameKind) // namesS (topS 8) = b} := ⟨_ :: _, rfl⟩
noncomputable def fi234 : FI := ⟨sn234.1, []⟩
noncomputable def sb248 : {b : List Stmt // bodyS (topS 10) = b} := ⟨_ :: _, rfl⟩
noncomputable def sn248 : {b : List (Str × NameKind) // namesS (topS 10) = b} := ⟨_ :: _, rfl⟩
noncomputable def fi248 : FI := ⟨sn248.1, []⟩
noncomputable def sb270 : {b : List Stmt // bodyS (topS 13) = b} := ⟨_ :: _, rfl⟩
noncomputable def sn270 : {b : List (Str × NameKind) // namesS (topS 13) = b} := ⟨_ :: _, rfl⟩
noncomputable def fi270 : FI := ⟨sn270.1, []⟩
noncomputable def sb284 : {b : List Stmt // bodyS (inS 20 0) = b} := ⟨_ :: _, rfl⟩
noncomputable def sn284 : {b : List (Str × NameKind) // namesS (inS 20 0) = b} := ⟨_ :: _, rfl⟩
noncomputable def fi284 : FI := ⟨sn284.1, []⟩
noncomputable def sb291 : {b : List Stmt // bodyS (inS 20 1) = b} := ⟨_ :: _, rfl⟩
noncomputable def sn291 : {b : List (Str × NameKind) // namesS (inS 20 1) = b} := ⟨_ :: _, rfl⟩
noncomputable def fi291 : FI := ⟨sn291.1, []⟩
noncomputable def sb312 : {b : List Stmt // bodyS (topS 21) = b} := ⟨_ :: _, rfl⟩
noncomputable def sn312 : {b : List (Str × NameKind) // namesS (topS 21) = b} := ⟨_ :: _, rfl⟩
noncomputable def fi312 : FI := ⟨sn312.1, []⟩
noncomputable def sb319 : {b : List Stmt // bodyS (topS 22) = b} := ⟨_ :: _, rfl⟩
noncomputable def sn319 : {b : List (Str × NameKind) // namesS (topS 22) = b} := ⟨_ :: _, rfl⟩
noncomputable def fi319 : FI := ⟨sn319.1, []⟩
noncomputable def sb326 : {b : List Stmt // bodyS (topS 23) = b} := ⟨_ :: _, rfl⟩
noncomputable def sn326 : {b : List (Str × NameKind) // namesS (topS 23) = b} := ⟨_ :: _, rfl⟩
noncomputable def fi326 : FI := ⟨sn326.1, []⟩
noncomputable def sb333 : {b : List Stmt // bodyS (topS 24) = b} := ⟨_ :: _, rfl⟩
noncomputable def sn333 : {b : List (Str × NameKind) // namesS (topS 24) = b} := ⟨_ :: _, rfl⟩
noncomputable def fi333 : FI := ⟨sn333.1, []⟩
noncomputable def sb340 : {b : List Stmt // bodyS (topS 26) = b} := ⟨_ :: _, rfl⟩
noncomputable def sn340 : {b : List (Str × NameKind) // namesS (topS 26) = b} := ⟨_ :: _, rfl⟩
noncomputable def fi340 : FI := ⟨sn340.1, []⟩
noncomputable def sb345 : {b : List Stmt // bodyS (topS 27) = b} := ⟨_ :: _, rfl⟩
noncomputable def sn345 : {b : List (Str × NameKind) // namesS (topS 27) = b} := ⟨_ :: _, rfl⟩
noncomputable def fi345 : FI := ⟨sn345.1, [Str.ofString "deck"]⟩
noncomputable def sb352 : {b : List Stmt // bodyS (topS 28) = b} := ⟨_ :: _, rfl⟩
noncomputable def sn352 : {b : List (Str × NameKind) // namesS (topS 28) = b} := ⟨_ :: _, rfl⟩
noncomputable def fi352 : FI := ⟨sn352.1, []⟩
noncomputable def sb359 : {b : List Stmt // bodyS (topS 29) = b} := ⟨_ :: _, rfl⟩
noncomputable def sn359 : {b : List (Str × NameKind) // namesS (topS 29) = b} := ⟨_ :: _, rfl⟩
noncomputable def fi359 : FI := ⟨sn359.1, []⟩
noncomputable def sb366 : {b : List Stmt // bodyS (topS 30) = b} := ⟨_ :: _, rfl⟩
noncomputable def sn366 : {b : List (Str × NameKind) // namesS (topS 30) = b} := ⟨_ :: _, rfl⟩
noncomputable def fi366 : FI := ⟨sn366.1, []⟩
noncomputable def sb371 : {b : List Stmt // bodyS (topS 31) = b} := ⟨_ :: _, rfl⟩
noncomputable def sn371 : {b : List (Str × NameKind) // namesS (topS 31) = b} := ⟨_ :: _, rfl⟩
noncomputable def fi371 : FI := ⟨sn371.1, []⟩
noncomputable def sb378 : {b : List Stmt // bodyS (topS 32) = b} := ⟨_ :: _, rfl⟩
noncomputable def sn378 : {b : List (Str × NameKind) // namesS (topS 32) = b} := ⟨_ :: _, rfl⟩
noncomputable def fi378 : FI := ⟨sn378.1, []⟩
noncomputable def sb383 : {b : List Stmt // bodyS (topS 33) = b} := ⟨_ :: _, rfl⟩
noncomputable def sn383 : {b : List (Str × NameKind) // namesS (topS 33) = b} := ⟨_ :: _, rfl⟩
noncomputable def fi383 : FI := ⟨sn383.1, [Str.ofString "told", Str.ofString "low", Str.ofString "high"]⟩
noncomputable def sb388 : {b : List Stmt // bodyS (topS 34) = b} := ⟨_ :: _, rfl⟩
noncomputable def sn388 : {b : List (Str × NameKind) // namesS (topS 34) = b} := ⟨_ :: _, rfl⟩
noncomputable def fi388 : FI := ⟨sn388.1, [Str.ofString "deck"]⟩

/-- what is asked of a function's object -/
structure FdOk (K : Frag) (fd : FuncData) (ps : List Str) (fi : FI) (body : List Stmt) : Prop where
  body : fd.body = .stmts body
  clo : fd.closure = []
  glob : fd.globals = mainGlobals
  blt : fd.builtins = builtinsNs
  names : fd.scope.names = fi.ns
  kind : fd.scope.kind = .function
  co : fd.scope.isCoroutine = false
  gen : fd.scope.isGenerator = false
  code : codeIn K fd.code fd.qualname = true
  bind : ∀ vs : List Value, vs.length = ps.length → bindArgs fd ⟨vs, []⟩ = pure (ps.zip vs)
noncomputable def LookK (K : Frag) (a : Addr) (ps : List Str) (fi : FI) (body : List Stmt) : Prop := ∃ o fd, K.lookup a = some o ∧ o.data = .func fd ∧ FdOk K fd ps fi body

noncomputable def attrK (K : Frag) (C : Addr) (x : Str) : Bool := plainGet K C x && (hasDictIn K C && (match findIn K (.ref C) x with | some at_ => noGet K at_ | none => false))
noncomputable def setK (K : Frag) (C : Addr) (x : Str) : Bool := (findIn K (.ref C) "__setattr__" == some (some (.builtin "object.__setattr__"))) && (plainOver K C && ((takerIn K C x == some none) && hasDictIn K C))
noncomputable def nmL : List (Str × Option (Option Value)) := [(Str.ofString "line_further", some (some (.ref 234))), (Str.ofString "myers", some (some (.ref 248))), (Str.ofString "by", some (some (.ref 270))), (Str.ofString "conflict_parted", some (some (.ref 312))), (Str.ofString "conflict_trimmed", some (some (.ref 319))), (Str.ofString "conflicts_closed_up", some (some (.ref 326))), (Str.ofString "conflict_pieces", some (some (.ref 333))), (Str.ofString "_law_draw", some (some (.ref 340))), (Str.ofString "_law_lines", some (some (.ref 345))), (Str.ofString "_law_chunk", some (some (.ref 352))), (Str.ofString "_law_told", some (some (.ref 359))), (Str.ofString "_law_longest", some (some (.ref 366))), (Str.ofString "_law_is_parted", some (some (.ref 371))), (Str.ofString "_law_trimmed", some (some (.ref 378))), (Str.ofString "_law_closed", some (some (.ref 383))), (Str.ofString "Change", some (some (.ref 92))), (Str.ofString "LineNumbers", some (some (.ref 125))), (Str.ofString "LineSheet", some (some (.ref 223))), (Str.ofString "Chunk", some (some (.ref 301))), (Str.ofString "OURS", some (some (.str (Str.ofString "ours") 610))), (Str.ofString "THEIRS", some (some (.str (Str.ofString "theirs") 612))), (Str.ofString "BOTH", some (some (.str (Str.ofString "both") 614))), (Str.ofString "CONFLICT", some (some (.str (Str.ofString "conflict") 616))), (Str.ofString "SHORT", some (some (.int 3 618))), (Str.ofString "len", some none), (Str.ofString "min", some none), (Str.ofString "max", some none), (Str.ofString "isinstance", some none), (Str.ofString "sum", some none), (Str.ofString "list", some none), (Str.ofString "range", some none), (Str.ofString "enumerate", some none), (Str.ofString "zip", some none), (Str.ofString "bytes", some none), (Str.ofString "str", some none)]
noncomputable def kpL : List Addr := [234, 248, 270, 312, 319, 326, 333, 340, 345, 352, 359, 366, 371, 378, 383, 92, 125, 223, 301]
noncomputable def clL : List (Addr × Addr) := [(92, 68), (125, 110), (223, 143), (301, 284)]
noncomputable def atL : List (Addr × Str) := [(301, Str.ofString "word"), (301, Str.ofString "base"), (301, Str.ofString "ours"), (301, Str.ofString "theirs"), (92, Str.ofString "a_from"), (92, Str.ofString "a_to"), (92, Str.ofString "b_from"), (92, Str.ofString "b_to"), (223, Str.ofString "a"), (223, Str.ofString "b"), (223, Str.ofString "gone"), (223, Str.ofString "come"), (125, Str.ofString "known"), (125, Str.ofString "strange"), (125, Str.ofString "count")]
noncomputable def meL : List (Addr × Str × Addr) := [(301, Str.ofString "joined", 291), (223, Str.ofString "whole", 150), (223, Str.ofString "trimmed", 157), (223, Str.ofString "mark", 164), (223, Str.ofString "changes", 171), (223, Str.ofString "halved", 178), (223, Str.ofString "mark_fewest", 185), (125, Str.ofString "number_of", 117), (125, Str.ofString "numbers_of", 122)]
noncomputable def fnL : List (Addr × List Str × FI × List Stmt) := [(68, [Str.ofString "self", Str.ofString "a_from", Str.ofString "a_to", Str.ofString "b_from", Str.ofString "b_to"], fi68, sb68.1), (110, [Str.ofString "self"], fi110, sb110.1), (117, [Str.ofString "self", Str.ofString "line"], fi117, sb117.1), (122, [Str.ofString "self", Str.ofString "lines"], fi122, sb122.1), (143, [Str.ofString "self", Str.ofString "a", Str.ofString "b"], fi143, sb143.1), (150, [Str.ofString "self"], fi150, sb150.1), (157, [Str.ofString "self", Str.ofString "part"], fi157, sb157.1), (164, [Str.ofString "self", Str.ofString "part"], fi164, sb164.1), (171, [Str.ofString "self"], fi171, sb171.1), (178, [Str.ofString "self", Str.ofString "part"], fi178, sb178.1), (185, [Str.ofString "self", Str.ofString "part"], fi185, sb185.1), (234, [Str.ofString "reach", Str.ofString "lane"], fi234, sb234.1), (248, [Str.ofString "a", Str.ofString "b"], fi248, sb248.1), (270, [Str.ofString "how", Str.ofString "a", Str.ofString "b"], fi270, sb270.1), (284, [Str.ofString "self", Str.ofString "word", Str.ofString "base", Str.ofString "ours", Str.ofString "theirs"], fi284, sb284.1), (291, [Str.ofString "self", Str.ofString "further"], fi291, sb291.1), (312, [Str.ofString "chunk", Str.ofString "how"], fi312, sb312.1), (319, [Str.ofString "chunk"], fi319, sb319.1), (326, [Str.ofString "pieces"], fi326, sb326.1), (333, [Str.ofString "found", Str.ofString "style", Str.ofString "how"], fi333, sb333.1), (340, [Str.ofString "deck", Str.ofString "below"], fi340, sb340.1), (345, [Str.ofString "deck"], fi345, sb345.1), (352, [Str.ofString "deck"], fi352, sb352.1), (359, [Str.ofString "chunk"], fi359, sb359.1), (366, [Str.ofString "one", Str.ofString "other"], fi366, sb366.1), (371, [Str.ofString "chunk", Str.ofString "pieces"], fi371, sb371.1), (378, [Str.ofString "chunk"], fi378, sb378.1), (383, [Str.ofString "told"], fi383, sb383.1)]
structure KF (K : Frag) : Prop where
  nm : nmL.map (fun p => nsIn K mainGlobals p.1) = nmL.map (·.2)
  kp : (kpL.all fun a => keepIn K (.ref a)) = true
  cl : clL.map (fun p => (makesIn K p.1, findIn K (.ref p.1) "__init__", typeIn K (.ref p.2))) = clL.map fun p => (true, some (some (.ref p.2)), some (.type "function"))
  at_ : (atL.all fun p => attrK K p.1 p.2 && setK K p.1 p.2) = true
  me : meL.map (fun p => (plainGet K p.1 p.2.1, findIn K (.ref p.1) p.2.1, isFn K (.ref p.2.2), keepIn K (.ref p.2.2))) = meL.map fun p => (true, some (some (.ref p.2.2)), true, true)
  fn : ∀ e ∈ fnL, LookK K e.1 e.2.1 e.2.2.1 e.2.2.2
theorem l_at {α β : Type} {f g : α → β} {l : List α} (h : l.map f = l.map g) (n : Nat) {x : α} (e : l[n]? = some x) : f x = g x := by
  have := congrArg (·[n]?) h
  simp only [List.getElem?_map, e, Option.map_some, Option.some.injEq] at this
  exact this
theorem f_at {P : Addr × List Str × FI × List Stmt → Prop} {l : List (Addr × List Str × FI × List Stmt)} (h : ∀ e ∈ l, P e) (n : Nat) {x : Addr × List Str × FI × List Stmt} (e : l[n]? = some x) : P x := h x (List.mem_of_getElem? e)
inductive MV where
  | undef | none | bool (b : Bool) | int (i : Int) | str (s : Str) | bytes (b : List UInt8)
  | tup (vs : List MV) | con (v : Value) | ref (i : Nat)
inductive MObj where
  | list (vs : List MV) | inst (C : Addr) (fs : List (Str × MV))
  | dI (es : List (Int × MV)) | dS (es : List (Str × MV)) | dB (es : List (List UInt8 × MV))

inductive Ow where
  | no | fz | pk | fr (x : Option Str) | lv (i : Nat)

structure G where
  F : Addr → Option Obj
  σ : List Addr
  ow : Addr → Ow

structure G.le (g g' : G) : Prop where
  F : ∀ a o, g.F a = some o → g'.F a = some o
  σ : ∀ (i : Nat) (a : Addr), g.σ[i]? = some a → g'.σ[i]? = some a
theorem G.le.refl (g : G) : g.le g := ⟨fun _ _ h => h, fun _ _ h => h⟩
theorem G.le.trans {a b c : G} (x : a.le b) (y : b.le c) : a.le c := ⟨fun _ _ h => y.F _ _ (x.F _ _ h), fun _ _ h => y.σ _ _ (x.σ _ _ h)⟩

noncomputable abbrev tupObj (items : Array Value) (_n : Nat) : Obj := { cls := .type "tuple", data := .seq items 0 }
noncomputable abbrev listObj (items : Array Value) (n : Nat) : Obj := { cls := .type "list", data := .seq items n }

mutual
noncomputable def VR (g : G) : MV → Value → Prop
  | .undef, _ => False
  | .none, v => v = .none
  | .bool b, v => v = .bool b
  | .int i, v => ∃ t, v = .int i t
  | .str s, v => ∃ t, v = .str s t
  | .bytes b, v => ∃ t, v = .bytes b.toArray t
  | .tup vs, v => ∃ a items n, v = .ref a ∧ g.F a = some (tupObj items n) ∧ VRs g vs items.toList
  | .con x, v => v = x
  | .ref i, v => ∃ a, g.σ[i]? = some a ∧ v = .ref a
noncomputable def VRs (g : G) : List MV → List Value → Prop
  | [], vs => vs = []
  | x :: xs, vs => ∃ v r, vs = v :: r ∧ VR g x v ∧ VRs g xs r
end
mutual
theorem VR.mono {g g' : G} (l : g.le g') : ∀ {m : MV} {v : Value}, VR g m v → VR g' m v
  | .undef, _ => fun h => by simp only [VR] at h
  | .none, _ => fun h => by simp only [VR] at h ⊢; exact h
  | .bool _, _ => fun h => by simp only [VR] at h ⊢; exact h
  | .int _, _ => fun h => by simp only [VR] at h ⊢; exact h
  | .str _, _ => fun h => by simp only [VR] at h ⊢; exact h
  | .bytes _, _ => fun h => by simp only [VR] at h ⊢; exact h
  | .con _, _ => fun h => by simp only [VR] at h ⊢; exact h
  | .tup vs, _ => fun h => by
    simp only [VR] at h ⊢
    obtain ⟨a, items, n, e, hF, hs⟩ := h
    exact ⟨a, items, n, e, l.F _ _ hF, VRs.mono l hs⟩
  | .ref i, _ => fun h => by
    simp only [VR] at h ⊢
    obtain ⟨a, h1, h2⟩ := h
    exact ⟨a, l.σ _ _ h1, h2⟩
theorem VRs.mono {g g' : G} (l : g.le g') : ∀ {ms : List MV} {vs : List Value}, VRs g ms vs → VRs g' ms vs
  | [], _ => fun h => by simp only [VRs] at h ⊢; exact h
  | x :: xs, _ => fun h => by
    simp only [VRs] at h ⊢
    obtain ⟨v, r, e, h1, h2⟩ := h
    exact ⟨v, r, e, VR.mono l h1, VRs.mono l h2⟩
end
theorem VRs.length {g : G} : ∀ {ms : List MV} {vs : List Value}, VRs g ms vs → vs.length = ms.length
  | [], _ => fun h => by simp only [VRs] at h; rw [h]; rfl
  | x :: xs, _ => fun h => by
    simp only [VRs] at h
    obtain ⟨v, r, e, _, h2⟩ := h
    rw [e, List.length_cons, List.length_cons, VRs.length h2]
theorem VRs.get {g : G} : ∀ {ms : List MV} {vs : List Value} {i : Nat} {m : MV}, VRs g ms vs → ms[i]? = some m → ∃ v, vs[i]? = some v ∧ VR g m v
  | [], _, _, _ => fun _ e => by simp at e
  | x :: xs, _, i, m => fun h e => by
    simp only [VRs] at h
    obtain ⟨v, r, rfl, h1, h2⟩ := h
    cases i with
    | zero => simp at e; subst e; exact ⟨v, rfl, h1⟩
    | succ i => simp at e; obtain ⟨v', a, b⟩ := VRs.get h2 e; exact ⟨v', by simpa using a, b⟩
theorem VRs.append {g : G} : ∀ {ms : List MV} {vs : List Value} {ms' : List MV} {vs' : List Value}, VRs g ms vs → VRs g ms' vs' → VRs g (ms ++ ms') (vs ++ vs')
  | [], _, _, _ => fun h h' => by simp only [VRs] at h; subst h; exact h'
  | x :: xs, _, _, _ => fun h h' => by
    simp only [VRs] at h
    obtain ⟨v, r, rfl, h1, h2⟩ := h
    show VRs g (x :: (xs ++ _)) (v :: (r ++ _))
    simp only [VRs]
    exact ⟨v, _, rfl, h1, VRs.append h2 h'⟩
theorem VRs.set {g : G} : ∀ {ms : List MV} {vs : List Value} {i : Nat} {m : MV} {v : Value}, VRs g ms vs → VR g m v → VRs g (ms.set i m) (vs.set i v)
  | [], _, _, _, _ => fun h _ => by simp only [VRs] at h; subst h; simp [VRs]
  | x :: xs, _, i, m, v => fun h hm => by
    simp only [VRs] at h
    obtain ⟨v', r, rfl, h1, h2⟩ := h
    cases i with
    | zero => simp only [List.set, VRs]; exact ⟨_, _, rfl, hm, h2⟩
    | succ i => simp only [List.set, VRs]; exact ⟨_, _, rfl, h1, VRs.set h2 hm⟩
theorem VRs.take {g : G} : ∀ {ms : List MV} {vs : List Value} (n : Nat), VRs g ms vs → VRs g (ms.take n) (vs.take n)
  | [], _, n => fun h => by simp only [VRs] at h; subst h; simp [VRs]
  | x :: xs, _, n => fun h => by
    simp only [VRs] at h
    obtain ⟨v', r, rfl, h1, h2⟩ := h
    cases n with
    | zero => simp [VRs]
    | succ n => simp only [List.take_succ_cons, VRs]; exact ⟨_, _, rfl, h1, VRs.take n h2⟩
theorem VRs.drop {g : G} : ∀ {ms : List MV} {vs : List Value} (n : Nat), VRs g ms vs → VRs g (ms.drop n) (vs.drop n)
  | [], _, n => fun h => by simp only [VRs] at h; subst h; simp [VRs]
  | x :: xs, _, n => fun h => by
    simp only [VRs] at h
    obtain ⟨v', r, rfl, h1, h2⟩ := h
    cases n with
    | zero => simp only [List.drop_zero, VRs]; exact ⟨_, _, rfl, h1, h2⟩
    | succ n => simp only [List.drop_succ_cons]; exact VRs.drop n h2

/-- fields of a made object against its dict's entries -/
noncomputable def VRf (P : Params) (g : G) : List (Str × MV) → List DictEntry → Prop
  | [], es => es = []
  | (x, m) :: fs, es => ∃ t v r, es = ⟨PyData.keyHash P x, .str x t, v⟩ :: r ∧ VR g m v ∧ VRf P g fs r
theorem VRf.mono {P : Params} {g g' : G} (l : g.le g') : ∀ {fs : List (Str × MV)} {es : List DictEntry}, VRf P g fs es → VRf P g' fs es
  | [], _ => fun h => h
  | (x, m) :: fs, _ => fun h => by
    obtain ⟨t, v, r, e, h1, h2⟩ := h
    exact ⟨t, v, r, e, h1.mono l, VRf.mono l h2⟩

noncomputable def slotGo (x : Str) : List (Str × NameKind) → Nat → Option (Nat × NameKind)
  | [], _ => none
  | (y, k) :: r, n => if x == y then some (n, k) else slotGo x r (n + 1)
noncomputable def slot (ns : List (Str × NameKind)) (x : Str) : Option (Nat × NameKind) := slotGo x ns 0
theorem slotGo_lookup {x : Str} : ∀ {ns : List (Str × NameKind)} {n i : Nat} {k : NameKind}, slotGo x ns n = some (i, k) → ns.lookup x = some k
  | [], _, _, _, h => by cases h
  | (y, k') :: r, n, i, k, h => by
    unfold slotGo at h
    rw [List.lookup_cons]
    cases hb : x == y with
    | true => rw [hb, if_pos rfl] at h; cases h; rfl
    | false => rw [hb, if_neg Bool.false_ne_true] at h; exact slotGo_lookup h
theorem slotGo_ge {x : Str} : ∀ {ns : List (Str × NameKind)} {n i : Nat} {k : NameKind}, slotGo x ns n = some (i, k) → n ≤ i
  | [], _, _, _, h => by cases h
  | (y, k') :: r, n, i, k, h => by
    unfold slotGo at h
    split at h
    · cases h; exact Nat.le_refl _
    · exact Nat.le_of_succ_le (slotGo_ge h)
theorem slotGo_inj {x y : Str} : ∀ {ns : List (Str × NameKind)} {n i : Nat} {k k' : NameKind}, slotGo x ns n = some (i, k) → slotGo y ns n = some (i, k') → x = y
  | [], _, _, _, _, h, _ => by cases h
  | (z, kz) :: r, n, i, k, k', h, h' => by
    unfold slotGo at h h'
    split at h <;> split at h'
    · rename_i a b; rw [beq_iff_eq.mp a, beq_iff_eq.mp b]
    · cases h; have := slotGo_ge h'; omega
    · cases h'; have := slotGo_ge h; omega
    · exact slotGo_inj h h'
theorem slot_lookup {ns : List (Str × NameKind)} {x : Str} {i : Nat} {k : NameKind} (h : slot ns x = some (i, k)) : ns.lookup x = some k := slotGo_lookup h
theorem slot_inj {ns : List (Str × NameKind)} {x y : Str} {i : Nat} {k k' : NameKind} (h : slot ns x = some (i, k)) (h' : slot ns y = some (i, k')) : x = y := slotGo_inj h h'

/-- a slot against what the frame holds -/
noncomputable def VRo (g : G) (m : Option MV) (v : Option Value) : Prop := ∀ x, m = some x → (match x with | .undef => True | x => ∃ u, v = some u ∧ VR g x u)
theorem VRo.mono {g g' : G} (l : g.le g') {m : Option MV} {v : Option Value} (h : VRo g m v) : VRo g' m v := fun x e => by
  have := h x e
  cases x <;> first | trivial | (obtain ⟨u, a, b⟩ := this; exact ⟨u, a, b.mono l⟩)
theorem VRo.ofVR {g : G} {m : MV} {v : Value} (h : VR g m v) : VRo g (some m) (some v) := fun x e => by
  cases e
  cases m <;> first | trivial | exact ⟨v, rfl, h⟩

noncomputable abbrev Prg : Program := PySem.Challenge.rw_pb0120_01.row.prog
structure TopR (mg mb : Str → Option Value) (h : Heap) : Prop where
  g : h.Ns mainGlobals mg
  b : h.Ns builtinsNs mb
  nolimit : h.NoLimit
  builtins : ∀ x : Str, x ≠ "__name__" → mb x = bootBuiltins x
theorem TopR.keeps {mg mb : Str → Option Value} {h h' : Heap} (T : TopR mg mb h) (hk : ∀ b o, h.get? b = some o → h'.get? b = some o) : TopR mg mb h' := ⟨T.g.keeps hk, T.b.keeps hk, T.nolimit.keeps hk, T.builtins⟩
structure Bs where
  w : World
  K : Frag
  kf : KF K
  hb : Heap
  os : OsState
  kx : K.In hb
  tr : ∃ mg mb, TopR mg mb hb
noncomputable abbrev Kw (B : Bs) : Frag := B.K

noncomputable abbrev Bs.M (B : Bs) : Model := model Prg B.w

structure FrameOk (fi : FI) (g : G) (env : Env) (ev : List MV) (h : Heap) : Prop where
  names : env.scope.names = fi.ns
  kind : env.scope.kind = .function
  glob : env.globals = mainGlobals
  blt : env.builtins = builtinsNs
  loc : g.ow env.locals = .fr none ∧ ∃ m, h.Ns env.locals m ∧ ∀ x i, slot fi.ns x = some (i, .local) → VRo g ev[i]? (m x)
  cel : ∀ x i k, slot fi.ns x = some (i, k) → (k = .cell ∨ k = .free) → ∃ c v, env.cells.lookup x = some c ∧ h.IsCell c v ∧ VRo g ev[i]? v ∧ (g.ow c = .fr (some x) ∨ (g.ow c = .pk ∧ x ∉ fi.own))

/-- relation of int-keyed (str-keyed) entries -/
noncomputable def relK {α : Type} (g : G) : List (α × MV) → List (α × Value) → Prop
  | [], kvs => kvs = []
  | (k, m) :: es, kvs => ∃ v r, kvs = (k, v) :: r ∧ VR g m v ∧ relK g es r
theorem relK.mono {α : Type} {g g' : G} (l : g.le g') : ∀ {es : List (α × MV)} {kvs : List (α × Value)}, relK g es kvs → relK g' es kvs
  | [], _ => fun h => h
  | (x, m) :: fs, _ => fun h => by
    obtain ⟨v, r, e, h1, h2⟩ := h
    exact ⟨v, r, e, h1.mono l, relK.mono l h2⟩

noncomputable def relB (g : G) : List (List UInt8 × MV) → List (List (Option (List UInt8)) × Addr × Value) → Prop
  | [], xs => xs = []
  | (b, m) :: es, xs => ∃ ka v r, xs = ([Option.none, some b], ka, v) :: r ∧ VR g m v ∧ relB g es r
theorem relB.mono {g g' : G} (l : g.le g') : ∀ {es : List (List UInt8 × MV)} {xs : List (List (Option (List UInt8)) × Addr × Value)}, relB g es xs → relB g' es xs
  | [], _ => fun h => h
  | (x, m) :: fs, _ => fun h => by
    obtain ⟨ka, v, r, e, h1, h2⟩ := h
    exact ⟨ka, v, r, e, h1.mono l, relB.mono l h2⟩

noncomputable def LiveOk (B : Bs) (g : G) (h : Heap) (i : Nat) (a : Addr) : MObj → Prop
  | .list vs => ∃ items n, h.get? a = some (listObj items n) ∧ VRs g vs items.toList
  | .inst C fs => ∃ d es n, h.get? a = some (instObj C d) ∧ h.get? d = some (dictOf es n) ∧ g.ow d = .lv i ∧ a ≠ d ∧ VRf B.w.params g fs es
  | .dI es => ∃ kvs, h.DictOf (intKind Prg B.w) a kvs ∧ relK g es kvs
  | .dS es => ∃ kvs, h.DictOf (PySem.strKind Prg B.w) a kvs ∧ relK g es kvs
  | .dB es => ∃ xs, h.DictOfH (tupleKind (kkind Prg B.w)) a xs ∧ (∀ x ∈ xs, ∃ items n, g.F x.2.1 = some (tupObj items n)) ∧ relB g es xs

structure G.leo (g g' : G) : Prop where
  le : g.le g'
  ow : ∀ a, g.ow a ≠ .no → g'.ow a = g.ow a
theorem G.leo.refl (g : G) : g.leo g := ⟨.refl g, fun _ _ => rfl⟩

theorem LiveOk.keep {B : Bs} {g g' : G} {h h' : Heap} {i : Nat} {a : Addr} {o : MObj} (l : g.leo g') (ha : g.ow a = .lv i) (hF : ∀ a o, g.F a = some o → g.ow a = .fz)
    (hk : ∀ b o, g.ow b = .lv i ∨ g.ow b = .fz → h.get? b = some o → h'.get? b = some o) (x : LiveOk B g h i a o) : LiveOk B g' h' i a o := by
  cases o with
  | list vs => obtain ⟨items, n, h1, h2⟩ := x; exact ⟨items, n, hk _ _ (.inl ha) h1, h2.mono l.le⟩
  | inst C fs =>
    obtain ⟨d, es, n, h1, h2, h3, h4, h5⟩ := x
    exact ⟨d, es, n, hk _ _ (.inl ha) h1, hk _ _ (.inl h3) h2, (l.ow d (by rw [h3]; intro e; cases e)).trans h3, h4, h5.mono l.le⟩
  | dI es => obtain ⟨kvs, ⟨o, es', ep, h1, h2⟩, h3⟩ := x; exact ⟨kvs, ⟨o, es', ep, hk _ _ (.inl ha) h1, h2⟩, h3.mono l.le⟩
  | dS es => obtain ⟨kvs, ⟨o, es', ep, h1, h2⟩, h3⟩ := x; exact ⟨kvs, ⟨o, es', ep, hk _ _ (.inl ha) h1, h2⟩, h3.mono l.le⟩
  | dB es =>
    obtain ⟨xs, ⟨o, es', ep, h1, h2, h3, h4, h5, h6⟩, h7, h8⟩ := x
    refine ⟨xs, ⟨o, es', ep, hk _ _ (.inl ha) h1, h2, h3, h4, fun y hy => ?_, h6⟩, fun y hy => ?_, h8.mono l.le⟩
    · obtain ⟨items, n, e⟩ := h7 y hy
      obtain ⟨o', it, n', e1, e2⟩ := h5 y hy
      exact ⟨o', it, n', hk _ _ (.inr (hF _ _ e)) e1, e2⟩
    · obtain ⟨items, n, e⟩ := h7 y hy
      exact ⟨items, n, l.le.F _ _ e⟩

theorem FrameOk.keep {fi : FI} {g g' : G} {env : Env} {ev : List MV} {h h' : Heap} (l : g.leo g') (x : FrameOk fi g env ev h)
    (hk : ∀ b o, (∃ x, g.ow b = .fr x) ∨ g.ow b = .pk → h.get? b = some o → h'.get? b = some o) : FrameOk fi g' env ev h' := by
  obtain ⟨h1, h2, h3, h4, ⟨h5, m, ⟨o, es, ep, e1, e2⟩, h6⟩, h7⟩ := x
  refine ⟨h1, h2, h3, h4, ⟨(l.ow _ (by rw [h5]; intro e; cases e)).trans h5, m, ⟨o, es, ep, hk _ _ (.inl ⟨_, h5⟩) e1, e2⟩, fun x i e => (h6 x i e).mono l.le⟩, fun x i k e hkk => ?_⟩
  obtain ⟨c, v, a1, ⟨oc, a2, a2'⟩, a3, a4⟩ := h7 x i k e hkk
  refine ⟨c, v, a1, ⟨oc, hk _ _ ?_ a2, a2'⟩, a3.mono l.le, ?_⟩
  · rcases a4 with a4 | a4
    · exact .inl ⟨_, a4⟩
    · exact .inr a4.1
  · rcases a4 with a4 | ⟨a4, a5⟩
    · exact .inl ((l.ow _ (by rw [a4]; intro e; cases e)).trans a4)
    · exact .inr ⟨(l.ow _ (by rw [a4]; intro e; cases e)).trans a4, a5⟩

structure Inv (B : Bs) (fi : FI) (env : Env) (Φ : Addr → Option Obj) (g : G) (ev : List MV) (H : List MObj) (s : Shared) : Prop where
  gens : s.gens = #[]
  os : s.os = B.os
  F : ∀ a o, g.F a = some o → s.heap.get? a = some o ∧ g.ow a = .fz
  hb : ∀ a o, B.hb.get? a = some o → g.F a = some o
  pk : ∀ a, g.ow a = .pk → (Φ a).isSome = true
  Φ : ∀ a o, Φ a = some o → s.heap.get? a = some o ∧ g.ow a = .pk
  sz : ∀ a, s.heap.get? a = none → g.ow a = .no
  lo : ∀ a i, g.ow a = .lv i → 1 < a
  len : g.σ.length = H.length
  live : ∀ i a o, g.σ[i]? = some a → H[i]? = some o → g.ow a = .lv i ∧ LiveOk B g s.heap i a o
  fr : FrameOk fi g env ev s.heap

section
variable {B : Bs} {fi : FI} {env : Env} {Φ : Addr → Option Obj} {g : G} {ev : List MV} {H : List MObj} {s s' : Shared}

theorem Inv.keepB (I : Inv B fi env Φ g ev H s) : ∀ a o, B.hb.get? a = some o → s.heap.get? a = some o := fun a o e => (I.F a o (I.hb a o e)).1
theorem Inv.kx (I : Inv B fi env Φ g ev H s) : (Kw B).In s.heap := B.kx.keeps I.keepB
theorem Inv.tr (I : Inv B fi env Φ g ev H s) : ∃ mg mb, TopR mg mb s.heap := let ⟨mg, mb, t⟩ := B.tr; ⟨mg, mb, t.keeps I.keepB⟩
theorem Inv.nolim (I : Inv B fi env Φ g ev H s) : s.heap.NoLimit := let ⟨_, _, t⟩ := I.tr; t.nolimit

theorem Inv.getObj (I : Inv B fi env Φ g ev H s) {i : Nat} {a : Addr} (hi : g.σ[i]? = some a) : ∃ o, H[i]? = some o := by
  have h1 := (List.getElem?_eq_some_iff.mp hi).1
  rw [I.len] at h1
  exact ⟨H[i], List.getElem?_eq_getElem h1⟩
theorem Inv.getAdr (I : Inv B fi env Φ g ev H s) {i : Nat} {o : MObj} (hi : H[i]? = some o) : ∃ a, g.σ[i]? = some a ∧ g.ow a = .lv i ∧ LiveOk B g s.heap i a o := by
  have h1 := (List.getElem?_eq_some_iff.mp hi).1
  rw [← I.len] at h1
  exact ⟨g.σ[i], List.getElem?_eq_getElem h1, I.live i _ o (List.getElem?_eq_getElem h1) hi⟩

/-- all that is owned stays -/
theorem Inv.step (I : Inv B fi env Φ g ev H s) (hg : s'.gens = s.gens) (ho : s'.os = s.os) (hk : ∀ a o, g.ow a ≠ .no → s.heap.get? a = some o → s'.heap.get? a = some o) :
    Inv B fi env Φ g ev H s' where
  gens := hg.trans I.gens
  os := ho.trans I.os
  F := fun a o e => ⟨hk _ _ (by rw [(I.F a o e).2]; intro e; cases e) (I.F a o e).1, (I.F a o e).2⟩
  hb := I.hb
  Φ := fun a o e => ⟨hk _ _ (by rw [(I.Φ a o e).2]; intro e; cases e) (I.Φ a o e).1, (I.Φ a o e).2⟩
  sz := fun a e => by
    refine Classical.byContradiction fun hn => ?_
    cases hq : s.heap.get? a with
    | none => exact hn (I.sz a hq)
    | some o => rw [hk a o hn hq] at e; cases e
  lo := I.lo
  pk := I.pk
  len := I.len
  live := fun i a o h1 h2 => ⟨(I.live i a o h1 h2).1, (I.live i a o h1 h2).2.keep (.refl g) (I.live i a o h1 h2).1 (fun a o e => (I.F a o e).2)
    fun b o hb => hk b o (by rcases hb with e | e <;> rw [e] <;> intro e <;> cases e)⟩
  fr := I.fr.keep (.refl g) fun b o hb => hk b o (by rcases hb with ⟨_, e⟩ | e <;> rw [e] <;> intro e <;> cases e)

theorem Inv.toks (I : Inv B fi env Φ g ev H s) (t : Nat) : Inv B fi env Φ g ev H { s with toks := t } := I.step rfl rfl (fun _ _ _ e => e)
theorem Inv.push (I : Inv B fi env Φ g ev H s) (o : Obj) : Inv B fi env Φ g ev H { s with heap := s.heap.push o } :=
  I.step rfl rfl (fun _ _ _ e => Heap.get?_push_of_some o e)
theorem Inv.szn (I : Inv B fi env Φ g ev H s) : g.ow s.heap.objs.size = .no := I.sz _ (Heap.get?_none_of_le (Nat.le_refl _))

/-- a new owner for an address that had none -/
noncomputable def G.own (g : G) (a : Addr) (w : Ow) : G := { g with ow := fun b => if b = a then w else g.ow b }
theorem G.own_leo {g : G} {a : Addr} {w : Ow} (h : g.ow a = .no) : g.leo (g.own a w) :=
  ⟨⟨fun _ _ e => e, fun _ _ e => e⟩, fun b hb => by show (if b = a then w else g.ow b) = _; rw [if_neg (by intro e; subst e; exact hb h)]⟩
noncomputable def G.freeze (g : G) (a : Addr) (o : Obj) : G := { g with F := fun b => if b = a then some o else g.F b, ow := fun b => if b = a then .fz else g.ow b }
noncomputable def G.more (g : G) (a : Addr) : G := { g with σ := g.σ ++ [a], ow := fun b => if b = a then .lv g.σ.length else g.ow b }

/-- what stands at an address that nobody owns is frozen -/
theorem Inv.freezeAt (I : Inv B fi env Φ g ev H s) {a : Addr} {o : Obj} (ha : g.ow a = .no) (ho : s.heap.get? a = some o) :
    g.le (g.freeze a o) ∧ Inv B fi env Φ (g.freeze a o) ev H s ∧ (g.freeze a o).F a = some o := by
  have hF : ∀ b p, g.F b = some p → b ≠ a := fun b p e q => by have := (I.F b p e).2; rw [q, ha] at this; cases this
  have l : g.leo (g.freeze a o) := ⟨⟨fun b p e => by show (if b = a then _ else _) = _; rw [if_neg (hF b p e)]; exact e, fun _ _ e => e⟩,
    fun b hb => by show (if b = a then _ else _) = _; rw [if_neg (by intro e; subst e; exact hb ha)]⟩
  refine ⟨l.le, ?_, by show (if a = a then _ else _) = _; rw [if_pos rfl]⟩
  exact {
    gens := I.gens, os := I.os
    F := fun b p e => by
      by_cases q : b = a
      · subst q
        have e' : (if b = b then some o else g.F b) = some p := e
        rw [if_pos rfl] at e'; cases e'
        exact ⟨ho, by show (if b = b then _ else _) = _; rw [if_pos rfl]⟩
      · have e' : (if b = a then some o else g.F b) = some p := e
        rw [if_neg q] at e'
        exact ⟨(I.F b p e').1, by show (if b = a then _ else _) = _; rw [if_neg q]; exact (I.F b p e').2⟩
    hb := fun b p e => l.le.F _ _ (I.hb b p e)
    Φ := fun b p e => ⟨(I.Φ b p e).1, (l.ow b (by rw [(I.Φ b p e).2]; intro e; cases e)).trans (I.Φ b p e).2⟩
    sz := fun b hb => by
      show (if b = a then _ else _) = _
      rw [if_neg (by intro e; subst e; rw [ho] at hb; cases hb)]; exact I.sz b hb
    lo := fun b i e => by
      have e' : (if b = a then Ow.fz else g.ow b) = .lv i := e
      by_cases q : b = a
      · rw [if_pos q] at e'; cases e'
      · rw [if_neg q] at e'; exact I.lo b i e'
    pk := fun b e => by
      have e' : (if b = a then Ow.fz else g.ow b) = .pk := e
      by_cases q : b = a
      · rw [if_pos q] at e'; cases e'
      · rw [if_neg q] at e'; exact I.pk b e'
    len := I.len
    live := fun i b p h1 h2 => by
      obtain ⟨x, y⟩ := I.live i b p h1 h2
      exact ⟨(l.ow b (by rw [x]; intro e; cases e)).trans x, y.keep l x (fun a o e => (I.F a o e).2) fun _ _ _ e => e⟩
    fr := I.fr.keep l fun _ _ _ e => e }

theorem Inv.fz (I : Inv B fi env Φ g ev H s) (o : Obj) (ho : o.isFreed = false := by rfl) :
    ∃ g', g.le g' ∧ Inv B fi env Φ g' ev H { s with heap := s.heap.push o } ∧ g'.F s.heap.objs.size = some o :=
  ⟨_, (I.push o).freezeAt I.szn (Heap.get?_push_size _ ho)⟩

/-- a new live object at an address that nobody owns; what it needs beside it is owned by it already -/
theorem Inv.live1 (I : Inv B fi env Φ g ev H s) {a : Addr} {o : MObj} {p : Obj} (h1a : 1 < a) (ha : g.ow a = .no) (hp : s.heap.get? a = some p)
    (hl : LiveOk B (g.more a) s.heap H.length a o) : g.le (g.more a) ∧ Inv B fi env Φ (g.more a) ev (H ++ [o]) s ∧ (g.more a).σ[H.length]? = some a := by
  have l : g.leo (g.more a) := ⟨⟨fun _ _ e => e, fun i b e => by
      show (g.σ ++ [a])[i]? = some b
      rw [List.getElem?_append_left (List.getElem?_eq_some_iff.mp e).1]; exact e⟩,
    fun b hb => by show (if b = a then _ else _) = _; rw [if_neg (by intro e; subst e; exact hb ha)]⟩
  have hσ : (g.more a).σ[H.length]? = some a := by show (g.σ ++ [a])[H.length]? = some a; rw [← I.len]; simp
  refine ⟨l.le, ?_, hσ⟩
  exact {
    gens := I.gens, os := I.os
    F := fun b p e => ⟨(I.F b p e).1, (l.ow b (by rw [(I.F b p e).2]; intro e; cases e)).trans (I.F b p e).2⟩
    hb := I.hb
    Φ := fun b p e => ⟨(I.Φ b p e).1, (l.ow b (by rw [(I.Φ b p e).2]; intro e; cases e)).trans (I.Φ b p e).2⟩
    sz := fun b hb => by
      show (if b = a then _ else _) = _
      rw [if_neg (by intro e; subst e; rw [hp] at hb; cases hb)]; exact I.sz b hb
    lo := fun b i e => by
      have e' : (if b = a then Ow.lv g.σ.length else g.ow b) = .lv i := e
      by_cases q : b = a
      · rw [q]; exact h1a
      · rw [if_neg q] at e'; exact I.lo b i e'
    pk := fun b e => by
      have e' : (if b = a then Ow.lv g.σ.length else g.ow b) = .pk := e
      by_cases q : b = a
      · rw [if_pos q] at e'; cases e'
      · rw [if_neg q] at e'; exact I.pk b e'
    len := by show (g.σ ++ [a]).length = (H ++ [o]).length; simp [I.len]
    live := fun i b q h1 h2 => by
      by_cases hi : i < H.length
      · have h1' : g.σ[i]? = some b := by
          have h1 : (g.σ ++ [a])[i]? = some b := h1
          rwa [List.getElem?_append_left (by rw [I.len]; exact hi)] at h1
        rw [List.getElem?_append_left hi] at h2
        obtain ⟨x, y⟩ := I.live i b q h1' h2
        exact ⟨(l.ow b (by rw [x]; intro e; cases e)).trans x, y.keep l x (fun a o e => (I.F a o e).2) fun _ _ _ e => e⟩
      · have : i = H.length := by
          have := (List.getElem?_eq_some_iff.mp h2).1
          simp at this; omega
        subst this
        rw [hσ] at h1; cases h1
        simp at h2; subst h2
        exact ⟨by show (if a = a then _ else _) = _; rw [if_pos rfl, I.len], hl⟩
    fr := I.fr.keep l fun _ _ _ e => e }

theorem Inv.big (I : Inv B fi env Φ g ev H s) : 1 < s.heap.objs.size := by
  obtain ⟨_, _, T⟩ := I.tr
  exact Nat.lt_trans (by decide) T.g.lt
theorem Inv.notSys (I : Inv B fi env Φ g ev H s) {a : Addr} {i : Nat} (h : g.ow a = .lv i) : (a == sysModules) = false := by
  have := I.lo a i h
  simp only [beq_eq_false_iff_ne, ne_eq]; intro e; rw [e] at this; exact absurd this (by decide)
/-- an address that nobody owned is owned by a live object to come -/
theorem Inv.own (I : Inv B fi env Φ g ev H s) {a : Addr} {p : Obj} {n : Nat} (h1a : 1 < a) (ha : g.ow a = .no) (hp : s.heap.get? a = some p) :
    g.leo (g.own a (.lv n)) ∧ Inv B fi env Φ (g.own a (.lv n)) ev H s := by
  have l : g.leo (g.own a (.lv n)) := G.own_leo ha
  refine ⟨l, ?_⟩
  exact {
    gens := I.gens, os := I.os
    F := fun b p e => ⟨(I.F b p e).1, (l.ow b (by rw [(I.F b p e).2]; intro e; cases e)).trans (I.F b p e).2⟩
    hb := I.hb
    Φ := fun b p e => ⟨(I.Φ b p e).1, (l.ow b (by rw [(I.Φ b p e).2]; intro e; cases e)).trans (I.Φ b p e).2⟩
    sz := fun b hb => by
      show (if b = a then _ else _) = _
      rw [if_neg (by intro e; subst e; rw [hp] at hb; cases hb)]; exact I.sz b hb
    lo := fun b i e => by
      have e' : (if b = a then Ow.lv n else g.ow b) = .lv i := e
      by_cases q : b = a
      · rw [q]; exact h1a
      · rw [if_neg q] at e'; exact I.lo b i e'
    pk := fun b e => by
      have e' : (if b = a then Ow.lv n else g.ow b) = .pk := e
      by_cases q : b = a
      · rw [if_pos q] at e'; cases e'
      · rw [if_neg q] at e'; exact I.pk b e'
    len := I.len
    live := fun i b q h1 h2 => by
      obtain ⟨x, y⟩ := I.live i b q h1 h2
      exact ⟨(l.ow b (by rw [x]; intro e; cases e)).trans x, y.keep l x (fun a o e => (I.F a o e).2) fun _ _ _ e => e⟩
    fr := I.fr.keep l fun _ _ _ e => e }

/-- a list is made -/
theorem Inv.newList (I : Inv B fi env Φ g ev H s) {items : Array Value} {n : Nat} {vs : List MV} (h : VRs g vs items.toList) :
    ∃ g', g.le g' ∧ Inv B fi env Φ g' ev (H ++ [.list vs]) { s with heap := s.heap.push (listObj items n) } ∧ g'.σ[H.length]? = some s.heap.objs.size := by
  have hp : (s.heap.push (listObj items n)).get? s.heap.objs.size = some (listObj items n) := Heap.get?_push_size _ rfl
  have hl : g.le (g.more s.heap.objs.size) := ⟨fun _ _ e => e, fun i b e => by
      show (g.σ ++ [s.heap.objs.size])[i]? = some b
      rw [List.getElem?_append_left (List.getElem?_eq_some_iff.mp e).1]; exact e⟩
  exact ⟨_, (I.push _).live1 I.big I.szn hp ⟨items, n, hp, h.mono hl⟩⟩

/-- a live object changes -/
theorem Inv.upd (I : Inv B fi env Φ g ev H s) {i : Nat} {a : Addr} {o : MObj} (hi : g.σ[i]? = some a) (hg : s'.gens = s.gens) (ho : s'.os = s.os)
    (hk : ∀ b p, g.ow b ≠ .no → g.ow b ≠ .lv i → s.heap.get? b = some p → s'.heap.get? b = some p) (hs : ∀ b, s'.heap.get? b = none → s.heap.get? b = none)
    (hl : LiveOk B g s'.heap i a o) : Inv B fi env Φ g ev (H.set i o) s' where
  gens := hg.trans I.gens
  os := ho.trans I.os
  F := fun a o e => ⟨hk _ _ (by rw [(I.F a o e).2]; intro e; cases e) (by rw [(I.F a o e).2]; intro e; cases e) (I.F a o e).1, (I.F a o e).2⟩
  hb := I.hb
  Φ := fun a o e => ⟨hk _ _ (by rw [(I.Φ a o e).2]; intro e; cases e) (by rw [(I.Φ a o e).2]; intro e; cases e) (I.Φ a o e).1, (I.Φ a o e).2⟩
  sz := fun a e => I.sz a (hs a e)
  lo := I.lo
  pk := I.pk
  len := by rw [List.length_set]; exact I.len
  live := fun j b q h1 h2 => by
    by_cases hij : j = i
    · subst hij
      rw [hi] at h1; cases h1
      obtain ⟨p, hp⟩ := I.getObj hi
      rw [List.getElem?_set_self (List.getElem?_eq_some_iff.mp hp).1] at h2
      cases h2
      exact ⟨(I.live j a p hi hp).1, hl⟩
    · rw [List.getElem?_set_ne (fun e => hij e.symm)] at h2
      obtain ⟨x, y⟩ := I.live j b q h1 h2
      exact ⟨x, y.keep (.refl g) x (fun a o e => (I.F a o e).2) fun c p hc => hk c p
        (by rcases hc with e | e <;> rw [e] <;> intro e <;> cases e) (by rcases hc with e | e <;> rw [e] <;> intro e <;> first | (injection e with e; exact hij e) | cases e)⟩
  fr := I.fr.keep (.refl g) fun b o hb => hk b o (by rcases hb with ⟨_, e⟩ | e <;> rw [e] <;> intro e <;> cases e) (by rcases hb with ⟨_, e⟩ | e <;> rw [e] <;> intro e <;> cases e)

/-- the frame changes -/
theorem Inv.frame (I : Inv B fi env Φ g ev H s) {ev' : List MV} (hg : s'.gens = s.gens) (ho : s'.os = s.os)
    (hk : ∀ b p, g.ow b ≠ .no → (∀ x, g.ow b ≠ .fr x) → s.heap.get? b = some p → s'.heap.get? b = some p) (hs : ∀ b, s'.heap.get? b = none → s.heap.get? b = none)
    (hf : FrameOk fi g env ev' s'.heap) : Inv B fi env Φ g ev' H s' where
  gens := hg.trans I.gens
  os := ho.trans I.os
  F := fun a o e => ⟨hk _ _ (by rw [(I.F a o e).2]; intro e; cases e) (by rw [(I.F a o e).2]; intro x e; cases e) (I.F a o e).1, (I.F a o e).2⟩
  hb := I.hb
  Φ := fun a o e => ⟨hk _ _ (by rw [(I.Φ a o e).2]; intro e; cases e) (by rw [(I.Φ a o e).2]; intro x e; cases e) (I.Φ a o e).1, (I.Φ a o e).2⟩
  sz := fun a e => I.sz a (hs a e)
  lo := I.lo
  pk := I.pk
  len := I.len
  live := fun j b q h1 h2 => by
    obtain ⟨x, y⟩ := I.live j b q h1 h2
    exact ⟨x, y.keep (.refl g) x (fun a o e => (I.F a o e).2) fun c p hc => hk c p
      (by rcases hc with e | e <;> rw [e] <;> intro e <;> cases e) (by rcases hc with e | e <;> rw [e] <;> intro x e <;> cases e)⟩
  fr := hf
end
theorem VR.int' {g : G} {i : Int} {t : Tok} : VR g (.int i) (.int i t) := by simp [VR]
theorem VR.str' {g : G} {i : Str} {t : Tok} : VR g (.str i) (.str i t) := by simp [VR]
theorem VR.bytes' {g : G} {i : List UInt8} {t : Tok} : VR g (.bytes i) (.bytes i.toArray t) := by simp [VR]
theorem VR.bool' {g : G} {b : Bool} : VR g (.bool b) (.bool b) := by simp [VR]
theorem VR.none' {g : G} : VR g .none .none := by simp [VR]
theorem VR.con' {g : G} {v : Value} : VR g (.con v) v := by simp [VR]
theorem VR.ref' {g : G} {i : Nat} {a : Addr} (h : g.σ[i]? = some a) : VR g (.ref i) (.ref a) := by simp only [VR]; exact ⟨a, h, rfl⟩
theorem VR.inv_int {g : G} {i : Int} {v : Value} (h : VR g (.int i) v) : ∃ t, v = .int i t := by simpa only [VR] using h
theorem VR.inv_str {g : G} {i : Str} {v : Value} (h : VR g (.str i) v) : ∃ t, v = .str i t := by simpa only [VR] using h
theorem VR.inv_bytes {g : G} {i : List UInt8} {v : Value} (h : VR g (.bytes i) v) : ∃ t, v = .bytes i.toArray t := by simpa only [VR] using h
theorem VR.inv_bool {g : G} {b : Bool} {v : Value} (h : VR g (.bool b) v) : v = .bool b := by simpa only [VR] using h
theorem VR.inv_none {g : G} {v : Value} (h : VR g .none v) : v = .none := by simpa only [VR] using h
theorem VR.inv_con {g : G} {x v : Value} (h : VR g (.con x) v) : v = x := by simpa only [VR] using h
theorem VR.inv_ref {g : G} {i : Nat} {v : Value} (h : VR g (.ref i) v) : ∃ a, g.σ[i]? = some a ∧ v = .ref a := by simpa only [VR] using h
theorem VR.inv_tup {g : G} {vs : List MV} {v : Value} (h : VR g (.tup vs) v) : ∃ a items n, v = .ref a ∧ g.F a = some (tupObj items n) ∧ VRs g vs items.toList := by simpa only [VR] using h

noncomputable def OkA (d : Nat) (A : Around) : Prop := A.handled = none ∧ A.depth + 2 * d + 2 < 1000 ∧ A.units + 30 * d + 30 < cLine
theorem OkA.cl {d : Nat} {A : Around} (h : OkA d A) : A.units < cLine := by have := h.2.2; omega
theorem OkA.rec {d : Nat} {A : Around} (h : OkA d A) : A.depth < recursionLimit := by have := h.2.1; show A.depth < 1000; omega
theorem OkA.le {d d' : Nat} {A : Around} (h : OkA d A) (l : d' ≤ d) : OkA d' A := ⟨h.1, by have := h.2.1; omega, by have := h.2.2; omega⟩

section
variable {α β : Type} {B : Bs} {fi : FI} {env : Env} {Φ : Addr → Option Obj} {A : Around}

/-- what a step leaves: more is known, the frame and the live objects are told, and Q holds of them -/
inductive Pst {α : Type} (B : Bs) (fi : FI) (env : Env) (Φ : Addr → Option Obj) (g : G) (Q : G → List MV → List MObj → α → Prop) (v : α) (s' : Shared) : Prop
  | mk (g' : G) (ev' : List MV) (H' : List MObj) (l : g.le g') (I : Inv B fi env Φ g' ev' H' s') (q : Q g' ev' H' v)
inductive PE (ev : List MV) (Q : MV → List MObj → Prop) (g' : G) (ev' : List MV) (H' : List MObj) (v : Value) : Prop
  | mk (e : ev' = ev) (m : MV) (r : VR g' m v) (q : Q m H')
inductive PEs (ev : List MV) (Q : List MV → List MObj → Prop) (g' : G) (ev' : List MV) (H' : List MObj) (vs : List Value) : Prop
  | mk (e : ev' = ev) (ms : List MV) (r : VRs g' ms vs) (q : Q ms H')
inductive PT (ev : List MV) (Q : Bool → List MObj → Prop) (g' : G) (ev' : List MV) (H' : List MObj) (b : Bool) : Prop
  | mk (e : ev' = ev) (q : Q b H')
inductive PQ (ev : List MV) (H : List MObj) (g : G) (Q : Bool → Prop) (g' : G) (ev' : List MV) (H' : List MObj) (r : Value) : Prop
  | mk (e : ev' = ev ∧ H' = H ∧ g' = g) (b : Bool) (eb : r = .bool b) (q : Q b)
noncomputable def W (B : Bs) (fi : FI) (env : Env) (Φ : Addr → Option Obj) (A : Around) (t : Sem α) (g : G) (s : Shared) (Q : G → List MV → List MObj → α → Prop) : Prop :=
  wpAny B.M A t (Pst B fi env Φ g Q) (fun _ _ => False) s

variable {g : G} {s : Shared} {ev : List MV} {H : List MObj}
theorem W.mono {t : Sem α} {Q Q' : G → List MV → List MObj → α → Prop} (h : W B fi env Φ A t g s Q) (hq : ∀ g' ev' H' v, g.le g' → Q g' ev' H' v → Q' g' ev' H' v) : W B fi env Φ A t g s Q' :=
  wpAny_mono h (fun v s' ⟨g', ev', H', l, I, q⟩ => ⟨g', ev', H', l, I, hq g' ev' H' v l q⟩) fun _ _ x => x
theorem W.pure {a : α} {Q : G → List MV → List MObj → α → Prop} (I : Inv B fi env Φ g ev H s) (h : Q g ev H a) : W B fi env Φ A (Pure.pure a) g s Q :=
  wpAny_pure ⟨g, ev, H, .refl g, I, h⟩
/-- from a rule of the library: what a step leaves -/
theorem W.to {t : Sem α} {E : Value → Shared → Prop} {Q : α → Shared → Prop} {P : G → List MV → List MObj → α → Prop} (h : W B fi env Φ A t g s P)
    (k : ∀ g' ev' H' v s', g.le g' → Inv B fi env Φ g' ev' H' s' → P g' ev' H' v → Q v s') : wpAny B.M A t Q E s :=
  wpAny_mono h (fun v s' ⟨g', ev', H', l, I, q⟩ => k g' ev' H' v s' l I q) fun _ _ x => x.elim
/-- the end of a chain -/
theorem W.back {t : Sem α} {g' : G} {s' : Shared} {Q : G → List MV → List MObj → α → Prop} (l : g.le g') (h : W B fi env Φ A t g' s' Q) :
    wpAny B.M A t (Pst B fi env Φ g Q) (fun _ _ => False) s' :=
  wpAny_mono h (fun v s' ⟨g', ev', H', l', I, q⟩ => ⟨g', ev', H', l.trans l', I, q⟩) fun _ _ x => x
end

/-- an expression -/
noncomputable def WPE (B : Bs) (fi : FI) (d : Nat) (e : Expr) (ev : List MV) (H : List MObj) (Q : MV → List MObj → Prop) : Prop :=
  ∀ A env Φ g s, OkA d A → Inv B fi env Φ g ev H s → W B fi env Φ A (eval e env) g s (PE ev Q)
/-- a test -/
noncomputable def WPT (B : Bs) (fi : FI) (d : Nat) (e : Expr) (ev : List MV) (H : List MObj) (Q : Bool → List MObj → Prop) : Prop :=
  ∀ A env Φ g s, OkA d A → Inv B fi env Φ g ev H s → W B fi env Φ A (isTrue e env (eval e env)) g s (PT ev Q)
/-- several expressions, left to right -/
noncomputable def WPEs (B : Bs) (fi : FI) (d : Nat) (es : List Expr) (ev : List MV) (H : List MObj) (Q : List MV → List MObj → Prop) : Prop :=
  ∀ A env Φ g s pos, OkA d A → Inv B fi env Φ g ev H s → W B fi env Φ A (spliced (backTo pos (starEach es env))) g s (PEs ev Q)
noncomputable def FlowOk (Qn : List MV → List MObj → Prop) (Qr : MV → List MObj → Prop) (g : G) (ev : List MV) (H : List MObj) (f : Flow) : Prop := match f with
  | .next => Qn ev H
  | .ret v => ∃ m, VR g m v ∧ Qr m H
  | _ => False
/-- statements -/
noncomputable def WPS (B : Bs) (fi : FI) (d : Nat) (ss : List Stmt) (ev : List MV) (H : List MObj) (Qn : List MV → List MObj → Prop) (Qr : MV → List MObj → Prop) : Prop :=
  ∀ A env Φ g s, OkA d A → Inv B fi env Φ g ev H s → W B fi env Φ A (execs ss env) g s (FlowOk Qn Qr)
noncomputable def WP1 (B : Bs) (fi : FI) (d : Nat) (st : Stmt) (ev : List MV) (H : List MObj) (Qn : List MV → List MObj → Prop) (Qr : MV → List MObj → Prop) : Prop :=
  ∀ A env Φ g s, OkA d A → Inv B fi env Φ g ev H s → W B fi env Φ A (exec st env) g s (FlowOk Qn Qr)

section
variable {B : Bs} {fi : FI} {d : Nat} {ev : List MV} {H : List MObj}

theorem WPE.mono {e : Expr} {Q Q' : MV → List MObj → Prop} (h : WPE B fi d e ev H Q) (k : ∀ m H', Q m H' → Q' m H') : WPE B fi d e ev H Q' :=
  fun A env Φ g s ok I => (h A env Φ g s ok I).mono fun _ _ H' _ _ ⟨a, m, b, c⟩ => ⟨a, m, b, k m H' c⟩
theorem WPS.mono {ss : List Stmt} {Qn Qn' : List MV → List MObj → Prop} {Qr Qr' : MV → List MObj → Prop} (h : WPS B fi d ss ev H Qn Qr) (k : ∀ ev' H', Qn ev' H' → Qn' ev' H') (kr : ∀ m H', Qr m H' → Qr' m H') :
    WPS B fi d ss ev H Qn' Qr' :=
  fun A env Φ g s ok I => (h A env Φ g s ok I).mono fun g' ev' H' f _ q => by
    cases f <;> first | exact k _ _ q | exact q | exact (let ⟨m, a, b⟩ := q; ⟨m, a, kr _ _ b⟩)

theorem kindOf_slot {env : Env} {g : G} {h : Heap} (F : FrameOk fi g env ev h) {x : Str} {i : Nat} {k : NameKind} (hs : slot fi.ns x = some (i, k)) : env.kindOf x = some k := by
  show env.scope.names.lookup x = some k
  rw [F.names]; exact slot_lookup hs

theorem W_loadName {A : Around} {env : Env} {Φ : Addr → Option Obj} {g : G} {s : Shared} {x : Str} {i : Nat} {k : NameKind} {m : MV} (I : Inv B fi env Φ g ev H s)
    (hs : slot fi.ns x = some (i, k)) (hk : k = .local ∨ k = .cell ∨ k = .free) (hm : ev[i]? = some m) (hu : m ≠ .undef) (hd : (x == ("__classdict__" : Str)) = false) :
    W B fi env Φ A (loadName env x) g s (fun g' ev' H' v => (ev' = ev ∧ H' = H ∧ g' = g) ∧ VR g' m v) := by
  have get : ∀ v : Option Value, VRo g ev[i]? v → ∃ u, v = some u ∧ VR g m u := fun v h => by
    have := h m hm
    cases m <;> first | exact (hu rfl).elim | exact this
  rcases hk with rfl | rfl | rfl
  · obtain ⟨_, mm, hn, hl⟩ := I.fr.loc
    obtain ⟨u, e, r⟩ := get _ (hl x i hs)
    exact wpAny_loadName_local I.fr.kind (kindOf_slot I.fr hs) hn e ⟨g, ev, H, .refl g, I, ⟨rfl, rfl, rfl⟩, r⟩
  · obtain ⟨c, v, h1, h2, h3, _⟩ := I.fr.cel x i _ hs (.inl rfl)
    obtain ⟨u, rfl, r⟩ := get _ h3
    exact wpAny_loadName_cell I.fr.kind (kindOf_slot I.fr hs) h1 h2 ⟨g, ev, H, .refl g, I, ⟨rfl, rfl, rfl⟩, r⟩
  · obtain ⟨c, v, h1, h2, h3, _⟩ := I.fr.cel x i _ hs (.inr rfl)
    obtain ⟨u, rfl, r⟩ := get _ h3
    exact wpAny_loadName_free I.fr.kind (kindOf_slot I.fr hs) h1 h2 ⟨g, ev, H, .refl g, I, ⟨rfl, rfl, rfl⟩, r⟩ hd

/-- a local name, a cell's or a free one -/
theorem WPE.name {x : Str} {pos : Pos} {i : Nat} {k : NameKind} {m : MV} {Q : MV → List MObj → Prop} (hs : slot fi.ns x = some (i, k)) (hk : k = .local ∨ k = .cell ∨ k = .free)
    (hm : ev[i]? = some m) (hu : m ≠ .undef) (hd : ((x == ("__debug__" : Str)) || (x == ("__classdict__" : Str))) = false) (h : Q m H) : WPE B fi d (.Name x pos) ev H Q := by
  obtain ⟨hd1, hd2⟩ := Bool.or_eq_false_iff.mp hd
  exact fun A env Φ g s ok I => wpAny_Name (W.mono (W_loadName I hs hk hm hu hd2) (fun g' ev' H' v _ ⟨⟨a, b, c⟩, r⟩ => ⟨a, m, r, b ▸ h⟩)) hd1

theorem WPE.cInt {i : Int} {k : Nat} {pos : Pos} {Q : MV → List MObj → Prop} (h : Q (.int i) H) : WPE B fi d (.Constant (.int i) k pos) ev H Q :=
  fun A env Φ g s ok I => wpAny_Constant_int ⟨g, ev, H, .refl g, I.toks _, rfl, _, .int', h⟩
theorem WPE.cBool {b : Bool} {k : Nat} {pos : Pos} {Q : MV → List MObj → Prop} (h : Q (.bool b) H) : WPE B fi d (.Constant (.bool b) k pos) ev H Q :=
  fun A env Φ g s ok I => wpAny_Constant_bool ⟨g, ev, H, .refl g, I, rfl, .bool b, by simp [VR], h⟩
theorem WPE.cNone {k : Nat} {pos : Pos} {Q : MV → List MObj → Prop} (h : Q .none H) : WPE B fi d (.Constant .none k pos) ev H Q :=
  fun A env Φ g s ok I => wpAny_Constant_none ⟨g, ev, H, .refl g, I, rfl, .none, by simp [VR], h⟩
theorem WPE.cStr {x : Str} {k : Nat} {pos : Pos} {Q : MV → List MObj → Prop} (h : Q (.str x) H) : WPE B fi d (.Constant (.str x) k pos) ev H Q :=
  fun A env Φ g s ok I => wpAny_Constant_str ⟨g, ev, H, .refl g, I.toks _, rfl, .str x, by simp [VR], h⟩
theorem WPE.cBytes {x : List UInt8} {k : Nat} {pos : Pos} {Q : MV → List MObj → Prop} (h : Q (.bytes x) H) : WPE B fi d (.Constant (.bytes x) k pos) ev H Q :=
  fun A env Φ g s ok I => Constant_bytes ⟨g, ev, H, .refl g, I.toks _, rfl, .bytes x, by simp [VR], h⟩

/-- a global name: what the module's dict holds -/
theorem WPE.glob {x : Str} {pos : Pos} {v : Value} {m : MV} {Q : MV → List MObj → Prop} (hs : fi.ns.lookup x = some .globalImplicit)
    (hg : nsIn (Kw B) mainGlobals x = some (some v)) (hm : ∀ g, VR g m v) (hd : (x == ("__debug__" : Str)) = false) (h : Q m H) : WPE B fi d (.Name x pos) ev H Q :=
  fun A env Φ g s ok I => by
    obtain ⟨mg, mb, T⟩ := I.tr
    have hk : env.kindOf x = some .globalImplicit := by show env.scope.names.lookup x = _; rw [I.fr.names]; exact hs
    refine Calls.Name_function_global I.fr.kind hk (Calls.loadGlobal_global (by rw [I.fr.glob]; exact T.g) (mg_of I.kx T.g hg) ?_) hd
    exact ⟨g, ev, H, .refl g, I, rfl, m, hm g, h⟩
/-- a built-in name -/
theorem WPE.bi {x : Str} {pos : Pos} {v : Value} {Q : MV → List MObj → Prop} (hs : fi.ns.lookup x = some .globalImplicit)
    (hg : nsIn (Kw B) mainGlobals x = some none) (hv : bootBuiltins x = some v) (hn : x ≠ "__name__") (hd : (x == ("__debug__" : Str)) = false) (h : Q (.con v) H) : WPE B fi d (.Name x pos) ev H Q :=
  fun A env Φ g s ok I => by
    obtain ⟨mg, mb, T⟩ := I.tr
    have hk : env.kindOf x = some .globalImplicit := by show env.scope.names.lookup x = _; rw [I.fr.names]; exact hs
    refine Calls.Name_function_global I.fr.kind hk (Calls.loadGlobal_builtin (by rw [I.fr.glob]; exact T.g) (mg_none_of I.kx T.g hg) (by rw [I.fr.blt]; exact T.b) ((T.builtins x hn).trans hv) ?_) hd
    exact ⟨g, ev, H, .refl g, I, rfl, _, .con', h⟩
end
/-- what two values bring under an operator -/
noncomputable def binM (op : Operator) (a b : MV) (H : List MObj) (Q : MV → List MObj → Prop) : Prop := ∀ B fi env Φ A g ev s v u, Inv B fi env Φ g ev H s → VR g a v → VR g b u →
  W B fi env Φ A (binaryOp op v u) g s (PE ev Q)

section
variable {B : Bs} {fi : FI} {d : Nat} {ev : List MV} {H : List MObj} {A : Around} {env : Env} {Φ : Addr → Option Obj} {g : G} {s : Shared}

theorem Inv.list (I : Inv B fi env Φ g ev H s) {i : Nat} {vs : List MV} {v : Value} (hv : VR g (.ref i) v) (hi : H[i]? = some (.list vs)) :
    ∃ a items n, v = .ref a ∧ g.σ[i]? = some a ∧ g.ow a = .lv i ∧ s.heap.get? a = some (listObj items n) ∧ VRs g vs items.toList := by
  obtain ⟨a, h1, rfl⟩ := hv.inv_ref
  obtain ⟨h2, items, n, h3, h4⟩ := I.live i a _ h1 hi
  exact ⟨a, items, n, rfl, h1, h2, h3, h4⟩

theorem VRs.size {g : G} {ms : List MV} {items : Array Value} (h : VRs g ms items.toList) : items.size = ms.length := by
  have := h.length; simpa using this

theorem VRs.replicate {g : G} {m : MV} {v : Value} (h : VR g m v) : ∀ n : Nat, VRs g (List.replicate n m) (List.replicate n v)
  | 0 => by simp [VRs]
  | n + 1 => by simp only [List.replicate_succ, VRs]; exact ⟨_, _, rfl, h, VRs.replicate h n⟩

theorem rep_arr (v : Value) : ∀ (k : Nat) (acc : Array Value), (List.foldl (fun x1 x2 => x1 ++ x2) acc (List.replicate k #[v])).toList = acc.toList ++ List.replicate k v
  | 0, acc => by simp
  | k + 1, acc => by rw [List.replicate_succ, List.foldl_cons, rep_arr v k]; simp [List.replicate_succ]

theorem small_bits {b : Int} (h : -1000000 < b ∧ b < 1000000) : Builtin.Int.intBits b ≤ 64 := intBits_le_64 (by omega) (by omega)

theorem bin_rep {i : Nat} {x : Int} {m : MV} {Q : MV → List MObj → Prop} (h1 : H[i]? = some (.list [m])) (h23 : 0 ≤ x ∧ x ≤ 100000) (h4 : Q (.ref H.length) (H ++ [.list (List.replicate x.toNat m)])) : binM .Mult (.ref i) (.int x) H Q := fun B fi env Φ A g ev s v u I ha hb => by
  obtain ⟨h2, h3⟩ := h23
  obtain ⟨a1, it1, n1, rfl, -, -, e1, r1⟩ := I.list ha h1
  obtain ⟨t', rfl⟩ := hb.inv_int
  obtain ⟨w0, r0, ew, hw, hr0⟩ : ∃ w0 r0, it1.toList = w0 :: r0 ∧ VR g m w0 ∧ VRs g [] r0 := by simpa only [VRs] using r1
  have hr0' : r0 = [] := by simpa only [VRs] using hr0
  subst hr0'
  have hit : it1 = #[w0] := by apply Array.ext'; simpa using ew
  subst hit
  have hx : x.toNat ≤ 100000 := by omega
  refine wpAny_binaryOp_repeat_ref (T := "list") (U := "int") (by decide) ⟨_, e1, rfl⟩ (fun s' => typeIs_int s' x t') noFill_list_mul F.fills_int_mul F.slot_int_rmul repeat_list F.slot_int_index.lookup
    (call_meets F.slot_int_rmul (typeIs_int s x t') F.entry_int_rmul (F.args_int_rmul_2 _ _) (int___rmul___int_list x t' a1 #[w0] n1)
      ⟨e1, rfl, ⟨_, e1, rfl⟩, call_meets F.slot_list_mul ⟨_, e1, rfl⟩ F.entry_list_mul (F.args_list_mul_2 _ _)
        (AutoListH.list___mul___list_int_3 a1 #[w0] n1 x t' (by simp [Builtin.List.listFitsIndex]; omega) (by have : (#[w0] : Array Value).size = 1 := rfl; rw [this]; omega) (by simp [Builtin.List.listTooLong, sizeLine]; omega))
        ⟨e1, ?_⟩⟩)
  have ee : (List.foldl (fun x1 x2 => x1 ++ x2) #[] (List.replicate (if (#[w0] : Array Value).isEmpty = true then 0 else x.toNat) #[w0])).toList = List.replicate x.toNat w0 := by
    rw [rep_arr]; simp
  obtain ⟨g', l, I', hσ⟩ := I.newList (items := List.foldl (fun x1 x2 => x1 ++ x2) #[] (List.replicate (if (#[w0] : Array Value).isEmpty = true then 0 else x.toNat) #[w0])) (n := 0) (vs := List.replicate x.toNat m)
    (by rw [ee]; exact VRs.replicate hw _)
  exact ⟨g', ev, _, l, I', rfl, _, .ref' hσ, h4⟩

theorem bin_int {op : Operator} {a b : Int} {Q : MV → List MObj → Prop} (h : ∀ B fi env Φ A g ev s t t', Inv B fi env Φ g ev H s → W B fi env Φ A (binaryOp op (.int a t) (.int b t')) g s (PE ev Q)) : binM op (.int a) (.int b) H Q :=
  fun B fi env Φ A g ev s v u I ha hb => by
    obtain ⟨t, rfl⟩ := ha.inv_int; obtain ⟨t', rfl⟩ := hb.inv_int
    exact h B fi env Φ A g ev s t t' I
theorem Inv.ends (I : Inv B fi env Φ g ev H s) {i : Int} {t : Tok} {n : Nat} {Q : MV → List MObj → Prop} (h : Q (.int i) H) : Pst B fi env Φ g (PE ev Q) (.int i t) { s with toks := n } := ⟨g, ev, H, .refl g, I.toks _, rfl, _, .int', h⟩
section
variable {a b : Int} {Q : MV → List MObj → Prop}
theorem bin_add (h : Q (.int (a + b)) H) : binM .Add (.int a) (.int b) H Q := bin_int fun B fi env Φ A g ev s t t' I => P.add_int (I.ends h)
theorem bin_sub (h : Q (.int (a - b)) H) : binM .Sub (.int a) (.int b) H Q := bin_int fun B fi env Φ A g ev s t t' I => P.sub_int (I.ends h)
theorem bin_mul (h0 : -1000000 < b ∧ b < 1000000) (h : Q (.int (a * b)) H) : binM .Mult (.int a) (.int b) H Q := bin_int fun B fi env Φ A g ev s t t' I => P.mul_int (I.ends h) (.of_right (small_bits h0))
theorem bin_mod (h0 : b ≠ 0) (h : Q (.int (a.fmod b)) H) : binM .Mod (.int a) (.int b) H Q := bin_int fun B fi env Φ A g ev s t t' I => mod_int' h0 (I.ends h)
theorem bin_fdiv (h0 : b ≠ 0 ∧ -1000000 < b ∧ b < 1000000) (h : Q (.int (a.fdiv b)) H) : binM .FloorDiv (.int a) (.int b) H Q := bin_int fun B fi env Φ A g ev s t t' I => floordiv_int h0.1 (I.ends h) (.inl (PyProof.noPylong_small (by omega)))
theorem bin_lapp {i j : Nat} {xs ys : List MV} (h1 : H[i]? = some (.list xs)) (h2 : H[j]? = some (.list ys)) (h3 : xs.length + ys.length ≤ 100000) (h : Q (.ref H.length) (H ++ [.list (xs ++ ys)])) : binM .Add (.ref i) (.ref j) H Q :=
  fun B fi env Φ A g ev s v u I ha hb => by
    obtain ⟨a1, it1, n1, rfl, -, -, e1, r1⟩ := I.list ha h1
    obtain ⟨a2, it2, n2, rfl, -, -, e2, r2⟩ := I.list hb h2
    refine P.add_list e1 e2 ?_ (by rw [r1.size, r2.size]; exact Nat.le_trans h3 (by decide))
    obtain ⟨g', l, I', hσ⟩ := I.newList (items := it1 ++ it2) (n := 0) (vs := xs ++ ys) (by rw [Array.toList_append]; exact r1.append r2)
    exact ⟨g', ev, _, l, I', rfl, _, .ref' hσ, h⟩
end

theorem WPE.bin {l r : Expr} {op : Operator} {pos : Pos} {Q : MV → List MObj → Prop}
    (h : WPE B fi d l ev H fun a H1 => WPE B fi d r ev H1 fun b H2 => binM op a b H2 Q) : WPE B fi d (.BinOp l op r pos) ev H Q := fun A env Φ g s ok I => by
  refine wpAny_BinOp ((h A env Φ g s ok I).to fun g1 ev1 H1 v s1 l1 I1 hq1 => ?_)
  obtain ⟨e1, a, ra, h1⟩ := hq1
  subst e1
  refine (h1 A env Φ g1 s1 ok I1).to fun g2 ev2 H2 u s2 l2 I2 hq2 => ?_
  obtain ⟨e2, b, rb, h2⟩ := hq2
  subst e2
  exact W.back (l1.trans l2) (h2 B fi env Φ A g2 _ s2 v u I2 (ra.mono l2) rb)

/-- minus -/
theorem WPE.neg {e : Expr} {pos : Pos} {Q : MV → List MObj → Prop} (h : WPE B fi d e ev H fun a H1 => ∃ i, a = .int i ∧ Q (.int (-i)) H1) : WPE B fi d (.UnaryOp .USub e pos) ev H Q := fun A env Φ g s ok I => by
  refine wpAny_UnaryOp ((h A env Φ g s ok I).to fun g1 ev1 H1 v s1 l1 I1 hq3 => ?_)
  obtain ⟨e1, a, ra, i, e2, h1⟩ := hq3
  subst e1 e2
  obtain ⟨t, rfl⟩ := ra.inv_int
  exact P.neg_int ⟨g1, _, H1, l1, I1.toks _, rfl, _, .int', h1⟩

inductive EqM (H : List MObj) : Nat → MV → MV → Bool → Prop
  | int {n a b} : EqM H n (.int a) (.int b) (a == b)
  | str {n a b} : EqM H n (.str a) (.str b) (a == b)
  | bytes {n a b} : EqM H n (.bytes a) (.bytes b) (a == b)
  | same {n i} : EqM H n (.ref i) (.ref i) true
  | lists {n i j xs ys} (e : Nat → Bool) : i ≠ j → H[i]? = some (.list xs) → H[j]? = some (.list ys) → xs.length = ys.length →
      (∀ k x y, xs[k]? = some x → ys[k]? = some y → EqM H n x y (e k)) → EqM H (n + 1) (.ref i) (.ref j) ((List.range xs.length).all e)
  | lens {n i j xs ys} : H[i]? = some (.list xs) → H[j]? = some (.list ys) → xs.length ≠ ys.length → EqM H (n + 1) (.ref i) (.ref j) false
  | tups {n xs ys} (e : Nat → Bool) : xs.length = ys.length → (∀ k x y, xs[k]? = some x → ys[k]? = some y → EqM H n x y (e k)) → EqM H (n + 1) (.tup xs) (.tup ys) ((List.range xs.length).all e)

theorem VRs.at {g : G} : ∀ {ms : List MV} {vs : List Value} {i : Nat} {v : Value}, VRs g ms vs → vs[i]? = some v → ∃ m, ms[i]? = some m ∧ VR g m v := by
  intro ms vs i v h e
  have hl := h.length
  have : i < ms.length := by rw [← hl]; exact (List.getElem?_eq_some_iff.mp e).1
  obtain ⟨v', e', r⟩ := h.get (List.getElem?_eq_getElem this)
  rw [e] at e'; cases e'
  exact ⟨_, List.getElem?_eq_getElem this, r⟩

theorem EqM.refl {n : Nat} {x y : MV} {b : Bool} (h : EqM H n x y b) (I : Inv B fi env Φ g ev H s) : ∀ v, VR g x v → VR g y v → b = true := by
  induction h with
  | int => intro v h1 h2; obtain ⟨t, rfl⟩ := h1.inv_int; obtain ⟨t', e⟩ := h2.inv_int; cases e; simp
  | str => intro v h1 h2; obtain ⟨t, rfl⟩ := h1.inv_str; obtain ⟨t', e⟩ := h2.inv_str; cases e; simp
  | bytes => intro v h1 h2; obtain ⟨t, rfl⟩ := h1.inv_bytes; obtain ⟨t', e⟩ := h2.inv_bytes; injection e with e _; have := congrArg Array.toList e; simp at this; simp [this]
  | same => intro _ _ _; rfl
  | lists e hne hi hj _ _ _ =>
    intro v h1 h2
    obtain ⟨a, e1, rfl⟩ := h1.inv_ref; obtain ⟨a', e2, e3⟩ := h2.inv_ref; cases e3
    have x := (I.live _ a _ e1 hi).1; rw [(I.live _ a _ e2 hj).1] at x
    injection x with x; exact absurd x.symm hne
  | lens hi hj hl =>
    intro v h1 h2
    obtain ⟨a, e1, rfl⟩ := h1.inv_ref; obtain ⟨a', e2, e3⟩ := h2.inv_ref; cases e3
    have x := (I.live _ a _ e1 hi).1; rw [(I.live _ a _ e2 hj).1] at x
    injection x with x; subst x
    rw [hi] at hj; cases hj; exact absurd rfl hl
  | tups e hl hk ih =>
    intro v h1 h2
    obtain ⟨a, items, n, rfl, f1, r1⟩ := h1.inv_tup
    obtain ⟨a', items', n', e', f2, r2⟩ := h2.inv_tup
    cases e'; rw [f1] at f2; cases f2
    rw [List.all_eq_true]
    intro k hk'
    rename_i xs ys
    have hx := List.mem_range.mp hk'
    have hy : k < ys.length := by rw [← hl]; exact hx
    obtain ⟨u, eu, ru⟩ := r1.get (List.getElem?_eq_getElem hx)
    obtain ⟨u', eu', ru'⟩ := r2.get (List.getElem?_eq_getElem hy)
    rw [eu] at eu'; cases eu'
    exact ih k _ _ (List.getElem?_eq_getElem hx) (List.getElem?_eq_getElem hy) u ru ru'

theorem isListOf {h : Heap} {a : Addr} {items : Array Value} {n : Nat} (e : h.get? a = some (listObj items n)) : h.IsList a items := ⟨_, e, rfl, n, rfl⟩
theorem isTupOf {h : Heap} {a : Addr} {items : Array Value} {n : Nat} (e : h.get? a = some (tupObj items n)) : h.IsTuple a items := ⟨_, e, rfl, _, rfl⟩
theorem all_range_size {items : Array Value} {ms : List MV} (h : VRs g ms items.toList) (e : Nat → Bool) : (List.range items.size).all e = (List.range ms.length).all e := by rw [h.size]

theorem EqM.at {n : Nat} {x y : MV} {b : Bool} (h : EqM H n x y b) (I : Inv B fi env Φ g ev H s) : ∀ A v u, A.units + n < cLine → VR g x v → VR g y u → SeqAt.EqAt A s v u b := by
  induction h with
  | int => intro A v u _ h1 h2; obtain ⟨t, rfl⟩ := h1.inv_int; obtain ⟨t', rfl⟩ := h2.inv_int; exact SeqAt.EqAt.int_int _ _ _ _
  | str => intro A v u _ h1 h2; obtain ⟨t, rfl⟩ := h1.inv_str; obtain ⟨t', rfl⟩ := h2.inv_str; exact SeqAt.EqAt.str_str _ _ _ _
  | @bytes n p q =>
    intro A v u _ h1 h2; obtain ⟨t, rfl⟩ := h1.inv_bytes; obtain ⟨t', rfl⟩ := h2.inv_bytes
    intro prog w E Q hq
    refine eqBool_bytes ?_
    have : (p == q) = decide (p = q) := by by_cases h : p = q <;> simp [h]
    rw [this] at hq; simpa using hq
  | same => intro A v u _ h1 h2; obtain ⟨a, e1, rfl⟩ := h1.inv_ref; obtain ⟨a', e2, rfl⟩ := h2.inv_ref; rw [e1] at e2; cases e2; exact SeqAt.EqAt.same _
  | lists e hne hi hj hl hk ih =>
    intro A v u hu h1 h2
    obtain ⟨a1, it1, n1, rfl, s1, o1, e1, r1⟩ := I.list h1 hi
    obtain ⟨a2, it2, n2, rfl, s2, o2, e2, r2⟩ := I.list h2 hj
    refine SeqAt.EqAt.of_refs (by intro q; subst q; rw [o1] at o2; injection o2 with q; exact hne q) ?_
    rw [← all_range_size r1]
    refine SeqAt.RcAt.lists (isListOf e1) (isListOf e2) (by rw [r1.size, r2.size]; exact hl) (by omega) fun k k1 k2 => ?_
    obtain ⟨x, ex, rx⟩ := r1.at (i := k) (v := it1[k]) (by simp)
    obtain ⟨y, ey, ry⟩ := r2.at (i := k) (v := it2[k]) (by simp)
    exact ih k x y ex ey _ _ _ (by show A.units + 1 + _ < cLine; omega) rx ry
  | lens hi hj hl =>
    intro A v u hu h1 h2
    obtain ⟨a1, it1, n1, rfl, s1, o1, e1, r1⟩ := I.list h1 hi
    obtain ⟨a2, it2, n2, rfl, s2, o2, e2, r2⟩ := I.list h2 hj
    refine SeqAt.EqAt.of_refs (by intro q; subst q; rw [o1] at o2; injection o2 with q; subst q; rw [hi] at hj; cases hj; exact hl rfl) ?_
    exact SeqAt.RcAt.lists_lengths (isListOf e1) (isListOf e2) (by rw [r1.size, r2.size]; simpa using hl) (by omega)
  | tups e hl hk ih =>
    intro A v u hu h1 h2
    have hrefl := (EqM.tups e hl hk).refl I
    obtain ⟨a1, it1, n1, rfl, e1, r1⟩ := h1.inv_tup
    obtain ⟨a2, it2, n2, rfl, e2, r2⟩ := h2.inv_tup
    by_cases hq : a1 = a2
    · subst hq
      rw [hrefl _ h1 h2]; exact SeqAt.EqAt.same _
    · refine SeqAt.EqAt.of_refs hq ?_
      rename_i xs ys
      have q : (List.range xs.length).all e = ((List.range (min it1.size it2.size)).all e && it1.size == it2.size) := by
        rw [r1.size, r2.size, ← hl]; simp
      rw [q]
      refine SeqAt.RcAt.tuples (isTupOf (I.F _ _ e1).1) (isTupOf (I.F _ _ e2).1) (by omega) fun k k1 k2 => ?_
      obtain ⟨x, ex, rx⟩ := r1.at (i := k) (v := it1[k]) (by simp)
      obtain ⟨y, ey, ry⟩ := r2.at (i := k) (v := it2[k]) (by simp)
      exact ih k x y ex ey _ _ _ (by show A.units + 1 + _ < cLine; omega) rx ry
end
/-- a test's answer, not to be reckoned out by the elaborator -/
@[irreducible] noncomputable def dc (p : Prop) [Decidable p] : Bool := decide p
theorem dc_eq (p : Prop) [Decidable p] : dc p = decide p := by unfold dc; rfl
theorem dc_t {p : Prop} [Decidable p] (h : p) : dc p = true := (dc_eq p).trans (decide_eq_true h)
theorem dc_f {p : Prop} [Decidable p] (h : ¬p) : dc p = false := (dc_eq p).trans (decide_eq_false h)
theorem of_dc_t {p : Prop} [Decidable p] (h : dc p = true) : p := of_decide_eq_true ((dc_eq p).symm.trans h)
theorem of_dc_f {p : Prop} [Decidable p] (h : dc p = false) : ¬p := of_decide_eq_false ((dc_eq p).symm.trans h)
theorem undc {p : Prop} [Decidable p] {Q : Bool → Prop} (h : Q (dc p)) : Q (decide p) := dc_eq p ▸ h
/-- what a comparison says -/
noncomputable def cmpM (op : CmpOp) (a b : MV) (H : List MObj) (Q : Bool → Prop) : Prop := ∀ B fi d env Φ A g ev s v u, OkA d A → Inv B fi env Φ g ev H s → VR g a v → VR g b u →
  W B fi env Φ A (compareOp op v u) g s (PQ ev H g Q)

section
variable {B : Bs} {fi : FI} {d : Nat} {ev : List MV} {H : List MObj} {A : Around} {env : Env} {Φ : Addr → Option Obj} {g : G} {s : Shared}

theorem valueAt_rel {α : Type} [DecidableEq α] {g : G} {k : α} : ∀ {es : List (α × MV)} {kvs : List (α × Value)}, relK g es kvs →
    (valueAt kvs k).isSome = es.any (fun e => decide (e.1 = k)) ∧ ∀ m, (es.find? (fun e => decide (e.1 = k))).map (·.2) = some m → ∃ v, valueAt kvs k = some v ∧ VR g m v
  | [], _ => fun h => by cases h; exact ⟨rfl, fun m e => by simp at e⟩
  | (x, m) :: es, _ => fun h => by
    obtain ⟨v, r, rfl, h1, h2⟩ := h
    obtain ⟨i1, i2⟩ := valueAt_rel (k := k) h2
    unfold valueAt at i1 i2 ⊢
    by_cases hx : x = k
    · subst hx
      refine ⟨by simp, fun m' e => ?_⟩
      simp at e; subst e; exact ⟨v, by simp, h1⟩
    · refine ⟨by simpa [List.find?_cons, hx] using i1, fun m' e => ?_⟩
      simp only [List.find?_cons, hx, decide_false] at e
      obtain ⟨v', a, b⟩ := i2 m' e
      exact ⟨v', by simpa [List.find?_cons, hx] using a, b⟩

theorem atKey_rel {g : G} {k : List UInt8} : ∀ {es : List (List UInt8 × MV)} {xs : List (List (Option (List UInt8)) × Addr × Value)}, relB g es xs →
    (atKey xs [none, some k]).isSome = es.any (fun e => decide (e.1 = k)) ∧ ∀ m, (es.find? (fun e => decide (e.1 = k))).map (·.2) = some m → ∃ p, atKey xs [none, some k] = some p ∧ VR g m p.2
  | [], _ => fun h => by cases h; exact ⟨rfl, fun m e => by simp at e⟩
  | (x, m) :: es, _ => fun h => by
    obtain ⟨ka, v, r, rfl, h1, h2⟩ := h
    obtain ⟨i1, i2⟩ := atKey_rel (k := k) h2
    unfold atKey at i1 i2 ⊢
    by_cases hx : x = k
    · subst hx
      refine ⟨by simp, fun m' e => ?_⟩
      simp at e; subst e; exact ⟨(ka, v), by simp, h1⟩
    · refine ⟨by simpa [List.find?_cons, hx] using i1, fun m' e => ?_⟩
      simp only [List.find?_cons, hx, decide_false] at e
      obtain ⟨p, a, b⟩ := i2 m' e
      exact ⟨p, by simpa [List.find?_cons, hx] using a, b⟩

theorem strs_any {g : G} {a : Str} : ∀ {ss : List Str} {vs : List Value}, VRs g (ss.map .str) vs → vs.any (fun v => match v with | .str x _ => x == a | _ => false) = ss.any (· == a)
  | [], _ => fun h => by simp only [List.map_nil, VRs] at h; subst h; rfl
  | x :: ss, _ => fun h => by
    simp only [List.map_cons, VRs] at h
    obtain ⟨v, r, rfl, h1, h2⟩ := h
    obtain ⟨t, rfl⟩ := h1.inv_str
    simp only [List.any_cons]; rw [strs_any h2]
theorem strs_mem {g : G} : ∀ {ss : List Str} {vs : List Value}, VRs g (ss.map .str) vs → ∀ v ∈ vs, ∃ x t, v = .str x t
  | [], _ => fun h v hv => by simp only [List.map_nil, VRs] at h; subst h; cases hv
  | x :: ss, _ => fun h v hv => by
    simp only [List.map_cons, VRs] at h
    obtain ⟨u, r, rfl, h1, h2⟩ := h
    rcases List.mem_cons.mp hv with rfl | hv
    · obtain ⟨t, rfl⟩ := h1.inv_str; exact ⟨_, _, rfl⟩
    · exact strs_mem h2 v hv

theorem beq_decide_str (a b : Str) : (a.cps.toList == b.cps.toList) = (a == b) := SeqAt.str_beq a b

theorem kkey {g : G} {b : List UInt8} {v : Value} (I : Inv B fi env Φ g ev H s) (h : VR g (.tup [.bool false, .bytes b]) v) :
    ∃ a items n, v = .ref a ∧ g.F a = some (tupObj items n) ∧ (tupleKind (kkind Prg B.w)).is s.heap [none, some b] a := by
  obtain ⟨a, items, n, rfl, e, r⟩ := h.inv_tup
  refine ⟨a, items, n, rfl, e, _, items, _, (I.F _ _ e).1, rfl, rfl, ?_⟩
  simp only [VRs] at r
  obtain ⟨v1, r1, e1, h1, v2, r2, e2, h2, e3⟩ := r
  subst e3 e2
  rw [e1]
  have h1 := h1.inv_bool; obtain ⟨t, h2⟩ := h2.inv_bytes
  subst h1 h2
  exact .cons rfl (.cons (by simp [kkind, isKK, isBytes]) .nil)

theorem W_inStr {x : Str} {vs : List MV} {v u : Value} {Q : Bool → Prop} (I : Inv B fi env Φ g ev H s) (ha : VR g (.str x) v) (hb : VR g (.tup vs) u)
    (hq : ∃ ss : List Str, vs = ss.map .str ∧ Q (ss.any (· == x))) :
    W B fi env Φ A (compareOp .In v u) g s (PQ ev H g Q) := by
  obtain ⟨ss, rfl, hq⟩ := hq
  obtain ⟨t, rfl⟩ := ha.inv_str
  obtain ⟨a2, it2, n2, rfl, e2, r2⟩ := hb.inv_tup
  refine SeqAt.in_tupleAt (fun v => match v with | .str y _ => y == x | _ => false) (isTupOf (I.F _ _ e2).1) (fun y hy => ?_) ⟨g, ev, H, .refl g, I, ⟨rfl, rfl, rfl⟩, _, rfl, by rw [← Array.any_toList, strs_any r2]; exact hq⟩
  obtain ⟨z, t', rfl⟩ := strs_mem r2 y (by simpa using hy)
  exact SeqAt.EqAt.str_str _ _ _ _
theorem W_notInStr {x : Str} {vs : List MV} {v u : Value} {Q : Bool → Prop} (I : Inv B fi env Φ g ev H s) (ha : VR g (.str x) v) (hb : VR g (.tup vs) u)
    (hq : ∃ ss : List Str, vs = ss.map .str ∧ Q (!ss.any (· == x))) :
    W B fi env Φ A (compareOp .NotIn v u) g s (PQ ev H g Q) := by
  obtain ⟨ss, rfl, hq⟩ := hq
  obtain ⟨t, rfl⟩ := ha.inv_str
  obtain ⟨a2, it2, n2, rfl, e2, r2⟩ := hb.inv_tup
  refine SeqAt.notIn_tupleAt (fun v => match v with | .str y _ => y == x | _ => false) (isTupOf (I.F _ _ e2).1) (fun y hy => ?_) ⟨g, ev, H, .refl g, I, ⟨rfl, rfl, rfl⟩, _, rfl, by rw [← Array.any_toList, strs_any r2]; exact hq⟩
  obtain ⟨z, t', rfl⟩ := strs_mem r2 y (by simpa using hy)
  exact SeqAt.EqAt.str_str _ _ _ _
theorem W_inInt {x : Int} {j : Nat} {v u : Value} {Q : Bool → Prop} (I : Inv B fi env Φ g ev H s) (ha : VR g (.int x) v) (hb : VR g (.ref j) u)
    (hq : ∃ es, H[j]? = some (.dI es) ∧ Q (es.any fun e => decide (e.1 = x))) :
    W B fi env Φ A (compareOp .In v u) g s (PQ ev H g Q) := by
  obtain ⟨es, h1, h2⟩ := hq
  obtain ⟨t, rfl⟩ := ha.inv_int
  obtain ⟨a2, e2, rfl⟩ := hb.inv_ref
  obtain ⟨o2, kvs, h3, h4⟩ := I.live _ a2 _ e2 h1
  exact wpAny_in_of (knd := intKind Prg B.w) (k := x) (by simp [intKind, Value.isInt]) (I.notSys o2) h3.mapOf ⟨g, ev, H, .refl g, I.toks _, ⟨rfl, rfl, rfl⟩, _, rfl, by rw [(valueAt_rel h4).1]; exact h2⟩
theorem W_notInInt {x : Int} {j : Nat} {v u : Value} {Q : Bool → Prop} (I : Inv B fi env Φ g ev H s) (ha : VR g (.int x) v) (hb : VR g (.ref j) u)
    (hq : ∃ es, H[j]? = some (.dI es) ∧ Q (!es.any fun e => decide (e.1 = x))) :
    W B fi env Φ A (compareOp .NotIn v u) g s (PQ ev H g Q) := by
  obtain ⟨es, h1, h2⟩ := hq
  obtain ⟨t, rfl⟩ := ha.inv_int
  obtain ⟨a2, e2, rfl⟩ := hb.inv_ref
  obtain ⟨o2, kvs, h3, h4⟩ := I.live _ a2 _ e2 h1
  exact wpAny_notIn_of (knd := intKind Prg B.w) (k := x) (by simp [intKind, Value.isInt]) (I.notSys o2) h3.mapOf ⟨g, ev, H, .refl g, I.toks _, ⟨rfl, rfl, rfl⟩, _, rfl, by rw [(valueAt_rel h4).1]; exact h2⟩

theorem wpAny_unbind {α β : Type} {M : Model} {A : Around} {E : Value → Shared → Prop} {s : Shared} {m : Sem α} {f : α → β} {Q : β → Shared → Prop} (h : wpAny M A (m >>= fun a => pure (f a)) Q E s) :
    wpAny M A m (fun a s' => Q (f a) s') E s := fun Γ p hΓ => by
  have := h Γ p hΓ
  rw [Sem.wp_bind'] at this
  simpa only [Sem.wp_pure'] using this

theorem W_notInB {x : List UInt8} {j : Nat} {v u : Value} {Q : Bool → Prop} (hu : A.units + 1 < cLine) (I : Inv B fi env Φ g ev H s) (ha : VR g (.tup [.bool false, .bytes x]) v) (hb : VR g (.ref j) u)
    (hq : ∃ es, H[j]? = some (.dB es) ∧ Q (!es.any fun e => decide (e.1 = x))) :
    W B fi env Φ A (compareOp .NotIn v u) g s (PQ ev H g Q) := by
  obtain ⟨es, h1, h2⟩ := hq
  obtain ⟨ka, items, n, rfl, ke, kk⟩ := kkey I ha
  obtain ⟨a2, e2, rfl⟩ := hb.inv_ref
  obtain ⟨o2, xs, h3, h4, h5⟩ := I.live _ a2 _ e2 h1
  have x1 := wpAny_in_heap (A := A) (E := fun _ _ => False) (tupleKind_room_in1 hu) kk (I.notSys o2) h3
    (Q := fun v s' => ∃ b, v = .bool b ∧ ∃ g' ev' H', g.le g' ∧ Inv B fi env Φ g' ev' H' s' ∧ (ev' = ev ∧ H' = H ∧ g' = g) ∧ Q (!b))
    ⟨_, rfl, g, ev, H, .refl g, I.toks _, ⟨rfl, rfl, rfl⟩, by rw [(atKey_rel h5).1]; exact h2⟩
  have x2 := wpAny_unbind (m := contains (.ref a2) (.ref ka)) (f := fun b => Value.bool b) x1
  show wpAny _ _ (do return Value.bool (!(← contains (.ref a2) (.ref ka))) : Sem Value) _ _ _
  refine wpAny_bind (wpAny_mono x2 (fun b s' ⟨b', eb, g', ev', H', l, I', q1, q2⟩ => ?_) fun _ _ x => x)
  cases eb
  exact wpAny_pure ⟨g', ev', H', l, I', q1, _, rfl, q2⟩

theorem W_isNotRef {i j : Nat} {v u : Value} {Q : Bool → Prop} (I : Inv B fi env Φ g ev H s) (ha : VR g (.ref i) v) (hb : VR g (.ref j) u)
    (hq : (∃ C f, H[j]? = some (.inst C f)) ∧ (∃ o, H[i]? = some o) ∧ Q (i != j)) :
    W B fi env Φ A (compareOp .IsNot v u) g s (PQ ev H g Q) := by
  obtain ⟨⟨C, f, h1⟩, ⟨o, h2⟩, h3⟩ := hq
  obtain ⟨a1, e1, rfl⟩ := ha.inv_ref
  obtain ⟨a2, e2, rfl⟩ := hb.inv_ref
  obtain ⟨o1, l1⟩ := I.live _ a1 _ e1 h2
  obtain ⟨o2, d, es, n, h4, h5, h6⟩ := I.live _ a2 _ e2 h1
  show wpAny _ _ (do return Value.bool (!(← isSame (.ref a1) (.ref a2))) : Sem Value) _ _ _
  by_cases hij : i = j
  · subst hij
    rw [e1] at e2; cases e2
    refine wpAny_bind ?_
    show wpAny _ _ (if (a1 == a1) = true then pure true else _) _ _ _
    rw [if_pos (by simp)]
    exact wpAny_pure (wpAny_pure ⟨g, ev, H, .refl g, I, ⟨rfl, rfl, rfl⟩, _, rfl, by simpa using h3⟩)
  · have hne : a1 ≠ a2 := by intro q; subst q; rw [o1] at o2; injection o2 with q; exact hij q
    obtain ⟨p, hp⟩ : ∃ p, s.heap.get? a1 = some p := by
      cases o with
      | list vs => obtain ⟨it, n, x, _⟩ := l1; exact ⟨_, x⟩
      | inst C fs => obtain ⟨d, es, n, x, _⟩ := l1; exact ⟨_, x⟩
      | dI es => obtain ⟨kvs, ⟨o, es', ep, x, _⟩, _⟩ := l1; exact ⟨_, x⟩
      | dS es => obtain ⟨kvs, ⟨o, es', ep, x, _⟩, _⟩ := l1; exact ⟨_, x⟩
      | dB es => obtain ⟨xs, ⟨o, es', ep, x, _⟩, _⟩ := l1; exact ⟨_, x⟩
    refine wpAny_bind (SeqAt.wpAny_isSame_ref_other' hne hp h4 (by intro q; cases q) (wpAny_pure ⟨g, ev, H, .refl g, I, ⟨rfl, rfl, rfl⟩, _, rfl, ?_⟩))
    have : (i != j) = true := by simpa using hij
    rw [this] at h3; exact h3

section
variable {Q : Bool → Prop}
theorem Inv.says (I : Inv B fi env Φ g ev H s) {c : Bool} (h : Q c) : Pst B fi env Φ g (PQ ev H g Q) (.bool c) s := ⟨g, ev, H, .refl g, I, ⟨rfl, rfl, rfl⟩, _, rfl, h⟩
theorem cmp_int {op : CmpOp} {a b : Int} (h : ∀ B fi env Φ A g ev s t t', Inv B fi env Φ g ev H s → W B fi env Φ A (compareOp op (.int a t) (.int b t')) g s (PQ ev H g Q)) : cmpM op (.int a) (.int b) H Q :=
  fun B fi d env Φ A g ev s v u ok I ha hb => by
    obtain ⟨t, rfl⟩ := ha.inv_int; obtain ⟨t', rfl⟩ := hb.inv_int
    exact h B fi env Φ A g ev s t t' I
section
variable {a b : Int}
theorem cmp_lt (h : Q (dc (a < b))) : cmpM .Lt (.int a) (.int b) H Q := cmp_int fun B fi env Φ A g ev s t t' I => P.lt_int (I.says (undc h))
theorem cmp_le (h : Q (dc (a ≤ b))) : cmpM .LtE (.int a) (.int b) H Q := cmp_int fun B fi env Φ A g ev s t t' I => P.le_int (I.says (undc h))
theorem cmp_gt (h : Q (dc (a > b))) : cmpM .Gt (.int a) (.int b) H Q := cmp_int fun B fi env Φ A g ev s t t' I => P.gt_int (I.says (undc h))
theorem cmp_ge (h : Q (dc (a ≥ b))) : cmpM .GtE (.int a) (.int b) H Q := cmp_int fun B fi env Φ A g ev s t t' I => P.ge_int (I.says (undc h))
theorem cmp_eq (h : Q (dc (a = b))) : cmpM .Eq (.int a) (.int b) H Q := cmp_int fun B fi env Φ A g ev s t t' I => P.eq_int (I.says (undc h))
theorem cmp_ne (h : Q (dc (a ≠ b))) : cmpM .NotEq (.int a) (.int b) H Q := cmp_int fun B fi env Φ A g ev s t t' I => P.ne_int (I.says (by rw [dc_eq] at h; rw [show (a != b) = decide (a ≠ b) from by rw [Bool.eq_iff_iff]; simp]; exact h))
end
theorem cmp_eqS {a b : Str} (h : Q (a == b)) : cmpM .Eq (.str a) (.str b) H Q := fun B fi d env Φ A g ev s v u ok I ha hb => by
  obtain ⟨t, rfl⟩ := ha.inv_str; obtain ⟨t', rfl⟩ := hb.inv_str
  exact P.eq_str (I.says (by rw [beq_decide_str]; exact h))
theorem cmp_neS {a b : Str} (h : Q (a != b)) : cmpM .NotEq (.str a) (.str b) H Q := fun B fi d env Φ A g ev s v u ok I ha hb => by
  obtain ⟨t, rfl⟩ := ha.inv_str; obtain ⟨t', rfl⟩ := hb.inv_str
  exact P.ne_str (I.says (by show Q (!(_ == _)); rw [beq_decide_str]; exact h))
theorem cmp_eqB {a b : List UInt8} (h : Q (a == b)) : cmpM .Eq (.bytes a) (.bytes b) H Q := fun B fi d env Φ A g ev s v u ok I ha hb => by
  obtain ⟨t, rfl⟩ := ha.inv_bytes; obtain ⟨t', rfl⟩ := hb.inv_bytes
  exact eq_bytes (I.says (by simpa using h))
theorem cmp_eqR {i j : Nat} {b : Bool} (hne : i ≠ j) (he : EqM H 20 (.ref i) (.ref j) b) (h : Q b) : cmpM .Eq (.ref i) (.ref j) H Q := fun B fi d env Φ A g ev s v u hd I ha hb => by
  have hu := hd.cl
  have hu20 : A.units + 20 < cLine := by have := hd.2.2; omega
  cases he with
  | same => exact absurd rfl hne
  | lists e hne hi hj hl hk =>
    obtain ⟨a1, it1, n1, rfl, s1, o1, e1, r1⟩ := I.list ha hi
    obtain ⟨a2, it2, n2, rfl, s2, o2, e2, r2⟩ := I.list hb hj
    refine SeqAt.eq_listAt (e := e) (isListOf e1) (isListOf e2) (by rw [r1.size, r2.size]; exact hl) hu (fun k k1 k2 => ?_) (I.says (by rw [all_range_size r1]; exact h))
    obtain ⟨x, ex, rx⟩ := r1.at (i := k) (v := it1[k]) (by simp)
    obtain ⟨y, ey, ry⟩ := r2.at (i := k) (v := it2[k]) (by simp)
    exact (hk k x y ex ey).at I _ _ _ (by show A.units + 1 + _ < cLine; omega) rx ry
  | lens hi hj hl =>
    obtain ⟨a1, it1, n1, rfl, s1, o1, e1, r1⟩ := I.list ha hi
    obtain ⟨a2, it2, n2, rfl, s2, o2, e2, r2⟩ := I.list hb hj
    exact SeqAt.eq_list_lengthsAt (isListOf e1) (isListOf e2) (by rw [r1.size, r2.size]; simpa using hl) hu (I.says h)
theorem cmp_neR {i j : Nat} {b : Bool} (hne : i ≠ j) (he : EqM H 20 (.ref i) (.ref j) b) (h : Q (!b)) : cmpM .NotEq (.ref i) (.ref j) H Q := fun B fi d env Φ A g ev s v u hd I ha hb => by
  have hu := hd.cl
  have hu20 : A.units + 20 < cLine := by have := hd.2.2; omega
  cases he with
  | same => exact absurd rfl hne
  | lists e hne hi hj hl hk =>
    obtain ⟨a1, it1, n1, rfl, s1, o1, e1, r1⟩ := I.list ha hi
    obtain ⟨a2, it2, n2, rfl, s2, o2, e2, r2⟩ := I.list hb hj
    refine SeqAt.RcNeAt.lists (e := e) (isListOf e1) (isListOf e2) (by rw [r1.size, r2.size]; exact hl) hu (fun k k1 k2 => ?_) _ _ _ _ (I.says (by rw [all_range_size r1]; exact h))
    obtain ⟨x, ex, rx⟩ := r1.at (i := k) (v := it1[k]) (by simp)
    obtain ⟨y, ey, ry⟩ := r2.at (i := k) (v := it2[k]) (by simp)
    exact (hk k x y ex ey).at I _ _ _ (by show A.units + 1 + _ < cLine; omega) rx ry
  | lens hi hj hl =>
    obtain ⟨a1, it1, n1, rfl, s1, o1, e1, r1⟩ := I.list ha hi
    obtain ⟨a2, it2, n2, rfl, s2, o2, e2, r2⟩ := I.list hb hj
    exact SeqAt.RcNeAt.lists_lengths (isListOf e1) (isListOf e2) (by rw [r1.size, r2.size]; simpa using hl) hu _ _ _ _ (I.says h)
theorem cmp_inS {x : Str} {ss : List Str} (h : Q (ss.any (· == x))) : cmpM .In (.str x) (.tup (ss.map .str)) H Q := fun B fi d env Φ A g ev s v u hd I ha hb => W_inStr I ha hb ⟨ss, rfl, h⟩
theorem cmp_ninS {x : Str} {ss : List Str} (h : Q (!ss.any (· == x))) : cmpM .NotIn (.str x) (.tup (ss.map .str)) H Q := fun B fi d env Φ A g ev s v u hd I ha hb => W_notInStr I ha hb ⟨ss, rfl, h⟩
theorem cmp_indI {a : Int} {j : Nat} {es : List (Int × MV)} (h1 : H[j]? = some (.dI es)) (h : Q (es.any fun e => decide (e.1 = a))) : cmpM .In (.int a) (.ref j) H Q := fun B fi d env Φ A g ev s v u hd I ha hb => W_inInt I ha hb ⟨es, h1, h⟩
theorem cmp_nindI {a : Int} {j : Nat} {es : List (Int × MV)} (h1 : H[j]? = some (.dI es)) (h : Q (!es.any fun e => decide (e.1 = a))) : cmpM .NotIn (.int a) (.ref j) H Q := fun B fi d env Φ A g ev s v u hd I ha hb => W_notInInt I ha hb ⟨es, h1, h⟩
theorem cmp_nindB {b : List UInt8} {j : Nat} {es : List (List UInt8 × MV)} (h1 : H[j]? = some (.dB es)) (h : Q (!es.any fun e => decide (e.1 = b))) : cmpM .NotIn (.tup [.bool false, .bytes b]) (.ref j) H Q := fun B fi d env Φ A g ev s v u hd I ha hb => W_notInB (by have := hd.2.2; omega) I ha hb ⟨es, h1, h⟩
theorem cmp_isnNN (h : Q false) : cmpM .IsNot .none .none H Q := fun B fi d env Φ A g ev s v u hd I ha hb => by
  rw [ha.inv_none, hb.inv_none]; exact isNot_none (I.says h)
theorem cmp_isnIN {i : Int} (h : Q true) : cmpM .IsNot (.int i) .none H Q := fun B fi d env Φ A g ev s v u hd I ha hb => by
  obtain ⟨t, rfl⟩ := ha.inv_int; rw [hb.inv_none]; exact isNot_none (I.says h)
theorem cmp_isnR {i j : Nat} {o : MObj} {C : Addr} {f : List (Str × MV)} (h1 : H[j]? = some (.inst C f)) (h2 : H[i]? = some o) (h : Q (i != j)) : cmpM .IsNot (.ref i) (.ref j) H Q := fun B fi d env Φ A g ev s v u hd I ha hb => W_isNotRef I ha hb ⟨⟨C, f, h1⟩, ⟨o, h2⟩, h⟩
end
end
section
variable {B : Bs} {fi : FI} {d : Nat} {ev : List MV} {H : List MObj} {A : Around} {env : Env} {Φ : Addr → Option Obj} {g : G} {s : Shared}

theorem WPE.cmp {l r : Expr} {op : CmpOp} {pos : Pos} {Q : MV → List MObj → Prop} (hm : behindInMarks op r = false)
    (h : WPE B fi d l ev H fun a H1 => WPE B fi d r ev H1 fun b H2 => cmpM op a b H2 fun c => Q (.bool c) H2) : WPE B fi d (.Compare l [op] [r] pos) ev H Q := fun A env Φ g s ok I => by
  refine wpAny_Compare1 ((h A env Φ g s ok I).to fun g1 ev1 H1 v s1 l1 I1 ⟨e1, a, ra, h1⟩ => ?_) hm
  subst e1
  refine (h1 A env Φ g1 s1 ok I1).to fun g2 ev2 H2 u s2 l2 I2 hq1 => ?_
  obtain ⟨e2, b, rb, h2⟩ := hq1
  subst e2
  exact W.back (l1.trans l2) ((h2 B fi d env Φ A g2 _ s2 v u ok I2 (ra.mono l2) rb).mono fun g' ev' H' v l ⟨⟨q1, q2, q3⟩, b, e, q⟩ => ⟨q1, .bool b, by rw [e]; exact .bool', q2 ▸ q⟩)

theorem WPT.cmp {l r : Expr} {op : CmpOp} {pos : Pos} {Q : Bool → List MObj → Prop} (hm : behindInMarks op r = false)
    (h : WPE B fi d l ev H fun a H1 => WPE B fi d r ev H1 fun b H2 => cmpM op a b H2 fun c => Q c H2) : WPT B fi d (.Compare l [op] [r] pos) ev H Q := fun A env Φ g s ok I => by
  refine wpAny_isTrue_Compare1 ((h A env Φ g s ok I).to fun g1 ev1 H1 v s1 l1 I1 ⟨e1, a, ra, h1⟩ => ?_) hm
  subst e1
  refine (h1 A env Φ g1 s1 ok I1).to fun g2 ev2 H2 u s2 l2 I2 hq2 => ?_
  obtain ⟨e2, b, rb, h2⟩ := hq2
  subst e2
  refine (h2 B fi d env Φ A g2 _ s2 v u ok I2 (ra.mono l2) rb).to fun g' ev' H' v s3 l I3 hq3 => ?_
  obtain ⟨⟨q1, q2, q3⟩, b, e, q⟩ := hq3
  subst e
  exact wpAny_truthy_bool ⟨g', ev', H', (l1.trans l2).trans l, I3, q1, q2 ▸ q⟩

theorem WPT.not {e : Expr} {pos : Pos} {Q : Bool → List MObj → Prop} (h : WPT B fi d e ev H fun b H1 => Q (!b) H1) : WPT B fi d (.UnaryOp .Not e pos) ev H Q := fun A env Φ g s ok I =>
  wpAny_isTrue_Not ((h A env Φ g s ok I).to fun g1 ev1 H1 b s1 l1 I1 q => ⟨g1, ev1, H1, l1, I1, by obtain ⟨a, b⟩ := q; exact ⟨a, b⟩⟩)

/-- a test of what holds a bool -/
theorem WPT.val {e : Expr} {Q : Bool → List MObj → Prop} (he : ∀ env, isTrue e env (eval e env) = (do let v ← eval e env; standAt e.pos; holding [v] (truthy v)))
    (h : WPE B fi d e ev H fun m H1 => ∃ b, m = .bool b ∧ Q b H1) : WPT B fi d e ev H Q := fun A env Φ g s ok I => by
  refine wpAny_isTrue_value ((h A env Φ g s ok I).to fun g1 ev1 H1 v s1 l1 I1 ⟨e1, m, rm, b, e2, h1⟩ => ?_) (he env)
  subst e1 e2
  rw [rm.inv_bool]
  exact wpAny_truthy_bool ⟨g1, _, H1, l1, I1, rfl, h1⟩

/-- and, or -/
noncomputable def WPA (B : Bs) (fi : FI) (d : Nat) (op : BoolOp) (es : List Expr) (ev : List MV) (H : List MObj) (Q : Bool → List MObj → Prop) : Prop :=
  ∀ A env Φ g s, OkA d A → Inv B fi env Φ g ev H s → W B fi env Φ A (allTrue op es env) g s (PT ev Q)
theorem WPT.bop {op : BoolOp} {es : List Expr} {pos : Pos} {Q : Bool → List MObj → Prop} (h : WPA B fi d op es ev H Q) : WPT B fi d (.BoolOp op es pos) ev H Q := fun A env Φ g s ok I =>
  wpAny_isTrue_BoolOp (h A env Φ g s ok I)
theorem WPA.andNil {Q : Bool → List MObj → Prop} (h : Q true H) : WPA B fi d .And [] ev H Q := fun A env Φ g s ok I => wpAny_allTrue_And_nil ⟨g, ev, H, .refl g, I, rfl, h⟩
theorem WPA.orNil {Q : Bool → List MObj → Prop} (h : Q false H) : WPA B fi d .Or [] ev H Q := fun A env Φ g s ok I => wpAny_allTrue_Or_nil ⟨g, ev, H, .refl g, I, rfl, h⟩
theorem WPA.and {x : Expr} {rest : List Expr} {Q : Bool → List MObj → Prop} (h : WPT B fi d x ev H fun b H1 => (b = true → WPA B fi d .And rest ev H1 Q) ∧ (b = false → Q false H1)) : WPA B fi d .And (x :: rest) ev H Q := fun A env Φ g s ok I =>
  wpAny_allTrue_And_cons ((h A env Φ g s ok I).to fun g1 ev1 H1 b s1 l1 I1 hq4 => by
    obtain ⟨e1, h1, h2⟩ := hq4
    subst e1
    cases b
    · exact ⟨g1, _, H1, l1, I1, rfl, h2 rfl⟩
    · exact W.back l1 (h1 rfl A env Φ g1 s1 ok I1))
theorem WPA.or {x : Expr} {rest : List Expr} {Q : Bool → List MObj → Prop} (h : WPT B fi d x ev H fun b H1 => (b = true → Q true H1) ∧ (b = false → WPA B fi d .Or rest ev H1 Q)) : WPA B fi d .Or (x :: rest) ev H Q := fun A env Φ g s ok I =>
  wpAny_allTrue_Or_cons ((h A env Φ g s ok I).to fun g1 ev1 H1 b s1 l1 I1 hq5 => by
    obtain ⟨e1, h1, h2⟩ := hq5
    subst e1
    cases b
    · exact W.back l1 (h2 rfl A env Φ g1 s1 ok I1)
    · exact ⟨g1, _, H1, l1, I1, rfl, h1 rfl⟩)

theorem WPE.ifx {t a b : Expr} {pos : Pos} {Q : MV → List MObj → Prop} (h : WPT B fi d t ev H fun c H1 => (c = true → WPE B fi d a ev H1 Q) ∧ (c = false → WPE B fi d b ev H1 Q)) : WPE B fi d (.IfExp t a b pos) ev H Q := fun A env Φ g s ok I =>
  wpAny_IfExp ((h A env Φ g s ok I).to fun g1 ev1 H1 b s1 l1 I1 hq6 => by
    obtain ⟨e1, h1, h2⟩ := hq6
    subst e1
    cases b
    · exact W.back l1 (h2 rfl A env Φ g1 s1 ok I1)
    · exact W.back l1 (h1 rfl A env Φ g1 s1 ok I1))

theorem WPEs.nil {Q : List MV → List MObj → Prop} (h : Q [] H) : WPEs B fi d [] ev H Q := fun A env Φ g s pos ok I => wpAny_items_nil ⟨g, ev, H, .refl g, I, rfl, [], by simp [VRs], h⟩
theorem WPEs.cons {e : Expr} {rest : List Expr} {Q : List MV → List MObj → Prop} (he : ∀ env, starEach (e :: rest) env = (false, eval e env) :: starEach rest env)
    (h : WPE B fi d e ev H fun m H1 => WPEs B fi d rest ev H1 fun ms H2 => Q (m :: ms) H2) : WPEs B fi d (e :: rest) ev H Q := fun A env Φ g s pos ok I => by
  refine wpAny_items_cons ((h A env Φ g s ok I).to fun g1 ev1 H1 v s1 l1 I1 ⟨e1, m, rm, h1⟩ => ?_) (he env)
  subst e1
  refine (h1 A env Φ g1 s1 pos ok I1).to fun g2 ev2 H2 vs s2 l2 I2 hq7 => ?_
  obtain ⟨e2, ms, rms, h2⟩ := hq7
  exact ⟨g2, ev2, H2, l1.trans l2, I2, e2, m :: ms, by simp only [VRs]; exact ⟨_, _, rfl, rm.mono l2, rms⟩, h2⟩

theorem WPE.tup {es : List Expr} {k : Nat} {pos : Pos} {Q : MV → List MObj → Prop} (h : WPEs B fi d es ev H fun ms H1 => ms.length ≤ 100000 ∧ Q (.tup ms) H1) : WPE B fi d (.Tuple es k pos) ev H Q := fun A env Φ g s ok I => by
  refine wpAny_Tuple ((h A env Φ g s pos ok I).to fun g1 ev1 H1 vs s1 l1 I1 ⟨e1, ms, rms, hl, h1⟩ => ⟨by rw [rms.length]; exact Nat.le_trans hl (by decide), ?_⟩)
  obtain ⟨g2, l2, I2, hF⟩ := I1.fz (tupObj vs.toArray 0)
  exact ⟨g2, ev1, H1, l1.trans l2, I2, e1, .tup ms, by simp only [VR]; exact ⟨_, _, _, rfl, hF, rms.mono l2⟩, h1⟩

theorem WPE.list {es : List Expr} {pos : Pos} {Q : MV → List MObj → Prop} (h : WPEs B fi d es ev H fun ms H1 => ms.length ≤ 100000 ∧ Q (.ref H1.length) (H1 ++ [.list ms])) : WPE B fi d (.List es pos) ev H Q := fun A env Φ g s ok I => by
  refine wpAny_List ((h A env Φ g s pos ok I).to fun g1 ev1 H1 vs s1 l1 I1 ⟨e1, ms, rms, hl, h1⟩ => ⟨by rw [rms.length]; exact Nat.le_trans hl (by decide), ?_⟩)
  obtain ⟨g2, l2, I2, hσ⟩ := I1.newList (items := vs.toArray) (n := 0) (vs := ms) rms
  exact ⟨g2, ev1, _, l1.trans l2, I2, e1, _, .ref' hσ, h1⟩

/-! attributes -/
noncomputable def plain : MV → Bool
  | .con _ | .undef => false
  | _ => true
theorem handed {g : G} {m : MV} {v : Value} (h : VR g m v) (hp : plain m = true) : handedIn v = true := by
  cases m <;> simp only [plain, Bool.false_eq_true] at hp
  · rw [h.inv_none]; rfl
  · rw [h.inv_bool]; rfl
  · obtain ⟨t, rfl⟩ := h.inv_int; rfl
  · obtain ⟨t, rfl⟩ := h.inv_str; rfl
  · obtain ⟨t, rfl⟩ := h.inv_bytes; rfl
  · obtain ⟨a, it, n, rfl, _⟩ := h.inv_tup; rfl
  · obtain ⟨a, _, rfl⟩ := h.inv_ref; rfl

noncomputable abbrev attrOk (B : Bs) (C : Addr) (x : Str) : Bool := attrK B.K C x

noncomputable def getF (x : Str) : List (Str × MV) → Option MV
  | [] => none
  | (y, m) :: r => if y == x then some m else getF x r
theorem getF_L {P : Params} {g : G} {x : Str} {m : MV} : ∀ {fs : List (Str × MV)} {es : List DictEntry}, VRf P g fs es → getF x fs = some m → ∃ v, getL x es = some (some v) ∧ VR g m v
  | [], _, _, e => by cases e
  | (y, m') :: fs, _, h, e => by
    obtain ⟨t, v, r, rfl, h1, h2⟩ := h
    unfold getF at e
    unfold getL
    have hk : (Value.str y t).isStr x = (y == x) := rfl
    by_cases hx : (y == x) = true
    · rw [if_pos hx] at e; cases e
      exact ⟨v, by simp [List.find?_cons, hk, hx], h1⟩
    · rw [if_neg hx] at e
      obtain ⟨v', a, b⟩ := getF_L h2 e
      refine ⟨v', ?_, b⟩
      have hx' : (y == x) = false := by simpa using hx
      unfold getL at a
      simp only [List.find?_cons, hk, hx']
      cases hf : List.find? (fun x_1 => x_1.key.isStr x) r with
      | some e' => rw [hf] at a; exact a
      | none =>
        rw [hf] at a
        simp only at a ⊢
        split at a
        · cases a
        · cases a

theorem instOf {I : Inv B fi env Φ g ev H s} {i : Nat} {C : Addr} {fs : List (Str × MV)} {v : Value} (hv : VR g (.ref i) v) (hi : H[i]? = some (.inst C fs)) :
    ∃ a dx es n, v = .ref a ∧ g.σ[i]? = some a ∧ g.ow a = .lv i ∧ g.ow dx = .lv i ∧ a ≠ dx ∧ s.heap.get? a = some (instObj C dx) ∧ s.heap.get? dx = some (dictOf es n) ∧ VRf B.w.params g fs es ∧
      InstAt s.heap a (instObj C dx) C (some (dictOf es n)) := by
  obtain ⟨a, h1, rfl⟩ := hv.inv_ref
  obtain ⟨h2, dx, es, n, h3, h4, h5, h6, h7⟩ := I.live i a _ h1 hi
  exact ⟨a, dx, es, n, rfl, h1, h2, h5, h6, h3, h4, h7, h3, rfl, rfl, h4⟩

theorem W_attr {i : Nat} {C : Addr} {fs : List (Str × MV)} {v : Value} {x : Str} {m : MV} {b : Bool} (I : Inv B fi env Φ g ev H s) (hv : VR g (.ref i) v) (hi : H[i]? = some (.inst C fs))
    (hx : attrOk B C x = true) (hm : getF x fs = some m) (hp : plain m = true) : W B fi env Φ A (getAttr v x b) g s (fun g' ev' H' r => (ev' = ev ∧ H' = H ∧ g' = g) ∧ VR g m r) := by
  obtain ⟨a, dx, es, n, rfl, h1, h2, h3, h4, h5, h6, h7, IA⟩ := instOf (I := I) hv hi
  obtain ⟨u, hl, ru⟩ := getF_L h7 hm
  obtain ⟨q1, q2⟩ := Bool.and_eq_true_iff.mp hx
  obtain ⟨q2, q3⟩ := Bool.and_eq_true_iff.mp q2
  split at q3
  · rename_i at_ q4
    exact get_value I.kx IA (plainGet_of q1).1 (findObj_own q2 q4 q3 (by rw [lookIn_dict]; exact hl)) (handed ru hp) ⟨g, ev, H, .refl g, I.toks _, ⟨rfl, rfl, rfl⟩, ru⟩
  · cases q3

theorem WPE.attr {e : Expr} {x : Str} {pos : Pos} {Q : MV → List MObj → Prop} (hb : ∀ env, attributeBase e x env (eval e env) = eval e env)
    (h : WPE B fi d e ev H fun o H1 => ∃ i C fs m, o = .ref i ∧ H1[i]? = some (.inst C fs) ∧ attrOk B C x = true ∧ getF x fs = some m ∧ plain m = true ∧ Q m H1) : WPE B fi d (.Attribute e x pos) ev H Q := fun A env Φ g s ok I => by
  show wpAny _ _ _ _ _ _
  rw [arm_eval_Attribute, hb]
  refine wpAny_bind ((h A env Φ g s ok I).to fun g1 ev1 H1 v s1 l1 I1 hq8 => ?_)
  obtain ⟨e1, o, ro, i, C, fs, m, e2, hi, hx, hm, hp, h1⟩ := hq8
  subst e1 e2
  refine wpAny_bind (wpAny_standAt (wpAny_bind (wpAny_holding ((W_attr I1 ro hi hx hm hp).to fun g2 ev2 H2 u s2 l2 I2 hq9 => ?_))))
  obtain ⟨⟨q1, q2, q3⟩, q4⟩ := hq9
  subst q1 q2 q3
  exact wpAny_bind (wpAny_letTemporaryGo (wpAny_pure ⟨_, _, _, l1, I2, rfl, m, q4, h1⟩))

/-! subscripts -/
noncomputable def idxM (k : Int) (n : Nat) : Option Nat := if k < 0 then (if -(n : Int) ≤ k then some (k + n).toNat else none) else (if k < n then some k.toNat else none)
theorem idxM_bounds {k : Int} {n j : Nat} (h : idxM k n = some j) : -(n : Int) ≤ k ∧ k < n ∧ seqIndex? k n = some j := by
  unfold idxM at h; unfold seqIndex?
  split at h
  · split at h
    · cases h; rename_i q1 q2; refine ⟨q2, by omega, ?_⟩; simp only [q1, if_true]; rw [if_pos (by simp; omega)]
    · cases h
  · split at h
    · cases h; rename_i q1 q2; refine ⟨by omega, q2, ?_⟩; simp only [q1, if_false]; rw [if_pos (by simp; omega)]
    · cases h
/-- what a subscript brings -/
noncomputable def subM (o i : MV) (H : List MObj) (Q : MV → List MObj → Prop) : Prop := ∀ B fi d env Φ A g ev s v u value slice, OkA d A → Inv B fi env Φ g ev H s → VR g o v → VR g i u → (∀ o i, subscripted slice false o i = operate [o, i] (getItem o i)) →
  W B fi env Φ A (subscriptTail value slice v u) g s (PE ev Q)

theorem W_tail {value slice : Expr} {o i : Value} {T id : String} {Q : G → List MV → List MObj → Value → Prop} (hT : s.TypeIs o T)
    (hl : typeLookup (.type T) "__getitem__" = pure (some (.builtin id))) (hg : W B fi env Φ A (getItem o i) g s Q) (hs : ∀ o i, subscripted slice false o i = operate [o, i] (getItem o i)) :
    W B fi env Φ A (subscriptTail value slice o i) g s Q := tail_any hT hl hg (hs o i)

section
variable {Q : MV → List MObj → Prop}
theorem sub_list {j : Nat} {k : Int} {vs : List MV} {n : Nat} {m : MV} (h1 : H[j]? = some (.list vs)) (hsz : vs.length ≤ 100000) (h2 : idxM k vs.length = some n) (h3 : vs[n]? = some m) (h4 : Q m H) : subM (.ref j) (.int k) H Q := fun B fi d env Φ A g ev s v u value slice ok I ho hi hs => by
  obtain ⟨t, rfl⟩ := hi.inv_int
  obtain ⟨a1, it1, n1, rfl, s1, o1, e1, r1⟩ := I.list ho h1
  obtain ⟨x, ex, rx⟩ := r1.get h3
  refine W_tail (isListOf e1).typeIs slot_list_getitem.lookup ?_ hs
  unfold idxM at h2
  split at h2
  · split at h2
    · cases h2
      exact wpAny_getItem_list_neg (isListOf e1) (by assumption) (by rw [r1.size]; assumption) (by omega) (by rw [r1.size]; simpa using ex) ⟨g, ev, H, .refl g, I, rfl, m, rx, h4⟩
    · cases h2
  · split at h2
    · cases h2
      exact wpAny_getItem_list (isListOf e1) (by omega) (by omega) (by simpa using ex) ⟨g, ev, H, .refl g, I, rfl, m, rx, h4⟩
    · cases h2
theorem sub_dI {j : Nat} {k : Int} {es : List (Int × MV)} {m : MV} (h1 : H[j]? = some (.dI es)) (h2 : (es.find? (fun e => decide (e.1 = k))).map (·.2) = some m) (h3 : Q m H) : subM (.ref j) (.int k) H Q := fun B fi d env Φ A g ev s v u value slice ok I ho hi hs => by
  obtain ⟨t, rfl⟩ := hi.inv_int
  obtain ⟨a2, e2, rfl⟩ := ho.inv_ref
  obtain ⟨o2, kvs, h5, h6⟩ := I.live _ a2 _ e2 h1
  obtain ⟨x, ex, rx⟩ := (valueAt_rel h6).2 m h2
  refine W_tail h5.mapOf.typeIs slot_dict_getitem.lookup ?_ hs
  exact wpAny_getItem_of (knd := intKind Prg B.w) (k := _) (by exact (beq_self_eq_true _)) h5.mapOf ex ⟨g, ev, H, .refl g, I.toks _, rfl, m, rx, h3⟩
theorem sub_dS {j : Nat} {k : Str} {es : List (Str × MV)} {m : MV} (h1 : H[j]? = some (.dS es)) (h2 : (es.find? (fun e => decide (e.1 = k))).map (·.2) = some m) (h3 : Q m H) : subM (.ref j) (.str k) H Q := fun B fi d env Φ A g ev s v u value slice ok I ho hi hs => by
  obtain ⟨t, rfl⟩ := hi.inv_str
  obtain ⟨a2, e2, rfl⟩ := ho.inv_ref
  obtain ⟨o2, kvs, h5, h6⟩ := I.live _ a2 _ e2 h1
  obtain ⟨x, ex, rx⟩ := (valueAt_rel h6).2 m h2
  refine W_tail h5.mapOf.typeIs slot_dict_getitem.lookup ?_ hs
  exact wpAny_getItem_of (knd := PySem.strKind Prg B.w) (by exact (beq_self_eq_true _)) h5.mapOf ex ⟨g, ev, H, .refl g, I.toks _, rfl, m, rx, h3⟩
theorem sub_dB {j : Nat} {k : List UInt8} {es : List (List UInt8 × MV)} {m : MV} (h1 : H[j]? = some (.dB es)) (h2 : (es.find? (fun e => decide (e.1 = k))).map (·.2) = some m) (h3 : Q m H) : subM (.ref j) (.tup [.bool false, .bytes k]) H Q := fun B fi d env Φ A g ev s v u value slice ok I ho hi hs => by
  obtain ⟨ka, items, n, rfl, ke, kk⟩ := kkey I hi
  obtain ⟨a2, e2, rfl⟩ := ho.inv_ref
  obtain ⟨o2, xs, h5, h6, h7⟩ := I.live _ a2 _ e2 h1
  obtain ⟨p, ep, rp⟩ := (atKey_rel h7).2 m h2
  refine W_tail h5.typeIs slot_dict_getitem.lookup ?_ hs
  exact wpAny_getItem_heap (tupleKind_room_in1 (by have := ok.2.2; omega)) kk h5 ep ⟨g, ev, H, .refl g, I.toks _, rfl, m, rp, h3⟩
theorem sub_tupM {k : Int} {vs : List MV} {n : Nat} {m : MV} (hsz : vs.length ≤ 100000) (h2 : idxM k vs.length = some n) (h3 : vs[n]? = some m) (h4 : Q m H) : subM (.tup vs) (.int k) H Q := fun B fi d env Φ A g ev s v u value slice ok I ho hi hs => by
  obtain ⟨t, rfl⟩ := hi.inv_int
  obtain ⟨a, it, n', rfl, e, r⟩ := ho.inv_tup
  obtain ⟨x, ex, rx⟩ := r.get h3
  have ht : IsTup s.heap a it := ⟨_, (I.F _ _ e).1, rfl, _, rfl⟩
  refine W_tail (isTupOf (I.F _ _ e).1).typeIs slot_tuple_getitem.lookup ?_ hs
  obtain ⟨b1, b2, hj⟩ := idxM_bounds h2
  exact getItem_tuple ht (by omega) (by omega) (by rw [r.size]; exact hj) (by simpa using ex) ⟨g, ev, H, .refl g, I, rfl, m, rx, h4⟩
end

theorem WPE.sub {e i : Expr} {pos : Pos} {Q : MV → List MObj → Prop} (hs : ∀ o v, subscripted i false o v = operate [o, v] (getItem o v))
    (h : WPE B fi d e ev H fun o H1 => WPE B fi d i ev H1 fun k H2 => subM o k H2 Q) : WPE B fi d (.Subscript e i pos) ev H Q := fun A env Φ g s ok I => by
  refine Subscript_ ((h A env Φ g s ok I).to fun g1 ev1 H1 v s1 l1 I1 hq10 => ?_)
  obtain ⟨e1, a, ra, h1⟩ := hq10
  subst e1
  refine (h1 A env Φ g1 s1 ok I1).to fun g2 ev2 H2 u s2 l2 I2 hq11 => ?_
  obtain ⟨e2, b, rb, h2⟩ := hq11
  subst e2
  exact W.back (l1.trans l2) (h2 B fi d env Φ A g2 _ s2 v u _ _ ok I2 (ra.mono l2) rb hs)

/-! slices -/
noncomputable def WPO (B : Bs) (fi : FI) (d : Nat) : Option Expr → List MV → List MObj → (Option Int → List MObj → Prop) → Prop
  | none, _, H, Q => Q none H
  | some e, ev, H, Q => WPE B fi d e ev H fun m H1 => ∃ i, m = .int i ∧ 0 ≤ i ∧ Q (some i) H1
noncomputable def sliceM (vs : List MV) (lo hi : Option Int) : List MV := (vs.drop (lo.elim 0 Int.toNat)).take (hi.elim vs.length Int.toNat - lo.elim 0 Int.toNat)
noncomputable def natPart (o : Option Int) : Prop := ∀ i, o = some i → 0 ≤ i

theorem W_part {o : Option Expr} {Q : Option Int → List MObj → Prop} (ok : OkA d A) (I : Inv B fi env Φ g ev H s) (h : WPO B fi d o ev H Q) :
    W B fi env Φ A (evalPart o env) g s (fun g' ev' H' v => ev' = ev ∧ ∃ p, IsPart v p ∧ natPart p ∧ Q p H') := by
  cases o with
  | none => exact wpAny_pure ⟨g, ev, H, .refl g, I, rfl, Option.none, .none, (fun _ e => by cases e), h⟩
  | some e =>
    refine W.mono (h A env Φ g s ok I) fun g' ev' H' v l hq12 => ?_
    obtain ⟨e1, m, rm, i, e2, h0, hq⟩ := hq12
    subst e2
    obtain ⟨t, rfl⟩ := rm.inv_int
    exact ⟨e1, some i, .int i t, (fun _ e => by cases e; exact h0), hq⟩

theorem clip_nat' (n : Nat) {i : Int} (h : 0 ≤ i) : clipAt n i = min i.toNat n := by
  obtain ⟨k, rfl⟩ := Int.eq_ofNat_of_zero_le h
  rw [clipAt_nat]; rfl
theorem slice_list {α : Type} (l : List α) (a b : Nat) : (l.drop (min a l.length)).take (min b l.length - min a l.length) = (l.drop a).take (b - a) := by
  by_cases h : a ≤ l.length
  · rw [Nat.min_eq_left h]
    by_cases h' : b ≤ l.length
    · rw [Nat.min_eq_left h']
    · rw [Nat.min_eq_right (by omega), List.take_of_length_le (by rw [List.length_drop]; omega), List.take_of_length_le (by rw [List.length_drop]; omega)]
  · rw [Nat.min_eq_right (by omega : l.length ≤ a), List.drop_of_length_le (Nat.le_refl _), List.drop_of_length_le (by omega)]; simp
theorem pick_rel {g : G} {ms : List MV} {items : Array Value} {lo hi : Option Int} (h : VRs g ms items.toList) (hl : natPart lo) (hh : natPart hi) : VRs g (sliceM ms lo hi) (slicePick items lo hi none).toList := by
  have e : (slicePick items lo hi none).toList = (items.toList.drop (lo.elim 0 Int.toNat)).take (hi.elim items.toList.length Int.toNat - lo.elim 0 Int.toNat) := by
    rw [slicePick_plain]
    show (items.toList.drop (lo.elim 0 (clipAt items.size))).take (hi.elim items.size (clipAt items.size) - lo.elim 0 (clipAt items.size)) = _
    have hz : items.size = items.toList.length := by simp
    rw [hz]
    have e1 : lo.elim 0 (clipAt items.toList.length) = min (lo.elim 0 Int.toNat) items.toList.length := by
      cases lo with
      | none => simp
      | some i => exact clip_nat' _ (hl i rfl)
    have e2 : hi.elim items.toList.length (clipAt items.toList.length) = min (hi.elim items.toList.length Int.toNat) items.toList.length := by
      cases hi with
      | none => simp
      | some i => exact clip_nat' _ (hh i rfl)
    rw [e1, e2, slice_list]
  rw [e]
  unfold sliceM
  have : items.toList.length = ms.length := h.length
  rw [this]
  exact (h.drop _).take _

theorem WPE.slice {e : Expr} {lo hi : Option Expr} {p pos : Pos} {Q : MV → List MObj → Prop}
    (h : WPE B fi d e ev H fun o H1 => WPO B fi d lo ev H1 fun a H2 => WPO B fi d hi ev H2 fun b H3 => ∃ j vs, o = .ref j ∧ H3[j]? = some (.list vs) ∧ vs.length ≤ 100000 ∧ Q (.ref H3.length) (H3 ++ [.list (sliceM vs a b)])) :
    WPE B fi d (.Subscript e (.Slice lo hi none p) pos) ev H Q := fun A env Φ g s ok I => by
  refine Subscript_ ((h A env Φ g s ok I).to fun g1 ev1 H1 v s1 l1 I1 hq13 => ?_)
  obtain ⟨e1, o, ro, h1⟩ := hq13
  subst e1
  refine wpAny_Slice ((W_part ok I1 h1).to fun g2 ev2 H2 va s2 l2 I2 hq14 => ?_)
  obtain ⟨e2, pa, ia, na, h2⟩ := hq14
  subst e2
  refine (W_part ok I2 h2).to fun g3 ev3 H3 vb s3 l3 I3 hq15 => ?_
  obtain ⟨e3, pb, ib, nb, j, vs, e4, hj, hsz, hq⟩ := hq15
  subst e3 e4
  rw [evalPart_none]
  refine wpAny_pure ?_
  obtain ⟨a1, it1, n1, rfl, s1', o1, e5, r1⟩ := I3.list (ro.mono (l2.trans l3)) hj
  have I4 := I3.push { cls := .type "slice", data := .fields #[va, vb, .none] }
  have hl := (isListOf e5).push { cls := .type "slice", data := .fields #[va, vb, .none] }
  refine tail_any (ops := [.ref s3.heap.objs.size, .ref a1]) hl.typeIs slot_list_getitem.lookup (wpAny_getItem_list_slice hl (Heap.IsSliceOf.new ..) ia ib .none (by simp) ?_ (by rw [r1.size]; exact Nat.le_trans hsz (by decide))) rfl
  obtain ⟨g5, l5, I5, hσ⟩ := I4.newList (items := slicePick it1 pa pb none) (n := 0) (vs := sliceM vs pa pb) (pick_rel r1 na nb)
  exact ⟨g5, _, _, ((l1.trans l2).trans l3).trans l5, I5, rfl, _, .ref' hσ, hq⟩
end
section
variable {B : Bs} {fi : FI} {d : Nat} {ev : List MV} {H : List MObj} {A : Around} {env : Env} {Φ : Addr → Option Obj} {g : G} {s s' : Shared}

theorem VRo.upd {g : G} {ev : List MV} {i : Nat} {m : MV} {v : Value} (h : VR g m v) : VRo g (ev.set i m)[i]? (some v) := by
  by_cases hi : i < ev.length
  · rw [List.getElem?_set_self hi]; exact .ofVR h
  · rw [List.getElem?_eq_none (by rw [List.length_set]; omega)]; intro x e; cases e

theorem W_store {x : Str} {i : Nat} {k : NameKind} {m : MV} {v : Value} (I : Inv B fi env Φ g ev H s) (hs : slot fi.ns x = some (i, k)) (hk : k = .local ∨ (k = .cell ∧ x ∈ fi.own)) (hv : VR g m v) :
    W B fi env Φ A (storeName env x v) g s (fun g' ev' H' _ => g' = g ∧ ev' = ev.set i m ∧ H' = H) := by
  have fr := I.fr
  obtain ⟨⟨hlo, mm, hn, hl⟩, hc⟩ := And.intro fr.loc fr.cel
  rcases hk with rfl | ⟨rfl, how⟩
  · refine wpAny_storeName_local (kindOf_slot fr hs) hn (fun h' hn' hs' => ?_) (by rw [fr.kind]; rfl)
    refine ⟨g, _, H, .refl g, I.frame rfl rfl (fun b p h1 h2 e => (hs'.2 b (fun q => by subst q; exact h2 _ hlo)).trans e) (fun b e => ?_) ?_, rfl, rfl, rfl⟩
    · by_cases q : b = env.locals
      · subst q; obtain ⟨o, _, _, ho, _⟩ := hn'; rw [show h'.get? env.locals = some o from ho] at e; cases e
      · rw [← hs'.2 b q]; exact e
    · refine ⟨fr.names, fr.kind, fr.glob, fr.blt, ⟨hlo, _, hn', fun y j e => ?_⟩, fun y j k e hk => ?_⟩
      · by_cases q : y = x
        · subst q; rw [hs] at e; cases e; simpa using VRo.upd hv
        · have hij : j ≠ i := fun q' => by subst q'; exact q (slot_inj e hs)
          rw [List.getElem?_set_ne (Ne.symm hij)]; simpa [q] using hl y j e
      · obtain ⟨c, u, a1, a2, a3, a4⟩ := hc y j k e hk
        have hne : c ≠ env.locals := fun q => by subst q; rcases a4 with a4 | ⟨a4, _⟩ <;> rw [hlo] at a4 <;> cases a4
        have hij : j ≠ i := fun q' => by
          subst q'
          have := slot_inj e hs; subst this; rw [hs] at e; cases e; rcases hk with h | h <;> cases h
        exact ⟨c, u, a1, a2.sameBut hs' hne, by rw [List.getElem?_set_ne (Ne.symm hij)]; exact a3, a4⟩
  · obtain ⟨c, u, a1, a2, a3, a4⟩ := hc x i _ hs (.inl rfl)
    have a4' : g.ow c = .fr (some x) := a4.elim id fun a => absurd how a.2
    refine wpAny_storeName_cell fr.kind (kindOf_slot fr hs) a1 a2 fun h' hc' hs' => ?_
    have hcl : env.locals ≠ c := fun q => by rw [← q, hlo] at a4'; cases a4'
    refine ⟨g, _, H, .refl g, I.frame rfl rfl (fun b p h1 h2 e => (hs'.2 b (fun q => by subst q; exact h2 _ a4')).trans e) (fun b e => ?_) ?_, rfl, rfl, rfl⟩
    · by_cases q : b = c
      · subst q; obtain ⟨o, ho, _⟩ := hc'; rw [show h'.get? b = some o from ho] at e; cases e
      · rw [← hs'.2 b q]; exact e
    · refine ⟨fr.names, fr.kind, fr.glob, fr.blt, ⟨hlo, mm, hn.sameBut hs' hcl, fun y j e => ?_⟩, fun y j k e hk => ?_⟩
      · have hij : j ≠ i := fun q' => by
          subst q'
          have := slot_inj e hs; subst this; rw [hs] at e; cases e
        rw [List.getElem?_set_ne (Ne.symm hij)]; exact hl y j e
      · by_cases q : y = x
        · subst q; rw [hs] at e; cases e
          exact ⟨c, some v, a1, hc', VRo.upd hv, a4⟩
        · obtain ⟨c', u', b1, b2, b3, b4⟩ := hc y j k e hk
          have hne : c' ≠ c := fun q' => by
            subst q'; rw [a4'] at b4
            rcases b4 with b4 | ⟨b4, _⟩
            · injection b4 with b4; injection b4 with b4; exact q b4.symm
            · cases b4
          have hij : j ≠ i := fun q' => by subst q'; exact q (slot_inj e hs)
          exact ⟨c', u', b1, b2.sameBut hs' hne, by rw [List.getElem?_set_ne (Ne.symm hij)]; exact b3, b4⟩

/-! setting an attribute -/
noncomputable def putF (x : Str) (m : MV) : List (Str × MV) → List (Str × MV)
  | [] => [(x, m)]
  | (y, m') :: r => if y == x then (y, m) :: r else (y, m') :: putF x m r
theorem putF_rel {P : Params} {g : G} {x : Str} {m : MV} {v : Value} {t : Tok} (hv : VR g m v) : ∀ {fs : List (Str × MV)} {es : List DictEntry}, VRf P g fs es → VRf P g (putF x m fs) (putL x (PyData.keyHash P x) (.str x t) v es)
  | [], _, h => by cases h; exact ⟨t, v, [], rfl, hv, rfl⟩
  | (y, m') :: fs, _, h => by
    obtain ⟨t', v', r, rfl, h1, h2⟩ := h
    unfold putF putL
    show VRf P g _ (if (y == x) = true then _ else _)
    by_cases hx : (y == x) = true
    · rw [if_pos hx, if_pos hx]; exact ⟨t', v, r, rfl, hv, h2⟩
    · rw [if_neg hx, if_neg hx]; exact ⟨t', v', _, rfl, h1, putF_rel hv h2⟩
theorem VRf.noRef {P : Params} {g : G} : ∀ {fs : List (Str × MV)} {es : List DictEntry}, VRf P g fs es → es.any (·.refKey) = false
  | [], _, h => by cases h; rfl
  | (y, m') :: fs, _, h => by
    obtain ⟨t', v', r, rfl, h1, h2⟩ := h
    rw [List.any_cons, VRf.noRef h2]; rfl
theorem VRf.length {P : Params} {g : G} : ∀ {fs : List (Str × MV)} {es : List DictEntry}, VRf P g fs es → es.length = fs.length
  | [], _, h => by cases h; rfl
  | (y, m') :: fs, _, h => by
    obtain ⟨t', v', r, rfl, h1, h2⟩ := h
    rw [List.length_cons, List.length_cons, VRf.length h2]
theorem putL_len (x : Str) (hh : Int) (k v : Value) : ∀ es : List DictEntry, (putL x hh k v es).length ≤ es.length + 1
  | [] => by simp [putL]
  | e :: r => by
    unfold putL
    split
    · simp
    · have := putL_len x hh k v r; simp only [List.length_cons]; omega

noncomputable abbrev setOk (B : Bs) (C : Addr) (x : Str) : Bool := setK B.K C x

theorem upd_none {h : Heap} {a : Addr} {f : Obj → Obj} {o : Obj} (e : (h.update a f).get? a = some o) : ∀ b, (h.update a f).get? b = none → h.get? b = none := fun b q => by
  by_cases r : b = a
  · subst r; rw [e] at q; cases q
  · rw [Heap.get?_update_other h f (Ne.symm r)] at q; exact q

theorem W_setAttr {i : Nat} {C : Addr} {fs : List (Str × MV)} {o v : Value} {x : Str} {m : MV} (I : Inv B fi env Φ g ev H s) (ho : VR g (.ref i) o) (hi : H[i]? = some (.inst C fs))
    (hx : setOk B C x = true) (hv : VR g m v) (hlen : fs.length ≤ 100) : W B fi env Φ A (setAttr o x v) g s (fun g' ev' H' _ => (ev' = ev ∧ g' = g) ∧ H' = H.set i (.inst C (putF x m fs))) := by
  obtain ⟨a, dx, es, n, rfl, h1, h2, h3, h4, h5, h6, h7, IA⟩ := instOf (I := I) ho hi
  obtain ⟨q1, q2⟩ := Bool.and_eq_true_iff.mp hx
  obtain ⟨q2, q3⟩ := Bool.and_eq_true_iff.mp q2
  obtain ⟨q3, q4⟩ := Bool.and_eq_true_iff.mp q3
  have hcl := any_some q4
  refine set_plain I.kx IA (beq_iff_eq.mp q1) ?_
  refine osa_open (s := { s with toks := s.toks + 1 }) I.kx IA q2 (beq_iff_eq.mp q3) fun b => ?_
  obtain ⟨cd, hc, hd'⟩ := hcl
  refine wpAny_bind (wpAny_pure (wpAny_bind (wpAny_bind (wpAny_loadPart h5 (wpAny_bind (Looks.here (s := { s with toks := s.toks + 1 }) (looks_clsIn (K := Kw B) I.kx hc) ?_))))))
  rw [hd']
  refine wpAny_pure (a := some dx) (wpAny_bind (wpAny_pure (wpAny_bind ?_)))
  unfold nsSet
  refine wpAny_bind (wpAny_bind (wpAny_askSetting (wpAny_pure (wpAny_bind (wpAny_mkText (wpAny_bind (wpAny_loadPart h6 ?_)))))))
  dsimp only
  have c : (!es.toArray.any (·.key.isStr x) && es.toArray.any (·.refKey)) = false := by
    rw [List.any_toArray, List.any_toArray, VRf.noRef h7, Bool.and_false]
  rw [aRefKeyMayBeTheName_at, c]
  refine wpAny_updatePart h6 ?_
  have hpd := fun t => putName_dict x (PyData.keyHash B.w.params x) (.str x t) v es n
  have D' : ∀ t, (s.heap.update dx (Obj.putName x (PyData.keyHash B.w.params x) (.str x t) v)).get? dx = some (dictOf (putL x (PyData.keyHash B.w.params x) (.str x t) v es) (putN x es n)) := fun t => by
    rw [← hpd t]; exact Heap.get?_update_self _ h6 (by rw [hpd]; rfl)
  refine wpAny_bind (wpAny_lookBehind (D' _) (pastItsLine_dict (by
    rw [List.size_toArray, sizeLine_eq]; have := putL_len x (PyData.keyHash B.w.params x) (.str x (s.toks + 1)) v es; have := h7.length; omega)) ?_)
  refine wpAny_pure ⟨g, ev, _, .refl g, I.upd h1 rfl rfl (fun b p e1 e2 e3 => ?_) (upd_none (D' _)) ?_, ⟨rfl, rfl⟩, rfl⟩
  · have : b ≠ dx := fun q => by subst q; exact e2 h3
    exact (Heap.get?_update_other _ _ (Ne.symm this)).trans e3
  · exact ⟨dx, _, _, (Heap.get?_update_other _ _ (Ne.symm h4)).trans h5, D' _, h3, h4, putF_rel hv h7⟩

/-! setting an item -/
noncomputable def setD {α : Type} [DecidableEq α] (k : α) (m : MV) : List (α × MV) → List (α × MV)
  | [] => [(k, m)]
  | (x, m') :: r => if x = k then (x, m) :: r else (x, m') :: setD k m r

theorem relK.mem {α : Type} {g : G} : ∀ {es : List (α × MV)} {kvs : List (α × Value)}, relK g es kvs → kvs.map (·.1) = es.map (·.1)
  | [], _, h => by cases h; rfl
  | (x, m) :: es, _, h => by obtain ⟨v, r, rfl, h1, h2⟩ := h; rw [List.map_cons, List.map_cons, relK.mem h2]
theorem relK.setD {α : Type} [DecidableEq α] {g : G} {k : α} {m : MV} {v : Value} (hv : VR g m v) : ∀ {es : List (α × MV)} {kvs : List (α × Value)}, relK g es kvs → (kvs.map (·.1)).Nodup → relK g (setD k m es) (stored kvs k v)
  | [], _, h, _ => by cases h; exact ⟨v, [], rfl, hv, rfl⟩
  | (x, m') :: es, _, h, hn => by
    obtain ⟨v', r, rfl, h1, h2⟩ := h
    rw [List.map_cons, List.nodup_cons] at hn
    unfold Mine.setD
    by_cases hx : x = k
    · subst hx
      have : stored ((x, v') :: r) x v = (x, v) :: r := by
        unfold stored
        rw [if_pos (by simp), List.map_cons, if_pos rfl, map_store_of_not_mem r x v hn.1]
      rw [if_pos rfl, this]; exact ⟨v, r, rfl, hv, h2⟩
    · have ih := relK.setD (k := k) hv h2 hn.2
      have : stored ((x, v') :: r) k v = (x, v') :: stored r k v := by
        unfold stored
        by_cases ha : r.any (fun kv => kv.1 = k) = true
        · rw [if_pos ha, if_pos (by rw [List.any_cons, ha]; simp), List.map_cons, if_neg hx]
        · rw [if_neg ha, if_neg (by rw [List.any_cons]; simp [hx]; simpa using ha)]; rfl
      rw [if_neg hx, this]; exact ⟨v', _, rfl, h1, ih⟩

/-- what a store under a key leaves -/
noncomputable def setM (ob k m : MV) (H : List MObj) (Q : List MObj → Prop) : Prop := ∀ B fi d env Φ A g ev s o kv v, OkA d A → Inv B fi env Φ g ev H s → VR g ob o → VR g k kv → VR g m v →
  W B fi env Φ A (setItem o kv v) g s (fun g' ev' H' _ => ev' = ev ∧ Q H')

theorem sb_none {h h' : Heap} {a : Addr} {o : Obj} (hs : Heap.SameBut a h h') (e : h'.get? a = some o) : ∀ b, h'.get? b = none → h.get? b = none := fun b q => by
  by_cases r : b = a
  · subst r; rw [e] at q; cases q
  · rw [← hs.2 b r]; exact q

theorem W_setItemList {j : Nat} {vs : List MV} {k : Int} {t : Tok} {m : MV} {o v : Value} (I : Inv B fi env Φ g ev H s) (ho : VR g (.ref j) o) (hj : H[j]? = some (.list vs)) (hv : VR g m v) (h0 : 0 ≤ k) (hn : k < vs.length) (hsz : vs.length ≤ 100000) :
    W B fi env Φ A (setItem o (.int k t) v) g s (fun g' ev' H' _ => (ev' = ev ∧ g' = g) ∧ H' = H.set j (.list (vs.set k.toNat m))) := by
  obtain ⟨a, items, n, rfl, s1, o1, e1, r1⟩ := I.list ho hj
  have hl := isListOf e1
  show wpAny _ _ (setItem _ _ _) _ _ _
  unfold setItem
  try with_reducible refine wpAny_holding ?_
  refine wpAny_bind (wpAny_sequenceKey hl.typeIs (by decide) ?_)
  refine wpAny_bind (wpAny_callSpecial?_slot (name := Str.ofString "__setitem__") hl.typeIs slot_list_setitem
    (wpAny_call_entry slot_list_setitem hl.typeIs entry_list_setitem ?_ (args_list_setitem _ _ _)))
  show wpAny _ _ (Builtin.List.listSubscript? (.int k t) >>= _) _ _ s
  refine wpAny_bind (wpAny_listSubscript_int (fitsIndex_of h0 (by omega)) ?_)
  obtain ⟨i, rfl⟩ := Int.eq_ofNat_of_zero_le h0
  have hi : i < items.size := by rw [r1.size]; omega
  have hx' : items[i]? = some items[i] := Array.getElem?_eq_getElem hi
  show wpAny _ _ ((seqItemAt a i >>= fun r => pure (r.map (i, ·))) >>= _) _ _ s
  refine wpAny_bind (wpAny_bind (wpAny_seqItemAt e1 rfl (wpAny_pure ?_)))
  rw [hx']
  show wpAny _ _ (setSeqItemAt a i v >>= _) _ _ s
  have D' : (s.heap.update a (Obj.mapSeq (·.setIfInBounds i v))).get? a = some (listObj (items.setIfInBounds i v) n) := by
    have := IsL.update (h := s.heap) (l := a) (items := items) (n := n) e1 (·.setIfInBounds i v)
    simpa using this
  have fin : Inv B fi env Φ g ev (H.set j (.list (vs.set i m))) { s with heap := s.heap.update a (Obj.mapSeq (·.setIfInBounds i v)) } :=
    I.upd s1 rfl rfl (fun b p e1 e2 e3 => (Heap.get?_update_other _ _ (fun q => by subst q; exact e2 o1)).trans e3) (upd_none D') ⟨_, n, D', by rw [Array.toList_setIfInBounds]; exact r1.set hv⟩
  refine wpAny_bind (wpAny_setSeqItemAt e1 rfl ?_)
  first
    | exact wpAny_bind (wpAny_pure (wpAny_pure ⟨.none, rfl, wpAny_pure ⟨g, ev, _, .refl g, fin, ⟨rfl, rfl⟩, rfl⟩⟩))
    | exact wpAny_pure ⟨.none, rfl, wpAny_pure ⟨g, ev, _, .refl g, fin, ⟨rfl, rfl⟩, rfl⟩⟩

theorem relB.len {g : G} : ∀ {es : List (List UInt8 × MV)} {xs : List (List (Option (List UInt8)) × Addr × Value)}, relB g es xs → xs.length = es.length
  | [], _, h => by cases h; rfl
  | (b, m) :: es, _, h => by obtain ⟨ka, v, r, rfl, h1, h2⟩ := h; rw [List.length_cons, List.length_cons, relB.len h2]
theorem relB.snoc {g : G} {b : List UInt8} {m : MV} {ka : Addr} {v : Value} (hv : VR g m v) : ∀ {es : List (List UInt8 × MV)} {xs : List (List (Option (List UInt8)) × Addr × Value)}, relB g es xs → relB g (es ++ [(b, m)]) (xs ++ [([none, some b], ka, v)])
  | [], _, h => by cases h; exact ⟨ka, v, [], rfl, hv, rfl⟩
  | (b', m') :: es, _, h => by obtain ⟨ka', v', r, rfl, h1, h2⟩ := h; exact ⟨ka', v', _, rfl, h1, relB.snoc hv h2⟩

theorem atKey_none {g : G} {k : List UInt8} {es : List (List UInt8 × MV)} {xs : List (List (Option (List UInt8)) × Addr × Value)} (h : relB g es xs) (hn : (es.any fun e => decide (e.1 = k)) = false) : atKey xs [none, some k] = none := by
  have := (atKey_rel (k := k) h).1
  rw [hn] at this
  cases hq : atKey xs [none, some k] with
  | none => rfl
  | some p => rw [hq] at this; cases this
section
variable {Q : List MObj → Prop} {m : MV}
theorem set_listM {j : Nat} {k : Int} {vs : List MV} (h1 : H[j]? = some (.list vs)) (h2 : 0 ≤ k) (h3 : k < vs.length) (h4 : vs.length ≤ 100000) (h5 : Q (H.set j (.list (vs.set k.toNat m)))) : setM (.ref j) (.int k) m H Q := fun B fi d env Φ A g ev s o kv v ok I ho hk hv => by
  obtain ⟨t, rfl⟩ := hk.inv_int
  exact (W_setItemList I ho h1 hv h2 h3 h4).mono fun g' ev' H' _ _ ⟨⟨q1, q2⟩, q3⟩ => ⟨q1, q3 ▸ h5⟩
theorem set_dI {j : Nat} {k : Int} {es : List (Int × MV)} (h1 : H[j]? = some (.dI es)) (h2 : es.length ≤ 100000) (h3 : Q (H.set j (.dI (setD k m es)))) : setM (.ref j) (.int k) m H Q := fun B fi d env Φ A g ev s o kv v ok I ho hk hv => by
  obtain ⟨t, rfl⟩ := hk.inv_int
  obtain ⟨a2, e2, rfl⟩ := ho.inv_ref
  obtain ⟨o2, kvs, h5, h6⟩ := I.live _ a2 _ e2 h1
  refine wpAny_setItem_pairs (knd := intKind Prg B.w) (by exact (beq_self_eq_true _)) h5 (fun h' hd' hs' => ?_) (by have := congrArg List.length h6.mem; simp at this; exact Nat.le_trans (by omega : kvs.length ≤ 100000) (by decide))
  have hnd : (kvs.map (·.1)).Nodup := let ⟨_, _, _, _, _, _, _, _, x⟩ := h5; x
  refine ⟨g, ev, _, .refl g, I.upd (o := .dI (setD _ m es)) e2 rfl rfl (fun b p y1 y2 y3 => (hs'.2 b (fun q => by subst q; exact y2 o2)).trans y3) ?_ ⟨_, hd', h6.setD hv hnd⟩, rfl, h3⟩
  obtain ⟨o', es', ep', x1, x2⟩ := hd'
  exact sb_none hs' x1
theorem set_dS {j : Nat} {k : Str} {es : List (Str × MV)} (h1 : H[j]? = some (.dS es)) (h2 : es.length ≤ 100000) (h3 : Q (H.set j (.dS (setD k m es)))) : setM (.ref j) (.str k) m H Q := fun B fi d env Φ A g ev s o kv v ok I ho hk hv => by
  obtain ⟨t, rfl⟩ := hk.inv_str
  obtain ⟨a2, e2, rfl⟩ := ho.inv_ref
  obtain ⟨o2, kvs, h5, h6⟩ := I.live _ a2 _ e2 h1
  refine wpAny_setItem_pairs (knd := PySem.strKind Prg B.w) (by exact (beq_self_eq_true _)) h5 (fun h' hd' hs' => ?_) (by have := congrArg List.length h6.mem; simp at this; exact Nat.le_trans (by omega : kvs.length ≤ 100000) (by decide))
  have hnd : (kvs.map (·.1)).Nodup := let ⟨_, _, _, _, _, _, _, _, x⟩ := h5; x
  refine ⟨g, ev, _, .refl g, I.upd (o := .dS (setD _ m es)) e2 rfl rfl (fun b p y1 y2 y3 => (hs'.2 b (fun q => by subst q; exact y2 o2)).trans y3) ?_ ⟨_, hd', h6.setD hv hnd⟩, rfl, h3⟩
  obtain ⟨o', es', ep', x1, x2⟩ := hd'
  exact sb_none hs' x1
theorem set_dB {j : Nat} {b : List UInt8} {es : List (List UInt8 × MV)} (h1 : H[j]? = some (.dB es)) (h2 : es.length ≤ 100000) (h3 : (es.any fun e => decide (e.1 = b)) = false) (h4 : Q (H.set j (.dB (es ++ [(b, m)])))) : setM (.ref j) (.tup [.bool false, .bytes b]) m H Q := fun B fi d env Φ A g ev s o kv v ok I ho hk hv => by
  obtain ⟨ka, items, n, rfl, ke, kk⟩ := kkey I hk
  obtain ⟨a2, e2, rfl⟩ := ho.inv_ref
  obtain ⟨o2, xs, h5, h6, h7⟩ := I.live _ a2 _ e2 h1
  refine wpAny_setItem_heap (tupleKind_room_in1 (by have := ok.2.2; omega)) kk h5 (fun h' hd' hs' => ?_) (by rw [h7.len]; exact Nat.le_trans h2 (by decide))
  rw [storedH_new (atKey_none h7 h3)] at hd'
  refine ⟨g, ev, _, .refl g, I.upd (o := .dB (es ++ [(_, m)])) e2 rfl rfl (fun b p y1 y2 y3 => (hs'.2 b (fun q => by subst q; exact y2 o2)).trans y3) ?_ ⟨_, hd', fun y hy => ?_, h7.snoc hv⟩, rfl, h4⟩
  · obtain ⟨o', es', ep', x1, x2⟩ := hd'
    exact sb_none hs' x1
  · rcases List.mem_append.mp hy with hy | hy
    · exact h6 y hy
    · simp at hy; subst hy; exact ⟨items, n, ke⟩
end
end
/-- a target takes a value -/
noncomputable def WPG (B : Bs) (fi : FI) (d : Nat) (t : Expr) (m : MV) (ev : List MV) (H : List MObj) (Q : List MV → List MObj → Prop) : Prop :=
  ∀ A env Φ g s v, OkA d A → Inv B fi env Φ g ev H s → VR g m v → W B fi env Φ A (assign t env v) g s (fun _ ev' H' _ => Q ev' H')
noncomputable def WPGs (B : Bs) (fi : FI) (d : Nat) (ts : List Expr) (ms : List MV) (ev : List MV) (H : List MObj) (Q : List MV → List MObj → Prop) : Prop :=
  ∀ A env Φ g s vs, OkA d A → Inv B fi env Φ g ev H s → VRs g ms vs → W B fi env Φ A (assignInOrder ((assignEach ts env).map (·.2)) vs) g s (fun _ ev' H' _ => Q ev' H')

section
variable {B : Bs} {fi : FI} {d : Nat} {ev : List MV} {H : List MObj} {A : Around} {env : Env} {Φ : Addr → Option Obj} {g : G} {s s' : Shared}

theorem WPG.name {x : Str} {pos : Pos} {i : Nat} {k : NameKind} {m : MV} {Q : List MV → List MObj → Prop} (hs : slot fi.ns x = some (i, k)) (hk : k = .local ∨ (k = .cell ∧ x ∈ fi.own)) (h : Q (ev.set i m) H) :
    WPG B fi d (.Name x pos) m ev H Q := fun A env Φ g s v ok I hv => assign_Name ((W_store I hs hk hv).mono fun g' ev' H' _ _ ⟨q1, q2, q3⟩ => by rw [q2, q3]; exact h)

theorem WPG.attr {e : Expr} {x : Str} {pos : Pos} {m : MV} {Q : List MV → List MObj → Prop}
    (h : WPE B fi d e ev H fun o H1 => ∃ i C fs, o = .ref i ∧ H1[i]? = some (.inst C fs) ∧ setOk B C x = true ∧ fs.length ≤ 100 ∧ Q ev (H1.set i (.inst C (putF x m fs)))) : WPG B fi d (.Attribute e x pos) m ev H Q := fun A env Φ g s v ok I hv => by
  show wpAny _ _ _ _ _ _
  rw [arm_assign_Attribute]
  refine wpAny_bind (wpAny_holding ((h A env Φ g s ok I).to fun g1 ev1 H1 u s1 l1 I1 hq1 => ?_))
  obtain ⟨e1, o, ro, i, C, fs, e2, hi, hx, hl, h1⟩ := hq1
  subst e1 e2
  refine wpAny_bind (wpAny_standAt (wpAny_bind (wpAny_holding ((W_setAttr I1 ro hi hx (hv.mono l1) hl).to fun g2 ev2 H2 u s2 l2 I2 hq2 => ?_))))
  obtain ⟨⟨q1, q2⟩, q3⟩ := hq2
  subst q1 q2 q3
  exact wpAny_release ⟨_, _, _, l1, I2, h1⟩

theorem WPG.sub {e k : Expr} {pos : Pos} {m : MV} {Q : List MV → List MObj → Prop}
    (h : WPE B fi d e ev H fun o H1 => WPE B fi d k ev H1 fun i H2 => setM o i m H2 (Q ev)) : WPG B fi d (.Subscript e k pos) m ev H Q := fun A env Φ g s v ok I hv => by
  show wpAny _ _ _ _ _ _
  rw [arm_assign_Subscript]
  refine wpAny_bind (wpAny_holding ((h A env Φ g s ok I).to fun g1 ev1 H1 u s1 l1 I1 hq3 => ?_))
  obtain ⟨e1, o, ro, h1⟩ := hq3
  subst e1
  refine wpAny_bind (wpAny_holding ((h1 A env Φ g1 s1 ok I1).to fun g2 ev2 H2 u2 s2 l2 I2 hq4 => ?_))
  obtain ⟨e2, i, ri, h2⟩ := hq4
  subst e2
  refine wpAny_bind (wpAny_standAt (wpAny_bind (wpAny_holding ((h2 B fi d env Φ A g2 _ s2 u u2 v ok I2 (ro.mono l2) ri (hv.mono (l1.trans l2))).to fun g3 ev3 H3 u s3 l3 I3 hq5 => ?_))))
  obtain ⟨q1, q2⟩ := hq5
  subst q1
  exact wpAny_release ⟨_, _, _, (l1.trans l2).trans l3, I3, q2⟩

theorem WPGs.nil {Q : List MV → List MObj → Prop} (h : Q ev H) : WPGs B fi d [] [] ev H Q := fun A env Φ g s vs ok I hv => by
  simp only [VRs] at hv; subst hv
  exact wpAny_pure ⟨g, ev, H, .refl g, I, h⟩
theorem WPGs.cons {t : Expr} {ts : List Expr} {m : MV} {ms : List MV} {Q : List MV → List MObj → Prop} (ht : ∀ env, assignEach (t :: ts) env = (false, assign t env) :: assignEach ts env)
    (h : WPG B fi d t m ev H fun ev1 H1 => WPGs B fi d ts ms ev1 H1 Q) : WPGs B fi d (t :: ts) (m :: ms) ev H Q := fun A env Φ g s vs ok I hv => by
  simp only [VRs] at hv
  obtain ⟨v, r, rfl, h1, h2⟩ := hv
  show wpAny _ _ _ _ _ _
  rw [ht, List.map_cons, assignInOrder]
  refine wpAny_bind (wpAny_holding ((h A env Φ g s v ok I h1).to fun g1 ev1 H1 u s1 l1 I1 q => ?_))
  exact W.back l1 (q A env Φ g1 s1 r ok I1 (h2.mono l1))

theorem assignEach_len : ∀ (ts : List Expr) (env : Env), (assignEach ts env).length = ts.length
  | [], _ => rfl
  | t :: ts, env => by
    cases t <;> (show _ + 1 = _ + 1; rw [assignEach_len ts env])

theorem WPG.tup {ts : List Expr} {k : Nat} {pos : Pos} {ms : List MV} {Q : List MV → List MObj → Prop} (hlen : ts.length = ms.length) (hst : ∀ env, (assignEach ts env).findIdx? (·.1) = none)
    (h : WPGs B fi d ts ms ev H Q) : WPG B fi d (.Tuple ts k pos) (.tup ms) ev H Q := fun A env Φ g s v ok I hv => by
  obtain ⟨a, items, n, rfl, e, r⟩ := hv.inv_tup
  have ht : IsTup s.heap a items := ⟨_, (I.F _ _ e).1, rfl, _, rfl⟩
  refine assign_Tuple_tuple ok.1 ht (by rw [assignEach_len, r.size, hlen]) (hst env) fun h' hh => ?_
  have I' : Inv B fi env Φ g ev H { s with heap := h' } := I.step rfl rfl fun b o hb e => hh b o (fun q => by subst q; exact hb I.szn) e
  exact h A env Φ g _ _ ok I' r

/-! statements -/
theorem WPS.nil {Qn : List MV → List MObj → Prop} {Qr : MV → List MObj → Prop} (h : Qn ev H) : WPS B fi d [] ev H Qn Qr := fun A env Φ g s ok I => wpAny_execs_nil ⟨g, ev, H, .refl g, I, h⟩
theorem WPS.cons {st : Stmt} {rest : List Stmt} {Qn : List MV → List MObj → Prop} {Qr : MV → List MObj → Prop} (h : WP1 B fi d st ev H (fun ev1 H1 => WPS B fi d rest ev1 H1 Qn Qr) Qr) : WPS B fi d (st :: rest) ev H Qn Qr :=
  fun A env Φ g s ok I => wpAny_execs_cons ((h A env Φ g s ok I).to fun g1 ev1 H1 f s1 l1 I1 q => by
    cases f with
    | next => exact W.back l1 (q A env Φ g1 s1 ok I1)
    | ret v => exact ⟨g1, ev1, H1, l1, I1, q⟩
    | brk => exact q.elim
    | cont => exact q.elim)

theorem WP1.ret {e : Expr} {pos : Pos} {Qn : List MV → List MObj → Prop} {Qr : MV → List MObj → Prop} (h : WPE B fi d e ev H Qr) : WP1 B fi d (.Return (some e) pos) ev H Qn Qr := fun A env Φ g s ok I =>
  wpAny_Return_some ((h A env Φ g s ok I).to fun g1 ev1 H1 v s1 l1 I1 q => ⟨g1, ev1, H1, l1, I1, by obtain ⟨_, m, r, q⟩ := q; exact ⟨m, r, q⟩⟩)
theorem WP1.ifs {t : Expr} {a b : List Stmt} {pos : Pos} {Qn : List MV → List MObj → Prop} {Qr : MV → List MObj → Prop}
    (h : WPT B fi d t ev H fun c H1 => (c = true → WPS B fi d a ev H1 Qn Qr) ∧ (c = false → WPS B fi d b ev H1 Qn Qr)) : WP1 B fi d (.If t a b pos) ev H Qn Qr := fun A env Φ g s ok I =>
  wpAny_If ((h A env Φ g s ok I).to fun g1 ev1 H1 b s1 l1 I1 hq6 => by
    obtain ⟨e1, h1, h2⟩ := hq6
    subst e1
    cases b
    · exact W.back l1 (h2 rfl A env Φ g1 s1 ok I1)
    · exact W.back l1 (h1 rfl A env Φ g1 s1 ok I1))

noncomputable def notRef : MV → Bool
  | .none | .bool _ | .int _ | .str _ | .bytes _ => true
  | _ => false
theorem WP1.expr {e : Expr} {pos : Pos} {Qn : List MV → List MObj → Prop} {Qr : MV → List MObj → Prop} (hs : ∀ env, swapsWith e none pos.line env = pure false)
    (h : WPE B fi d e ev H fun m H1 => notRef m = true ∧ Qn ev H1) : WP1 B fi d (.Expr e pos) ev H Qn Qr := fun A env Φ g s ok I => by
  refine wpAny_Expr ((h A env Φ g s ok I).to fun g1 ev1 H1 v s1 l1 I1 ⟨e1, m, r, hn, q⟩ => ?_) (by unfold interactive; rw [I.fr.kind]; rfl) (hs env)
  subst e1
  have fin : Pst B fi env Φ g (FlowOk Qn Qr) Flow.next s1 := ⟨g1, _, H1, l1, I1, q⟩
  cases m <;> simp only [notRef, Bool.false_eq_true] at hn
  · rw [r.inv_none]; exact fin
  · rw [r.inv_bool]; exact fin
  · obtain ⟨t, rfl⟩ := r.inv_int; exact fin
  · obtain ⟨t, rfl⟩ := r.inv_str; exact fin
  · obtain ⟨t, rfl⟩ := r.inv_bytes; exact fin

theorem WP1.asg {t value : Expr} {pos : Pos} {Qn : List MV → List MObj → Prop} {Qr : MV → List MObj → Prop} (ht : ∀ env, assignEach [t] env = [(false, assign t env)])
    (hs : ∀ env, env.scope.names = fi.ns → env.scope.kind = .function → swapsWith value (some t) pos.line env = pure false)
    (hw : ∀ env, env.scope.names = fi.ns → env.scope.kind = .function → swappedStores [t] value env = pure none)
    (h : WPE B fi d value ev H fun m H1 => WPG B fi d t m ev H1 Qn) : WP1 B fi d (.Assign [t] value pos) ev H Qn Qr := fun A env Φ g s ok I => by
  show wpAny _ _ _ _ _ _
  rw [exec_Assign, ht]
  refine wpAny_bind (wpAny_standAt (wpAny_bind (wpAny_of_eq (a := false) (hs env I.fr.names I.fr.kind) ?_)))
  rw [if_neg (by decide)]
  refine wpAny_bind ((h A env Φ g s ok I).to fun g1 ev1 H1 v s1 l1 I1 hq7 => ?_)
  obtain ⟨e1, m, r, q⟩ := hq7
  subst e1
  refine wpAny_bind (wpAny_of_eq (hw env I.fr.names I.fr.kind) ?_)
  show wpAny _ _ (do assignAll v [assign t env]; pure Flow.next : Sem Flow) _ _ _
  exact wpAny_bind ((q A env Φ g1 s1 v ok I1 r).to fun g2 ev2 H2 u s2 l2 I2 q2 => wpAny_pure ⟨g2, ev2, H2, l1.trans l2, I2, q2⟩)

noncomputable def storeN (fi : FI) : List Str → List MV → List MV → Option (List MV)
  | [], [], ev => some ev
  | x :: xs, m :: ms, ev => match slot fi.ns x with
    | some (i, .local) => storeN fi xs ms (ev.set i m)
    | _ => none
  | _, _, _ => none
theorem W_storeN {Φ : Addr → Option Obj} : ∀ {xs : List Str} {ms : List MV} {ev : List MV} {g : G} {s : Shared} {vs : List Value} {ev' : List MV}, Inv B fi env Φ g ev H s → storeN fi xs ms ev = some ev' → VRs g ms vs →
    W B fi env Φ A (assignInOrder (xs.map fun n => bindName env n) vs) g s (fun g1 ev1 H1 _ => g1 = g ∧ ev1 = ev' ∧ H1 = H) := by
  intro xs
  induction xs with
  | nil =>
    intro ms ev g s vs ev' I e r
    cases ms with
    | nil =>
      simp only [VRs] at r; subst r
      have e' : ev = ev' := by simpa [storeN] using e
      subst e'
      exact wpAny_pure ⟨g, ev, H, .refl g, I, rfl, rfl, rfl⟩
    | cons => simp [storeN] at e
  | cons x xs ih =>
    intro ms ev g s vs ev' I e r
    cases ms with
    | nil => simp [storeN] at e
    | cons m ms =>
      simp only [VRs] at r
      obtain ⟨v, w, rfl, h1, h2⟩ := r
      unfold storeN at e
      split at e
      · rename_i i hs
        show wpAny _ _ (do holding w (bindName env x v); assignInOrder (xs.map fun n => bindName env n) w : Sem Unit) _ _ _
        refine wpAny_bind (wpAny_holding (wpAny_bindName ((W_store I hs (.inl rfl) h1).to fun g1 ev1 H1 u s1 l1 I1 hq8 => ?_)))
        obtain ⟨q1, q2, q3⟩ := hq8
        subst q1 q2 q3
        exact W.back l1 (ih I1 e h2)
      · cases e

theorem VRs.reverse {g : G} : ∀ {ms : List MV} {vs : List Value}, VRs g ms vs → VRs g ms.reverse vs.reverse
  | [], _, h => by simp only [VRs] at h; subst h; simp [VRs]
  | x :: xs, _, h => by
    simp only [VRs] at h
    obtain ⟨v, r, rfl, h1, h2⟩ := h
    rw [List.reverse_cons, List.reverse_cons]
    exact (VRs.reverse h2).append (by simp only [VRs]; exact ⟨_, _, rfl, h1, rfl⟩)

/-- several names at once whose stores the compiler turns round -/
theorem WP1.asgSwap {ts : List Expr} {k : Nat} {tp : Pos} {value : Expr} {pos : Pos} {xs : List Str} {Qn : List MV → List MObj → Prop} {Qr : MV → List MObj → Prop}
    (hs : ∀ env, env.scope.names = fi.ns → env.scope.kind = .function → swapsWith value (some (.Tuple ts k tp)) pos.line env = pure false)
    (hw : ∀ env, env.scope.names = fi.ns → env.scope.kind = .function → swappedStores [.Tuple ts k tp] value env = pure (some xs))
    (h : WPE B fi d value ev H fun m H1 => ∃ ms ev', m = .tup ms ∧ ms.length = xs.length ∧ storeN fi xs.reverse ms.reverse ev = some ev' ∧ Qn ev' H1) : WP1 B fi d (.Assign [.Tuple ts k tp] value pos) ev H Qn Qr := fun A env Φ g s ok I => by
  refine Assign_Tuple_swapped (names := xs) ((h A env Φ g s ok I).to fun g1 ev1 H1 v s1 l1 I1 ⟨e1, m, r, ms, ev', e2, hl, hst, q⟩ => ?_) (hs env I.fr.names I.fr.kind) (hw env I.fr.names I.fr.kind)
  subst e1 e2
  obtain ⟨a, items, n, rfl, e, r⟩ := r.inv_tup
  have ht : IsTup s1.heap a items := ⟨_, (I1.F _ _ e).1, rfl, _, rfl⟩
  rw [← hl, ← r.size]
  refine unpackItems_tuple ok.1 ht fun h' hh => ?_
  have I' : Inv B fi env Φ g1 _ H1 { s1 with heap := h' } := I1.step rfl rfl fun b o hb e => hh b o (fun q => by subst q; exact hb I1.szn) e
  exact (W_storeN I' hst r.reverse).to fun g2 ev2 H2 u s2 l2 I2 ⟨q1, q2, q3⟩ => ⟨g2, ev2, H2, l1.trans l2, I2, by subst q2 q3; exact q⟩

/-- what a store with an operator brings -/
noncomputable def augM (op : Operator) (a b : MV) (Q : MV → Prop) : Prop := ∀ B fi env Φ A g ev H s v u, Inv B fi env Φ g ev H s → VR g a v → VR g b u →
  W B fi env Φ A (inplaceOp op v u) g s (fun g' ev' H' r => (ev' = ev ∧ H' = H ∧ g' = g) ∧ ∃ m, VR g' m r ∧ Q m)
theorem aug_add {a b : Int} {Q : MV → Prop} (h : Q (.int (a + b))) : augM .Add (.int a) (.int b) Q := fun B fi env Φ A g ev H s v u I ha hb => by
  obtain ⟨t, rfl⟩ := ha.inv_int; obtain ⟨t', rfl⟩ := hb.inv_int
  exact P.iadd_int ⟨g, ev, H, .refl g, I.toks _, ⟨rfl, rfl, rfl⟩, _, .int', h⟩
theorem aug_sub {a b : Int} {Q : MV → Prop} (h : Q (.int (a - b))) : augM .Sub (.int a) (.int b) Q := fun B fi env Φ A g ev H s v u I ha hb => by
  obtain ⟨t, rfl⟩ := ha.inv_int; obtain ⟨t', rfl⟩ := hb.inv_int
  exact P.isub_int ⟨g, ev, H, .refl g, I.toks _, ⟨rfl, rfl, rfl⟩, _, .int', h⟩

theorem WP1.augName {x : Str} {np pos : Pos} {op : Operator} {value : Expr} {i : Nat} {old : MV} {Qn : List MV → List MObj → Prop} {Qr : MV → List MObj → Prop} (hs : slot fi.ns x = some (i, .local)) (hm : ev[i]? = some old) (hu : old ≠ .undef) (hd : (x == ("__classdict__" : Str)) = false)
    (h : WPE B fi d value ev H fun v H1 => augM op old v fun r => Qn (ev.set i r) H1) : WP1 B fi d (.AugAssign (.Name x np) op value pos) ev H Qn Qr := fun A env Φ g s ok I => by
  refine wpAny_AugAssign_Name ((W_loadName I hs (.inl rfl) hm hu hd).to fun g0 ev0 H0 v0 s0 l0 I0 hq9 => ?_)
  obtain ⟨⟨q1, q2, q3⟩, r0⟩ := hq9
  subst q1 q2 q3
  refine (h A env Φ _ s0 ok I0).to fun g1 ev1 H1 v s1 l1 I1 hq10 => ?_
  obtain ⟨e1, m, r, q⟩ := hq10
  subst e1
  refine (q B fi env Φ A g1 _ H1 s1 _ v I1 (r0.mono l1) r).to fun g2 ev2 H2 u s2 l2 I2 hq11 => ?_
  obtain ⟨⟨q1, q2, q3⟩, m2, r2, q4⟩ := hq11
  subst q1 q2 q3
  exact (W_store I2 hs (.inl rfl) r2).to fun g3 ev3 H3 u s3 l3 I3 ⟨q5, q6, q7⟩ => ⟨g3, ev3, H3, (l0.trans l1).trans (l2.trans l3), I3, by subst q6 q7; exact q4⟩

theorem WP1.augAttr {e value : Expr} {x : Str} {tp pos : Pos} {op : Operator} {Qn : List MV → List MObj → Prop} {Qr : MV → List MObj → Prop}
    (h : WPE B fi d e ev H fun o H1 => ∃ i C fs old, o = .ref i ∧ H1[i]? = some (.inst C fs) ∧ attrOk B C x = true ∧ setOk B C x = true ∧ getF x fs = some old ∧ plain old = true ∧
      WPE B fi d value ev H1 fun v H2 => augM op old v fun r => ∃ fs2, H2[i]? = some (.inst C fs2) ∧ fs2.length ≤ 100 ∧ Qn ev (H2.set i (.inst C (putF x r fs2)))) : WP1 B fi d (.AugAssign (.Attribute e x tp) op value pos) ev H Qn Qr := fun A env Φ g s ok I => by
  refine wpAny_AugAssign_AttributeAny ((h A env Φ g s ok I).to fun g1 ev1 H1 v s1 l1 I1 hq12 => ?_)
  obtain ⟨e1, o, ro, i, C, fs, old, e2, hi, ha, hst, hg, hp, q⟩ := hq12
  subst e1 e2
  refine (W_attr I1 ro hi ha hg hp).to fun g2 ev2 H2 u s2 l2 I2 hq13 => ?_
  obtain ⟨⟨q1, q2, q3⟩, r2⟩ := hq13
  subst q1 q2 q3
  refine (q A env Φ _ s2 ok I2).to fun g3 ev3 H3 u3 s3 l3 I3 hq14 => ?_
  obtain ⟨e3, m3, r3, q4⟩ := hq14
  subst e3
  refine (q4 B fi env Φ A g3 _ H3 s3 _ u3 I3 (r2.mono l3) r3).to fun g4 ev4 H4 u4 s4 l4 I4 hq15 => ?_
  obtain ⟨⟨q5, q6, q7⟩, m4, r4, fs2, hi2, hl2, q8⟩ := hq15
  subst q5 q6 q7
  refine (W_setAttr I4 (ro.mono l3) hi2 hst r4 hl2).to fun g5 ev5 H5 u5 s5 l5 I5 hq16 => ?_
  obtain ⟨⟨q9, q10⟩, q11⟩ := hq16
  subst q9 q10 q11
  exact ⟨_, _, _, (l1.trans l2).trans ((l3.trans l4).trans l5), I5, q8⟩
end
/-- the state without a frame -/
structure Inv0 (B : Bs) (Φ : Addr → Option Obj) (g : G) (H : List MObj) (s : Shared) : Prop where
  gens : s.gens = #[]
  os : s.os = B.os
  F : ∀ a o, g.F a = some o → s.heap.get? a = some o ∧ g.ow a = .fz
  hb : ∀ a o, B.hb.get? a = some o → g.F a = some o
  pk : ∀ a, g.ow a = .pk → (Φ a).isSome = true
  Φ : ∀ a o, Φ a = some o → s.heap.get? a = some o ∧ g.ow a = .pk
  sz : ∀ a, s.heap.get? a = none → g.ow a = .no
  lo : ∀ a i, g.ow a = .lv i → 1 < a
  len : g.σ.length = H.length
  live : ∀ i a o, g.σ[i]? = some a → H[i]? = some o → g.ow a = .lv i ∧ LiveOk B g s.heap i a o

noncomputable def InP (Ψ : Addr → Option Obj) (g : G) (s : Shared) : Prop := ∀ a o, Ψ a = some o → s.heap.get? a = some o ∧ g.ow a = .no
noncomputable def addP (Φ Ψ : Addr → Option Obj) : Addr → Option Obj := fun a => match Ψ a with | some o => some o | none => Φ a
noncomputable def noCell (Ψ : Addr → Option Obj) : Prop := ∀ a o v, Ψ a = some o → o.data ≠ .cell v

section
variable {B : Bs} {fi : FI} {d : Nat} {ev : List MV} {H : List MObj} {A : Around} {env : Env} {Φ : Addr → Option Obj} {g g' : G} {s s' : Shared}

theorem Inv.core (I : Inv B fi env Φ g ev H s) : Inv0 B Φ g H s := ⟨I.gens, I.os, I.F, I.hb, I.pk, I.Φ, I.sz, I.lo, I.len, I.live⟩
theorem Inv0.with (I : Inv0 B Φ g H s) (fr : FrameOk fi g env ev s.heap) : Inv B fi env Φ g ev H s := ⟨I.gens, I.os, I.F, I.hb, I.pk, I.Φ, I.sz, I.lo, I.len, I.live, fr⟩

theorem LiveOk.own {h : Heap} {i : Nat} {a : Addr} {o : MObj} {ow' : Addr → Ow} (hl : ∀ a, g.ow a = .lv i → ow' a = .lv i) (x : LiveOk B g h i a o) : LiveOk B { g with ow := ow' } h i a o := by
  have l : g.le { g with ow := ow' } := ⟨fun _ _ e => e, fun _ _ e => e⟩
  cases o with
  | list vs => obtain ⟨items, n, h1, h2⟩ := x; exact ⟨items, n, h1, h2.mono l⟩
  | inst C fs => obtain ⟨d, es, n, h1, h2, h3, h4, h5⟩ := x; exact ⟨d, es, n, h1, h2, hl _ h3, h4, h5.mono l⟩
  | dI es => obtain ⟨kvs, h1, h3⟩ := x; exact ⟨kvs, h1, h3.mono l⟩
  | dS es => obtain ⟨kvs, h1, h3⟩ := x; exact ⟨kvs, h1, h3.mono l⟩
  | dB es => obtain ⟨xs, h1, h7, h8⟩ := x; exact ⟨xs, h1, h7, h8.mono l⟩

theorem Inv0.reown (I : Inv0 B Φ g H s) {ow' : Addr → Ow} {Φ' : Addr → Option Obj} (hfz : ∀ a, g.ow a = .fz → ow' a = .fz) (hlv : ∀ a i, g.ow a = .lv i → ow' a = .lv i)
    (hΦ : ∀ a o, Φ' a = some o → s.heap.get? a = some o ∧ ow' a = .pk) (hsz : ∀ a, s.heap.get? a = none → ow' a = .no) (hlo : ∀ a i, ow' a = .lv i → g.ow a = .lv i) (hpk : ∀ a, ow' a = .pk → (Φ' a).isSome = true) :
    Inv0 B Φ' { g with ow := ow' } H s where
  gens := I.gens
  os := I.os
  F := fun a o e => ⟨(I.F a o e).1, hfz a (I.F a o e).2⟩
  hb := I.hb
  Φ := hΦ
  sz := hsz
  lo := fun a i e => I.lo a i (hlo a i e)
  pk := hpk
  len := I.len
  live := fun i a o h1 h2 => ⟨hlv a i (I.live i a o h1 h2).1, (I.live i a o h1 h2).2.own fun a e => hlv a i e⟩

theorem VRo.own {m : Option MV} {v : Option Value} {ow' : Addr → Ow} (h : VRo g m v) : VRo { g with ow := ow' } m v := VRo.mono (g := g) (g' := { g with ow := ow' }) ⟨fun _ _ e => e, fun _ _ e => e⟩ h
theorem FrameOk.own {h : Heap} {ow' : Addr → Ow} (x : FrameOk fi g env ev h) (h1 : ∀ c, (∃ y, g.ow c = .fr y) → ow' c = g.ow c) (h2 : ∀ c, g.ow c = .pk → (∃ v, h.IsCell c v) → ow' c = .pk) : FrameOk fi { g with ow := ow' } env ev h := by
  obtain ⟨a1, a2, a3, a4, ⟨a5, m, a6, a7⟩, a8⟩ := x
  refine ⟨a1, a2, a3, a4, ⟨(h1 _ ⟨_, a5⟩).trans a5, m, a6, fun x i e => (a7 x i e).own⟩, fun x i k e hk => ?_⟩
  obtain ⟨c, v, b1, b2, b3, b4⟩ := a8 x i k e hk
  refine ⟨c, v, b1, b2, b3.own, ?_⟩
  rcases b4 with b4 | ⟨b4, b5⟩
  · exact .inl ((h1 _ ⟨_, b4⟩).trans b4)
  · exact .inr ⟨h2 c b4 ⟨v, b2⟩, b5⟩

noncomputable def G.pk (g : G) (Ψ : Addr → Option Obj) : G := { g with ow := fun a => if (Ψ a).isSome then .pk else g.ow a }
noncomputable def G.unpk (g : G) (Ψ : Addr → Option Obj) : G := { g with ow := fun a => if (Ψ a).isSome then .no else g.ow a }
theorem Inv.park {Ψ : Addr → Option Obj} (I : Inv B fi env Φ g ev H s) (P : InP Ψ g s) : g.le (g.pk Ψ) ∧ Inv B fi env (addP Φ Ψ) (g.pk Ψ) ev H s ∧ (∀ a, (Ψ a).isSome = true → Φ a = none) := by
  have hno : ∀ a, (Ψ a).isSome = true → g.ow a = .no := fun a e => by obtain ⟨o, e⟩ := Option.isSome_iff_exists.mp e; exact (P a o e).2
  have keep : ∀ a, g.ow a ≠ .no → (if (Ψ a).isSome = true then Ow.pk else g.ow a) = g.ow a := fun a h => by rw [if_neg (fun e => h (hno a e))]
  refine ⟨⟨fun _ _ e => e, fun _ _ e => e⟩, (I.core.reown (fun a e => (keep a (by rw [e]; intro q; cases q)).trans e) (fun a i e => (keep a (by rw [e]; intro q; cases q)).trans e) (fun a o e => ?_) (fun a e => ?_) (fun a i e => ?_) (fun a e => ?_)).with
    (I.fr.own (fun c ⟨y, e⟩ => keep c (by rw [e]; intro q; cases q)) (fun c e _ => (keep c (by rw [e]; intro q; cases q)).trans e)), fun a e => ?_⟩
  · unfold addP at e
    cases hq : Ψ a with
    | some o' => rw [hq] at e; cases e; exact ⟨(P a _ hq).1, by simp⟩
    | none => rw [hq] at e; exact ⟨(I.Φ a o e).1, by simp [(I.Φ a o e).2]⟩
  · cases hq : Ψ a with
    | some o' => rw [(P a _ hq).1] at e; cases e
    | none => simp [I.sz a e]
  · by_cases hq : (Ψ a).isSome = true
    · rw [if_pos hq] at e; cases e
    · rw [if_neg hq] at e; exact e
  · unfold addP
    cases hq : Ψ a with
    | some o => rfl
    | none =>
      have e' : (if (Ψ a).isSome = true then Ow.pk else g.ow a) = .pk := e
      rw [hq] at e'; exact I.pk a e'
  · cases hq : Φ a with
    | none => rfl
    | some o => have := (I.Φ a o hq).2; rw [hno a e] at this; cases this

theorem Inv.unpark {Ψ : Addr → Option Obj} (I : Inv B fi env (addP Φ Ψ) g ev H s) (hc : noCell Ψ) (hΦ : ∀ a, (Ψ a).isSome = true → Φ a = none) : g.le (g.unpk Ψ) ∧ Inv B fi env Φ (g.unpk Ψ) ev H s ∧ InP Ψ (g.unpk Ψ) s := by
  have hpk : ∀ a o, Ψ a = some o → s.heap.get? a = some o ∧ g.ow a = .pk := fun a o e => I.Φ a o (by unfold addP; rw [e])
  have keep : ∀ a, g.ow a ≠ .pk → (if (Ψ a).isSome = true then Ow.no else g.ow a) = g.ow a := fun a h => by
    rw [if_neg (fun e => by obtain ⟨o, e⟩ := Option.isSome_iff_exists.mp e; exact h (hpk a o e).2)]
  refine ⟨⟨fun _ _ e => e, fun _ _ e => e⟩, (I.core.reown (fun a e => (keep a (by rw [e]; intro q; cases q)).trans e) (fun a i e => (keep a (by rw [e]; intro q; cases q)).trans e) (fun a o e => ?_) (fun a e => ?_) (fun a i e => ?_) (fun a e => ?_)).with
    (I.fr.own (fun c ⟨y, e⟩ => keep c (by rw [e]; intro q; cases q)) (fun c e ⟨v, oc, ho, hd⟩ => ?_)), fun a o e => ⟨(hpk a o e).1, by show (if _ then _ else _) = _; rw [if_pos (by rw [e]; rfl)]⟩⟩
  · have hn : ¬ (Ψ a).isSome = true := fun q => by rw [hΦ a q] at e; cases e
    have hn' : Ψ a = none := by cases hq : Ψ a with | none => rfl | some o => rw [hq] at hn; exact absurd rfl hn
    rw [if_neg hn]
    exact I.Φ a o (by unfold addP; rw [hn']; exact e)
  · show (if _ then _ else _) = _
    split
    · rfl
    · exact I.sz a e
  · by_cases hq : (Ψ a).isSome = true
    · rw [if_pos hq] at e; cases e
    · rw [if_neg hq] at e; exact e
  · have e' : (if (Ψ a).isSome = true then Ow.no else g.ow a) = .pk := e
    by_cases hq : (Ψ a).isSome = true
    · rw [if_pos hq] at e'; cases e'
    · rw [if_neg hq] at e'
      have := I.pk a e'
      unfold addP at this
      cases hq' : Ψ a with
      | some o => rw [hq'] at hq; exact absurd rfl hq
      | none => rw [hq'] at this; exact this
  · show (if _ then _ else _) = _
    rw [if_neg (fun q => by
      obtain ⟨o, q⟩ := Option.isSome_iff_exists.mp q
      have := (hpk c o q).1; rw [ho] at this; cases this
      exact hc c _ v q hd)]
    exact e

/-! while -/
theorem OkA.mark {d : Nat} {A : Around} (h : OkA d A) : OkA d (A.mark none) := by
  obtain ⟨h1, h2, h3⟩ := h
  exact ⟨by show (none : Option Value).or A.handled = none; rw [h1]; rfl, h2, h3⟩

theorem WP1.whileI {test : Expr} {body : List Stmt} {pos : Pos} {Qn : List MV → List MObj → Prop} {Qr : MV → List MObj → Prop} (P : Nat → List MV → List MObj → Prop) (n : Nat) (h : P n ev H)
    (step : ∀ n ev H, P n ev H → WPT B fi d test ev H fun b H1 => (b = true → WPS B fi d body ev H1 (fun ev' H' => ∃ m, m < n ∧ P m ev' H') Qr) ∧ (b = false → Qn ev H1)) :
    WP1 B fi d (.While test body [] pos) ev H Qn Qr := fun A env Φ g s ok I => by
  refine wpAny_While (codeAny_whileLoop (Pst B fi env Φ g (fun _ ev' H' n => P n ev' H')) (fun n s hq => ?_) n ⟨g, ev, H, .refl g, I, h⟩)
  obtain ⟨g1, ev1, H1, l1, I1, p1⟩ := hq
  refine (step n ev1 H1 p1 _ env Φ g1 s ok.mark I1).to fun g2 ev2 H2 b s2 l2 I2 hq1 => ?_
  obtain ⟨e2, h1, h2⟩ := hq1
  subst e2
  cases b with
  | true =>
    simp only [if_true]
    refine (h1 rfl _ env Φ g2 s2 ok.mark I2).to fun g3 ev3 H3 f s3 l3 I3 q => ?_
    cases f with
    | next => obtain ⟨m, hm, p⟩ := q; exact ⟨m, hm, g3, ev3, H3, (l1.trans l2).trans l3, I3, p⟩
    | ret v => exact ⟨g3, ev3, H3, (l1.trans l2).trans l3, I3, q⟩
    | brk => exact q.elim
    | cont => exact q.elim
  | false =>
    simp only [Bool.false_eq_true, if_false]
    exact wpAny_execs_nil ⟨g2, _, H2, l1.trans l2, I2, h2 rfl⟩

/-! iterators -/
noncomputable abbrev PN {α : Type} (K : List MV → List MObj → Prop) (_ : G) (ev' : List MV) (H' : List MObj) (_ : α) : Prop := K ev' H'
inductive NxP (B : Bs) (fi : FI) (env : Env) (Φ : Addr → Option Obj) (g : G) (ev : List MV) (H : List MObj) (P : List MV → (Addr → Option Obj) → Prop) (ms : List MV) (m : MV) (v : Value) (s2 : Shared) : Prop
  | mk (g' : G) (Ψ' : Addr → Option Obj) (l : g.le g') (I : Inv B fi env Φ g' ev H s2) (p : InP Ψ' g' s2) (hP : P ms Ψ') (r : VR g' m v)
structure IterOk (B : Bs) (tg : Expr) (it : Addr) (g0 : G) (chk : List MObj → Prop) (P : List MV → (Addr → Option Obj) → Prop) : Prop where
  cell : ∀ ms Ψ, P ms Ψ → noCell Ψ
  next : ∀ A fi env Φ g ev H s m ms Ψ, OkA 0 A → g0.le g → Inv B fi env Φ g ev H s → InP Ψ g s → chk H → P (m :: ms) Ψ →
    wpAny B.M A (pyNext (.ref it)) (fun r s1 => ∃ v, r = some v ∧ wpAny B.M A (letOwnedTupleGo tg (.ref it) v) (fun _ s2 => NxP B fi env Φ g ev H P ms m v s2)
      (fun _ _ => False) s1) (fun _ _ => False) s
  self : ∀ A fi env Φ g ev H s ms Ψ (Q : Value → Shared → Prop) E, OkA 0 A → g0.le g → Inv B fi env Φ g ev H s → InP Ψ g s → P ms Ψ → Q (.ref it) s → wpAny B.M A (pyIter (.ref it)) Q E s
  stop : ∀ A fi env Φ g ev H s Ψ, OkA 0 A → g0.le g → Inv B fi env Φ g ev H s → InP Ψ g s → chk H → P [] Ψ →
    wpAny B.M A (pyNext (.ref it)) (fun r s1 => r = none ∧ Inv B fi env Φ g ev H s1) (fun _ _ => False) s

/-- what the body of a loop has to do, item for item -/
noncomputable def ForS (B : Bs) (fi : FI) (d : Nat) (tg : Expr) (body : List Stmt) (chk : List MObj → Prop) (Qn : List MV → List MObj → Prop) (Qr : MV → List MObj → Prop) : List MV → List MV → List MObj → Prop
  | [], ev, H => Qn ev H
  | m :: ms, ev, H => WPG B fi d tg m ev H fun ev1 H1 => WPS B fi d body ev1 H1 (fun ev2 H2 => chk H2 ∧ ForS B fi d tg body chk Qn Qr ms ev2 H2) Qr

inductive ItP (B : Bs) (fi : FI) (env : Env) (Φ : Addr → Option Obj) (g : G) (ev : List MV) (tg : Expr) (Q : (List MObj → Prop) → List MV → List MObj → Prop) (r : Value) (s2 : Shared) : Prop
  | mk (it : Addr) (g2 : G) (H2 : List MObj) (Ψ : Addr → Option Obj) (P : List MV → (Addr → Option Obj) → Prop) (chk : List MObj → Prop) (items : List MV) (e : r = .ref it) (l : g.le g2) (I : Inv B fi env Φ g2 ev H2 s2) (p : InP Ψ g2 s2) (hP : P items Ψ) (K : IterOk B tg it g2 chk P) (hc : chk H2) (q : Q chk items H2)
inductive LpP (B : Bs) (fi : FI) (env : Env) (Φ : Addr → Option Obj) (g0 : G) (P : List MV → (Addr → Option Obj) → Prop) (chk : List MObj → Prop) (F : List MV → List MV → List MObj → Prop) (n : Nat) (s : Shared) : Prop
  | mk (ms : List MV) (Ψ : Addr → Option Obj) (g : G) (ev : List MV) (H : List MObj) (hn : ms.length = n) (l : g0.le g) (I : Inv B fi env Φ g ev H s) (hp : InP Ψ g s) (hP : P ms Ψ) (hc : chk H) (hF : F ms ev H)
/-- an expression that is gone through: its iterator -/
noncomputable def WPI (B : Bs) (fi : FI) (d : Nat) (tg e : Expr) (ev : List MV) (H : List MObj) (Q : (List MObj → Prop) → List MV → List MObj → Prop) : Prop :=
  ∀ A env Φ g s, OkA d A → Inv B fi env Φ g ev H s → wpAny B.M A (eval e env) (fun x s1 => wpAny B.M A (pyIter x) (ItP B fi env Φ g ev tg Q) (fun _ _ => False) s1) (fun _ _ => False) s

theorem For_loop {tg : Expr} {body : List Stmt} {it : Addr} {chk : List MObj → Prop} {P : List MV → (Addr → Option Obj) → Prop} {g0 : G} {Qn : List MV → List MObj → Prop} {Qr : MV → List MObj → Prop} {R : Result → Shared → Prop}
    (ok : OkA d A) (K : IterOk B tg it g0 chk P)
    (hR : ∀ g' ev' H' f s', g0.le g' → Inv B fi env Φ g' ev' H' s' → FlowOk Qn Qr g' ev' H' f → R (.ok f) s') {ms : List MV} {Ψ : Addr → Option Obj} {g : G} {ev : List MV} {H : List MObj} {s : Shared}
    (l : g0.le g) (I : Inv B fi env Φ g ev H s) (hp : InP Ψ g s) (hP : P ms Ψ) (hc : chk H) (hF : ForS B fi d tg body chk Qn Qr ms ev H) :
    codeAny B.M A (.forLoop tg (.ref it) body [] env) R s := by
  refine codeAny_forLoop_any (LpP B fi env Φ g0 P chk (ForS B fi d tg body chk Qn Qr)) (fun n s hL => ?_) ms.length ⟨ms, Ψ, g, ev, H, rfl, l, I, hp, hP, hc, hF⟩
  obtain ⟨ms, Ψ, g, ev, H, hn, l, I, hp, hP, hc, hF⟩ := hL
  have ok0 : OkA 0 A := ok.le (Nat.zero_le _)
  cases ms with
  | nil =>
    refine wpAny_mono (K.stop A fi env Φ g ev H s Ψ ok0 l I hp hc hP) (fun r s1 hq => ?_) fun _ _ x => x.elim
    obtain ⟨rfl, I1⟩ := hq
    exact wpAny_execs_nil (hR g ev H _ s1 l I1 hF)
  | cons m ms =>
    refine wpAny_mono (K.next A fi env Φ g ev H s m ms Ψ ok0 l I hp hc hP) (fun r s1 hq => ?_) fun _ _ x => x.elim
    obtain ⟨v, rfl, h1⟩ := hq
    refine wpAny_mono h1 (fun _ s2 hq => ?_) fun _ _ x => x.elim
    obtain ⟨g2, Ψ2, l2, I2, p2, P2, r2⟩ := hq
    obtain ⟨l3, I3, hΦ⟩ := I2.park p2
    refine (hF A env _ _ s2 v ok I3 (r2.mono l3)).to fun g4 ev4 H4 _ s4 l4 I4 h4 => ?_
    refine (h4 A env _ g4 s4 ok I4).to fun g5 ev5 H5 f s5 l5 I5 q => ?_
    obtain ⟨l6, I6, p6⟩ := I5.unpark (K.cell _ _ P2) hΦ
    have lt : g0.le (g5.unpk Ψ2) := (((l.trans l2).trans l3).trans (l4.trans l5)).trans l6
    cases f with
    | next => exact ⟨ms.length, by rw [← hn]; simp, ms, Ψ2, _, ev5, H5, rfl, lt, I6, p6, P2, q.1, q.2⟩
    | ret v => exact hR _ ev5 H5 _ s5 lt I6 (by obtain ⟨m, r, q⟩ := q; exact ⟨m, r.mono l6, q⟩)
    | brk => exact q.elim
    | cont => exact q.elim

theorem WP1.forI {tg iter : Expr} {body : List Stmt} {pos : Pos} {Qn : List MV → List MObj → Prop} {Qr : MV → List MObj → Prop} (hs : ∀ env x, foldedSetIterable iter env x = pure x)
    (h : WPI B fi d tg iter ev H fun chk items H1 => ForS B fi d tg body chk Qn Qr items ev H1) : WP1 B fi d (.For tg iter body [] pos) ev H Qn Qr := fun A env Φ g s ok I => by
  refine wpAny_For (wpAny_mono (h A env Φ g s ok I) (fun x s1 h1 => wpAny_mono h1 (fun r s2 hq => ?_) fun _ _ x => x.elim) fun _ _ x => x.elim) (hs env)
  obtain ⟨it, g2, H2, Ψ, P, chk, items, rfl, l2, I2, p2, P2, K, hc, hF⟩ := hq
  exact For_loop ok.mark K (fun g' ev' H' f s' l' I' q => ⟨g', ev', H', l2.trans l', I', q⟩) (.refl g2) I2 p2 P2 hc hF
end
noncomputable def one (it : Addr) (o : Obj) : Addr → Option Obj := fun a => if a = it then some o else none
theorem one_self {it : Addr} {o : Obj} : one it o it = some o := by unfold one; rw [if_pos rfl]
theorem one_some {it a : Addr} {o p : Obj} (h : one it o a = some p) : a = it ∧ p = o := by
  unfold one at h
  split at h
  · exact ⟨by assumption, by cases h; rfl⟩
  · cases h

section
variable {B : Bs} {fi : FI} {d : Nat} {ev : List MV} {H : List MObj} {A : Around} {env : Env} {Φ : Addr → Option Obj} {g g' : G} {s s' : Shared}

theorem inP_one {it : Addr} {o : Obj} (h1 : s.heap.get? it = some o) (h2 : g.ow it = .no) : InP (one it o) g s := fun a p e => by obtain ⟨rfl, rfl⟩ := one_some e; exact ⟨h1, h2⟩
theorem Inv.stepBut (I : Inv B fi env Φ g ev H s) {it : Addr} {h' : Heap} (hn : g.ow it = .no) (hs : Heap.SameBut it s.heap h') : Inv B fi env Φ g ev H { s with heap := h' } :=
  I.step rfl rfl fun b o hb e => (hs.2 b (fun q => by subst q; exact hb hn)).trans e
theorem Inv.stepExt (I : Inv B fi env Φ g ev H s) {it : Addr} {h' : Heap} (hn : g.ow it = .no) (hs : Heap.ExtBut it s.heap h') : Inv B fi env Φ g ev H { s with heap := h' } :=
  I.step rfl rfl fun b o hb e => hs b o (fun q => by subst q; exact hb hn) e

theorem letOwned_plain {M : Model} {E : Value → Shared → Prop} {tg : Expr} {it : Addr} {v : Value} {Q : Unit → Shared → Prop} {o : Obj} {T : String} {vs : Array Value} (ho : s.heap.get? it = some o) (hc : o.cls = .type T) (hd : o.data = .fields vs)
    (hT : ["enumerate", "zip", "dict_itemiterator", "dict_reverseitemiterator", "odict_iterator", "itertools.zip_longest", "itertools.pairwise"].contains T = false) (h : Q () s) : wpAny M A (letOwnedTupleGo tg (.ref it) v) Q E s := by
  unfold letOwnedTupleGo
  have fin : wpAny M A (match (Value.ref it, v) with
      | (.ref r, .ref a) => do
        let o ← load r
        match o.cls, o.data with
        | .type n, .fields vs =>
          if ["enumerate", "zip", "dict_itemiterator", "dict_reverseitemiterator", "odict_iterator", "itertools.zip_longest", "itertools.pairwise"].contains n && vs[0]? == some (rawInt a) then
            rule "for.unpacks-the-owned-tuple"
            updateField r 0 .none
        | _, _ => pure ()
      | _ => pure () : Sem Unit) Q E s := by
    cases v <;> first
      | exact wpAny_pure h
      | (refine wpAny_bind (wpAny_load ho ?_)
         rw [hc, hd]
         dsimp only
         rw [hT]
         exact wpAny_pure h)
  split <;> first | exact fin | exact wpAny_pure h

noncomputable def PL (it : Addr) (T : String) (l : Addr) (vs ms : List MV) (Ψ : Addr → Option Obj) : Prop := ∃ (o : Obj) (i : Nat), Ψ = one it o ∧ o.cls = .type T ∧ o.data = .fields #[.ref l, .int i 0] ∧ ms = vs.drop i
theorem PL.cell {it : Addr} {T : String} {l : Addr} {vs ms : List MV} {Ψ : Addr → Option Obj} (h : PL it T l vs ms Ψ) : noCell Ψ := fun a p v e => by
  obtain ⟨o, i, rfl, h1, h2, h3⟩ := h
  obtain ⟨rfl, rfl⟩ := one_some e
  rw [h2]; intro q; cases q
theorem drop_get {ms vs : List MV} {m : MV} {i : Nat} (h : m :: ms = vs.drop i) : vs[i]? = some m ∧ ms = vs.drop (i + 1) := by
  have : i < vs.length := by
    rcases Nat.lt_or_ge i vs.length with h' | h'
    · exact h'
    · rw [List.drop_of_length_le h'] at h; cases h
  rw [List.drop_eq_getElem_cons this] at h
  injection h with h1 h2
  exact ⟨by rw [List.getElem?_eq_getElem this, h1], h2⟩
theorem drop_end {vs : List MV} {i : Nat} (h : [] = vs.drop i) : vs[i]? = none := by
  have : vs.length ≤ i := by
    rcases Nat.lt_or_ge i vs.length with h' | h'
    · rw [List.drop_eq_getElem_cons h'] at h; cases h
    · exact h'
  exact List.getElem?_eq_none this

theorem listAt {j : Nat} {vs : List MV} {a : Addr} (I : Inv B fi env Φ g ev H s) (hσ : g.σ[j]? = some a) (hj : H[j]? = some (.list vs)) : ∃ items n, s.heap.get? a = some (listObj items n) ∧ VRs g vs items.toList := (I.live j a _ hσ hj).2

theorem iterOk_list {tg : Expr} {it a : Addr} {g0 : G} {j : Nat} {vs : List MV} (hσ : g0.σ[j]? = some a) : IterOk B tg it g0 (fun H => H[j]? = some (.list vs)) (PL it "list_iterator" a vs) where
  cell := fun ms Ψ h => h.cell
  self := fun A fi env Φ g ev H s ms Ψ Q E ok l I hp hq1 hq => by
    obtain ⟨o, i, e, h1, h2, h3⟩ := hq1
    subst e
    exact wpAny_pyIter_listiter ⟨o, (hp _ _ one_self).1, h1, h2⟩ hq
  next := fun A fi env Φ g ev H s m ms Ψ ok l I hp hc hq2 => by
    obtain ⟨o, i, e, h1, h2, h3⟩ := hq2
    subst e
    obtain ⟨e1, e2⟩ := hp _ _ one_self
    obtain ⟨items, n, h4, h5⟩ := listAt I (l.σ _ _ hσ) hc
    obtain ⟨hm, hms⟩ := drop_get h3
    obtain ⟨x, hx, rx⟩ := h5.get hm
    refine wpAny_pyNext_list_item (i := i) ⟨o, e1, h1, h2⟩ (isListOf h4) (by simpa using hx) fun h' ⟨o', y1, y2, y3⟩ hs => ⟨x, rfl, letOwned_plain y1 y2 y3 (by decide) ?_⟩
    exact ⟨g, one it o', .refl g, I.stepBut e2 hs, inP_one y1 e2, ⟨o', i + 1, rfl, y2, y3, hms⟩, rx⟩
  stop := fun A fi env Φ g ev H s Ψ ok l I hp hc hq3 => by
    obtain ⟨o, i, e, h1, h2, h3⟩ := hq3
    subst e
    obtain ⟨e1, e2⟩ := hp _ _ one_self
    obtain ⟨items, n, h4, h5⟩ := listAt I (l.σ _ _ hσ) hc
    have hend := drop_end h3
    exact wpAny_pyNext_list_end (i := i) ok.1 ⟨o, e1, h1, h2⟩ (isListOf h4) (by
      have := h5.size
      rw [Array.getElem?_eq_none]; rw [this]; exact List.getElem?_eq_none_iff.mp hend) fun h' hs => ⟨rfl, I.stepExt e2 hs⟩

theorem iterOk_tup {tg : Expr} {it a : Addr} {g0 : G} {vs : List MV} {items : Array Value} {n : Nat} (hF : g0.F a = some (tupObj items n)) (hv : VRs g0 vs items.toList) : IterOk B tg it g0 (fun _ => True) (PL it "tuple_iterator" a vs) where
  cell := fun ms Ψ h => h.cell
  self := fun A fi env Φ g ev H s ms Ψ Q E ok l I hp hq4 hq => by
    obtain ⟨o, i, e, h1, h2, h3⟩ := hq4
    subst e
    exact wpAny_pyIter_tupleiter (t := a) (i := i) ⟨o, (hp _ _ one_self).1, h1, h2⟩ hq
  next := fun A fi env Φ g ev H s m ms Ψ ok l I hp hc hq5 => by
    obtain ⟨o, i, e, h1, h2, h3⟩ := hq5
    subst e
    obtain ⟨e1, e2⟩ := hp _ _ one_self
    have h4 := (I.F _ _ (l.F _ _ hF)).1
    obtain ⟨hm, hms⟩ := drop_get h3
    obtain ⟨x, hx, rx⟩ := (hv.mono l).get hm
    refine wpAny_pyNext_tuple_item (i := i) ⟨o, e1, h1, h2⟩ (isTupOf h4) (by simpa using hx) fun h' ⟨o', y1, y2, y3⟩ hs => ⟨x, rfl, letOwned_plain y1 y2 y3 (by decide) ?_⟩
    exact ⟨g, one it o', .refl g, I.stepBut e2 hs, inP_one y1 e2, ⟨o', i + 1, rfl, y2, y3, hms⟩, rx⟩
  stop := fun A fi env Φ g ev H s Ψ ok l I hp hc hq6 => by
    obtain ⟨o, i, e, h1, h2, h3⟩ := hq6
    subst e
    obtain ⟨e1, e2⟩ := hp _ _ one_self
    have h4 := (I.F _ _ (l.F _ _ hF)).1
    have hend := drop_end h3
    exact wpAny_pyNext_tuple_end (i := i) ok.1 ⟨o, e1, h1, h2⟩ (isTupOf h4) (by
      rw [Array.getElem?_eq_none]; rw [hv.size]; exact List.getElem?_eq_none_iff.mp hend) fun h' hs => ⟨rfl, I.stepExt e2 hs⟩

/-- a list or a tuple gone through -/
noncomputable def seqM (o : MV) (H : List MObj) (Q : (List MObj → Prop) → List MV → Prop) : Prop := ∀ B fi env Φ A g ev s x tg, Inv B fi env Φ g ev H s → VR g o x →
  wpAny B.M A (pyIter x) (ItP B fi env Φ g ev tg (fun chk items H2 => H2 = H ∧ Q chk items)) (fun _ _ => False) s
theorem seq_list {j : Nat} {vs : List MV} {Q : (List MObj → Prop) → List MV → Prop} (hj : H[j]? = some (.list vs)) (hq : Q (fun H => H[j]? = some (.list vs)) vs) : seqM (.ref j) H Q := fun B fi env Φ A g ev s x tg I1 ro => by
  obtain ⟨a, items, n, rfl, hσ, -, e2, r⟩ := I1.list ro hj
  exact wpAny_pyIter_list (isListOf e2) ⟨_, g, _, one s.heap.objs.size _, PL s.heap.objs.size "list_iterator" a vs, _, vs, rfl, .refl g, I1.push { cls := .type "list_iterator", data := .fields #[.ref a, .int 0 0] }, inP_one (Heap.get?_push_size _ rfl) I1.szn, ⟨_, 0, rfl, rfl, rfl, rfl⟩, iterOk_list hσ, hj, rfl, hq⟩
theorem seq_tup {vs : List MV} {Q : (List MObj → Prop) → List MV → Prop} (hq : Q (fun _ => True) vs) : seqM (.tup vs) H Q := fun B fi env Φ A g ev s x tg I1 ro => by
  obtain ⟨a, items, n, rfl, e2, r⟩ := ro.inv_tup
  exact iter_tuple ⟨_, (I1.F _ _ e2).1, rfl, _, rfl⟩ ⟨_, g, _, one s.heap.objs.size _, PL s.heap.objs.size "tuple_iterator" a _, _, _, rfl, .refl g, I1.push { cls := .type "tuple_iterator", data := .fields #[.ref a, .int 0 0] }, inP_one (Heap.get?_push_size _ rfl) I1.szn, ⟨_, 0, rfl, rfl, rfl, rfl⟩, iterOk_tup e2 r, trivial, rfl, hq⟩
theorem WPI.seq {tg e : Expr} {Q : (List MObj → Prop) → List MV → List MObj → Prop} (h : WPE B fi d e ev H fun o H1 => seqM o H1 fun chk items => Q chk items H1) : WPI B fi d tg e ev H Q := fun A env Φ g s ok I => by
  refine (h A env Φ g s ok I).to fun g1 ev1 H1 v s1 l1 I1 hq7 => ?_
  obtain ⟨e1, o, ro, hq⟩ := hq7
  subst e1
  exact wpAny_mono (hq B fi env Φ A g1 _ s1 v tg I1 ro) (fun r s2 hq => by obtain ⟨it, g2, H2, Ψ, P, chk, items, a, b, c, d, e, f, i, rfl, k⟩ := hq; exact ⟨it, g2, _, Ψ, P, chk, items, a, l1.trans b, c, d, e, f, i, k⟩) fun _ _ x => x
end
/-- a call, whatever frame it is made from -/
noncomputable def WPV (B : Bs) (d : Nat) (f : MV) (args : List MV) (H : List MObj) (Q : MV → List MObj → Prop) : Prop :=
  ∀ A fi env Φ g ev s fv vs, OkA d A → Inv B fi env Φ g ev H s → VR g f fv → VRs g args vs → W B fi env Φ A (call fv vs) g s (PE ev Q)
noncomputable def CallPost (B : Bs) (Φ : Addr → Option Obj) (g : G) (Q : MV → List MObj → Prop) (r : Result) (s' : Shared) : Prop := match r with
  | .ok (.ret v) => ∃ g' H' m, g.le g' ∧ Inv0 B Φ g' H' s' ∧ VR g' m v ∧ Q m H'
  | .ok _ => False
  | .error _ => False
/-- a call that knows of no frame -/
noncomputable def WPF (B : Bs) (d : Nat) (f : MV) (args : List MV) (H : List MObj) (Q : MV → List MObj → Prop) : Prop :=
  ∀ A Φ g s fv vs, OkA d A → Inv0 B Φ g H s → VR g f fv → VRs g args vs → codeAny B.M A (.call fv ⟨vs, []⟩) (CallPost B Φ g Q) s

theorem CallPost.mono {B : Bs} {Φ : Addr → Option Obj} {g : G} {Q Q' : MV → List MObj → Prop} (k : ∀ m H', Q m H' → Q' m H') {r : Result} {s' : Shared} (h : CallPost B Φ g Q r s') : CallPost B Φ g Q' r s' := by
  rcases r with e | (v | _ | _ | _)
  · exact h
  all_goals first | exact h | skip
  obtain ⟨g', H', m, l, I', r1, q⟩ := h
  exact ⟨g', H', m, l, I', r1, k m H' q⟩
theorem WPF.mono {B : Bs} {d : Nat} {f : MV} {args : List MV} {H : List MObj} {Q Q' : MV → List MObj → Prop} (h : WPF B d f args H Q) (k : ∀ m H', Q m H' → Q' m H') : WPF B d f args H Q' :=
  fun A Φ g s fv vs ok I hf hv => codeAny_mono (h A Φ g s fv vs ok I hf hv) fun r s' x => x.mono k
theorem WPV.mono {B : Bs} {d : Nat} {f : MV} {args : List MV} {H : List MObj} {Q Q' : MV → List MObj → Prop} (h : WPV B d f args H Q) (k : ∀ m H', Q m H' → Q' m H') : WPV B d f args H Q' :=
  fun A fi env Φ g ev s fv vs ok I hf hv => (h A fi env Φ g ev s fv vs ok I hf hv).mono fun _ _ H' _ _ ⟨a, m, b, c⟩ => ⟨a, m, b, k m H' c⟩
theorem WPF.le {B : Bs} {d d' : Nat} {f : MV} {args : List MV} {H : List MObj} {Q : MV → List MObj → Prop} (h : WPF B d f args H Q) (l : d ≤ d') : WPF B d' f args H Q :=
  fun A Φ g s fv vs ok I hf hv => h A Φ g s fv vs (ok.le l) I hf hv

noncomputable def isFr : Ow → Bool
  | .fr _ => true
  | _ => false
theorem isFr_of {w : Ow} (h : isFr w = true) : ∃ x, w = .fr x := by cases w <;> first | exact ⟨_, rfl⟩ | cases h

noncomputable def frP (g : G) (h : Heap) (Φ : Addr → Option Obj) : Addr → Option Obj := fun a => if isFr (g.ow a) then h.get? a else Φ a

section
variable {B : Bs} {fi : FI} {d : Nat} {ev : List MV} {H : List MObj} {A : Around} {env : Env} {Φ : Addr → Option Obj} {g g' : G} {s s' : Shared}

theorem Inv.parkFr (I : Inv B fi env Φ g ev H s) : Inv0 B (frP g s.heap Φ) { g with ow := fun a => if isFr (g.ow a) then .pk else g.ow a } H s := by
  refine I.core.reown (fun a e => by simp [e, isFr]) (fun a i e => by simp [e, isFr]) (fun a o e => ?_) (fun a e => ?_) (fun a i e => ?_) (fun a e => ?_)
  · unfold frP at e
    by_cases h : isFr (g.ow a) = true
    · rw [if_pos h] at e; exact ⟨e, by simp [h]⟩
    · rw [if_neg h] at e; exact ⟨(I.Φ a o e).1, by simp [h, (I.Φ a o e).2]⟩
  · have := I.sz a e; simp [this, isFr]
  · by_cases h : isFr (g.ow a) = true
    · simp [h] at e
    · simpa [h] using e
  · unfold frP
    by_cases h : isFr (g.ow a) = true
    · rw [if_pos h]
      cases hq : s.heap.get? a with
      | none => have := I.sz a hq; rw [this] at h; cases h
      | some o => rfl
    · rw [if_neg h] at e; rw [if_neg h]; exact I.pk a e

/-- the caller's frame comes back -/
theorem Inv0.backFr (I : Inv B fi env Φ g ev H s) {H' : List MObj} (l : ({ g with ow := fun a => if isFr (g.ow a) then .pk else g.ow a } : G).le g') (I' : Inv0 B (frP g s.heap Φ) g' H' s') :
    ∃ g2, g.le g2 ∧ g'.le g2 ∧ Inv B fi env Φ g2 ev H' s' ∧ (∀ a, isFr (g'.ow a) = true → isFr (g.ow a) = false → g2.ow a = .no) := by
  have l1 : g.le g' := ⟨l.F, l.σ⟩
  have fr := I.fr
  have hfr : ∀ a, isFr (g.ow a) = true → ∃ o, s.heap.get? a = some o ∧ s'.heap.get? a = some o ∧ g'.ow a = .pk := fun a h => by
    cases hq : s.heap.get? a with
    | none => have := I.sz a hq; rw [this] at h; cases h
    | some o => exact ⟨o, rfl, I'.Φ a o (by unfold frP; rw [if_pos h]; exact hq)⟩
  refine ⟨{ g' with ow := fun a => if isFr (g.ow a) then g.ow a else if isFr (g'.ow a) then .no else g'.ow a }, ⟨l1.F, l1.σ⟩, ⟨fun _ _ e => e, fun _ _ e => e⟩, ?_, fun a h1 h2 => by show (if _ then _ else _) = _; rw [if_neg (by rw [h2]; decide), if_pos h1]⟩
  have nf : ∀ a, g'.ow a ≠ .pk → ¬ isFr (g.ow a) = true := fun a h q => h (let ⟨_, _, _, x⟩ := hfr a q; x)
  refine (I'.reown (Φ' := Φ) (fun a e => ?_) (fun a i e => ?_) (fun a o e => ?_) (fun a e => ?_) (fun a i e => ?_) (fun a e => ?_)).with ?_
  · rw [if_neg (nf a (by rw [e]; intro q; cases q)), e]; rfl
  · rw [if_neg (nf a (by rw [e]; intro q; cases q)), e]; rfl
  · have hpk := (I.Φ a o e).2
    have hn : ¬ isFr (g.ow a) = true := by rw [hpk]; decide
    have x := I'.Φ a o (by unfold frP; rw [if_neg hn]; exact e)
    refine ⟨x.1, ?_⟩
    rw [if_neg hn, x.2]; rfl
  · by_cases h : isFr (g.ow a) = true
    · obtain ⟨o, _, x, _⟩ := hfr a h; rw [x] at e; cases e
    · rw [if_neg h, I'.sz a e]; rfl
  · by_cases h : isFr (g.ow a) = true
    · obtain ⟨x, hx⟩ := isFr_of h; rw [if_pos h, hx] at e; cases e
    · rw [if_neg h] at e
      by_cases h2 : isFr (g'.ow a) = true
      · rw [if_pos h2] at e; cases e
      · rw [if_neg h2] at e; exact e
  · by_cases h : isFr (g.ow a) = true
    · obtain ⟨x, hx⟩ := isFr_of h; rw [if_pos h, hx] at e; cases e
    · rw [if_neg h] at e
      by_cases h2 : isFr (g'.ow a) = true
      · rw [if_pos h2] at e; cases e
      · rw [if_neg h2] at e
        have := I'.pk a e
        unfold frP at this; rw [if_neg h] at this; exact this
  · -- the frame
    have up : ∀ {m : Option MV} {v : Option Value}, VRo g m v → VRo { g' with ow := fun a => if isFr (g.ow a) then g.ow a else if isFr (g'.ow a) then .no else g'.ow a } m v :=
      fun h => h.mono (g' := { g' with ow := fun a => if isFr (g.ow a) then g.ow a else if isFr (g'.ow a) then .no else g'.ow a }) ⟨l1.F, l1.σ⟩
    obtain ⟨a1, a2, a3, a4, ⟨a5, m, ⟨o, es, ep, b1, b2⟩, a7⟩, a8⟩ := fr
    have hl : isFr (g.ow env.locals) = true := by rw [a5]; rfl
    refine ⟨a1, a2, a3, a4, ⟨by show (if _ then _ else _) = _; rw [if_pos hl, a5], m, ⟨o, es, ep, ?_, b2⟩, fun x i e => up (a7 x i e)⟩, fun x i k e hk => ?_⟩
    · obtain ⟨o', x1, x2, _⟩ := hfr _ hl; rw [x1] at b1; cases b1; exact x2
    · obtain ⟨c, v, c1, ⟨oc, c2, c2'⟩, c3, c4⟩ := a8 x i k e hk
      rcases c4 with c4 | ⟨c4, c5⟩
      · have hc : isFr (g.ow c) = true := by rw [c4]; rfl
        obtain ⟨o', x1, x2, _⟩ := hfr _ hc; rw [x1] at c2; cases c2
        exact ⟨c, v, c1, ⟨_, x2, c2'⟩, up c3, .inl (by show (if _ then _ else _) = _; rw [if_pos hc, c4])⟩
      · have hn : ¬ isFr (g.ow c) = true := by rw [c4]; decide
        obtain ⟨o', ho'⟩ := Option.isSome_iff_exists.mp (I.pk c c4)
        have y := I'.Φ c o' (by unfold frP; rw [if_neg hn]; exact ho')
        have z := (I.Φ c o' ho').1
        rw [c2] at z; cases z
        exact ⟨c, v, c1, ⟨_, y.1, c2'⟩, up c3, .inr ⟨by show (if _ then _ else _) = _; rw [if_neg hn, y.2]; rfl, c5⟩⟩
end
theorem slotGo_get {x : Str} : ∀ {ns : List (Str × NameKind)} {n i : Nat} {k : NameKind}, slotGo x ns n = some (i, k) → n ≤ i ∧ ns[i - n]? = some (x, k)
  | [], _, _, _, h => by cases h
  | (y, k') :: r, n, i, k, h => by
    unfold slotGo at h
    split at h
    · rename_i hb
      cases h; rw [beq_iff_eq.mp hb]; exact ⟨Nat.le_refl _, by simp⟩
    · obtain ⟨h1, h2⟩ := slotGo_get h
      refine ⟨by omega, ?_⟩
      have : i - n = (i - (n + 1)) + 1 := by omega
      rw [this, List.getElem?_cons_succ]; exact h2
theorem slot_get {ns : List (Str × NameKind)} {x : Str} {i : Nat} {k : NameKind} (h : slot ns x = some (i, k)) : ns[i]? = some (x, k) := by
  have := (slotGo_get h).2; simpa using this

noncomputable def initEv (ns : List (Str × NameKind)) (ps : List Str) (args : List MV) : List MV := ns.map fun p => ((ps.zip args).lookup p.1).getD .undef

theorem zip_lookup {g : G} {x : Str} : ∀ {ps : List Str} {args : List MV} {vs : List Value} {m : MV}, VRs g args vs → (ps.zip args).lookup x = some m → ∃ v, (ps.zip vs).lookup x = some v ∧ VR g m v
  | [], _, _, _, _, h => by simp at h
  | p :: ps, [], _, _, _, h => by simp at h
  | p :: ps, a :: args, _, m, hv, h => by
    simp only [VRs] at hv
    obtain ⟨v, r, rfl, h1, h2⟩ := hv
    simp only [List.zip_cons_cons, List.lookup_cons] at h ⊢
    cases hb : x == p with
    | true => rw [hb] at h; cases h; exact ⟨v, by simp, h1⟩
    | false => rw [hb] at h; simpa using zip_lookup h2 h

theorem bindL_lookup {kindOf : Str → Option NameKind} {x : Str} (hx : kindOf x = some .local) : ∀ {binds : List (Str × Value)} {m : Str → Option Value}, (binds.map (·.1)).Nodup →
    bindL kindOf binds m x = match binds.lookup x with | some v => some v | none => m x
  | [], m, _ => rfl
  | (y, v) :: r, m, hn => by
    rw [List.map_cons, List.nodup_cons] at hn
    unfold bindL
    rw [bindL_lookup hx hn.2, List.lookup_cons]
    by_cases hxy : x = y
    · subst hxy
      have hnone : r.lookup x = none := by
        cases hq : r.lookup x with
        | none => rfl
        | some w => exact absurd (List.mem_map.mpr ⟨(x, w), mem_of_lookup hq, rfl⟩) hn.1
      rw [hnone]; simp [hx]
    · have hb : (x == y) = false := beq_eq_false_iff_ne.mpr hxy
      rw [hb]
      cases hq : r.lookup x with
      | some w => rfl
      | none => by_cases hl : kindOf y = some .local <;> simp [hl, hxy]
theorem bindC_lookup {kindOf : Str → Option NameKind} {x : Str} (hx : kindOf x ≠ some .local) : ∀ {binds : List (Str × Value)} {m : Str → Option Value}, (binds.map (·.1)).Nodup →
    bindC kindOf binds m x = match binds.lookup x with | some v => some v | none => m x
  | [], m, _ => rfl
  | (y, v) :: r, m, hn => by
    rw [List.map_cons, List.nodup_cons] at hn
    unfold bindC
    rw [bindC_lookup hx hn.2, List.lookup_cons]
    by_cases hxy : x = y
    · subst hxy
      have hnone : r.lookup x = none := by
        cases hq : r.lookup x with
        | none => rfl
        | some w => exact absurd (List.mem_map.mpr ⟨(x, w), mem_of_lookup hq, rfl⟩) hn.1
      rw [hnone]; simp [hx]
    · have hb : (x == y) = false := beq_eq_false_iff_ne.mpr hxy
      rw [hb]
      cases hq : r.lookup x with
      | some w => rfl
      | none => by_cases hl : kindOf y = some .local <;> simp [hl, hxy]

theorem cellsFrom_some {x : Str} : ∀ (ns : List (Str × NameKind)) (n : Nat) (acc : List (Str × Addr)), ((acc.lookup x).isSome = true ∨ (x, NameKind.cell) ∈ ns) → ((cellsFrom n ns acc).lookup x).isSome = true
  | [], n, acc, h => by
    rcases h with h | h
    · exact h
    · cases h
  | (y, k) :: r, n, acc, h => by
    unfold cellsFrom
    split
    · refine cellsFrom_some r _ _ ?_
      rcases h with h | h
      · left; rw [List.lookup_cons]; cases hb : x == y with
        | true => rfl
        | false => exact h
      · rcases List.mem_cons.mp h with h | h
        · injection h with h1 h2; left; rw [List.lookup_cons, h1]; simp
        · exact .inr h
    · rename_i hk
      refine cellsFrom_some r _ _ ?_
      rcases h with h | h
      · exact .inl h
      · rcases List.mem_cons.mp h with h | h
        · injection h with h1 h2; rw [← h2] at hk; exact absurd rfl hk
        · exact .inr h

theorem cellsFrom_nodup : ∀ (ns : List (Str × NameKind)) (n : Nat) (acc : List (Str × Addr)), (ns.map (·.1)).Nodup → (acc.map (·.1)).Nodup → (∀ x ∈ acc, x.1 ∉ ns.map (·.1)) → ((cellsFrom n ns acc).map (·.1)).Nodup
  | [], _, acc, _, h, _ => h
  | (y, k) :: r, n, acc, hn, ha, hd => by
    rw [List.map_cons, List.nodup_cons] at hn
    unfold cellsFrom
    split
    · refine cellsFrom_nodup r _ _ hn.2 ?_ ?_
      · rw [List.map_cons, List.nodup_cons]
        refine ⟨fun hm => ?_, ha⟩
        obtain ⟨x, hx, e⟩ := List.mem_map.mp hm
        exact hd x hx (by rw [List.map_cons, e]; exact List.mem_cons_self)
      · intro x hx
        rcases List.mem_cons.mp hx with rfl | hx
        · exact hn.1
        · exact fun hm => hd x hx (by rw [List.map_cons]; exact List.mem_cons_of_mem _ hm)
    · exact cellsFrom_nodup r _ _ hn.2 ha fun x hx hm => hd x hx (by rw [List.map_cons]; exact List.mem_cons_of_mem _ hm)
theorem lookup_of_mem {α : Type} : ∀ {l : List (Str × α)}, (l.map (·.1)).Nodup → ∀ {x : Str} {c : α}, (x, c) ∈ l → l.lookup x = some c
  | [], _, _, _, h => by cases h
  | (y, k) :: r, hn, x, c, h => by
    rw [List.map_cons, List.nodup_cons] at hn
    rw [List.lookup_cons]
    rcases List.mem_cons.mp h with h2 | h2
    · cases h2; simp
    · have : x ≠ y := fun e => hn.1 (e ▸ List.mem_map.mpr ⟨_, h2, rfl⟩)
      have hb : (x == y) = false := beq_eq_false_iff_ne.mpr this
      rw [hb]; exact lookup_of_mem hn.2 h2

structure FnOk (a : Addr) (ps : List Str) (fi : FI) (body : List Stmt) : Prop where
  look : ∀ B : Bs, LookK B.K a ps fi body
  kinds : ∀ x ∈ ps, fi.ns.lookup x = some .local ∨ fi.ns.lookup x = some .cell
  nd : ps.Nodup
  ndn : (fi.ns.map (·.1)).Nodup
  own : fi.own = (fi.ns.filter (·.2 == .cell)).map (·.1)
  free : ∀ x ∈ fi.ns, x.2 ≠ .free

section
variable {B : Bs} {fi : FI} {d : Nat} {ev : List MV} {H : List MObj} {A : Around} {env : Env} {Φ : Addr → Option Obj} {g g' : G} {s s' : Shared}

noncomputable def ownOf' (cs : List (Str × Addr)) (b : Addr) : Option Str := (cs.find? (fun x => x.2 == b)).map (·.1)
theorem ownOf_mem : ∀ {cs : List (Str × Addr)}, (cs.Pairwise fun x y => x.2 ≠ y.2) → ∀ {n : Str} {c : Addr}, (n, c) ∈ cs → ownOf' cs c = some n
  | [], _, n, c, h => by cases h
  | (m, b) :: r, hp, n, c, h => by
    obtain ⟨h1, h2⟩ := List.pairwise_cons.mp hp
    unfold ownOf'
    rcases List.mem_cons.mp h with h | h
    · cases h; simp
    · have hne : b ≠ c := h1 _ h
      have := ownOf_mem h2 h
      unfold ownOf' at this
      rw [List.find?_cons]
      have hb : (b == c) = false := by simpa using hne
      simp only [hb]; exact this
theorem ownOf_some {cs : List (Str × Addr)} {b : Addr} {n : Str} (h : ownOf' cs b = some n) : (n, b) ∈ cs := by
  unfold ownOf' at h
  obtain ⟨x, h1, h2⟩ := Option.map_eq_some_iff.mp h
  have := List.find?_some h1
  have hm := List.mem_of_find?_eq_some h1
  obtain ⟨x1, x2⟩ := x
  simp at this h2
  subst this h2; exact hm

theorem InCallC_enter {L : Addr} {cs : List (Str × Addr)} {m cm : Str → Option Value} {s s1 : Shared} (I : Inv0 B Φ g H s) (X : InCallC s L m cs cm s1) (hL : s.heap.objs.size ≤ L) (hcs : (cs.map (·.1)).Nodup) :
    ∃ g1, g.le g1 ∧ Inv0 B Φ g1 H s1 ∧ g1.ow L = .fr none ∧ (∀ n c, (n, c) ∈ cs → g1.ow c = .fr (some n)) ∧ (∀ a o, s.heap.get? a = some o → g1.ow a = g.ow a) := by
  obtain ⟨h1, tk, hs⟩ := X.toInCall.same
  have keep := X.toInCall.keep
  have noL : g.ow L = .no := I.sz _ (Heap.get?_none_of_le hL)
  have noC : ∀ n c, (n, c) ∈ cs → g.ow c = .no := fun n c hm => I.sz _ (Heap.get?_none_of_le (Nat.le_trans hL (Nat.le_of_lt (X.above n c hm))))
  let ow' : Addr → Ow := fun a => if a = L then .fr none else match ownOf' cs a with | some n => .fr (some n) | none => g.ow a
  have I1 : Inv0 B Φ g H s1 := by
    have hk : ∀ a o, g.ow a ≠ .no → s.heap.get? a = some o → s1.heap.get? a = some o := fun a o _ e => keep a o e
    exact {
      gens := by rw [hs]; exact I.gens
      os := by rw [hs]; exact I.os
      F := fun a o e => ⟨keep _ _ (I.F a o e).1, (I.F a o e).2⟩
      hb := I.hb
      pk := I.pk
      Φ := fun a o e => ⟨keep _ _ (I.Φ a o e).1, (I.Φ a o e).2⟩
      sz := fun a e => by
        cases hq : s.heap.get? a with
        | none => exact I.sz a hq
        | some o => rw [keep a o hq] at e; cases e
      lo := I.lo
      len := I.len
      live := fun i a o h1 h2 => ⟨(I.live i a o h1 h2).1, (I.live i a o h1 h2).2.keep (.refl g) (I.live i a o h1 h2).1 (fun a o e => (I.F a o e).2) fun b o _ => keep b o⟩ }
  have stay : ∀ a, g.ow a ≠ .no → ow' a = g.ow a := fun a h => by
    show (if a = L then _ else _) = _
    rw [if_neg (fun q => by subst q; exact h noL)]
    cases hq : ownOf' cs a with
    | none => rfl
    | some n => exact absurd (noC n a (ownOf_some hq)) h
  have news : ∀ a, ow' a = g.ow a ∨ (∃ x, ow' a = .fr x) := fun a => by
    show (if a = L then _ else _) = _ ∨ ∃ x, (if a = L then _ else _) = _
    by_cases q : a = L
    · right; exact ⟨none, by rw [if_pos q]⟩
    · rw [if_neg q]
      cases hq : ownOf' cs a with
      | none => left; rfl
      | some n => right; exact ⟨some n, rfl⟩
  refine ⟨{ g with ow := ow' }, ⟨fun _ _ e => e, fun _ _ e => e⟩, I1.reown (fun a e => (stay a (by rw [e]; intro q; cases q)).trans e) (fun a i e => (stay a (by rw [e]; intro q; cases q)).trans e)
    (fun a o e => ⟨(I1.Φ a o e).1, (stay a (by rw [(I1.Φ a o e).2]; intro q; cases q)).trans (I1.Φ a o e).2⟩) (fun a e => ?_) (fun a i e => ?_) (fun a e => ?_), ?_, fun n c hm => ?_, fun a o e => ?_⟩
  · show (if a = L then _ else _) = _
    have hne : a ≠ L := fun q => by subst q; obtain ⟨o, _, _, ho, _⟩ := X.toInCall.ns; rw [ho] at e; cases e
    rw [if_neg hne]
    cases hq : ownOf' cs a with
    | none => exact I1.sz a e
    | some n =>
      have hmem := ownOf_some hq
      obtain ⟨o, ho, _⟩ := X.cell n a (lookup_of_mem hcs hmem)
      rw [ho] at e; cases e
  · rcases news a with h | ⟨x, h⟩
    · rw [← h]; exact e
    · rw [h] at e; cases e
  · rcases news a with h | ⟨x, h⟩
    · exact I1.pk a (h ▸ e)
    · rw [h] at e; cases e
  · show (if L = L then _ else _) = _
    rw [if_pos rfl]
  · show (if c = L then _ else _) = _
    rw [if_neg (Nat.ne_of_gt (X.above n c hm)), ownOf_mem X.apart hm]
  · show (if a = L then _ else _) = _
    have hlt := Nat.lt_of_lt_of_le (Heap.lt_size e) hL
    rw [if_neg (Nat.ne_of_lt hlt)]
    cases hq : ownOf' cs a with
    | none => rfl
    | some n => exact absurd (Nat.lt_trans hlt (X.above n a (ownOf_some hq))) (Nat.lt_irrefl _)

theorem OkA.deeper {d : Nat} {A : Around} (h : OkA d A) (hd : 0 < d) (env : Env) : OkA (d - 1) (A.deeper env) := by
  obtain ⟨h1, h2, h3⟩ := h
  exact ⟨h1, by show A.depth + 1 + 2 * (d - 1) + 2 < 1000; omega, by show A.units + 3 + 30 * (d - 1) + 30 < cLine; omega⟩

/-- a call of a function of the program -/
theorem WPF.fn {a : Addr} {ps : List Str} {fi : FI} {body : List Stmt} {args : List MV} {Q : MV → List MObj → Prop} (F : FnOk a ps fi body) (hd : 0 < d) (hlen : args.length = ps.length)
    (h : WPS B fi (d - 1) body (initEv fi.ns ps args) H (fun _ H' => Q .none H') Q) : WPF B d (.con (.ref a)) args H Q := fun A Φ g s fv vs ok I hf hv => by
  rw [hf.inv_con]
  obtain ⟨o, fd, hk, hdata, D⟩ := F.look B
  have keepB : ∀ b o, B.hb.get? b = some o → s.heap.get? b = some o := fun b o e => (I.F b o (I.hb b o e)).1
  have kx : (Kw B).In s.heap := B.kx.keeps keepB
  have nolim : s.heap.NoLimit := let ⟨_, _, t⟩ := B.tr; (t.keeps keepB).nolimit
  have hvl : vs.length = ps.length := by rw [hv.length, hlen]
  have hzip : ∀ x ∈ ps.zip vs, x.1 ∈ ps := fun x hx => (List.of_mem_zip hx).1
  have hcells : ∀ n : Nat, ((cellsFrom n fd.scope.names []).map (·.1)).Nodup := fun n => cellsFrom_nodup _ _ _ (by rw [D.names]; exact F.ndn) (by simp) (fun x hx => by cases hx)
  have hmemc : ∀ {x : Str} (n : Nat), fi.ns.lookup x = some .cell → ((cellsFrom n fd.scope.names []).lookup x).isSome = true := fun n e => cellsFrom_some _ _ _ (.inr (by rw [D.names]; exact mem_of_lookup e))
  have hznd : ((ps.zip vs).map (·.1)).Nodup := by
    have : (ps.zip vs).map (·.1) = ps := by rw [List.map_fst_zip]; omega
    rw [this]; exact F.nd
  refine codeAny_call_cells (binds := ps.zip vs) (body := body) ok.rec (kx _ _ hk) hdata nolim (codeRec_of kx D.code) D.body (D.bind vs hvl) D.clo (fun x hx => ?_) (fun s1 X => ?_) D.co D.gen D.kind
  · rw [D.names]
    rcases F.kinds x.1 (hzip x hx) with e | e
    · exact .inl e
    · exact .inr ⟨e, by have := hmemc (s.heap.objs.size + 1) e; rw [D.names] at this; exact this⟩
  · obtain ⟨g1, l1, I1, hL, hC, _⟩ := InCallC_enter I X (Nat.le_refl _) (hcells _)
    have hkind : ∀ x, Env.kindOf (callEnvC fd s.heap.objs.size a) x = fi.ns.lookup x := fun x => by show fd.scope.names.lookup x = _; rw [D.names]
    have hlk : ∀ {x : Str} {i : Nat} {k : NameKind}, slot fi.ns x = some (i, k) → (initEv fi.ns ps args)[i]? = some (((ps.zip args).lookup x).getD .undef) := fun hs => by
      unfold initEv; rw [List.getElem?_map, slot_get hs]; rfl
    have hval : ∀ {x : Str} {i : Nat} {k : NameKind} {v : Option Value}, slot fi.ns x = some (i, k) → (∀ u, (ps.zip vs).lookup x = some u → v = some u) → VRo g1 (initEv fi.ns ps args)[i]? v := fun {x i k v} hs hu m e => by
      rw [hlk hs] at e; cases e
      cases hq : (ps.zip args).lookup x with
      | none => trivial
      | some m =>
        obtain ⟨u, e1, r⟩ := zip_lookup hv hq
        have := hu u e1
        cases m <;> first | trivial | exact ⟨u, this, r.mono l1⟩
    have fr : FrameOk fi g1 (callEnvC fd s.heap.objs.size a) (initEv fi.ns ps args) s1.heap := by
      refine ⟨D.names, D.kind, D.glob, D.blt, ⟨hL, _, X.toInCall.ns, fun x i e => ?_⟩, fun x i k e hk => ?_⟩
      · refine hval e fun u hu => ?_
        rw [bindL_lookup (by rw [hkind]; exact slot_lookup e) hznd, hu]
      · have hx := slot_lookup e
        have hc : k = .cell := by
          rcases hk with hk | hk
          · exact hk
          · exact absurd hk (F.free _ (mem_of_lookup hx))
        subst hc
        obtain ⟨c, hc⟩ := Option.isSome_iff_exists.mp (hmemc (s.heap.objs.size + 1) hx)
        refine ⟨c, _, hc, X.cell x c hc, hval e fun u hu => ?_, .inl (hC x c (mem_of_lookup hc))⟩
        rw [bindC_lookup (by rw [hkind, hx]; decide) hznd, hu]
    refine (h _ (callEnvC fd s.heap.objs.size a) Φ g1 s1 (ok.deeper hd _) (I1.with fr)).to fun g2 ev2 H2 f s2 l2 I2 q => ?_
    cases f with
    | next => exact ⟨g2, H2, .none, l1.trans l2, I2.core, .none', q⟩
    | ret v => obtain ⟨m, r, q⟩ := q; exact ⟨g2, H2, m, l1.trans l2, I2.core, r, q⟩
    | brk => exact q.elim
    | cont => exact q.elim

theorem WPF.v {f : MV} {args : List MV} {Q : MV → List MObj → Prop} (h : WPF B d f args H Q) (hf : ∀ g v, VR g f v → ∀ g', VR g' f v) : WPV B d f args H Q := fun A fi env Φ g ev s fv vs ok I hfv hv => by
  have l0 : g.le { g with ow := fun a => if isFr (g.ow a) then .pk else g.ow a } := ⟨fun _ _ e => e, fun _ _ e => e⟩
  refine wpAny_call (codeAny_mono (h A _ _ s fv vs ok I.parkFr (hf _ _ hfv _) (hv.mono l0)) fun r s' x => ?_)
  rcases r with e | (v | _ | _ | _)
  · exact x
  all_goals first | exact x | skip
  obtain ⟨g', H', m, l, I', r1, q⟩ := x
  obtain ⟨g2, l2, l3, I2, _⟩ := Inv0.backFr I l I'
  exact ⟨g2, ev, H', l2, I2, rfl, m, r1.mono l3, q⟩
theorem WPF.vc {c : Value} {args : List MV} {Q : MV → List MObj → Prop} (h : WPF B d (.con c) args H Q) : WPV B d (.con c) args H Q := h.v fun g v e g' => by rw [e.inv_con]; exact .con'
end
noncomputable def calleeOk (w : Bs) : MV → Bool
  | .con (.builtin _) => true
  | .con (.type _) => true
  | .con (.ref a) => keepIn (Kw w) (.ref a)
  | _ => false

section
variable {B : Bs} {fi : FI} {d : Nat} {ev : List MV} {H : List MObj} {A : Around} {env : Env} {Φ : Addr → Option Obj} {g g' : G} {s s' : Shared}

theorem W_callWith {f : MV} {fv : Value} {first : List MV} {firstv : List Value} {e : Expr} {rest : List Expr} {pos : Pos} {Q : MV → List MObj → Prop} (ok : OkA d A) (I : Inv B fi env Φ g ev H s)
    (hf : VR g f fv) (hc : calleeOk B f = true) (hfirst : VRs g first firstv) (he : ∀ env, starEach (e :: rest) env = (false, eval e env) :: starEach rest env)
    (hp : ∀ env, (backTo pos (starEach rest env)).any (·.1) = false) (h : WPEs B fi d (e :: rest) ev H fun ms H2 => WPV B d f (first ++ ms) H2 Q) :
    W B fi env Φ A (callWith pos fv firstv (backTo pos (starEach (e :: rest) env)) []) g s (PE ev Q) := by
  have key : ∀ fv, VR g f fv → wpAny B.M A (spliced (backTo pos (starEach (e :: rest) env))) (fun vs s1 => (Kw B).In s1.heap ∧ wpAny B.M A (call fv (firstv ++ vs)) (Pst B fi env Φ g (PE ev Q)) (fun _ _ => False) s1) (fun _ _ => False) s := fun fv hf =>
    (h A env Φ g s pos ok I).to fun g1 ev1 H1 vs s1 l1 I1 hq1 => by
      obtain ⟨e1, ms, rms, hv⟩ := hq1
      subst e1
      exact ⟨I1.kx, W.back l1 (hv A fi env Φ g1 _ s1 fv _ ok I1 (hf.mono l1) ((hfirst.mono l1).append rms))⟩
  unfold calleeOk at hc
  split at hc
  · rw [hf.inv_con]
    have k := key _ hf; rw [hf.inv_con] at k
    refine Calls.callWith_builtin (by rw [he env]; show (false || (backTo pos (starEach rest env)).any (·.1)) = false; rw [hp env]; rfl) ?_
    rw [he env] at k ⊢
    exact Calls.evalArgs_plain (wpAny_mono k (fun vs s1 h => h.2) fun _ _ x => x)
  · rw [hf.inv_con]
    have k := key _ hf; rw [hf.inv_con] at k
    refine PySem.callWith_type (by rw [he env]; show (false || (backTo pos (starEach rest env)).any (·.1)) = false; rw [hp env]; rfl) ?_
    rw [he env] at k ⊢
    exact Calls.evalArgs_plain (wpAny_mono k (fun vs s1 h => h.2) fun _ _ x => x)
  · rw [hf.inv_con]
    have k := key _ hf; rw [hf.inv_con] at k
    exact callWith_K (h₀ := s.heap) I.kx hc k (he env) (hp env)
  · cases hc

theorem W_callWith0 {f : MV} {fv : Value} {first : List MV} {firstv : List Value} {pos : Pos} {Q : MV → List MObj → Prop} (ok : OkA d A) (I : Inv B fi env Φ g ev H s)
    (hf : VR g f fv) (hc : calleeOk B f = true) (hfirst : VRs g first firstv) (h : WPV B d f first H Q) :
    W B fi env Φ A (callWith pos fv firstv (backTo pos (starEach [] env)) []) g s (PE ev Q) := by
  have k : wpAny B.M A (call fv (firstv ++ [])) (Pst B fi env Φ g (PE ev Q)) (fun _ _ => False) s := by
    rw [List.append_nil]; exact h A fi env Φ g ev s fv firstv ok I hf hfirst
  unfold calleeOk at hc
  split at hc
  · rw [hf.inv_con] at k ⊢
    exact Calls.callWith_builtin (args := []) rfl (PySem.evalArgs_none k)
  · rw [hf.inv_con] at k ⊢
    exact PySem.callWith_type (args := []) rfl (PySem.evalArgs_none k)
  · rw [hf.inv_con] at k ⊢
    exact callWith_K0 I.kx hc k
  · cases hc

theorem WPE.call {x : Str} {p : Pos} {e : Expr} {rest : List Expr} {pos : Pos} {Q : MV → List MObj → Prop} (he : ∀ env, starEach (e :: rest) env = (false, eval e env) :: starEach rest env)
    (hp : ∀ env, (backTo pos (starEach rest env)).any (·.1) = false)
    (h : WPE B fi d (.Name x p) ev H fun f H1 => calleeOk B f = true ∧ WPEs B fi d (e :: rest) ev H1 fun ms H2 => WPV B d f ms H2 Q) : WPE B fi d (.Call (.Name x p) (e :: rest) [] pos) ev H Q := fun A env Φ g s ok I => by
  show wpAny _ _ _ _ _ _
  rw [arm_eval_Call_Name']
  refine wpAny_bind ((h A env Φ g s ok I).to fun g1 ev1 H1 fv s1 l1 I1 hq2 => ?_)
  obtain ⟨e1, f, rf, hc, h1⟩ := hq2
  subst e1
  exact W.back l1 (W_callWith (first := []) (firstv := []) ok I1 rf hc (by simp [VRs]) he hp h1)
theorem WPE.call0 {x : Str} {p : Pos} {pos : Pos} {Q : MV → List MObj → Prop} (h : WPE B fi d (.Name x p) ev H fun f H1 => calleeOk B f = true ∧ WPV B d f [] H1 Q) : WPE B fi d (.Call (.Name x p) [] [] pos) ev H Q := fun A env Φ g s ok I => by
  show wpAny _ _ _ _ _ _
  rw [arm_eval_Call_Name']
  refine wpAny_bind ((h A env Φ g s ok I).to fun g1 ev1 H1 fv s1 l1 I1 hq3 => ?_)
  obtain ⟨e1, f, rf, hc, h1⟩ := hq3
  subst e1
  exact W.back l1 (W_callWith0 (first := []) ok I1 rf hc (by simp [VRs]) h1)

/-! methods -/
inductive PM (B : Bs) (ev : List MV) (H : List MObj) (g : G) (Q : MV → List MV → Prop) (g' : G) (ev' : List MV) (H' : List MObj) (r : Value × List Value) : Prop
  | mk (e : ev' = ev ∧ H' = H ∧ g' = g) (f : MV) (first : List MV) (rf : VR g' f r.1) (rs : VRs g' first r.2) (c : calleeOk B f = true) (q : Q f first)
/-- what stands behind a method's name -/
noncomputable def methM (B : Bs) (o : MV) (x : Str) (H : List MObj) (Q : MV → List MV → Prop) : Prop := ∀ fi env Φ A g ev s ov pl, Inv B fi env Φ g ev H s → VR g o ov →
  W B fi env Φ A (getMethod ov x pl) g s (PM B ev H g Q)

theorem getF_none {P : Params} {g : G} {x : Str} : ∀ {fs : List (Str × MV)} {es : List DictEntry}, VRf P g fs es → getF x fs = none → getL x es = some none
  | [], _, h, _ => by cases h; rfl
  | (y, m') :: fs, _, h, e => by
    obtain ⟨t, v, r, rfl, h1, h2⟩ := h
    unfold getF at e
    have hk : (Value.str y t).isStr x = (y == x) := rfl
    by_cases hx : (y == x) = true
    · rw [if_pos hx] at e; cases e
    · rw [if_neg hx] at e
      have ih := getF_none h2 e
      have hx' : (y == x) = false := by simpa using hx
      unfold getL at ih ⊢
      simp only [List.find?_cons, hk, hx']
      have hr : (DictEntry.mk (PyData.keyHash P y) (Value.str y t) v).refKey = false := rfl
      cases hf : List.find? (fun x_1 => x_1.key.isStr x) r with
      | some e' => rw [hf] at ih; cases ih
      | none => rw [hf] at ih; simp only [List.any_cons, hr, Bool.false_or] at ih ⊢; exact ih

section
variable {Q : MV → List MV → Prop} {i : Nat}
theorem meth_inst {C f : Addr} {x : Str} {fs : List (Str × MV)} (h1 : H[i]? = some (.inst C fs)) (me : plainGet (Kw B) C x = true ∧ findIn (Kw B) (.ref C) x = some (some (.ref f)) ∧ isFn (Kw B) (.ref f) = true ∧ keepIn (Kw B) (.ref f) = true) (h2 : getF x fs = none)
    (h : Q (.con (.ref f)) [.ref i]) : methM B (.ref i) x H Q := fun fi env Φ A g ev s ov pl I ho => by
  obtain ⟨a, dx, es, n, rfl, e1, e2, e3, e4, e5, e6, e7, IA⟩ := instOf (I := I) ho h1
  refine method_fn I.kx IA (plainGet_of me.1).1 (plainGet_of me.1).2 me.2.1 (beq_iff_eq.mp me.2.2.1) (by show (lookIn x (dictOf es n)).map _ = _; rw [lookIn_dict, getF_none e7 h2]; rfl)
    ⟨g, ev, H, .refl g, I, ⟨rfl, rfl, rfl⟩, .con (.ref f), [.ref _], .con', ?_, me.2.2.2, h⟩
  simp only [VRs]; exact ⟨_, _, rfl, ho, rfl⟩
theorem Inv.mlist (I : Inv B fi env Φ g ev H s) {a : Addr} (ho : VR g (.ref i) (.ref a)) (id : String) (q : Q (.con (.builtin id)) [.ref i]) :
    Pst B fi env Φ g (PM B ev H g Q) (Value.builtin id, [Value.ref a]) s :=
  ⟨g, ev, H, .refl g, I, ⟨rfl, rfl, rfl⟩, .con (.builtin id), [.ref _], .con', by simp only [VRs]; exact ⟨_, _, rfl, ho, rfl⟩, rfl, q⟩
theorem meth_append {vs : List MV} (h1 : H[i]? = some (.list vs)) (h : Q (.con (.builtin "list.append")) [.ref i]) : methM B (.ref i) "append" H Q := fun fi env Φ A g ev s ov pl I ho => by
  obtain ⟨a, items, n, rfl, e1, e2, e3, e4⟩ := I.list ho h1
  exact getMethod_list_of F.slot_list_append F.type_list_append (isListOf e3) (by exact ⟨_, e3, rfl⟩) (I.mlist ho _ h)
theorem meth_extend {vs : List MV} (h1 : H[i]? = some (.list vs)) (h : Q (.con (.builtin "list.extend")) [.ref i]) : methM B (.ref i) "extend" H Q := fun fi env Φ A g ev s ov pl I ho => by
  obtain ⟨a, items, n, rfl, e1, e2, e3, e4⟩ := I.list ho h1
  exact getMethod_list_of F.slot_list_extend F.type_list_extend (isListOf e3) (by exact ⟨_, e3, rfl⟩) (I.mlist ho _ h)
theorem meth_pop {vs : List MV} (h1 : H[i]? = some (.list vs)) (h : Q (.con (.builtin "list.pop")) [.ref i]) : methM B (.ref i) "pop" H Q := fun fi env Φ A g ev s ov pl I ho => by
  obtain ⟨a, items, n, rfl, e1, e2, e3, e4⟩ := I.list ho h1
  exact getMethod_list_of F.slot_list_pop F.type_list_pop (isListOf e3) (by exact ⟨_, e3, rfl⟩) (I.mlist ho _ h)
end

theorem WPE.meth {o : Expr} {x : Str} {ap pos : Pos} {e : Expr} {rest : List Expr} {pl : Env → Sem Bool} {Q : MV → List MObj → Prop}
    (hev : ∀ env, eval (.Call (.Attribute o x ap) (e :: rest) [] pos) env = (do
      let ov ← eval o env
      standAt ap.atName
      let (f, first) ← holding [ov] (getMethod ov x (pl env))
      callWith pos f first (backTo pos (starEach (e :: rest) env)) []))
    (he : ∀ env, starEach (e :: rest) env = (false, eval e env) :: starEach rest env) (hp : ∀ env, (backTo pos (starEach rest env)).any (·.1) = false)
    (h : WPE B fi d o ev H fun ov H1 => methM B ov x H1 fun f first => WPEs B fi d (e :: rest) ev H1 fun ms H2 => WPV B d f (first ++ ms) H2 Q) : WPE B fi d (.Call (.Attribute o x ap) (e :: rest) [] pos) ev H Q := fun A env Φ g s ok I => by
  refine MethodCall_ (pl := pl env) ((h A env Φ g s ok I).to fun g1 ev1 H1 v s1 l1 I1 hq => ?_) (hev env)
  obtain ⟨rfl, ov, ro, h1⟩ := hq
  refine (h1 fi env Φ A g1 _ s1 v (pl env) I1 ro).to fun g2 ev2 H2 r s2 l2 I2 hq4 => ?_
  obtain ⟨⟨q1, q2, q3⟩, f, first, rf, rfst, hc, hq⟩ := hq4
  subst q1 q2 q3
  exact W.back l1 (W_callWith ok I2 rf hc rfst he hp hq)
theorem WPE.meth0 {o : Expr} {x : Str} {ap pos : Pos} {pl : Env → Sem Bool} {Q : MV → List MObj → Prop}
    (hev : ∀ env, eval (.Call (.Attribute o x ap) [] [] pos) env = (do
      let ov ← eval o env
      standAt ap.atName
      let (f, first) ← holding [ov] (getMethod ov x (pl env))
      callWith pos f first (backTo pos (starEach [] env)) []))
    (h : WPE B fi d o ev H fun ov H1 => methM B ov x H1 fun f first => WPV B d f first H1 Q) : WPE B fi d (.Call (.Attribute o x ap) [] [] pos) ev H Q := fun A env Φ g s ok I => by
  refine MethodCall_ (pl := pl env) ((h A env Φ g s ok I).to fun g1 ev1 H1 v s1 l1 I1 hq => ?_) (hev env)
  obtain ⟨rfl, ov, ro, h1⟩ := hq
  refine (h1 fi env Φ A g1 _ s1 v (pl env) I1 ro).to fun g2 ev2 H2 r s2 l2 I2 hq5 => ?_
  obtain ⟨⟨q1, q2, q3⟩, f, first, rf, rfst, hc, hq⟩ := hq5
  subst q1 q2 q3
  exact W.back l1 (W_callWith0 ok I2 rf hc rfst hq)
end
section
variable {B : Bs} {fi : FI} {d : Nat} {ev : List MV} {H : List MObj} {A : Around} {env : Env} {Φ : Addr → Option Obj} {g g' : G} {s s' : Shared}

theorem big : (100000 : Nat) ≤ sizeLine := by decide
theorem VRs.one {m : MV} {vs : List Value} (h : VRs g [m] vs) : ∃ v, vs = [v] ∧ VR g m v := by
  simp only [VRs] at h; obtain ⟨v, r, rfl, h1, rfl⟩ := h; exact ⟨v, rfl, h1⟩
theorem VRs.two {m n : MV} {vs : List Value} (h : VRs g [m, n] vs) : ∃ v u, vs = [v, u] ∧ VR g m v ∧ VR g n u := by
  simp only [VRs] at h; obtain ⟨v, r, rfl, h1, u, r', rfl, h2, rfl⟩ := h; exact ⟨v, u, rfl, h1, h2⟩

theorem WPV.len {j : Nat} {vs : List MV} {Q : MV → List MObj → Prop} (hj : H[j]? = some (.list vs)) (hs : vs.length ≤ 100000) (h : Q (.int vs.length) H) : WPV B d (.con (.builtin "len")) [.ref j] H Q :=
  fun A fi env Φ g ev s fv ws ok I hf hv => by
    rw [hf.inv_con]
    obtain ⟨v, rfl, hm1⟩ := hv.one
    obtain ⟨a, items, n, rfl, -, -, e, r⟩ := I.list hm1 hj
    exact Calls.call_len_list (isListOf e) (by rw [r.size]; omega) ⟨g, ev, H, .refl g, I.toks _, rfl, .int vs.length, by rw [r.size]; exact .int', h⟩

theorem WPV.list {j : Nat} {vs : List MV} {Q : MV → List MObj → Prop} (hj : H[j]? = some (.list vs)) (hs : vs.length ≤ 100000) (h : Q (.ref H.length) (H ++ [.list vs])) : WPV B d (.con (.type "list")) [.ref j] H Q :=
  fun A fi env Φ g ev s fv ws ok I hf hv => by
    rw [hf.inv_con]
    obtain ⟨v, rfl, hm1⟩ := hv.one
    obtain ⟨a, items, n, rfl, -, -, e, r⟩ := I.list hm1 hj
    refine call_list_seq (T := "list") a (.inl rfl) e rfl rfl (fun h' c' hk hn => ?_) (by rw [r.size]; exact Nat.le_trans hs (by decide))
    have I1 : Inv B fi env Φ g ev H { s with heap := h' } := I.step rfl rfl fun b o _ e => hk b o e
    have hl : g.le (g.more s.heap.objs.size) := ⟨fun _ _ e => e, fun i b e => by
      show (g.σ ++ [s.heap.objs.size])[i]? = some b
      rw [List.getElem?_append_left (List.getElem?_eq_some_iff.mp e).1]; exact e⟩
    obtain ⟨l, I2, hσ⟩ := I1.live1 (o := .list vs) I.big I.szn hn ⟨items, c', hn, r.mono hl⟩
    exact ⟨_, ev, _, l, I2, rfl, _, .ref' hσ, h⟩

theorem WPV.min {a b : Int} {Q : MV → List MObj → Prop} (h : Q (.int (if b < a then b else a)) H) : WPV B d (.con (.builtin "min")) [.int a, .int b] H Q :=
  fun A fi env Φ g ev s fv ws ok I hf hv => by
    rw [hf.inv_con]
    obtain ⟨v, u, rfl, h1, h2⟩ := hv.two
    obtain ⟨t, rfl⟩ := h1.inv_int; obtain ⟨t', rfl⟩ := h2.inv_int
    refine min_two_ints ok.1 fun h' tk hk => ?_
    refine ⟨g, ev, H, .refl g, I.step rfl rfl (fun b o _ e => hk b o e), rfl, _, ?_, h⟩
    split <;> exact .int'
theorem WPV.max {a b : Int} {Q : MV → List MObj → Prop} (h : Q (.int (if b > a then b else a)) H) : WPV B d (.con (.builtin "max")) [.int a, .int b] H Q :=
  fun A fi env Φ g ev s fv ws ok I hf hv => by
    rw [hf.inv_con]
    obtain ⟨v, u, rfl, h1, h2⟩ := hv.two
    obtain ⟨t, rfl⟩ := h1.inv_int; obtain ⟨t', rfl⟩ := h2.inv_int
    refine max_two_ints ok.1 fun h' tk hk => ?_
    refine ⟨g, ev, H, .refl g, I.step rfl rfl (fun b o _ e => hk b o e), rfl, _, ?_, h⟩
    split <;> exact .int'

theorem Answers.of_false_bytes {x : Array UInt8} {u : Tok} {T : String} (hne : (Value.type "bytes" == Value.type T) = false) (hty : typeOf (.type T) = pure (.type "type")) (hsub : isSubtype (.type "bytes") (.type T) = pure false) :
    Answers (fun s => s.TypeIs (.bytes x u) "bytes") (.bytes x u) (.type T) false :=
  fun _ _ _ _ _ _ s hs => by
    obtain ⟨h, g, d, t, os⟩ := s
    exact isinstance_nested_false_bytes hne hty hsub (hs.2 (t + 1))
theorem isSubtype_bytes_bytes : isSubtype (.type "bytes") (.type "bytes") = pure true := by rw [isSubtype_type]; kernel_rfl
theorem isSubtype_bytes_str : isSubtype (.type "bytes") (.type "str") = pure false := by rw [isSubtype_type]; kernel_rfl

theorem WPV.isStr {b : List UInt8} {Q : MV → List MObj → Prop} (h : Q (.bool false) H) : WPV B d (.con (.builtin "isinstance")) [.bytes b, .con (.type "str")] H Q :=
  fun A fi env Φ g ev s fv ws ok I hf hv => by
    rw [hf.inv_con]
    obtain ⟨v, u, rfl, h1, h2⟩ := hv.two
    obtain ⟨t, rfl⟩ := h1.inv_bytes; rw [h2.inv_con]
    obtain ⟨hp, gg, dd, tk, os⟩ := s
    exact call_isinstance_of (isinstance_nested_false_bytes (by decide +kernel) F.isi_meta_str isSubtype_bytes_str ⟨g, ev, H, .refl g, I.toks _, rfl, .bool false, .bool', h⟩) (by intro e; cases e)
theorem isi_meta_bytes' : typeOf (.type "bytes") = pure (.type "type") := F.isi_meta_bytes
theorem WPV.isBs {b : List UInt8} {Q : MV → List MObj → Prop} (h : Q (.bool true) H) : WPV B d (.con (.builtin "isinstance")) [.bytes b, .tup [.con (.type "bytes"), .con (.type "str")]] H Q :=
  fun A fi env Φ g ev s fv ws ok I hf hv => by
    rw [hf.inv_con]
    obtain ⟨v, u, rfl, h1, h2⟩ := hv.two
    obtain ⟨t, rfl⟩ := h1.inv_bytes
    obtain ⟨a, items, n, rfl, e, r⟩ := h2.inv_tup
    simp only [VRs] at r
    obtain ⟨v1, r1, e1, x1, v2, r2, e2, x2, e3⟩ := r
    subst e3 e2
    rw [x1.inv_con, x2.inv_con] at e1
    have hi : items = [Value.type "bytes", Value.type "str"].toArray := by apply Array.ext'; simpa using e1
    refine call_isinstance (isinstance_tuple (Tx := "bytes") (vs := [true, false]) (cs := [.type "bytes", .type "str"]) ⟨Answers.of_true F.isi_meta_bytes isSubtype_bytes_bytes, Answers.of_false_bytes (by decide +kernel) F.isi_meta_str isSubtype_bytes_str, trivial⟩)
      ⟨rfl, by rw [← hi]; exact (I.F _ _ e).1, fun tk => ?_⟩
    exact ⟨g, ev, H, .refl g, I.toks tk, rfl, .bool true, .bool', h⟩

theorem ints_get {ns : List Int} {vs : List Value} (h : VRs g (ns.map .int) vs) (i : Nat) (v : Value) (e : vs[i]? = some v) : ∃ t, v = .int (ns.getD i 0) t := by
  obtain ⟨m, e1, r⟩ := h.at e
  rw [List.getElem?_map] at e1
  obtain ⟨n, e2, rfl⟩ := Option.map_eq_some_iff.mp e1
  obtain ⟨t, rfl⟩ := r.inv_int
  exact ⟨t, by simp [List.getD, e2]⟩
theorem preSum_sum (ns : List Int) : ∀ k, k ≤ ns.length → preSum (fun i => ns.getD i 0) k = (ns.take k).sum
  | 0, _ => by simp [preSum]
  | k + 1, hk => by
    rw [preSum, preSum_sum ns k (by omega)]
    have : ns[k]? = some ns[k] := List.getElem?_eq_getElem (by omega)
    rw [List.take_succ, this, List.sum_append]
    simp [List.getD, this]
theorem WPV.sum {j : Nat} {ns : List Int} {Q : MV → List MObj → Prop} (hj : H[j]? = some (.list (ns.map .int))) (h : Q (.int ns.sum) H) : WPV B d (.con (.builtin "sum")) [.ref j] H Q :=
  fun A fi env Φ g ev s fv ws ok I hf hv => by
    rw [hf.inv_con]
    obtain ⟨v, rfl, hm1⟩ := hv.one
    obtain ⟨a, items, n, rfl, -, -, e, r⟩ := I.list hm1 hj
    have hlt := Heap.lt_size e
    refine call_sum_walkG (wpAny_pyIter_list (isListOf e) ⟨s.heap.objs.size, _, _, _, _, _, fun i => ns.getD i 0, rfl, Walks.list (A := A.in1) ok.1 _ a (Nat.ne_of_lt hlt) items, ⟨⟨_, Heap.get?_push_size _ rfl, rfl, rfl⟩, (isListOf e).push _⟩,
      fun b hb => ?_, fun i v hiv => ints_get r i v (by simpa using hiv), fun h' tk t' hk => ?_⟩)
    · simp only [List.mem_cons, List.not_mem_nil, or_false] at hb
      rw [Heap.size_push]
      rcases hb with h' | h'
      · rw [h']; exact Nat.lt_succ_self _
      · rw [h']; exact Nat.lt_succ_of_lt hlt
    · refine ⟨g, ev, H, .refl g, I.step rfl rfl (fun b o hb e => hk b o (by simp only [List.mem_singleton]; rintro rfl; exact hb I.szn) (Heap.get?_push_of_some _ e)), rfl, .int ns.sum, ?_, h⟩
      have : preSum (fun i => ns.getD i 0) items.size = ns.sum := by
        rw [r.size, List.length_map, preSum_sum ns _ (Nat.le_refl _), List.take_length]
      rw [this]; exact .int'

/-! list methods -/
theorem W_updList {j : Nat} {a : Addr} {items : Array Value} {n : Nat} {ms : List MV} {f : Array Value → Array Value} (I : Inv B fi env Φ g ev H s) (h1 : g.σ[j]? = some a) (h2 : g.ow a = .lv j) (e : s.heap.get? a = some (listObj items n)) (r : VRs g ms (f items).toList) :
    Inv B fi env Φ g ev (H.set j (.list ms)) { s with heap := s.heap.update a (Obj.mapSeq f) } := by
  have D' : ∃ n', (s.heap.update a (Obj.mapSeq f)).get? a = some (listObj (f items) n') := ⟨_, IsL.update (h := s.heap) (l := a) (items := items) (n := n) e f⟩
  obtain ⟨n', D'⟩ := D'
  exact I.upd h1 rfl rfl (fun b p e1 e2 e3 => (Heap.get?_update_other _ _ (fun q => by subst q; exact e2 h2)).trans e3) (upd_none D') ⟨_, n', D', r⟩

theorem WPV.append {j : Nat} {vs : List MV} {m : MV} {Q : MV → List MObj → Prop} (hj : H[j]? = some (.list vs)) (hs : vs.length ≤ 100000) (h : Q .none (H.set j (.list (vs ++ [m])))) : WPV B d (.con (.builtin "list.append")) [.ref j, m] H Q :=
  fun A fi env Φ g ev s fv ws ok I hf hv => by
    rw [hf.inv_con]
    obtain ⟨v, u, rfl, hm1, hm⟩ := hv.two
    obtain ⟨a, items, n, rfl, h1, h2, e, r⟩ := I.list hm1 hj
    have hr : VRs g (vs ++ [m]) (items.push u).toList := by rw [Array.toList_push]; exact r.append (by simp only [VRs]; exact ⟨_, _, rfl, hm, rfl⟩)
    exact call_meets F.slot_list_append ⟨_, e, rfl⟩ F.entry_list_append (F.args_list_append_2 _ _) (list_append a items n u (by rw [r.size]; exact Nat.le_trans hs (by decide))) ⟨e, g, ev, _, .refl g, W_updList (f := fun x => x.push u) I h1 h2 e hr, rfl, .none, .none', h⟩

theorem WPV.extend {j k : Nat} {vs us : List MV} {Q : MV → List MObj → Prop} (hj : H[j]? = some (.list vs)) (hk : H[k]? = some (.list us)) (hs : vs.length + us.length ≤ 100000) (h : Q .none (H.set j (.list (vs ++ us)))) :
    WPV B d (.con (.builtin "list.extend")) [.ref j, .ref k] H Q :=
  fun A fi env Φ g ev s fv ws ok I hf hv => by
    rw [hf.inv_con]
    obtain ⟨v, u, rfl, hm1, hm⟩ := hv.two
    obtain ⟨a, items, n, rfl, h1, h2, e, r⟩ := I.list hm1 hj
    obtain ⟨b, items2, n2, rfl, h1', h2', e', r'⟩ := I.list hm hk
    have hr : VRs g (vs ++ us) (items ++ items2).toList := by rw [Array.toList_append]; exact r.append r'
    have hz : items.size + items2.size ≤ 100000 := by rw [r.size, r'.size]; exact hs
    exact call_meets F.slot_list_extend ⟨_, e, rfl⟩ F.entry_list_extend (F.args_list_extend_2 _ _) (AutoSeq1.list_extend_list_list_0 a items n b items2 n2 (by simp [Builtin.List.listTooLong, sizeLine]; omega) (by have := big; omega) (by have := big; omega))
      ⟨e, e', g, ev, _, .refl g, W_updList (f := fun x => x ++ items2) I h1 h2 e hr, rfl, .none, .none', h⟩

theorem VRs.erase : ∀ {ms : List MV} {vs : List Value} (i : Nat), VRs g ms vs → VRs g (ms.eraseIdx i) (vs.eraseIdx i)
  | [], _, i, h => by simp only [VRs] at h; subst h; simp [VRs]
  | x :: xs, _, i, h => by
    simp only [VRs] at h
    obtain ⟨v, r, rfl, h1, h2⟩ := h
    cases i with
    | zero => simpa using h2
    | succ i => simp only [List.eraseIdx_cons_succ, VRs]; exact ⟨_, _, rfl, h1, VRs.erase i h2⟩
theorem erase_toList (items : Array Value) (i : Nat) : (items.eraseIdxIfInBounds i).toList = items.toList.eraseIdx i := by
  unfold Array.eraseIdxIfInBounds
  split
  · rw [Array.toList_eraseIdx]
  · rw [List.eraseIdx_of_length_le]; simp; omega

theorem WPV.pop {j : Nat} {vs : List MV} {m : MV} {Q : MV → List MObj → Prop} (hj : H[j]? = some (.list vs)) (hs : vs.length ≤ 100000) (hm : vs[vs.length - 1]? = some m) (h : Q m (H.set j (.list (vs.eraseIdx (vs.length - 1))))) : WPV B d (.con (.builtin "list.pop")) [.ref j] H Q :=
  fun A fi env Φ g ev s fv ws ok I hf hv => by
    rw [hf.inv_con]
    obtain ⟨v, rfl, hm1⟩ := hv.one
    obtain ⟨a, items, n, rfl, h1, h2, e, r⟩ := I.list hm1 hj
    obtain ⟨u, eu, ru⟩ := r.get hm
    have hr : VRs g (vs.eraseIdx (vs.length - 1)) (items.eraseIdxIfInBounds (items.size - 1)).toList := by rw [erase_toList, r.size]; exact r.erase _
    exact call_meets F.slot_list_pop ⟨_, e, rfl⟩ F.entry_list_pop (F.args_list_pop_1 _) (MeetsSeq.list_pop_last a items n u (by rw [r.size]; simpa using eu) (by rw [r.size]; exact Nat.le_trans hs (by decide)))
      ⟨e, g, ev, _, .refl g, W_updList (f := fun xs => xs.eraseIdxIfInBounds (items.size - 1)) I h1 h2 e hr, rfl, m, ru, h⟩

theorem WPV.pop0 {j : Nat} {vs : List MV} {m : MV} {Q : MV → List MObj → Prop} (hj : H[j]? = some (.list (m :: vs))) (hs : vs.length ≤ 99999) (h : Q m (H.set j (.list vs))) : WPV B d (.con (.builtin "list.pop")) [.ref j, .int 0] H Q :=
  fun A fi env Φ g ev s fv ws ok I hf hv => by
    rw [hf.inv_con]
    obtain ⟨v, u, rfl, hm1, hi⟩ := hv.two
    obtain ⟨t, rfl⟩ := hi.inv_int
    obtain ⟨a, items, n, rfl, h1, h2, e, r⟩ := I.list hm1 hj
    obtain ⟨u, eu, ru⟩ := r.get (i := 0) (m := m) rfl
    have hr : VRs g vs (items.eraseIdxIfInBounds 0).toList := by rw [erase_toList]; exact r.erase 0
    have hz : items.size = vs.length + 1 := by rw [r.size]; rfl
    exact call_meets F.slot_list_pop ⟨_, e, rfl⟩ F.entry_list_pop (F.args_list_pop_2 _ _) (MeetsSeq.list_pop_at a items n 0 t 0 u (by decide) (by rw [hz]; simp [seqIndex?]) (by simpa using eu) (by rw [hz]; have := big; omega))
      ⟨e, g, ev, _, .refl g, W_updList (f := fun xs => xs.eraseIdxIfInBounds 0) I h1 h2 e hr, rfl, m, ru, h⟩
end
section
variable {B : Bs} {fi : FI} {d : Nat} {ev : List MV} {H : List MObj} {A : Around} {env : Env} {Φ : Addr → Option Obj} {g g' : G} {s s' : Shared}

theorem Inv0.szn (I : Inv0 B Φ g H s) : g.ow s.heap.objs.size = .no := I.sz _ (Heap.get?_none_of_le (Nat.le_refl _))
theorem Inv0.kx (I : Inv0 B Φ g H s) : (Kw B).In s.heap := B.kx.keeps fun a o e => (I.F a o (I.hb a o e)).1
theorem Inv0.step (I : Inv0 B Φ g H s) (hg : s'.gens = s.gens) (ho : s'.os = s.os) (hk : ∀ a o, s.heap.get? a = some o → s'.heap.get? a = some o) : Inv0 B Φ g H s' where
  gens := hg.trans I.gens
  os := ho.trans I.os
  F := fun a o e => ⟨hk _ _ (I.F a o e).1, (I.F a o e).2⟩
  hb := I.hb
  pk := I.pk
  Φ := fun a o e => ⟨hk _ _ (I.Φ a o e).1, (I.Φ a o e).2⟩
  sz := fun a e => by
    cases hq : s.heap.get? a with
    | none => exact I.sz a hq
    | some o => rw [hk a o hq] at e; cases e
  lo := I.lo
  len := I.len
  live := fun i a o h1 h2 => ⟨(I.live i a o h1 h2).1, (I.live i a o h1 h2).2.keep (.refl g) (I.live i a o h1 h2).1 (fun a o e => (I.F a o e).2) fun b o _ => hk b o⟩
theorem Inv0.own1 (I : Inv0 B Φ g H s) {a : Addr} {p : Obj} {n : Nat} (h1a : 1 < a) (ha : g.ow a = .no) (hp : s.heap.get? a = some p) : Inv0 B Φ (g.own a (.lv n)) H s := by
  have st : ∀ b, g.ow b ≠ .no → (if b = a then Ow.lv n else g.ow b) = g.ow b := fun b h => by rw [if_neg (fun q => by subst q; exact h ha)]
  have nw : ∀ b, b ≠ a → (if b = a then Ow.lv n else g.ow b) = g.ow b := fun b h => by rw [if_neg h]
  exact {
    gens := I.gens, os := I.os
    F := fun b o e => ⟨(I.F b o e).1, (st b (by rw [(I.F b o e).2]; intro q; cases q)).trans (I.F b o e).2⟩
    hb := I.hb
    pk := fun b e => by
      have e' : (if b = a then Ow.lv n else g.ow b) = .pk := e
      by_cases q : b = a
      · rw [if_pos q] at e'; cases e'
      · rw [if_neg q] at e'; exact I.pk b e'
    Φ := fun b o e => ⟨(I.Φ b o e).1, (st b (by rw [(I.Φ b o e).2]; intro q; cases q)).trans (I.Φ b o e).2⟩
    sz := fun b e => (nw b (fun q => by subst q; rw [hp] at e; cases e)).trans (I.sz b e)
    lo := fun b i e => by
      have e' : (if b = a then Ow.lv n else g.ow b) = .lv i := e
      by_cases q : b = a
      · rw [q]; exact h1a
      · rw [if_neg q] at e'; exact I.lo b i e'
    len := I.len
    live := fun i b o h1 h2 => by
      obtain ⟨x, y⟩ := I.live i b o h1 h2
      exact ⟨(st b (by rw [x]; intro q; cases q)).trans x, y.own fun c e => (st c (by rw [e]; intro q; cases q)).trans e⟩ }
theorem Inv0.live1 (I : Inv0 B Φ g H s) {a : Addr} {o : MObj} {p : Obj} (h1a : 1 < a) (ha : g.ow a = .no) (hp : s.heap.get? a = some p)
    (hl : LiveOk B (g.more a) s.heap H.length a o) : g.le (g.more a) ∧ Inv0 B Φ (g.more a) (H ++ [o]) s ∧ (g.more a).σ[H.length]? = some a := by
  have l : g.leo (g.more a) := ⟨⟨fun _ _ e => e, fun i b e => by
      show (g.σ ++ [a])[i]? = some b
      rw [List.getElem?_append_left (List.getElem?_eq_some_iff.mp e).1]; exact e⟩,
    fun b hb => by show (if b = a then _ else _) = _; rw [if_neg (by intro e; subst e; exact hb ha)]⟩
  have hσ : (g.more a).σ[H.length]? = some a := by show (g.σ ++ [a])[H.length]? = some a; rw [← I.len]; simp
  refine ⟨l.le, ?_, hσ⟩
  exact {
    gens := I.gens, os := I.os
    F := fun b p e => ⟨(I.F b p e).1, (l.ow b (by rw [(I.F b p e).2]; intro e; cases e)).trans (I.F b p e).2⟩
    hb := I.hb
    pk := fun b e => by
      have e' : (if b = a then Ow.lv g.σ.length else g.ow b) = .pk := e
      by_cases q : b = a
      · rw [if_pos q] at e'; cases e'
      · rw [if_neg q] at e'; exact I.pk b e'
    Φ := fun b p e => ⟨(I.Φ b p e).1, (l.ow b (by rw [(I.Φ b p e).2]; intro e; cases e)).trans (I.Φ b p e).2⟩
    sz := fun b hb => by
      show (if b = a then _ else _) = _
      rw [if_neg (by intro e; subst e; rw [hp] at hb; cases hb)]; exact I.sz b hb
    lo := fun b i e => by
      have e' : (if b = a then Ow.lv g.σ.length else g.ow b) = .lv i := e
      by_cases q : b = a
      · rw [q]; exact h1a
      · rw [if_neg q] at e'; exact I.lo b i e'
    len := by show (g.σ ++ [a]).length = (H ++ [o]).length; simp [I.len]
    live := fun i b q h1 h2 => by
      by_cases hi : i < H.length
      · have h1' : g.σ[i]? = some b := by
          have h1 : (g.σ ++ [a])[i]? = some b := h1
          rwa [List.getElem?_append_left (by rw [I.len]; exact hi)] at h1
        rw [List.getElem?_append_left hi] at h2
        obtain ⟨x, y⟩ := I.live i b q h1' h2
        exact ⟨(l.ow b (by rw [x]; intro e; cases e)).trans x, y.keep l x (fun a o e => (I.F a o e).2) fun _ _ _ e => e⟩
      · have : i = H.length := by
          have := (List.getElem?_eq_some_iff.mp h2).1
          simp at this; omega
        subst this
        rw [hσ] at h1; cases h1
        simp at h2; subst h2
        exact ⟨by show (if a = a then _ else _) = _; rw [if_pos rfl, I.len], hl⟩ }

theorem OkA.newC {d : Nat} {A : Around} (h : OkA d A) (hd : 0 < d) (vs : List Value) (C : Addr) : OkA (d - 1) (A.under (.builtin "type.__call__" ⟨.ref C :: vs, []⟩)) := by
  obtain ⟨h1, h2, h3⟩ := h
  have hw : (Code.builtin "type.__call__" ⟨.ref C :: vs, []⟩).weight ≤ 2 := by simp [Code.weight, Code.frames, Code.isCreation, Code.isGuard, Code.isCaller, guardIds]; split <;> omega
  have hu : (Code.builtin "type.__call__" ⟨.ref C :: vs, []⟩).cUnits ≤ 20 := by simp [Code.cUnits, Code.frames]; split <;> omega
  refine ⟨h1, ?_, ?_⟩
  · show A.depth + _ + 2 * (d - 1) + 2 < 1000; omega
  · show A.units + _ + 30 * (d - 1) + 30 < cLine; omega

/-- an object is made -/
theorem WPF.cls {C fI : Addr} {args : List MV} {Q : MV → List MObj → Prop} (hm : makesIn (Kw B) C = true) (hi : findIn (Kw B) (.ref C) "__init__" = some (some (.ref fI))) (hf : typeIn (Kw B) (.ref fI) = some (.type "function")) (hd : 0 < d)
    (h : WPF B (d - 1) (.con (.ref fI)) (.ref H.length :: args) (H ++ [.inst C []]) (fun m H' => m = .none ∧ Q (.ref H.length) H')) : WPF B d (.con (.ref C)) args H Q := fun A Φ g s fv vs ok I hfv hv => by
  rw [hfv.inv_con]
  have X := I.kx
  have big : 1 < s.heap.objs.size := by
    obtain ⟨_, _, T⟩ := B.tr
    exact Nat.lt_trans (by decide) ((T.keeps fun a o e => (I.F a o (I.hb a o e)).1).g.lt)
  obtain ⟨hh, gg, dd, t, os⟩ := s
  dsimp only at X big
  refine make_core (makes_of X hm) (looks_findIn X hi) (fun self => bind_fn X self hf) (.inl rfl) ?_
  have I1 : Inv0 B Φ g H ⟨(hh.push emptyDict).push (instObj C hh.objs.size), gg, dd, t, os⟩ := I.step rfl rfl fun a o e => Heap.get?_push_of_some _ (Heap.get?_push_of_some _ e)
  have hz : (hh.push emptyDict).objs.size = hh.objs.size + 1 := Heap.size_push ..
  have hd1 : ((hh.push emptyDict).push (instObj C hh.objs.size)).get? hh.objs.size = some emptyDict := Heap.get?_push_of_some _ (Heap.get?_push_size _ rfl)
  have hd2 : ((hh.push emptyDict).push (instObj C hh.objs.size)).get? (hh.objs.size + 1) = some (instObj C hh.objs.size) := by rw [← hz]; exact Heap.get?_push_size _ rfl
  have n1 : g.ow hh.objs.size = .no := I.szn
  have n2 : g.ow (hh.objs.size + 1) = .no := I.sz _ (Heap.get?_none_of_le (Nat.le_succ _))
  have I2 := I1.own1 (n := H.length) big n1 hd1
  have hne : hh.objs.size + 1 ≠ hh.objs.size := Nat.succ_ne_self _
  have n3 : (g.own hh.objs.size (.lv H.length)).ow (hh.objs.size + 1) = .no := by show (if _ then _ else _) = _; rw [if_neg hne]; exact n2
  have l0 : g.le (g.own hh.objs.size (.lv H.length)) := ⟨fun _ _ e => e, fun _ _ e => e⟩
  obtain ⟨l3, I3, hσ⟩ := I2.live1 (o := .inst C []) (Nat.lt_succ_of_lt big) n3 hd2 ⟨hh.objs.size, [], 0, hd2, hd1, by
    show (if hh.objs.size = hh.objs.size + 1 then _ else (if hh.objs.size = hh.objs.size then _ else _)) = _
    rw [if_neg (Ne.symm hne), if_pos rfl], hne, rfl⟩
  have lt := l0.trans l3
  refine codeAny_mono (h _ Φ _ _ (.ref fI) (.ref (hh.objs.size + 1) :: vs) (ok.newC hd vs C) I3 .con' (by simp only [VRs]; exact ⟨_, _, rfl, .ref' hσ, hv.mono lt⟩)) fun r s' x => ?_
  rcases r with e | (v | _ | _ | _)
  · exact x.elim
  all_goals first | exact x.elim | skip
  obtain ⟨g', H', m, l, I', r1, rfl, q⟩ := x
  exact ⟨r1.inv_none, g', H', .ref H.length, lt.trans l, I', .ref' (l.σ _ _ hσ), q⟩
end
noncomputable def rangeL (x c : Int) : Nat → List MV
  | 0 => []
  | n + 1 => .int x :: rangeL (x + c) c n
noncomputable def rangeM : List MV → Option (Int × Int × Int)
  | [.int n] => some (0, n, 1)
  | [.int a, .int b] => some (a, b, 1)
  | [.int a, .int b, .int c] => some (a, b, c)
  | _ => none
noncomputable abbrev rangeObjI (x left c : Int) : Obj := { cls := .type "range_iterator", dict := none, data := .fields #[rawInt x, rawInt left, rawInt c], slots := #[] }
noncomputable def PR (it : Addr) (c : Int) (ms : List MV) (Ψ : Addr → Option Obj) : Prop := ∃ x left : Int, Ψ = one it (rangeObjI x left c) ∧ ms = rangeL x c left.toNat

section
variable {B : Bs} {fi : FI} {d : Nat} {ev : List MV} {H : List MObj} {A : Around} {env : Env} {Φ : Addr → Option Obj} {g g' : G} {s s' : Shared}

theorem iterOk_range {tg : Expr} {it : Addr} {g0 : G} {c : Int} : IterOk B tg it g0 (fun _ => True) (PR it c) where
  cell := fun ms Ψ hq1 a p v q => by
    obtain ⟨x, left, e, _⟩ := hq1
    subst e
    obtain ⟨rfl, rfl⟩ := one_some q
    intro q; cases q
  self := fun A fi env Φ g ev H s ms Ψ Q E ok l I hp hq2 hq => by
    obtain ⟨x, left, e, h3⟩ := hq2
    subst e
    exact wpAny_pyIter_rangeiter (hp _ _ one_self).1 hq
  next := fun A fi env Φ g ev H s m ms Ψ ok l I hp hc hq3 => by
    obtain ⟨x, left, e, h3⟩ := hq3
    subst e
    obtain ⟨e1, e2⟩ := hp _ _ one_self
    cases hn : left.toNat with
    | zero => rw [hn] at h3; cases h3
    | succ n =>
      rw [hn] at h3
      injection h3 with h4 h5
      subst h4
      have hl : 0 < left := by omega
      refine wpAny_pyNext_range_item e1 hl fun h' y1 hs => ⟨_, rfl, letOwned_plain y1 rfl rfl (by decide) ?_⟩
      exact ⟨g, one it (rangeObjI (x + c) (left - 1) c), .refl g, (I.stepBut e2 hs).toks _, inP_one y1 e2, ⟨x + c, left - 1, rfl, by rw [h5]; congr 1; omega⟩, .int'⟩
  stop := fun A fi env Φ g ev H s Ψ ok l I hp hc hq4 => by
    obtain ⟨x, left, e, h3⟩ := hq4
    subst e
    obtain ⟨e1, e2⟩ := hp _ _ one_self
    cases hn : left.toNat with
    | succ n => rw [hn] at h3; cases h3
    | zero => exact wpAny_pyNext_range_end ok.1 e1 (by omega) fun h' hs => ⟨rfl, I.stepExt e2 hs⟩

theorem VRs.three {m n k : MV} {vs : List Value} (h : VRs g [m, n, k] vs) : ∃ v u w, vs = [v, u, w] ∧ VR g m v ∧ VR g n u ∧ VR g k w := by
  simp only [VRs] at h; obtain ⟨v, r, rfl, h1, u, r', rfl, h2, w, r'', rfl, h3, rfl⟩ := h; exact ⟨v, u, w, rfl, h1, h2, h3⟩

/-- a call of a type by name, its arguments plain; what is made goes on to k -/
theorem W_callType {x : Str} {p : Pos} {e : Expr} {rest : List Expr} {pos : Pos} {T : String} {k : Value → Sem Value} {Q : Value → Shared → Prop} (ok : OkA d A) (I : Inv B fi env Φ g ev H s) (he : ∀ env, starEach (e :: rest) env = (false, eval e env) :: starEach rest env)
    (hp : ∀ env, (backTo pos (starEach rest env)).any (·.1) = false) {R : MV → List MObj → List MV → List MObj → Prop}
    (h : WPE B fi d (.Name x p) ev H fun f H1 => f = .con (.type T) ∧ WPEs B fi d (e :: rest) ev H1 fun ms H2 => R f H1 ms H2)
    (hk : ∀ g2 H2 s2 ms vs f H1, g.le g2 → Inv B fi env Φ g2 ev H2 s2 → VRs g2 ms vs → R f H1 ms H2 → wpAny B.M A (call (.type T) vs) Q (fun _ _ => False) s2) :
    wpAny B.M A (eval (.Call (.Name x p) (e :: rest) [] pos) env) Q (fun _ _ => False) s := by
  rw [arm_eval_Call_Name']
  refine wpAny_bind ((h A env Φ g s ok I).to fun g1 ev1 H1 fv s1 l1 I1 hq5 => ?_)
  obtain ⟨e1, f, rf, hc, h1⟩ := hq5
  subst e1 hc
  rw [rf.inv_con]
  refine PySem.callWith_type (by rw [he env]; show (false || (backTo pos (starEach rest env)).any (·.1)) = false; rw [hp env]; rfl) ?_
  have key := h1 A env Φ g1 s1 pos ok I1
  unfold W at key
  rw [he env] at key ⊢
  exact Calls.evalArgs_plain (wpAny_mono key (fun vs s2 hq6 => by
    obtain ⟨g2, ev2, H2, l2, I2, e2, ms, rms, hr⟩ := hq6
    subst e2; exact hk g2 H2 s2 ms vs _ H1 (l1.trans l2) I2 rms hr) fun _ _ x => x)

theorem WPI.range {tg : Expr} {x : Str} {p : Pos} {e : Expr} {rest : List Expr} {pos : Pos} {Q : (List MObj → Prop) → List MV → List MObj → Prop} (he : ∀ env, starEach (e :: rest) env = (false, eval e env) :: starEach rest env)
    (hp : ∀ env, (backTo pos (starEach rest env)).any (·.1) = false)
    (h : WPE B fi d (.Name x p) ev H fun f H1 => f = .con (.type "range") ∧ WPEs B fi d (e :: rest) ev H1 fun ms H2 => ∃ a b c, rangeM ms = some (a, b, c) ∧ (c ≠ 0 ∧ c.natAbs < 1000000) ∧ Builtin.Range.small a b c = true ∧
      Q (fun _ => True) (rangeL a c (Builtin.Range.rangeSize a b c).toNat) H2) : WPI B fi d tg (.Call (.Name x p) (e :: rest) [] pos) ev H Q := fun A env Φ g s ok I => by
  refine W_callType (T := "range") (k := fun v => pure v) ok I he hp (R := fun _ _ ms H2 => ∃ a b c, rangeM ms = some (a, b, c) ∧ (c ≠ 0 ∧ c.natAbs < 1000000) ∧ Builtin.Range.small a b c = true ∧ Q (fun _ => True) (rangeL a c (Builtin.Range.rangeSize a b c).toNat) H2) h fun g2 H2 s2 ms vs f H1 l2 I2 rms hq7 => ?_
  obtain ⟨a, b, c, hm, hc0, hsm, hq⟩ := hq7
  have fin : ∀ {tk : Nat} {hh : Heap} {r : Addr} {t u v : Tok}, IsRange hh r a b c t u v → Inv B fi env Φ g2 ev H2 { s2 with heap := hh, toks := tk } → wpAny B.M A (pyIter (.ref r)) (ItP B fi env Φ g ev tg Q) (fun _ _ => False) { s2 with heap := hh, toks := tk } := fun {tk hh r t u v} hr I3 =>
    wpAny_pyIter_range (s := { s2 with heap := hh, toks := tk }) hr hsm ⟨_, g2, H2, _, PR hh.objs.size c, _, _, rfl, l2, I3.push _, inP_one (Heap.get?_push_size hh rfl) I3.szn, ⟨a, Builtin.Range.rangeSize a b c, rfl, rfl⟩, iterOk_range, trivial, hq⟩
  unfold rangeM at hm
  split at hm
  · cases hm
    obtain ⟨v, rfl, r1⟩ := rms.one
    obtain ⟨t, rfl⟩ := r1.inv_int
    exact call_range_1 (fin (Heap.get?_push_size _ rfl) ((I2.push _).toks _))
  · cases hm
    obtain ⟨v, u, rfl, r1, r2⟩ := rms.two
    obtain ⟨t, rfl⟩ := r1.inv_int; obtain ⟨t', rfl⟩ := r2.inv_int
    exact call_range_2 (fin (Heap.get?_push_size _ rfl) ((I2.push _).toks _))
  · cases hm
    obtain ⟨v, u, w, rfl, r1, r2, r3⟩ := rms.three
    obtain ⟨t, rfl⟩ := r1.inv_int; obtain ⟨t', rfl⟩ := r2.inv_int; obtain ⟨t'', rfl⟩ := r3.inv_int
    exact call_range_3 hc0.1 (fin (Heap.get?_push_size _ rfl) ((I2.push _).toks _)) (.inl (PyProof.noPylong_small (by omega)))
  · cases hm

/-! enumerate -/
noncomputable def enumL : List MV → Nat → List MV
  | [], _ => []
  | m :: ms, i => .tup [.int (i : Int), m] :: enumL ms (i + 1)
noncomputable def PEn (e it l : Addr) (vs ms : List MV) (Ψ : Addr → Option Obj) : Prop := ∃ (oe oi : Obj) (i : Nat) (old : Value), Ψ = (fun a => if a = e then some oe else if a = it then some oi else none) ∧
  oe = { cls := .type "enumerate", dict := none, data := .fields #[.none, .bool false, .ref it, rawInt (i : Int), .none, old], slots := #[] } ∧ oi.cls = .type "list_iterator" ∧ oi.data = .fields #[.ref l, .int i 0] ∧
  ms = enumL (vs.drop i) i

theorem inP_two {e it : Addr} {oe oi : Obj} (h1 : s.heap.get? e = some oe) (h2 : g.ow e = .no) (h3 : s.heap.get? it = some oi) (h4 : g.ow it = .no) : InP (fun a => if a = e then some oe else if a = it then some oi else none) g s := fun a p q => by
  dsimp only at q
  split at q
  · rename_i h; cases q; subst h; exact ⟨h1, h2⟩
  · split at q
    · rename_i h; cases q; subst h; exact ⟨h3, h4⟩
    · cases q

theorem iterOk_enum {elts : List Expr} {k : Nat} {tp : Pos} {e it a : Addr} {g0 : G} {j : Nat} {vs : List MV} (hne : e ≠ it) (hσ : g0.σ[j]? = some a) :
    IterOk B (.Tuple elts k tp) e g0 (fun H => H[j]? = some (.list vs)) (PEn e it a vs) where
  cell := fun ms Ψ hq8 b p v q => by
    obtain ⟨oe, oi, i, old, h0, h1, h2, h3, _⟩ := hq8
    subst h0
    dsimp only at q
    split at q
    · cases q; rw [h1]; intro q; cases q
    · split at q
      · cases q; rw [h3]; intro q; cases q
      · cases q
  self := fun A fi env Φ g ev H s ms Ψ Q E ok l I hp hq9 hq => by
    obtain ⟨oe, oi, i, old, h0, h1, h2, h3, _⟩ := hq9
    subst h0
    have := (hp e oe (by simp)).1
    rw [h1] at this
    exact wpAny_pyIter_enum this hq
  next := fun A fi env Φ g ev H s m ms Ψ ok l I hp hc hq10 => by
    obtain ⟨oe, oi, i, old, h0, h1, h2, h3, h4⟩ := hq10
    subst h0
    obtain ⟨e1, e2⟩ := hp e oe (by simp)
    obtain ⟨e3, e4⟩ := hp it oi (by simp [Ne.symm hne])
    obtain ⟨items, n, h5, h6⟩ := listAt I (l.σ _ _ hσ) hc
    have hi : i < vs.length := by
      rcases Nat.lt_or_ge i vs.length with h' | h'
      · exact h'
      · rw [List.drop_of_length_le h', enumL] at h4; cases h4
    rw [List.drop_eq_getElem_cons hi, enumL] at h4
    injection h4 with h7 h8
    obtain ⟨x, hx, rx⟩ := h6.get (List.getElem?_eq_getElem hi)
    rw [h1] at e1
    refine wpAny_pyNext_enum_item e1 ⟨oi, e3, h2, h3⟩ (isListOf h5) (by simpa using hx) hne fun h' y1 ⟨o', y2, y2c, y2d⟩ y3 y4 y5 => ⟨_, rfl, ?_⟩
    have hse : s.heap.objs.size ≠ e := fun q => Nat.lt_irrefl _ (q ▸ Heap.lt_size e1)
    have hsi : s.heap.objs.size ≠ it := fun q => Nat.lt_irrefl _ (q ▸ Heap.lt_size e3)
    have I1 : Inv B fi env Φ g ev H { s with heap := h', toks := s.toks + 1 } := I.step rfl rfl fun b o hb q => y5 b o (fun r => by subst r; exact hb e2) (fun r => by subst r; exact hb e4) q
    refine wpAny_letOwnedTupleGo_enum y1 fun h'' z1 hs => ?_
    have I2 := I1.stepBut (h' := h'') e2 hs
    obtain ⟨l3, I3, hF⟩ := I2.freezeAt (a := s.heap.objs.size) (o := { cls := .type "tuple", data := .seq #[.int i s.toks, x] }) I.szn ((hs.2 _ hse).trans y3)
    refine ⟨_, _, l3, I3, inP_two z1 ?_ ((hs.2 _ (Ne.symm hne)).trans y2) ?_, ⟨_, o', i + 1, x, rfl, rfl, y2c, y2d, h8⟩, ?_⟩
    · show (if _ then _ else _) = _; rw [if_neg (Ne.symm hse)]; exact e2
    · show (if _ then _ else _) = _; rw [if_neg (Ne.symm hsi)]; exact e4
    · rw [h7]; simp only [VR]
      exact ⟨_, _, 0, rfl, hF, by simp only [VRs]; exact ⟨_, _, rfl, .int', _, _, rfl, rx.mono l3, rfl⟩⟩
  stop := fun A fi env Φ g ev H s Ψ ok l I hp hc hq11 => by
    obtain ⟨oe, oi, i, old, h0, h1, h2, h3, h4⟩ := hq11
    subst h0
    obtain ⟨e1, e2⟩ := hp e oe (by simp)
    obtain ⟨e3, e4⟩ := hp it oi (by simp [Ne.symm hne])
    obtain ⟨items, n, h5, h6⟩ := listAt I (l.σ _ _ hσ) hc
    have hi : vs.length ≤ i := by
      rcases Nat.lt_or_ge i vs.length with h' | h'
      · rw [List.drop_eq_getElem_cons h', enumL] at h4; cases h4
      · exact h'
    rw [h1] at e1
    exact wpAny_pyNext_enum_end ok.1 e1 ⟨oi, e3, h2, h3⟩ (isListOf h5) (by rw [Array.getElem?_eq_none]; rw [h6.size]; exact hi) fun h' hs => ⟨rfl, I.stepExt e4 hs⟩

theorem WPI.enum {elts : List Expr} {k : Nat} {tp : Pos} {x : Str} {p : Pos} {e : Expr} {pos : Pos} {Q : (List MObj → Prop) → List MV → List MObj → Prop} (he : ∀ env, starEach [e] env = (false, eval e env) :: starEach [] env)
    (hp : ∀ env, (backTo pos (starEach [] env)).any (·.1) = false)
    (h : WPE B fi d (.Name x p) ev H fun f H1 => f = .con (.type "enumerate") ∧ WPEs B fi d [e] ev H1 fun ms H2 => ∃ j vs, ms = [.ref j] ∧ H2[j]? = some (.list vs) ∧
      Q (fun H => H[j]? = some (.list vs)) (enumL vs 0) H2) : WPI B fi d (.Tuple elts k tp) (.Call (.Name x p) [e] [] pos) ev H Q := fun A env Φ g s ok I => by
  refine W_callType (T := "enumerate") (k := fun v => pure v) ok I he hp (R := fun _ _ ms H2 => ∃ j vs, ms = [.ref j] ∧ H2[j]? = some (.list vs) ∧ Q (fun H => H[j]? = some (.list vs)) (enumL vs 0) H2) h
    fun g2 H2 s2 ms vs f H1 l2 I2 rms ⟨j, ls, hm, hj, hq⟩ => ?_
  subst hm
  obtain ⟨v, rfl, r1⟩ := rms.one
  obtain ⟨a, items, n, rfl, hσ, -, e2, r⟩ := I2.list r1 hj
  refine call_enumerate_list (isListOf e2) fun h' y1 hq12 y3 y4 => ?_
  obtain ⟨oi, y2, y2c, y2d⟩ := hq12
  have I3 : Inv B fi env Φ g2 ev H2 { s2 with heap := h' } := I2.step rfl rfl fun b o _ q => y4 b o q
  have n1 : g2.ow (s2.heap.objs.size + 1) = .no := I2.sz _ (Heap.get?_none_of_le (Nat.le_succ _))
  refine wpAny_pyIter_enum (s := { s2 with heap := h' }) y1 ⟨_, g2, H2, _, PEn (s2.heap.objs.size + 1) s2.heap.objs.size a ls, _, _, rfl, l2, I3, inP_two y1 n1 y2 I2.szn, ⟨_, oi, 0, .none, rfl, rfl, y2c, y2d, rfl⟩, iterOk_enum (Nat.succ_ne_self _) hσ, hj, hq⟩
end
noncomputable def zipL : List MV → List MV → List MV
  | m :: ms, n :: ns => .tup [m, n] :: zipL ms ns
  | _, _ => []
theorem zipL_drop {xs ys : List MV} {i : Nat} {m : MV} {ms : List MV} (h : m :: ms = zipL (xs.drop i) (ys.drop i)) :
    ∃ x y, xs[i]? = some x ∧ ys[i]? = some y ∧ m = .tup [x, y] ∧ ms = zipL (xs.drop (i + 1)) (ys.drop (i + 1)) := by
  rcases Nat.lt_or_ge i xs.length with h1 | h1
  · rcases Nat.lt_or_ge i ys.length with h2 | h2
    · rw [List.drop_eq_getElem_cons h1, List.drop_eq_getElem_cons h2, zipL] at h
      injection h with h3 h4
      exact ⟨_, _, List.getElem?_eq_getElem h1, List.getElem?_eq_getElem h2, h3, h4⟩
    · rw [List.drop_eq_getElem_cons h1, List.drop_of_length_le h2, zipL] at h
      · cases h
      · intros; simp_all
  · rw [List.drop_of_length_le h1, zipL] at h
    · cases h
    · intros; simp_all
theorem zipL_end {xs ys : List MV} {i : Nat} (h : [] = zipL (xs.drop i) (ys.drop i)) : xs[i]? = none ∨ ys[i]? = none := by
  rcases Nat.lt_or_ge i xs.length with h1 | h1
  · rcases Nat.lt_or_ge i ys.length with h2 | h2
    · rw [List.drop_eq_getElem_cons h1, List.drop_eq_getElem_cons h2, zipL] at h; cases h
    · exact .inr (List.getElem?_eq_none h2)
  · exact .inl (List.getElem?_eq_none h1)

noncomputable def five (z o1 o2 i1 i2 : Addr) (a b c e f : Obj) : Addr → Option Obj := fun x => if x = z then some a else if x = o1 then some b else if x = o2 then some c else if x = i1 then some e else if x = i2 then some f else none

inductive PZ (z TI TO i1 i2 l1 l2 : Addr) (xs ys : List MV) : List MV → (Addr → Option Obj) → Prop
  | mk {o1 o2 : Obj} {i : Nat} {a b : Value} {ms : List MV} (h4 : o1.cls = .type "list_iterator") (h5 : o1.data = .fields #[.ref l1, .int i 0]) (h6 : o2.cls = .type "list_iterator") (h7 : o2.data = .fields #[.ref l2, .int i 0]) (h8 : ms = zipL (xs.drop i) (ys.drop i)) :
    PZ z TI TO i1 i2 l1 l2 xs ys ms (five z TI TO i1 i2 { cls := .type "zip", dict := none, data := .fields #[.none, .bool false, .bool false, .ref TI, .ref TO], slots := #[] } { cls := .type "tuple", data := .seq #[.ref i1, .ref i2] } { cls := .type "tuple", data := .seq #[a, b] } o1 o2)

section
variable {B : Bs} {fi : FI} {d : Nat} {ev : List MV} {H : List MObj} {A : Around} {env : Env} {Φ : Addr → Option Obj} {g g' : G} {s s' : Shared}

theorem five_cases {z o1 o2 i1 i2 : Addr} {a b c e f : Obj} {x : Addr} {p : Obj} (h : five z o1 o2 i1 i2 a b c e f x = some p) : (x = z ∧ p = a) ∨ (x = o1 ∧ p = b) ∨ (x = o2 ∧ p = c) ∨ (x = i1 ∧ p = e) ∨ (x = i2 ∧ p = f) := by
  unfold five at h
  split at h
  · cases h; exact .inl ⟨by assumption, rfl⟩
  · split at h
    · cases h; exact .inr (.inl ⟨by assumption, rfl⟩)
    · split at h
      · cases h; exact .inr (.inr (.inl ⟨by assumption, rfl⟩))
      · split at h
        · cases h; exact .inr (.inr (.inr (.inl ⟨by assumption, rfl⟩)))
        · split at h
          · cases h; exact .inr (.inr (.inr (.inr ⟨by assumption, rfl⟩)))
          · cases h

structure Five (z TI TO i1 i2 : Addr) : Prop where
  a : TI ≠ z
  b : TO ≠ z
  c : i1 ≠ z
  e : i2 ≠ z
  f : TO ≠ TI
  h : i1 ≠ TI
  i : i2 ≠ TI
  j : i1 ≠ TO
  k : i2 ≠ TO
  l : i2 ≠ i1

section
variable {z TI TO i1 i2 : Addr} {a b c e f : Obj}
theorem five_a : five z TI TO i1 i2 a b c e f z = some a := if_pos rfl
theorem five_b (F : Five z TI TO i1 i2) : five z TI TO i1 i2 a b c e f TI = some b := by unfold five; rw [if_neg F.a, if_pos rfl]
theorem five_c (F : Five z TI TO i1 i2) : five z TI TO i1 i2 a b c e f TO = some c := by unfold five; rw [if_neg F.b, if_neg F.f, if_pos rfl]
theorem five_d (F : Five z TI TO i1 i2) : five z TI TO i1 i2 a b c e f i1 = some e := by unfold five; rw [if_neg F.c, if_neg F.h, if_neg F.j, if_pos rfl]
theorem five_e (F : Five z TI TO i1 i2) : five z TI TO i1 i2 a b c e f i2 = some f := by unfold five; rw [if_neg F.e, if_neg F.i, if_neg F.k, if_neg F.l, if_pos rfl]
end
theorem iterOk_zip {elts : List Expr} {k : Nat} {tp : Pos} {z TI TO i1 i2 l1 l2 : Addr} {g0 : G} {j1 j2 : Nat} {xs ys : List MV} (F : Five z TI TO i1 i2) (hσ1 : g0.σ[j1]? = some l1) (hσ2 : g0.σ[j2]? = some l2) :
    IterOk B (.Tuple elts k tp) z g0 (fun H => H[j1]? = some (.list xs) ∧ H[j2]? = some (.list ys)) (PZ z TI TO i1 i2 l1 l2 xs ys) where
  cell := fun ms Ψ hP x p v q => by
    obtain ⟨h4, h5, h6, h7, h8⟩ := hP
    rcases five_cases q with ⟨-, rfl⟩ | ⟨-, rfl⟩ | ⟨-, rfl⟩ | ⟨-, rfl⟩ | ⟨-, rfl⟩
    · intro q; cases q
    · intro q; cases q
    · intro q; cases q
    · rw [h5]; intro q; cases q
    · rw [h7]; intro q; cases q
  self := fun A fi env Φ g ev H s ms Ψ Q E ok l I hp hP hq => by
    obtain ⟨h4, h5, h6, h7, h8⟩ := hP
    have e1 := (hp z _ five_a).1
    exact wpAny_pyIter_zip e1 hq
  next := fun A fi env Φ g ev H s m ms Ψ ok l I hp hc hP => by
    obtain ⟨h4, h5, h6, h7, h8⟩ := hP
    obtain ⟨e1, n1⟩ := hp z _ five_a
    obtain ⟨e2, n2⟩ := hp TI _ (five_b F)
    obtain ⟨e3, n3⟩ := hp TO _ (five_c F)
    obtain ⟨e4, n4⟩ := hp i1 _ (five_d F)
    obtain ⟨e5, n5⟩ := hp i2 _ (five_e F)
    obtain ⟨it1, m1, q1, r1⟩ := listAt I (l.σ _ _ hσ1) hc.1
    obtain ⟨it2, m2, q2, r2⟩ := listAt I (l.σ _ _ hσ2) hc.2
    obtain ⟨x, y, hx, hy, hm, hms⟩ := zipL_drop h8
    obtain ⟨vx, ex, rx⟩ := r1.get hx
    obtain ⟨vy, ey, ry⟩ := r2.get hy
    have w1 := (I.live _ _ _ (l.σ _ _ hσ1) hc.1).1
    have w2 := (I.live _ _ _ (l.σ _ _ hσ2) hc.2).1
    have D : ZipApart z TI TO i1 i2 l1 l2 := by
      have n : ∀ {c : Addr} {i : Nat} {b : Addr}, g.ow c = .lv i → g.ow b = .no → c ≠ b := fun h h' q => by subst q; rw [h] at h'; cases h'
      exact ⟨F.a, F.b, F.c, F.e, Ne.symm F.f, Ne.symm F.h, Ne.symm F.i, Ne.symm F.j, Ne.symm F.k, Ne.symm F.l, n w1 n1, n w1 n3, n w1 n4, n w1 n5, n w2 n1, n w2 n3, n w2 n4, n w2 n5⟩
    refine wpAny_pyNext_zip_item D e1 e2 e3 ⟨_, e4, h4, h5⟩ ⟨_, e5, h6, h7⟩ (isListOf q1) (isListOf q2) (by simpa using ex) (by simpa using ey) fun h' y1 y2 ⟨p1, y3, y3c, y3d⟩ ⟨p2, y4, y4c, y4d⟩ y5 y6 y7 => ⟨_, rfl, ?_⟩
    have lt : ∀ {c : Addr} {o : Obj}, s.heap.get? c = some o → c ≠ s.heap.objs.size := fun h q => Nat.lt_irrefl _ (q ▸ Heap.lt_size h)
    have I1 : Inv B fi env Φ g ev H { s with heap := h' } := I.step rfl rfl fun c o hb q => y7 c o (fun r => by subst r; exact hb n1) (fun r => by subst r; exact hb n3) (fun r => by subst r; exact hb n4) (fun r => by subst r; exact hb n5) q
    refine wpAny_letOwnedTupleGo_zip y1 fun h'' z1 hs => ?_
    have I2 := I1.stepBut (h' := h'') n1 hs
    obtain ⟨l3, I3, hF⟩ := I2.freezeAt (a := s.heap.objs.size) (o := { cls := .type "tuple", data := .seq #[vx, vy] }) I.szn ((hs.2 _ (Ne.symm (lt e1))).trans y5)
    have no : ∀ {c : Addr} {o : Obj}, s.heap.get? c = some o → g.ow c = .no → (g.freeze s.heap.objs.size { cls := .type "tuple", data := .seq #[vx, vy] }).ow c = .no := fun h h' => by
      show (if _ then _ else _) = _; rw [if_neg (lt h)]; exact h'
    refine ⟨_, five z TI TO i1 i2 _ _ _ p1 p2, l3, I3, fun c o q => ?_, .mk (a := vx) (b := vy) y3c y3d y4c y4d hms, ?_⟩
    · rcases five_cases q with ⟨rfl, rfl⟩ | ⟨rfl, rfl⟩ | ⟨rfl, rfl⟩ | ⟨rfl, rfl⟩ | ⟨rfl, rfl⟩
      · exact ⟨z1, no e1 n1⟩
      · exact ⟨(hs.2 _ F.a).trans (y7 _ _ F.a (Ne.symm F.f) (Ne.symm F.h) (Ne.symm F.i) e2), no e2 n2⟩
      · exact ⟨(hs.2 _ F.b).trans y2, no e3 n3⟩
      · exact ⟨(hs.2 _ F.c).trans y3, no e4 n4⟩
      · exact ⟨(hs.2 _ F.e).trans y4, no e5 n5⟩
    · rw [hm]; simp only [VR]
      exact ⟨_, _, 0, rfl, hF, by simp only [VRs]; exact ⟨_, _, rfl, rx.mono l3, _, _, rfl, ry.mono l3, rfl⟩⟩
  stop := fun A fi env Φ g ev H s Ψ ok l I hp hc hP => by
    obtain ⟨h4, h5, h6, h7, h8⟩ := hP
    obtain ⟨e1, n1⟩ := hp z _ five_a
    obtain ⟨e2, n2⟩ := hp TI _ (five_b F)
    obtain ⟨e3, n3⟩ := hp TO _ (five_c F)
    obtain ⟨e4, n4⟩ := hp i1 _ (five_d F)
    obtain ⟨e5, n5⟩ := hp i2 _ (five_e F)
    obtain ⟨it1, m1, q1, r1⟩ := listAt I (l.σ _ _ hσ1) hc.1
    obtain ⟨it2, m2, q2, r2⟩ := listAt I (l.σ _ _ hσ2) hc.2
    have w1 := (I.live _ _ _ (l.σ _ _ hσ1) hc.1).1
    have w2 := (I.live _ _ _ (l.σ _ _ hσ2) hc.2).1
    have n : ∀ {c : Addr} {i : Nat} {b : Addr}, g.ow c = .lv i → g.ow b = .no → c ≠ b := fun h h' q => by subst q; rw [h] at h'; cases h'
    have D : ZipApart z TI TO i1 i2 l1 l2 := ⟨F.a, F.b, F.c, F.e, Ne.symm F.f, Ne.symm F.h, Ne.symm F.i, Ne.symm F.j, Ne.symm F.k, Ne.symm F.l, n w1 n1, n w1 n3, n w1 n4, n w1 n5, n w2 n1, n w2 n3, n w2 n4, n w2 n5⟩
    refine wpAny_pyNext_zip_end ok.1 D e1 e2 e3 ⟨_, e4, h4, h5⟩ ⟨_, e5, h6, h7⟩ (isListOf q1) (isListOf q2) ?_ fun h' y7 => ⟨rfl, I.step rfl rfl fun c o hb q => y7 c o (fun r => by subst r; exact hb n1) (fun r => by subst r; exact hb n3) (fun r => by subst r; exact hb n4) (fun r => by subst r; exact hb n5) q⟩
    rcases zipL_end h8 with h | h
    · left; rw [Array.getElem?_eq_none]; rw [r1.size]; exact List.getElem?_eq_none_iff.mp h
    · right; rw [Array.getElem?_eq_none]; rw [r2.size]; exact List.getElem?_eq_none_iff.mp h

theorem WPI.zip {elts : List Expr} {k : Nat} {tp : Pos} {x : Str} {p : Pos} {e1 e2 : Expr} {pos : Pos} {Q : (List MObj → Prop) → List MV → List MObj → Prop} (he : ∀ env, starEach [e1, e2] env = (false, eval e1 env) :: starEach [e2] env)
    (hp : ∀ env, (backTo pos (starEach [e2] env)).any (·.1) = false)
    (h : WPE B fi d (.Name x p) ev H fun f H1 => f = .con (.type "zip") ∧ WPEs B fi d [e1, e2] ev H1 fun ms H2 => ∃ j1 j2 xs ys, ms = [.ref j1, .ref j2] ∧ H2[j1]? = some (.list xs) ∧ H2[j2]? = some (.list ys) ∧
      Q (fun H => H[j1]? = some (.list xs) ∧ H[j2]? = some (.list ys)) (zipL xs ys) H2) : WPI B fi d (.Tuple elts k tp) (.Call (.Name x p) [e1, e2] [] pos) ev H Q := fun A env Φ g s ok I => by
  refine W_callType (T := "zip") (k := fun v => pure v) ok I he hp (R := fun _ _ ms H2 => ∃ j1 j2 xs ys, ms = [.ref j1, .ref j2] ∧ H2[j1]? = some (.list xs) ∧ H2[j2]? = some (.list ys) ∧
      Q (fun H => H[j1]? = some (.list xs) ∧ H[j2]? = some (.list ys)) (zipL xs ys) H2) h
    fun g2 H2 s2 ms vs f H1 l2 I2 rms ⟨j1, j2, xs, ys, hm, hj1, hj2, hq⟩ => ?_
  subst hm
  obtain ⟨v, u, rfl, r1, r2⟩ := rms.two
  obtain ⟨a1, it1, n1, rfl, hσ1, -, q1, w1⟩ := I2.list r1 hj1
  obtain ⟨a2, it2, n2, rfl, hσ2, -, q2, w2⟩ := I2.list r2 hj2
  refine call_zip_2 (isListOf q1) (isListOf q2) fun h' y1 y2 y3 hq1 hq2 y6 y7 => ?_
  obtain ⟨p1, y4, y4c, y4d⟩ := hq1
  obtain ⟨p2, y5, y5c, y5d⟩ := hq2
  have I3 : Inv B fi env Φ g2 ev H2 { s2 with heap := h' } := I2.step rfl rfl fun b o _ q => y7 b o q
  have no : ∀ n, g2.ow (s2.heap.objs.size + n) = .no := fun n => I2.sz _ (Heap.get?_none_of_le (Nat.le_add_right _ _))
  have F : Five (s2.heap.objs.size + 4) (s2.heap.objs.size + 2) (s2.heap.objs.size + 3) s2.heap.objs.size (s2.heap.objs.size + 1) := by
    generalize s2.heap.objs.size = n
    have z : ∀ {a b : Nat}, a ≠ b → (n + a : Nat) ≠ n + b := fun h q => h (Nat.add_left_cancel q)
    exact ⟨z (by decide), z (by decide), z (a := 0) (by decide), z (by decide), z (by decide), z (a := 0) (by decide), z (by decide), z (a := 0) (by decide), z (by decide), z (b := 0) (by decide)⟩
  refine wpAny_pyIter_zip (s := { s2 with heap := h' }) y1 ⟨_, g2, H2, five (s2.heap.objs.size + 4) (s2.heap.objs.size + 2) (s2.heap.objs.size + 3) s2.heap.objs.size (s2.heap.objs.size + 1) _ _ _ p1 p2,
    PZ (s2.heap.objs.size + 4) (s2.heap.objs.size + 2) (s2.heap.objs.size + 3) s2.heap.objs.size (s2.heap.objs.size + 1) a1 a2 xs ys, _, _, rfl, l2, I3, fun c o q => ?_, PZ.mk (a := .none) (b := .none) y4c y4d y5c y5d rfl, iterOk_zip F hσ1 hσ2, ⟨hj1, hj2⟩, hq⟩
  rcases five_cases q with ⟨rfl, rfl⟩ | ⟨rfl, rfl⟩ | ⟨rfl, rfl⟩ | ⟨rfl, rfl⟩ | ⟨rfl, rfl⟩
  · exact ⟨y1, no 4⟩
  · exact ⟨y2, no 2⟩
  · exact ⟨y3, no 3⟩
  · exact ⟨y4, no 0⟩
  · exact ⟨y5, no 1⟩

/-! dict displays -/
theorem WPE.dict0 {pos : Pos} {Q : MV → List MObj → Prop} (h : Q (.ref H.length) (H ++ [.dB []])) : WPE B fi d (.Dict [] [] pos) ev H Q := fun A env Φ g s ok I => by
  show wpAny _ _ _ _ _ _
  rw [eval_Dict_empty]
  refine wpAny_bind (wpAny_standAt ?_)
  refine wpAny_newObj_type ?_ (by size_fits)
  have hp : (s.heap.push { cls := .type "dict", data := .dict #[] }).get? s.heap.objs.size = some { cls := .type "dict", data := .dict #[] } := Heap.get?_push_size _ rfl
  obtain ⟨l, I1, hσ⟩ := (I.push _).live1 (o := .dB []) I.big I.szn hp ⟨[], Heap.DictOfH.new s.heap, (fun y hy => by cases hy), rfl⟩
  exact ⟨_, ev, _, l, I1, rfl, _, .ref' hσ, h⟩

theorem relK.mono' {α : Type} {es : List (α × MV)} {kvs : List (α × Value)} (l : g.le g') (h : relK g es kvs) : relK g' es kvs := h.mono l

theorem WPE.dictI {k v : Int} {kk kv : Nat} {p1 p2 pos : Pos} {Q : MV → List MObj → Prop} (h : Q (.ref H.length) (H ++ [.dI [(k, .int v)]])) :
    WPE B fi d (.Dict [some (.Constant (.int k) kk p1)] [.Constant (.int v) kv p2] pos) ev H Q := fun A env Φ g s ok I => by
  refine wpAny_Dict_pairs (knd := intKind Prg B.w) (pairs := [(eval (.Constant (.int k) kk p1) env, do let x ← eval (.Constant (.int v) kv p2) env; standAt pos; pure x)]) rfl (by simp) (by simp) ?_
  have hp : (s.heap.push { cls := .type "dict", data := .dict #[] }).get? s.heap.objs.size = some { cls := .type "dict", data := .dict #[] } := Heap.get?_push_size _ rfl
  unfold evalPairs
  refine wpAny_bind (wpAny_Constant_int (wpAny_bind (wpAny_holding (wpAny_bind (wpAny_Constant_int (wpAny_bind (wpAny_standAt (wpAny_pure ?_))))))))
  refine wpAny_bind (wpAny_holding (wpAny_pure (wpAny_pure ?_)))
  refine ⟨[(k, .int v (s.toks + 1))], ⟨beq_self_eq_true _, rfl, trivial⟩, (Heap.DictOf.new s.heap), fun h' hd hs => ?_⟩
  have I1 : Inv B fi env Φ g ev H { s with heap := h' } := I.step rfl rfl fun b o hb e => (hs.2 b (fun q => by subst q; exact hb I.szn)).trans (Heap.get?_push_of_some _ e)
  obtain ⟨od, es, ep, ho, hr⟩ := id hd
  obtain ⟨l, I2, hσ⟩ := (I1.toks (s.toks + 1 + 1 + [(Value.int k s.toks, Value.int v (s.toks + 1))].length)).live1 (o := .dI [(k, .int v)]) I.big I.szn ho ⟨_, hd, ⟨_, [], rfl, .int', rfl⟩⟩
  exact ⟨_, ev, _, l, I2, rfl, _, .ref' hσ, h⟩

/-- three written keys, a value made first -/
theorem WPE.dictS {x y z : Str} {e1 e2 e3 : Expr} {k1 k2 k3 : Nat} {p1 p2 p3 pos : Pos} {Q : MV → List MObj → Prop} (hxy : x ≠ y) (hxz : x ≠ z) (hyz : y ≠ z)
    (h : WPE B fi d e1 ev H fun m1 H1 => WPE B fi d e2 ev H1 fun m2 H2 => WPE B fi d e3 ev H2 fun m3 H3 => Q (.ref H3.length) (H3 ++ [.dS [(x, m1), (y, m2), (z, m3)]])) :
    WPE B fi d (.Dict [some (.Constant (.str x) k1 p1), some (.Constant (.str y) k2 p2), some (.Constant (.str z) k3 p3)] [e1, e2, e3] pos) ev H Q := fun A env Φ g s ok I => by
  refine wpAny_Dict_pairs (knd := PySem.strKind Prg B.w) (pairs := [(eval (.Constant (.str x) k1 p1) env, do let v ← eval e1 env; standAt pos; pure v), (eval (.Constant (.str y) k2 p2) env, do let v ← eval e2 env; standAt pos; pure v),
    (eval (.Constant (.str z) k3 p3) env, do let v ← eval e3 env; standAt pos; pure v)]) rfl (by simp) (by simp) ?_
  have hp : (s.heap.push { cls := .type "dict", data := .dict #[] }).get? s.heap.objs.size = some { cls := .type "dict", data := .dict #[] } := Heap.get?_push_size _ rfl
  generalize hD : s.heap.objs.size = D at hp
  have hnc : noCell (one D { cls := .type "dict", data := .dict #[] }) := fun a o v e => by obtain ⟨rfl, rfl⟩ := one_some e; intro q; cases q
  have nD : g.ow D = .no := hD ▸ I.szn
  obtain ⟨l0, I0, hΦ⟩ := (I.push { cls := .type "dict", data := .dict #[] }).park (inP_one hp nD)
  unfold evalPairs
  refine wpAny_bind (wpAny_Constant_str (wpAny_bind (wpAny_holding (wpAny_bind ((h A env _ _ _ ok (I0.toks _)).to fun g1 ev1 H1 v1 s1 l1 I1 hq3 => ?_)))))
  obtain ⟨e1', m1, r1, h1⟩ := hq3
  subst e1'
  refine wpAny_bind (wpAny_standAt (wpAny_pure (wpAny_bind (wpAny_holding ?_))))
  unfold evalPairs
  refine wpAny_bind (wpAny_Constant_str (wpAny_bind (wpAny_holding (wpAny_bind ((h1 A env _ _ _ ok (I1.toks _)).to fun g2 ev2 H2 v2 s2 l2 I2 hq4 => ?_)))))
  obtain ⟨e2', m2, r2, h2⟩ := hq4
  subst e2'
  refine wpAny_bind (wpAny_standAt (wpAny_pure (wpAny_bind (wpAny_holding ?_))))
  unfold evalPairs
  refine wpAny_bind (wpAny_Constant_str (wpAny_bind (wpAny_holding (wpAny_bind ((h2 A env _ _ _ ok (I2.toks _)).to fun g3 ev3 H3 v3 s3 l3 I3 hq5 => ?_)))))
  obtain ⟨e3', m3, r3, h3⟩ := hq5
  subst e3'
  refine wpAny_bind (wpAny_standAt (wpAny_pure (wpAny_bind (wpAny_holding ?_))))
  unfold evalPairs
  refine wpAny_pure (wpAny_pure (wpAny_pure (wpAny_pure ?_)))
  obtain ⟨l4, I4, p4⟩ := I3.unpark hnc hΦ
  obtain ⟨hd4, n4⟩ := p4 D _ one_self
  refine ⟨[(x, v1), (y, v2), (z, v3)], ⟨beq_self_eq_true _, rfl, beq_self_eq_true _, rfl, beq_self_eq_true _, rfl, trivial⟩, ?_, fun h' hd hs => ?_⟩
  · exact ⟨_, #[], 0, hd4, ⟨rfl, rfl, rfl⟩, rfl, (fun e he => by simp at he), .nil, List.nodup_nil⟩
  · have hm : merged ([] : List (Str × Value)) [(x, v1), (y, v2), (z, v3)] = [(x, v1), (y, v2), (z, v3)] := by
      simp [merged, stored, hxy, hxz, hyz]
    rw [hm] at hd
    have I5 := I4.stepBut (h' := h') n4 hs
    obtain ⟨od, es, ep, ho, hr⟩ := id hd
    have r1' := ((r1.mono l2).mono l3).mono l4
    have r2' := (r2.mono l3).mono l4
    have r3' := r3.mono l4
    have lm : (g3.unpk (one D { cls := .type "dict", data := .dict #[] })).le ((g3.unpk (one D { cls := .type "dict", data := .dict #[] })).more D) := ⟨fun _ _ e => e, fun i b e => by
      show (_ ++ [D])[i]? = some b
      rw [List.getElem?_append_left (List.getElem?_eq_some_iff.mp e).1]; exact e⟩
    obtain ⟨l6, I6, hσ⟩ := (I5.toks (s3.toks + 3)).live1 (o := .dS [(x, m1), (y, m2), (z, m3)]) (hD ▸ I.big) n4 ho ⟨_, hd, ⟨_, _, rfl, r1'.mono lm, _, _, rfl, r2'.mono lm, _, _, rfl, r3'.mono lm, rfl⟩⟩
    exact ⟨_, _, _, ((l0.trans (l1.trans (l2.trans l3))).trans l4).trans l6, I6, rfl, _, .ref' hσ, h3⟩
end
/-! the closure of a comprehension -/
noncomputable def closL (cells : List (Str × Addr)) : List (Str × NameKind) → List (Str × Addr) → List (Str × Addr)
  | [], acc => acc
  | (n, k) :: r, acc => if k == .free then (match cells.lookup n with | some c => closL cells r ((n, c) :: acc) | none => closL cells r acc) else closL cells r acc

theorem cellOf_eq {env : Env} {n : Str} {c : Addr} (h : env.cells.lookup n = some c) : cellOf env n = pure c := by unfold cellOf; rw [h]
theorem closFor {env : Env} (f : Str × NameKind → List (Str × Addr) → Sem (ForInStep (List (Str × Addr))))
    (hf : ∀ name kind cs, f (name, kind) cs = if kind == .free then (do let c ← cellOf env name; pure (.yield ((name, c) :: cs))) else pure (.yield cs)) :
    ∀ (names : List (Str × NameKind)) (acc : List (Str × Addr)), (∀ x ∈ names, x.2 = .free → (env.cells.lookup x.1).isSome = true) → forIn names acc f = pure (closL env.cells names acc)
  | [], acc, _ => by rw [List.forIn_nil]; rfl
  | (n, k) :: r, acc, h => by
    rw [List.forIn_cons, hf]
    unfold closL
    by_cases hk : (k == NameKind.free) = true
    · rw [if_pos hk, if_pos hk]
      obtain ⟨c, hc⟩ := Option.isSome_iff_exists.mp (h (n, k) List.mem_cons_self (beq_iff_eq.mp hk))
      rw [cellOf_eq hc, hc]
      show forIn r ((n, c) :: acc) f = _
      exact closFor f hf r _ fun x hx => h x (List.mem_cons_of_mem _ hx)
    · rw [if_neg hk, if_neg hk]
      show forIn r acc f = _
      exact closFor f hf r _ fun x hx => h x (List.mem_cons_of_mem _ hx)
theorem closureFor_eq {scope : Scope} {env : Env} (h : ∀ x ∈ scope.names, x.2 = .free → (env.cells.lookup x.1).isSome = true) : closureFor scope env = pure (closL env.cells scope.names []) := by
  simp only [closureFor]
  rw [closFor (env := env) _ (fun name kind cs => by cases hk : kind == NameKind.free <;> simp [hk]) _ _ h]
  rfl

theorem closL_lookup {cells : List (Str × Addr)} {x : Str} {c : Addr} (hc : cells.lookup x = some c) : ∀ (names : List (Str × NameKind)) (acc : List (Str × Addr)), (∀ y, y ∈ acc → cells.lookup y.1 = some y.2) →
    ((x, NameKind.free) ∈ names ∨ acc.lookup x = some c) → (closL cells names acc).lookup x = some c
  | [], acc, _, h => h.elim (fun h => by cases h) id
  | (n, k) :: r, acc, ha, h => by
    unfold closL
    split
    · rename_i hk
      split
      · rename_i c' hc'
        refine closL_lookup hc r _ (fun y hy => ?_) ?_
        · rcases List.mem_cons.mp hy with rfl | hy
          · exact hc'
          · exact ha y hy
        · rcases h with h | h
          · rcases List.mem_cons.mp h with h | h
            · injection h with h1 h2; subst h1; rw [hc] at hc'; cases hc'; right; rw [List.lookup_cons]; simp
            · exact .inl h
          · right; rw [List.lookup_cons]
            by_cases hx : x = n
            · subst hx; rw [hc] at hc'; cases hc'; simp
            · have : (x == n) = false := beq_eq_false_iff_ne.mpr hx
              rw [this]; exact h
      · rename_i hc'
        refine closL_lookup hc r _ ha ?_
        rcases h with h | h
        · rcases List.mem_cons.mp h with h | h
          · injection h with h1 h2; subst h1; rw [hc] at hc'; cases hc'
          · exact .inl h
        · exact .inr h
    · rename_i hk
      refine closL_lookup hc r _ ha ?_
      rcases h with h | h
      · rcases List.mem_cons.mp h with h | h
        · injection h with h1 h2; subst h2; exact absurd rfl hk
        · exact .inl h
      · exact .inr h

theorem cellsFrom_app : ∀ (ns : List (Str × NameKind)) (n : Nat) (acc : List (Str × Addr)), cellsFrom n ns acc = cellsFrom n ns [] ++ acc
  | [], n, acc => rfl
  | (y, k) :: r, n, acc => by
    unfold cellsFrom
    split
    · rw [cellsFrom_app r _ ((y, n) :: acc), cellsFrom_app r _ [(y, n)]]; simp
    · exact cellsFrom_app r n acc
theorem cellsFrom_mem {x : Str} {c : Addr} : ∀ (ns : List (Str × NameKind)) (n : Nat) (acc : List (Str × Addr)), (x, c) ∈ cellsFrom n ns acc → (x, c) ∈ acc ∨ (x, NameKind.cell) ∈ ns
  | [], n, acc, h => .inl h
  | (y, k) :: r, n, acc, h => by
    unfold cellsFrom at h
    split at h
    · rename_i hk
      rcases cellsFrom_mem r _ _ h with h | h
      · rcases List.mem_cons.mp h with h | h
        · injection h with h1 h2; subst h1; right; rw [beq_iff_eq.mp hk]; exact List.mem_cons_self
        · exact .inl h
      · exact .inr (List.mem_cons_of_mem _ h)
    · rcases cellsFrom_mem r _ _ h with h | h
      · exact .inl h
      · exact .inr (List.mem_cons_of_mem _ h)

/-! the frame of a comprehension -/
noncomputable def relN (names ns : List (Str × NameKind)) : List (Str × NameKind) := names.map fun p => if (p.2 == .free && ns.lookup p.1 == some .cell) then (p.1, .cell) else (p.1, p.2)
noncomputable def fiC (scope : Scope) (fi : FI) : FI := ⟨relN scope.names fi.ns, (scope.names.filter (·.2 == .cell)).map (·.1)⟩
noncomputable def evC (scope : Scope) (fi : FI) (ev : List MV) : List MV := scope.names.map fun p => if p.2 == .free then (match slot fi.ns p.1 with | some (j, _) => (ev[j]?).getD .undef | none => .undef) else .undef
noncomputable def compOk (scope : Scope) (fi : FI) : Bool := scope.names.all fun p => p.2 != .free || (match slot fi.ns p.1 with | some (_, .cell) => true | some (_, .free) => true | _ => false)
structure ScOk (scope : Scope) (fi : FI) : Prop where
  kind : scope.kind = .function
  nd : (scope.names.map (·.1)).Nodup
  ok : compOk scope fi = true

section
variable {B : Bs} {fi : FI} {d : Nat} {ev : List MV} {H : List MObj} {A : Around} {env : Env} {Φ : Addr → Option Obj} {g g' : G} {s s' : Shared} {scope : Scope}

theorem relN_slotGo {x : Str} {ns : List (Str × NameKind)} : ∀ {names : List (Str × NameKind)} {n i : Nat} {k : NameKind}, slotGo x (relN names ns) n = some (i, k) →
    n ≤ i ∧ ∃ k0, names[i - n]? = some (x, k0) ∧ k = (if (k0 == .free && ns.lookup x == some .cell) then .cell else k0)
  | [], _, _, _, h => by cases h
  | (y, k0) :: r, n, i, k, h => by
    have e : relN ((y, k0) :: r) ns = (if (k0 == .free && ns.lookup y == some .cell) then (y, .cell) else (y, k0)) :: relN r ns := rfl
    rw [e] at h
    have h2 : (if x == y then some (n, if (k0 == .free && ns.lookup y == some .cell) then NameKind.cell else k0) else slotGo x (relN r ns) (n + 1)) = some (i, k) := by
      rw [← h]; by_cases hc : (k0 == NameKind.free && ns.lookup y == some .cell) = true
      · rw [if_pos hc, if_pos hc]; rfl
      · rw [if_neg hc, if_neg hc]; rfl
    by_cases hx : (x == y) = true
    · rw [if_pos hx] at h2
      cases h2
      have := beq_iff_eq.mp hx; subst this
      exact ⟨Nat.le_refl _, k0, by simp, rfl⟩
    · rw [if_neg hx] at h2
      obtain ⟨a, k1, b, c⟩ := relN_slotGo h2
      refine ⟨by omega, k1, ?_, c⟩
      have : i - n = (i - (n + 1)) + 1 := by omega
      rw [this, List.getElem?_cons_succ]; exact b
theorem relN_slot {x : Str} {names ns : List (Str × NameKind)} {i : Nat} {k : NameKind} (h : slot (relN names ns) x = some (i, k)) : ∃ k0, names[i]? = some (x, k0) ∧ k = (if (k0 == .free && ns.lookup x == some .cell) then .cell else k0) := by
  obtain ⟨_, k0, a, b⟩ := relN_slotGo h
  exact ⟨k0, by simpa using a, b⟩

theorem compOk_free (S : ScOk scope fi) {x : Str} (h : (x, NameKind.free) ∈ scope.names) : ∃ j k, slot fi.ns x = some (j, k) ∧ (k = .cell ∨ k = .free) := by
  have := List.all_eq_true.mp S.ok _ h
  simp only [bne_self_eq_false, Bool.false_or] at this
  cases hs : slot fi.ns x with
  | none => rw [hs] at this; cases this
  | some p =>
    obtain ⟨j, k⟩ := p
    rw [hs] at this
    refine ⟨j, k, rfl, ?_⟩
    cases k <;> first | exact .inl rfl | exact .inr rfl | cases this

noncomputable def cenvOf (scope : Scope) (C : Addr) (env : Env) : Env :=
  { scope := relabel scope env, locals := C, globals := env.globals, cells := cellsFrom (C + 1) scope.names (closL env.cells scope.names []), qual := env.qual, func := none, code := env.code, frame := env.frame, builtins := env.builtins }

/-- into the comprehension's frame: the outer one is parked -/
theorem comp_enter (S : ScOk scope fi) (I : Inv B fi env Φ g ev H s) :
    ∃ g1, ({ g with ow := fun a => if isFr (g.ow a) then .pk else g.ow a } : G).le g1 ∧
      Inv B (fiC scope fi) (cenvOf scope s.heap.objs.size env) (frP g s.heap Φ) g1 (evC scope fi ev) H { s with heap := pushCells (s.heap.push { cls := .type "dict", data := .dict #[] }) scope.names } ∧ g1.ow s.heap.objs.size = .fr none ∧
      (∀ Ψ, InP Ψ g s → InP Ψ g1 { s with heap := pushCells (s.heap.push { cls := .type "dict", data := .dict #[] }) scope.names }) := by
  have I0 := I.parkFr
  have hz : (s.heap.push { cls := .type "dict", data := .dict #[] }).objs.size = s.heap.objs.size + 1 := Heap.size_push ..
  have ok := cellsFrom_ok scope.names (s.heap.push { cls := .type "dict", data := .dict #[] }) (s.heap.objs.size + 1) [] ⟨fun _ _ hm => (nomatch hm), List.Pairwise.nil⟩ (by rw [hz]; exact Nat.le_refl _)
  rw [hz] at ok
  have keep : ∀ b o, s.heap.get? b = some o → (pushCells (s.heap.push { cls := .type "dict", data := .dict #[] }) scope.names).get? b = some o := fun b o e => pushCells_keeps _ _ b o (Heap.get?_push_of_some _ e)
  have X : InCallC s s.heap.objs.size (fun _ => none) (cellsFrom (s.heap.objs.size + 1) scope.names []) (fun _ => none) { s with heap := pushCells (s.heap.push { cls := .type "dict", data := .dict #[] }) scope.names } :=
    ⟨⟨⟨_, _, rfl⟩, (Heap.Ns.new s.heap (.type "dict")).keeps (pushCells_keeps _ _), keep, Nat.le_refl _⟩, fun n c hc => (ok.empty n c (mem_of_lookup hc)).1, ok.apart, fun n c hm => (ok.empty n c hm).2⟩
  have hcn := cellsFrom_nodup scope.names (s.heap.objs.size + 1) [] S.nd (by simp) (fun x hx => by cases hx)
  obtain ⟨g1, l1, I1, hL, hC, hold⟩ := InCallC_enter I0 X (Nat.le_refl _) hcn
  refine ⟨g1, l1, I1.with ?_, hL, fun Ψ hp a o e => ⟨keep _ _ (hp a o e).1, by rw [hold a o (hp a o e).1]; show (if isFr (g.ow a) = true then _ else _) = _; rw [(hp a o e).2]; rfl⟩⟩
  have fr := I.fr
  have hnm : (relabel scope env).names = relN scope.names fi.ns := by
    show scope.names.map _ = scope.names.map _
    refine List.map_congr_left fun p hp => ?_
    obtain ⟨n, k⟩ := p
    have hk : env.kindOf n = fi.ns.lookup n := by show env.scope.names.lookup n = _; rw [fr.names]
    simp only [fr.kind, hk]
    simp
  have lt : g.le g1 := ⟨l1.F, l1.σ⟩
  refine ⟨hnm, S.kind, fr.glob, fr.blt, ⟨hL, _, X.toInCall.ns, fun x i e => ?_⟩, fun x i k e hk => ?_⟩
  · obtain ⟨k0, e1, e2⟩ := relN_slot e
    intro m hm
    unfold evC at hm
    rw [List.getElem?_map, e1] at hm
    have hk0 : k0 ≠ .free := fun q => by
      subst q; split at e2 <;> cases e2
    have : (k0 == NameKind.free) = false := beq_eq_false_iff_ne.mpr hk0
    simp only [Option.map_some, this, Bool.false_eq_true, if_false] at hm
    cases hm; trivial
  · obtain ⟨k0, e1, e2⟩ := relN_slot e
    have hmem : (x, k0) ∈ scope.names := List.mem_of_getElem? e1
    by_cases hf : k0 = .free
    · subst hf
      obtain ⟨j, kj, hj, hkj⟩ := compOk_free S hmem
      obtain ⟨c, v, c1, c2, c3, c4⟩ := fr.cel x j kj hj hkj
      refine ⟨c, v, ?_, c2.keeps keep, ?_, .inr ⟨?_, ?_⟩⟩
      · show (cellsFrom (s.heap.objs.size + 1) scope.names (closL env.cells scope.names [])).lookup x = some c
        rw [cellsFrom_app]
        have hno : (cellsFrom (s.heap.objs.size + 1) scope.names []).lookup x = none := by
          cases hq : (cellsFrom (s.heap.objs.size + 1) scope.names []).lookup x with
          | none => rfl
          | some c' =>
            rcases cellsFrom_mem _ _ _ (mem_of_lookup hq) with h | h
            · cases h
            · have h1 := lookup_of_mem S.nd h; rw [lookup_of_mem S.nd hmem] at h1; cases h1
        rw [List.lookup_append, hno, Option.none_or]
        exact closL_lookup c1 _ _ (fun y hy => by cases hy) (.inl hmem)
      · intro m hm
        unfold evC at hm
        rw [List.getElem?_map, e1] at hm
        simp only [Option.map_some, beq_self_eq_true, if_true, hj] at hm
        cases hm
        cases hq : ev[j]? with
        | none => trivial
        | some m =>
          have := (c3.mono lt) m hq
          exact this
      · obtain ⟨oc, ho, _⟩ := c2
        exact (I1.Φ c oc (by
          unfold frP
          rcases c4 with c4 | ⟨c4, _⟩
          · rw [c4]; exact ho
          · rw [c4]
            obtain ⟨o', ho'⟩ := Option.isSome_iff_exists.mp (I.pk c c4)
            have := (I.Φ c o' ho').1; rw [ho] at this; cases this; exact ho')).2
      · show x ∉ (scope.names.filter (·.2 == .cell)).map (·.1)
        intro hm
        obtain ⟨y, hy, e⟩ := List.mem_map.mp hm
        obtain ⟨hy1, hy2⟩ := List.mem_filter.mp hy
        obtain ⟨yn, yk⟩ := y
        simp at hy2 e; subst hy2 e
        have h1 := lookup_of_mem S.nd hy1; rw [lookup_of_mem S.nd hmem] at h1; cases h1
    · have hkk : k = k0 := by
        have : (k0 == NameKind.free) = false := beq_eq_false_iff_ne.mpr hf
        rw [this] at e2; simpa using e2
      have hcell : k0 = .cell := by
        rcases hk with hk | hk
        · rw [← hkk]; exact hk
        · exact absurd (hkk.symm.trans hk) hf
      subst hcell
      obtain ⟨c, hc⟩ := Option.isSome_iff_exists.mp (cellsFrom_some scope.names (s.heap.objs.size + 1) [] (x := x) (.inr hmem))
      refine ⟨c, _, ?_, X.cell x c hc, ?_, .inl (hC x c (mem_of_lookup hc))⟩
      · show (cellsFrom (s.heap.objs.size + 1) scope.names (closL env.cells scope.names [])).lookup x = some c
        rw [cellsFrom_app, List.lookup_append, hc]; rfl
      · intro m hm
        unfold evC at hm
        rw [List.getElem?_map, e1] at hm
        have : (NameKind.cell == NameKind.free) = false := rfl
        simp only [Option.map_some, this, Bool.false_eq_true, if_false] at hm
        cases hm; trivial

theorem wpAny_compEnv {scope : Scope} {cl : List (Str × Addr)} {Q : Env → Shared → Prop} {E : Value → Shared → Prop} {M : Model}
    (h : Q { scope, locals := s.heap.objs.size, globals := env.globals, cells := cellsFrom (s.heap.objs.size + 1) scope.names cl, qual := env.qual, func := none, code := env.code, frame := env.frame, builtins := env.builtins }
      { s with heap := pushCells (s.heap.push { cls := .type "dict", data := .dict #[] }) scope.names }) :
    wpAny M A (newFunctionEnv scope env.globals cl [] env.qual none .none (some env)) Q E s := by
  simp only [newFunctionEnv, Option.isSome_some, if_true]
  refine wpAny_bind (wpAny_alloc ?_)
  refine wpAny_bind (wpAny_layCells _ (fun name kind cells => by cases hkc : kind == NameKind.cell <;> simp [hkc]) _ _ _ _ ?_)
  rw [show ({ s with heap := s.heap.push { cls := .type "dict", data := .dict #[] } } : Shared).heap.objs.size = s.heap.objs.size + 1 from Heap.size_push ..]
  refine wpAny_bind ?_
  rw [List.forIn_nil]
  exact wpAny_pure (wpAny_pure h)
end
noncomputable abbrev Inner := List MV → List MObj → (List MV → List MObj → Prop) → Prop
noncomputable def CIf (B : Bs) (fi : FI) (d : Nat) (c : Option Expr) (ev : List MV) (H : List MObj) (T F : List MObj → Prop) : Prop := match c with
  | none => T H
  | some c => WPT B fi d c ev H fun b H1 => (b = true → T H1) ∧ (b = false → F H1)
noncomputable def CompS (B : Bs) (fi : FI) (d : Nat) (tg : Expr) (c : Option Expr) (inner : Inner) (chk : List MObj → Prop) (Q : List MV → List MObj → Prop) : List MV → List MV → List MObj → Prop
  | [], ev, H => Q ev H
  | m :: ms, ev, H => WPG B fi d tg m ev H fun ev1 H1 => CIf B fi d c ev1 H1 (fun H2 => inner ev1 H2 fun ev2 H3 => chk H3 ∧ CompS B fi d tg c inner chk Q ms ev2 H3) (fun H2 => chk H2 ∧ CompS B fi d tg c inner chk Q ms ev1 H2)
noncomputable def emitI (B : Bs) (fi : FI) (d : Nat) (a : Nat) (elt : Expr) : Inner := fun ev H K => WPE B fi d elt ev H fun m H1 => ∃ vs, H1[a]? = some (.list vs) ∧ vs.length ≤ 100000 ∧ K ev (H1.set a (.list (vs ++ [m])))
noncomputable def genI (B : Bs) (fi : FI) (d : Nat) (a : Nat) (tg iter elt : Expr) : Inner := fun ev H K => WPI B fi d tg iter ev H fun chk items H1 => CompS B fi d tg none (emitI B fi d a elt) chk K items ev H1

noncomputable def cifT (c : Option Expr) (env : Env) : Sem Bool := match c with
  | none => pure true
  | some c => isTrue c env (eval c env)
noncomputable def emitT (elt : Expr) (acc : Value) (env : Env) : Sem Unit := do let _ ← call (.builtin "list.append") [acc, ← eval elt env]
noncomputable def genT (e : Expr) (iter : Expr) (acc : Value) (env : Env) : Sem Unit := do
  let x ← eval iter env
  standAt iter.pos
  let x ← foldedSetIterable iter env x
  let _ ← runOwn (.compStart e 1 (← holding [x] (pyIter x)) acc env) env

section
variable {B : Bs} {fi : FI} {d : Nat} {ev : List MV} {H : List MObj} {A : Around} {env : Env} {Φ : Addr → Option Obj} {g g' : G} {s s' : Shared}

/-- what one turn of a comprehension does -/
noncomputable def TurnOf (M : Model) (e : Expr) (dep : Nat) (tg : Expr) (c : Option Expr) (inn : Value → Env → Sem Unit) : Prop :=
  ∀ (A : Around) (it acc : Value) (env : Env) (Q : Fin → Shared → Prop) (E : Value → Shared → Prop) (s : Shared),
    wpAny M A (pyNext it) (fun r s1 => match r with
      | none => Q (.done .next) s1
      | some v => wpAny M A (letOwnedTupleGo tg it v) (fun _ s2 => wpAny M A (assign tg env v) (fun _ s3 => wpAny M A (cifT c env) (fun ok s4 =>
          if ok then wpAny M A (inn acc env) (fun _ s5 => Q (.again (.compLoop e dep it acc env)) s5) E s4 else Q (.again (.compLoop e dep it acc env)) s4) E s3) E s2) E s1) E s →
    wpAny M A (compTurn e dep it acc env) Q E s

theorem wpAny_againI {M : Model} {A : Around} {E : Value → Shared → Prop} {s : Shared} {c : Code} {Q : Fin → Shared → Prop} (h : Q (.again c) s) : wpAny M A (again c) Q E s := wpAny_pure h

theorem turn_emit {M : Model} (elt tg iter : Expr) (scope : Scope) (pos : Pos) : TurnOf M (.ListComp elt [⟨tg, iter, [], 0⟩] scope pos) 0 tg none (emitT elt) := fun A it acc env Q E s h => by
  show wpAny M A (standAt iter.pos >>= fun _ => pyNext it >>= fun r => match r with
      | none => pure (.done .next)
      | some v => letOwnedTupleGo tg it v >>= fun _ => assign tg env v >>= fun _ =>
        emitT elt acc env >>= fun _ => again (.compLoop (.ListComp elt [⟨tg, iter, [], 0⟩] scope pos) 0 it acc env)) Q E s
  refine wpAny_bind (wpAny_standAt (wpAny_bind (wpAny_mono h (fun r s1 h1 => ?_) fun _ _ x => x)))
  cases r with
  | none => exact wpAny_pure h1
  | some v =>
    refine wpAny_bind (wpAny_mono h1 (fun _ s2 h2 => wpAny_bind (wpAny_mono h2 (fun _ s3 h3 => ?_) fun _ _ x => x)) fun _ _ x => x)
    refine fun Γ p hΓ => ?_
    have h4 : wpAny M A (emitT elt acc env) (fun _ s5 => Q (.again (.compLoop (.ListComp elt [⟨tg, iter, [], 0⟩] scope pos) 0 it acc env)) s5) E s3 := h3 Γ p hΓ
    exact wpAny_bind (wpAny_mono h4 (fun _ s5 h5 => wpAny_againI h5) fun _ _ x => x) Γ p hΓ

theorem turn_emit1 {M : Model} (elt tg iter : Expr) (iter2 : Expr) (tg0 : Expr) (scope : Scope) (pos : Pos) : TurnOf M (.ListComp elt [⟨tg0, iter2, [], 0⟩, ⟨tg, iter, [], 0⟩] scope pos) 1 tg none (emitT elt) := fun A it acc env Q E s h => by
  show wpAny M A (standAt iter.pos >>= fun _ => pyNext it >>= fun r => match r with
      | none => pure (.done .next)
      | some v => letOwnedTupleGo tg it v >>= fun _ => assign tg env v >>= fun _ =>
        emitT elt acc env >>= fun _ => again (.compLoop (.ListComp elt [⟨tg0, iter2, [], 0⟩, ⟨tg, iter, [], 0⟩] scope pos) 1 it acc env)) Q E s
  refine wpAny_bind (wpAny_standAt (wpAny_bind (wpAny_mono h (fun r s1 h1 => ?_) fun _ _ x => x)))
  cases r with
  | none => exact wpAny_pure h1
  | some v =>
    refine wpAny_bind (wpAny_mono h1 (fun _ s2 h2 => wpAny_bind (wpAny_mono h2 (fun _ s3 h3 => ?_) fun _ _ x => x)) fun _ _ x => x)
    refine fun Γ p hΓ => ?_
    have h4 : wpAny M A (emitT elt acc env) (fun _ s5 => Q (.again (.compLoop (.ListComp elt [⟨tg0, iter2, [], 0⟩, ⟨tg, iter, [], 0⟩] scope pos) 1 it acc env)) s5) E s3 := h3 Γ p hΓ
    exact wpAny_bind (wpAny_mono h4 (fun _ s5 h5 => wpAny_againI h5) fun _ _ x => x) Γ p hΓ

theorem turn_gen {M : Model} (elt tg iter : Expr) (tg2 iter2 : Expr) (scope : Scope) (pos : Pos) : TurnOf M (.ListComp elt [⟨tg, iter, [], 0⟩, ⟨tg2, iter2, [], 0⟩] scope pos) 0 tg none (genT (.ListComp elt [⟨tg, iter, [], 0⟩, ⟨tg2, iter2, [], 0⟩] scope pos) iter2) := fun A it acc env Q E s h => by
  show wpAny M A (standAt iter.pos >>= fun _ => pyNext it >>= fun r => match r with
      | none => pure (.done .next)
      | some v => letOwnedTupleGo tg it v >>= fun _ => assign tg env v >>= fun _ =>
        (eval iter2 env >>= fun x => standAt iter2.pos >>= fun _ => foldedSetIterable iter2 env x >>= fun x => holding [x] (pyIter x) >>= fun it2 => runOwn (.compStart (.ListComp elt [⟨tg, iter, [], 0⟩, ⟨tg2, iter2, [], 0⟩] scope pos) 1 it2 acc env) env >>= fun _ =>
          again (.compLoop (.ListComp elt [⟨tg, iter, [], 0⟩, ⟨tg2, iter2, [], 0⟩] scope pos) 0 it acc env))) Q E s
  refine wpAny_bind (wpAny_standAt (wpAny_bind (wpAny_mono h (fun r s1 h1 => ?_) fun _ _ x => x)))
  cases r with
  | none => exact wpAny_pure h1
  | some v =>
    refine wpAny_bind (wpAny_mono h1 (fun _ s2 h2 => wpAny_bind (wpAny_mono h2 (fun _ s3 h3 => ?_) fun _ _ x => x)) fun _ _ x => x)
    refine fun Γ p hΓ => ?_
    have h4 : wpAny M A (genT (.ListComp elt [⟨tg, iter, [], 0⟩, ⟨tg2, iter2, [], 0⟩] scope pos) iter2 acc env) (fun _ s5 => Q (.again (.compLoop (.ListComp elt [⟨tg, iter, [], 0⟩, ⟨tg2, iter2, [], 0⟩] scope pos) 0 it acc env)) s5) E s3 := h3 Γ p hΓ
    have h5 := h4 Γ p hΓ
    unfold genT at h5
    simp only [Sem.wp_bind', Sem.wp_pure', Sem.wp_holding, Sem.wp_cmd_standAt] at h5 ⊢
    exact h5

theorem turn_if {M : Model} (elt tg iter c : Expr) (scope : Scope) (pos : Pos) : TurnOf M (.ListComp elt [⟨tg, iter, [c], 0⟩] scope pos) 0 tg (some c) (emitT elt) := fun A it acc env Q E s h => by
  unfold compTurn
  refine wpAny_bind (wpAny_standAt ?_)
  show wpAny M A (pyNext it >>= _) Q E s
  refine wpAny_bind (wpAny_mono h (fun r s1 h1 => ?_) fun _ _ x => x)
  cases r with
  | none => exact wpAny_pure h1
  | some v =>
    refine wpAny_bind (wpAny_mono h1 (fun _ s2 h2 => wpAny_bind (wpAny_mono h2 (fun _ s3 h3 => ?_) fun _ _ x => x)) fun _ _ x => x)
    refine wpAny_bind ?_
    show wpAny M A (forIn [c] true _) _ _ s3
    rw [List.forIn_cons]
    refine wpAny_bind ?_
    show wpAny M A (isTrue c env (eval c env) >>= fun ok => pure (ForInStep.yield ok)) _ _ s3
    refine wpAny_bind (wpAny_mono h3 (fun ok s4 h4 => wpAny_pure ?_) fun _ _ x => x)
    show wpAny M A (forIn [] ok _) _ _ s4
    rw [List.forIn_nil]
    refine wpAny_pure ?_
    cases ok with
    | true =>
      have h5 : wpAny M A (emitT elt acc env) (fun _ s5 => Q (.again (.compLoop (.ListComp elt [⟨tg, iter, [c], 0⟩] scope pos) 0 it acc env)) s5) E s4 := h4
      show wpAny M A (emitT elt acc env >>= fun _ => again (.compLoop (.ListComp elt [⟨tg, iter, [c], 0⟩] scope pos) 0 it acc env)) Q E s4
      exact wpAny_bind (wpAny_mono h5 (fun _ s5 h5 => wpAny_againI h5) fun _ _ x => x)
    | false =>
      have h5 : Q (.again (.compLoop (.ListComp elt [⟨tg, iter, [c], 0⟩] scope pos) 0 it acc env)) s4 := h4
      show wpAny M A (again (.compLoop (.ListComp elt [⟨tg, iter, [c], 0⟩] scope pos) 0 it acc env)) Q E s4
      exact wpAny_againI h5

theorem Comp_loop {elt : Expr} {gens : List Comprehension} {scope : Scope} {pos : Pos} {dep : Nat} {tg : Expr} {c : Option Expr} {inn : Value → Env → Sem Unit} {inner : Inner} {it : Addr} {acc : Value} {chk : List MObj → Prop} {P : List MV → (Addr → Option Obj) → Prop} {g0 : G}
    {Q : List MV → List MObj → Prop} {R : Result → Shared → Prop} (ok : OkA d A) (hT : TurnOf B.M (.ListComp elt gens scope pos) dep tg c inn) (K : IterOk B tg it g0 chk P)
    (hin : ∀ ev H K2, inner ev H K2 → ∀ Φ g s, g0.le g → Inv B fi env Φ g ev H s → wpAny B.M A (inn acc env) (Pst B fi env Φ g (PN K2)) (fun _ _ => False) s)
    (hR : ∀ g' ev' H' s', g0.le g' → Inv B fi env Φ g' ev' H' s' → Q ev' H' → R (.ok .next) s') {ms : List MV} {Ψ : Addr → Option Obj} {g : G} {ev : List MV} {H : List MObj} {s : Shared}
    (l : g0.le g) (I : Inv B fi env Φ g ev H s) (hp : InP Ψ g s) (hP : P ms Ψ) (hc : chk H) (hF : CompS B fi d tg c inner chk Q ms ev H) :
    codeAny B.M A (.compLoop (.ListComp elt gens scope pos) dep (.ref it) acc env) R s := by
  refine codeAny_loop rfl (LpP B fi env Φ g0 P chk (CompS B fi d tg c inner chk Q)) (fun n s hL => ?_) ms.length ⟨ms, Ψ, g, ev, H, rfl, l, I, hp, hP, hc, hF⟩
  obtain ⟨ms, Ψ, g, ev, H, hn, l, I, hp, hP, hc, hF⟩ := hL
  show wpAny _ A ((compTurn (.ListComp elt gens scope pos) dep (.ref it) acc env).onRaise (fun x => do noteFrame x env; theTreesLotGoes x)) _ _ s
  refine wpAny_noted (hT A _ _ _ _ _ _ ?_)
  have ok0 : OkA 0 A := ok.le (Nat.zero_le _)
  cases ms with
  | nil =>
    refine wpAny_mono (K.stop A fi env Φ g ev H s Ψ ok0 l I hp hc hP) (fun r s1 hq => ?_) fun _ _ x => x.elim
    obtain ⟨rfl, I1⟩ := hq
    exact hR g ev H s1 l I1 hF
  | cons m ms =>
    refine wpAny_mono (K.next A fi env Φ g ev H s m ms Ψ ok0 l I hp hc hP) (fun r s1 hq => ?_) fun _ _ x => x.elim
    obtain ⟨v, rfl, h1⟩ := hq
    refine wpAny_mono h1 (fun _ s2 hq => ?_) fun _ _ x => x.elim
    obtain ⟨g2, Ψ2, l2, I2, p2, P2, r2⟩ := hq
    obtain ⟨l3, I3, hΦ⟩ := I2.park p2
    have back : ∀ {g5 : G} {ev5 : List MV} {H5 : List MObj} {s5 : Shared}, g0.le g5 → Inv B fi env (addP Φ Ψ2) g5 ev5 H5 s5 → chk H5 ∧ CompS B fi d tg c inner chk Q ms ev5 H5 →
        ∃ m, m < n ∧ LpP B fi env Φ g0 P chk (CompS B fi d tg c inner chk Q) m s5 := fun l5 I5 q => by
      obtain ⟨l6, I6, p6⟩ := I5.unpark (K.cell _ _ P2) hΦ
      exact ⟨ms.length, by rw [← hn]; simp, ms, Ψ2, _, _, _, rfl, l5.trans l6, I6, p6, P2, q.1, q.2⟩
    refine (hF A env _ _ s2 v ok I3 (r2.mono l3)).to fun g4 ev4 H4 _ s4 l4 I4 h4 => ?_
    have lt : g0.le g4 := ((l.trans l2).trans l3).trans l4
    unfold CIf at h4
    cases c with
    | none =>
      refine wpAny_pure ?_
      rw [if_pos rfl]
      refine wpAny_mono (hin _ _ _ h4 _ g4 s4 lt I4) (fun _ s5 hq => by obtain ⟨g5, ev5, H5, l5, I5, q⟩ := hq; exact ⟨rfl, back (lt.trans l5) I5 q⟩) fun _ _ x => x.elim
    | some c =>
      refine (h4 A env _ g4 s4 ok I4).to fun g5 ev5 H5 b s5 l5 I5 hq1 => ?_
      obtain ⟨e5, h5, h6⟩ := hq1
      subst e5
      cases b with
      | true =>
        rw [if_pos rfl]
        exact wpAny_mono (hin _ _ _ (h5 rfl) _ g5 s5 (lt.trans l5) I5) (fun _ s6 hq => by obtain ⟨g6, ev6, H6, l6, I6, q⟩ := hq; exact ⟨rfl, back ((lt.trans l5).trans l6) I6 q⟩) fun _ _ x => x.elim
      | false =>
        rw [if_neg (by decide)]
        exact ⟨rfl, back (lt.trans l5) I5 (h6 rfl)⟩

theorem emit_sem {a : Nat} {elt : Expr} {acc : Addr} {g0 : G} (ok : OkA d A) (ha : g0.σ[a]? = some acc) : ∀ ev H K2, emitI B fi d a elt ev H K2 → ∀ Φ g s, g0.le g → Inv B fi env Φ g ev H s →
    wpAny B.M A (emitT elt (.ref acc) env) (Pst B fi env Φ g (PN K2)) (fun _ _ => False) s := fun ev H K2 h Φ g s l I => by
  unfold emitT
  refine wpAny_bind ((h A env Φ g s ok I).to fun g1 ev1 H1 v s1 l1 I1 hq2 => ?_)
  obtain ⟨e1, m, rm, vs, hj, hs, hk⟩ := hq2
  subst e1
  refine wpAny_bind ((WPV.append (d := d) (Q := fun _ H' => K2 ev1 H') hj hs hk A fi env Φ g1 ev1 s1 _ [.ref acc, v] ok I1 .con' (by simp only [VRs]; exact ⟨_, _, rfl, .ref' (l1.σ _ _ (l.σ _ _ ha)), _, _, rfl, rm, rfl⟩)).to
    fun g2 ev2 H2 u s2 l2 I2 hq => by obtain ⟨rfl, m2, r2, q⟩ := hq; exact wpAny_pure ⟨g2, _, H2, l1.trans l2, I2, q⟩)

theorem compStart_any {elt : Expr} {gens : List Comprehension} {scope : Scope} {pos : Pos} {dep : Nat} {cl : Comprehension} {it acc : Value} {env : Env} {R : Result → Shared → Prop} (hcl : gens[dep]? = some cl) (has : cl.is_async = 0)
    (h0 : codeAny B.M A (.compLoop (.ListComp elt gens scope pos) dep it acc env) R s) (h : wpAny B.M A (pyIter it) (fun it' s' => codeAny B.M A (.compLoop (.ListComp elt gens scope pos) dep it' acc env) R s') (fun _ _ => False) s) :
    codeAny B.M A (.compStart (.ListComp elt gens scope pos) dep it acc env) R s := by
  refine codeAny_of_tree ?_
  show wpAny _ A ((compStart (.ListComp elt gens scope pos) dep it acc env).onRaise (fun x => do noteFrame x env; standAt theWindowsPlace)) _ _ s
  refine wpAny_notedAt ?_
  unfold compStart
  have hcl' : (clausesOf (.ListComp elt gens scope pos))[dep]? = some cl := hcl
  rw [hcl']
  have : (Option.elim (some cl) false (fun x => x.is_async != 0)) = false := by simp [has]
  simp only [this, Bool.false_eq_true, if_false]
  show wpAny _ _ (ask >>= _) _ _ s
  refine wpAny_bind (wpAny_askSetting ?_)
  split
  · first
      | exact wpAny_bind (wpAny_pure (wpAny_pure (And.intro rfl h0)))
      | exact wpAny_pure (And.intro rfl h0)
  · refine wpAny_bind (wpAny_rule (wpAny_bind (wpAny_standAt (wpAny_bind (wpAny_mono h (fun it' s' h' => wpAny_pure (And.intro rfl h')) fun _ _ x => x.elim)))))

theorem gen_sem {a : Nat} {elt tg iter tg2 iter2 : Expr} {scope : Scope} {pos : Pos} {acc : Addr} {g0 : G} (ok : OkA d A) (ha : g0.σ[a]? = some acc) (hs : ∀ env x, foldedSetIterable iter2 env x = pure x) :
    ∀ ev H K2, genI B fi d a tg2 iter2 elt ev H K2 → ∀ Φ g s, g0.le g → Inv B fi env Φ g ev H s →
    wpAny B.M A (genT (.ListComp elt [⟨tg, iter, [], 0⟩, ⟨tg2, iter2, [], 0⟩] scope pos) iter2 (.ref acc) env) (Pst B fi env Φ g (PN K2)) (fun _ _ => False) s := fun ev H K2 h Φ g s l I => by
  unfold genT
  refine wpAny_bind (wpAny_mono (h A env Φ g s ok I) (fun x s1 h1 => wpAny_bind (wpAny_standAt (wpAny_bind (wpAny_of_eq (hs env x) (wpAny_bind (wpAny_holding (wpAny_mono h1 (fun r s2 hq => ?_) fun _ _ x => x.elim))))))) fun _ _ x => x.elim)
  obtain ⟨it, g2, H2, Ψ, P, chk, items, rfl, l2, I2, p2, P2, K, hc, hF⟩ := hq
  have lp : codeAny B.M (A.mark none) (.compLoop (.ListComp elt [⟨tg, iter, [], 0⟩, ⟨tg2, iter2, [], 0⟩] scope pos) 1 (.ref it) (.ref acc) env) (fun r s' => match r with
      | .ok f => wpAny B.M A (pure ()) (Pst B fi env Φ g (PN K2)) (fun _ _ => False) s' | .error e => cameBackBy B.M A env (fun _ _ => False) e s') s2 :=
    Comp_loop ok.mark (turn_emit1 elt tg2 iter2 iter tg scope pos) K (emit_sem ok.mark (l2.σ _ _ (l.σ _ _ ha))) (fun g' ev' H' s' l' I' q => wpAny_pure ⟨g', ev', H', l2.trans l', I', q⟩) (.refl g2) I2 p2 P2 hc hF
  exact wpAny_bind (wpAny_runOwn (compStart_any rfl rfl lp (K.self _ fi env Φ g2 _ H2 s2 _ Ψ _ _ (ok.mark.le (Nat.zero_le _)) (.refl g2) I2 p2 P2 lp)))
end
section
variable {B : Bs} {fi : FI} {d : Nat} {ev : List MV} {H : List MObj} {A : Around} {env : Env} {Φ : Addr → Option Obj} {g g' : G} {s s' : Shared}

theorem Inv.newListP (I : Inv B fi env Φ g ev H s) : ∃ g', g.le g' ∧ Inv B fi env Φ g' ev (H ++ [.list []]) { s with heap := s.heap.push (listObj #[] 0) } ∧ g'.σ[H.length]? = some s.heap.objs.size ∧
    (∀ Ψ, InP Ψ g s → InP Ψ g' { s with heap := s.heap.push (listObj #[] 0) }) := by
  have hp : (s.heap.push (listObj #[] 0)).get? s.heap.objs.size = some (listObj #[] 0) := Heap.get?_push_size _ rfl
  obtain ⟨l, I', hσ⟩ := (I.push (listObj #[] 0)).live1 (o := .list []) I.big I.szn hp ⟨#[], 0, hp, by simp [VRs]⟩
  refine ⟨_, l, I', hσ, fun Ψ h a o e => ⟨Heap.get?_push_of_some _ (h a o e).1, ?_⟩⟩
  show (if a = s.heap.objs.size then _ else _) = _
  rw [if_neg (Nat.ne_of_lt (Heap.lt_size (h a o e).1))]
  exact (h a o e).2

theorem comp_core {elt tg iter : Expr} {ifs : List Expr} {rest : List Comprehension} {scope : Scope} {pos pos' : Pos} {c : Option Expr} {inn : Value → Env → Sem Unit} {inner : Nat → Inner} {use : Option (Value → Sem Unit)}
    {Qc : Nat → List MV → List MObj → Prop} {Q : Value → Shared → Prop} (ok : OkA d A) (I : Inv B fi env Φ g ev H s) (S : ScOk scope fi) (hs : ∀ x, foldedSetIterable iter env x = pure x)
    (hT : TurnOf B.M (.ListComp elt (⟨tg, iter, ifs, 0⟩ :: rest) scope pos) 0 tg c inn)
    (h : WPI B fi d tg iter ev H fun chk items H1 => chk (H1 ++ [.list []]) ∧ CompS B (fiC scope fi) d tg c (inner H1.length) chk (Qc H1.length) items (evC scope fi ev) (H1 ++ [.list []]))
    (hin : ∀ (a : Nat) (acc : Addr) (g0 : G) (env' : Env) (A' : Around), OkA d A' → g0.σ[a]? = some acc → ∀ ev H K2, inner a ev H K2 → ∀ (Φ : Addr → Option Obj) (g : G) (s : Shared), g0.le g → Inv B (fiC scope fi) env' Φ g ev H s → wpAny B.M A' (inn (.ref acc) env') (Pst B (fiC scope fi) env' Φ g (PN K2)) (fun _ _ => False) s)
    (hfin : ∀ (a : Nat) (acc C : Addr) (g2 : G) (ev' : List MV) (H' : List MObj) (s' : Shared), g.le g2 → Inv B fi env Φ g2 ev H' s' → g2.σ[a]? = some acc → g2.ow C = .no → (∃ m, s'.heap.Ns C m) → Qc a ev' H' → compPost B.M A (fun _ _ => False) use Q (.ref acc) C (.ok .next) s') :
    wpAny B.M A (comprehension (.ListComp elt (⟨tg, iter, ifs, 0⟩ :: rest) scope pos) scope env pos' (newList []) false (eval iter env) use) Q (fun _ _ => False) s := by
  have hfree : ∀ x ∈ scope.names, x.2 = .free → (env.cells.lookup x.1).isSome = true := fun x hx e => by
    obtain ⟨n, k⟩ := x
    dsimp only at e; subst e
    obtain ⟨j, k, hj, hk⟩ := compOk_free S hx
    obtain ⟨c, v, h1, _⟩ := I.fr.cel n j k hj hk
    show (env.cells.lookup n).isSome = true
    rw [h1]; rfl
  refine wpAny_comprehension_free (use := use) rfl hs (closureFor_eq hfree) S.kind (fun x hx e => by obtain ⟨n, k⟩ := x; dsimp only at e; subst e; exact lookup_of_mem S.nd hx)
    (wpAny_mono (h A env Φ g s ok I) (fun x s1 h1 => wpAny_mono h1 (fun r s2 ⟨it, g2, H2, Ψ, P, chk, items, e2, l2, I2, p2, P2, K, hc, hc', hF⟩ => ?_) fun _ _ x => x.elim) fun _ _ x => x.elim)
  subst e2
  obtain ⟨g3, l3, I3, hσ3, hp3⟩ := I2.newListP
  refine wpAny_newObj_type ?_ (by size_fits)
  have hσ2 := hσ3
  refine wpAny_compEnv (s := { s2 with heap := s2.heap.push (listObj #[] 0) }) ?_
  obtain ⟨g4, l4, I4, hL, hp4⟩ := comp_enter S I3
  have p4 := hp4 Ψ (hp3 Ψ p2)
  have l34 : g3.le g4 := ⟨l4.F, l4.σ⟩
  -- the loop's end
  have fin : ∀ g' ev' H' s', g4.le g' → Inv B (fiC scope fi) (cenvOf scope (s2.heap.push (listObj #[] 0)).objs.size env) (frP g3 (s2.heap.push (listObj #[] 0)) Φ) g' ev' H' s' → Qc H2.length ev' H' →
      compPost B.M A (fun _ _ => False) use Q (.ref s2.heap.objs.size) (s2.heap.push (listObj #[] 0)).objs.size (.ok .next) s' := fun g' ev' H' s' l' I' q => by
    obtain ⟨g5, l5, l6, I5, hno⟩ := Inv0.backFr I3 (l4.trans l') I'.core
    obtain ⟨hC, m, hm, _⟩ := I'.fr.loc
    refine hfin H2.length s2.heap.objs.size _ g5 ev' H' s' ((l2.trans l3).trans l5) I5 (l5.σ _ _ hσ3) (hno _ (by rw [show g'.ow (s2.heap.push (listObj #[] 0)).objs.size = .fr none from hC]; rfl) (by rw [I3.szn]; rfl)) ⟨m, hm⟩ q
  have lp : codeAny B.M A (.compLoop (.ListComp elt (⟨tg, iter, ifs, 0⟩ :: rest) scope pos) 0 (.ref it) (.ref s2.heap.objs.size) (cenvOf scope (s2.heap.push (listObj #[] 0)).objs.size env))
      (compPost B.M A (fun _ _ => False) use Q (.ref s2.heap.objs.size) (s2.heap.push (listObj #[] 0)).objs.size) _ :=
    Comp_loop (g0 := g4) ok hT ⟨K.cell, fun A fi env Φ g ev H s m ms Ψ a b => K.next A fi env Φ g ev H s m ms Ψ a (l3.trans (l34.trans b)), fun A fi env Φ g ev H s ms Ψ Q E a b => K.self A fi env Φ g ev H s ms Ψ Q E a (l3.trans (l34.trans b)),
      fun A fi env Φ g ev H s Ψ a b => K.stop A fi env Φ g ev H s Ψ a (l3.trans (l34.trans b))⟩ (hin H2.length s2.heap.objs.size g4 _ A ok (l34.σ _ _ hσ3)) fin (.refl g4) I4 p4 P2 hc' hF
  exact compStart_any rfl rfl lp (K.self _ _ _ _ g4 _ _ _ _ Ψ _ _ (ok.le (Nat.zero_le _)) (l3.trans l34) I4 p4 P2 lp)

theorem WPE.compG {elt tg iter : Expr} {ifs : List Expr} {rest : List Comprehension} {scope : Scope} {pos : Pos} {c : Option Expr} {inn : Value → Env → Sem Unit} {inner : Nat → Inner} {Q : MV → List MObj → Prop} (S : ScOk scope fi) (hs : ∀ env x, foldedSetIterable iter env x = pure x)
    (hT : TurnOf B.M (.ListComp elt (⟨tg, iter, ifs, 0⟩ :: rest) scope pos) 0 tg c inn)
    (hin : ∀ (a : Nat) (acc : Addr) (g0 : G) (env' : Env) (A' : Around), OkA d A' → g0.σ[a]? = some acc → ∀ ev H K2, inner a ev H K2 → ∀ (Φ : Addr → Option Obj) (g : G) (s : Shared), g0.le g → Inv B (fiC scope fi) env' Φ g ev H s → wpAny B.M A' (inn (.ref acc) env') (Pst B (fiC scope fi) env' Φ g (PN K2)) (fun _ _ => False) s)
    (h : WPI B fi d tg iter ev H fun chk items H1 => chk (H1 ++ [.list []]) ∧ CompS B (fiC scope fi) d tg c (inner H1.length) chk (fun _ H' => Q (.ref H1.length) H') items (evC scope fi ev) (H1 ++ [.list []])) :
    WPE B fi d (.ListComp elt (⟨tg, iter, ifs, 0⟩ :: rest) scope pos) ev H Q := fun A env Φ g s ok I => by
  show wpAny _ _ _ _ _ _
  rw [eval_ListComp]
  refine comp_core (use := none) (Qc := fun a _ H' => Q (.ref a) H') ok I S (hs env) hT h hin fun a acc C g2 ev' H' s' l I' hσ hC ⟨m, hm⟩ q => ⟨m, hm, fun h' hs' => ⟨g2, ev, H', l, I'.stepBut hC hs', rfl, _, .ref' hσ, q⟩⟩

/-- one clause -/
theorem WPE.comp1 {elt tg iter : Expr} {scope : Scope} {pos : Pos} {Q : MV → List MObj → Prop} (S : ScOk scope fi) (hs : ∀ env x, foldedSetIterable iter env x = pure x)
    (h : WPI B fi d tg iter ev H fun chk items H1 => chk (H1 ++ [.list []]) ∧ CompS B (fiC scope fi) d tg none (emitI B (fiC scope fi) d H1.length elt) chk (fun _ H' => Q (.ref H1.length) H') items (evC scope fi ev) (H1 ++ [.list []])) :
    WPE B fi d (.ListComp elt [⟨tg, iter, [], 0⟩] scope pos) ev H Q :=
  WPE.compG (inner := fun a => emitI B (fiC scope fi) d a elt) S hs (turn_emit elt tg iter scope pos) (fun a acc g0 env' A' ok ha => emit_sem ok ha) h
/-- one clause and a test -/
theorem WPE.compIf {elt tg iter c : Expr} {scope : Scope} {pos : Pos} {Q : MV → List MObj → Prop} (S : ScOk scope fi) (hs : ∀ env x, foldedSetIterable iter env x = pure x)
    (h : WPI B fi d tg iter ev H fun chk items H1 => chk (H1 ++ [.list []]) ∧ CompS B (fiC scope fi) d tg (some c) (emitI B (fiC scope fi) d H1.length elt) chk (fun _ H' => Q (.ref H1.length) H') items (evC scope fi ev) (H1 ++ [.list []])) :
    WPE B fi d (.ListComp elt [⟨tg, iter, [c], 0⟩] scope pos) ev H Q :=
  WPE.compG (inner := fun a => emitI B (fiC scope fi) d a elt) S hs (turn_if elt tg iter c scope pos) (fun a acc g0 env' A' ok ha => emit_sem ok ha) h
/-- two clauses -/
theorem WPE.comp2 {elt tg iter tg2 iter2 : Expr} {scope : Scope} {pos : Pos} {Q : MV → List MObj → Prop} (S : ScOk scope fi) (hs : ∀ env x, foldedSetIterable iter env x = pure x) (hs2 : ∀ env x, foldedSetIterable iter2 env x = pure x)
    (h : WPI B fi d tg iter ev H fun chk items H1 => chk (H1 ++ [.list []]) ∧ CompS B (fiC scope fi) d tg none (genI B (fiC scope fi) d H1.length tg2 iter2 elt) chk (fun _ H' => Q (.ref H1.length) H') items (evC scope fi ev) (H1 ++ [.list []])) :
    WPE B fi d (.ListComp elt [⟨tg, iter, [], 0⟩, ⟨tg2, iter2, [], 0⟩] scope pos) ev H Q :=
  WPE.compG (inner := fun a => genI B (fiC scope fi) d a tg2 iter2 elt) S hs (turn_gen elt tg iter tg2 iter2 scope pos) (fun a acc g0 env' A' ok ha => gen_sem ok ha hs2) h

/-- a name takes a comprehension's list: the stores are exchanged -/
theorem WP1.asgComp {x : Str} {xp pos spos : Pos} {elt tg iter : Expr} {scope : Scope} {i : Nat} {Qn : List MV → List MObj → Prop} {Qr : MV → List MObj → Prop} (S : ScOk scope fi) (hs : ∀ env x, foldedSetIterable iter env x = pure x)
    (hsw : ∀ env, env.scope.names = fi.ns → env.scope.kind = .function → swapsWith (.ListComp elt [⟨tg, iter, [], 0⟩] scope pos) (some (.Name x xp)) spos.line env = pure true) (hx : slot fi.ns x = some (i, .local))
    (h : WPI B fi d tg iter ev H fun chk items H1 => chk (H1 ++ [.list []]) ∧ CompS B (fiC scope fi) d tg none (emitI B (fiC scope fi) d H1.length elt) chk (fun _ H' => Qn (ev.set i (.ref H1.length)) H') items (evC scope fi ev) (H1 ++ [.list []])) :
    WP1 B fi d (.Assign [.Name x xp] (.ListComp elt [⟨tg, iter, [], 0⟩] scope pos) spos) ev H Qn Qr := fun A env Φ g s ok I => by
  show wpAny _ _ _ _ _ _
  rw [exec_Assign_Name_used _ _ _ _ (hsw env I.fr.names I.fr.kind)]
  refine wpAny_bind (wpAny_standAt (wpAny_bind ?_))
  rw [arm_evalThenUse_ListComp]
  refine wpAny_bind ?_
  refine comp_core (use := some (assign (.Name x xp) env)) (Qc := fun a _ H' => Qn (ev.set i (.ref a)) H') (inner := fun a => emitI B (fiC scope fi) d a elt) ok I S (hs env) (turn_emit elt tg iter scope pos) h (fun a acc g0 env' A' ok ha => emit_sem ok ha)
    fun a acc C g2 ev' H' s' l I' hσ hC ⟨m, hm⟩ q => ?_
  obtain ⟨o, es, ep, ho, hd, hr⟩ := hm
  have hnc : noCell (one C o) := fun b p v e => by obtain ⟨rfl, rfl⟩ := one_some e; rw [hd]; intro q; cases q
  obtain ⟨l1, I1, hΦ⟩ := I'.park (inP_one ho hC)
  refine assign_Name ((W_store I1 hx (.inl rfl) (.ref' (l1.σ _ _ hσ))).to fun g3 ev3 H3 u s3 l3 I3 hq1 => ?_)
  obtain ⟨q1, q2, q3⟩ := hq1
  subst q1 q2 q3
  obtain ⟨l4, I4, p4⟩ := I3.unpark hnc hΦ
  obtain ⟨h4, n4⟩ := p4 C o one_self
  exact ⟨m, ⟨o, es, ep, h4, hd, hr⟩, fun h' hs' => wpAny_pure (wpAny_pure ⟨_, _, _, ((l.trans l1).trans l3).trans l4, I4.stepBut n4 hs', q⟩)⟩
end
theorem fn68 : FnOk 68 [Str.ofString "self", Str.ofString "a_from", Str.ofString "a_to", Str.ofString "b_from", Str.ofString "b_to"] fi68 sb68.1 := ⟨fun B => f_at (P := fun e => LookK B.K e.1 e.2.1 e.2.2.1 e.2.2.2) B.kf.fn 0 rfl, by decide, by decide, by decide, rfl, by decide⟩
theorem fn110 : FnOk 110 [Str.ofString "self"] fi110 sb110.1 := ⟨fun B => f_at (P := fun e => LookK B.K e.1 e.2.1 e.2.2.1 e.2.2.2) B.kf.fn 1 rfl, by decide, by decide, by decide, rfl, by decide⟩
theorem fn117 : FnOk 117 [Str.ofString "self", Str.ofString "line"] fi117 sb117.1 := ⟨fun B => f_at (P := fun e => LookK B.K e.1 e.2.1 e.2.2.1 e.2.2.2) B.kf.fn 2 rfl, by decide, by decide, by decide, rfl, by decide⟩
theorem fn122 : FnOk 122 [Str.ofString "self", Str.ofString "lines"] fi122 sb122.1 := ⟨fun B => f_at (P := fun e => LookK B.K e.1 e.2.1 e.2.2.1 e.2.2.2) B.kf.fn 3 rfl, by decide, by decide, by decide, rfl, by decide⟩
theorem fn143 : FnOk 143 [Str.ofString "self", Str.ofString "a", Str.ofString "b"] fi143 sb143.1 := ⟨fun B => f_at (P := fun e => LookK B.K e.1 e.2.1 e.2.2.1 e.2.2.2) B.kf.fn 4 rfl, by decide, by decide, by decide, rfl, by decide⟩
theorem fn150 : FnOk 150 [Str.ofString "self"] fi150 sb150.1 := ⟨fun B => f_at (P := fun e => LookK B.K e.1 e.2.1 e.2.2.1 e.2.2.2) B.kf.fn 5 rfl, by decide, by decide, by decide, rfl, by decide⟩
theorem fn157 : FnOk 157 [Str.ofString "self", Str.ofString "part"] fi157 sb157.1 := ⟨fun B => f_at (P := fun e => LookK B.K e.1 e.2.1 e.2.2.1 e.2.2.2) B.kf.fn 6 rfl, by decide, by decide, by decide, rfl, by decide⟩
theorem fn164 : FnOk 164 [Str.ofString "self", Str.ofString "part"] fi164 sb164.1 := ⟨fun B => f_at (P := fun e => LookK B.K e.1 e.2.1 e.2.2.1 e.2.2.2) B.kf.fn 7 rfl, by decide, by decide, by decide, rfl, by decide⟩
theorem fn171 : FnOk 171 [Str.ofString "self"] fi171 sb171.1 := ⟨fun B => f_at (P := fun e => LookK B.K e.1 e.2.1 e.2.2.1 e.2.2.2) B.kf.fn 8 rfl, by decide, by decide, by decide, rfl, by decide⟩
theorem fn178 : FnOk 178 [Str.ofString "self", Str.ofString "part"] fi178 sb178.1 := ⟨fun B => f_at (P := fun e => LookK B.K e.1 e.2.1 e.2.2.1 e.2.2.2) B.kf.fn 9 rfl, by decide, by decide, by decide, rfl, by decide⟩
theorem fn185 : FnOk 185 [Str.ofString "self", Str.ofString "part"] fi185 sb185.1 := ⟨fun B => f_at (P := fun e => LookK B.K e.1 e.2.1 e.2.2.1 e.2.2.2) B.kf.fn 10 rfl, by decide, by decide, by decide, rfl, by decide⟩
theorem fn234 : FnOk 234 [Str.ofString "reach", Str.ofString "lane"] fi234 sb234.1 := ⟨fun B => f_at (P := fun e => LookK B.K e.1 e.2.1 e.2.2.1 e.2.2.2) B.kf.fn 11 rfl, by decide, by decide, by decide, rfl, by decide⟩
theorem fn248 : FnOk 248 [Str.ofString "a", Str.ofString "b"] fi248 sb248.1 := ⟨fun B => f_at (P := fun e => LookK B.K e.1 e.2.1 e.2.2.1 e.2.2.2) B.kf.fn 12 rfl, by decide, by decide, by decide, rfl, by decide⟩
theorem fn270 : FnOk 270 [Str.ofString "how", Str.ofString "a", Str.ofString "b"] fi270 sb270.1 := ⟨fun B => f_at (P := fun e => LookK B.K e.1 e.2.1 e.2.2.1 e.2.2.2) B.kf.fn 13 rfl, by decide, by decide, by decide, rfl, by decide⟩
theorem fn284 : FnOk 284 [Str.ofString "self", Str.ofString "word", Str.ofString "base", Str.ofString "ours", Str.ofString "theirs"] fi284 sb284.1 := ⟨fun B => f_at (P := fun e => LookK B.K e.1 e.2.1 e.2.2.1 e.2.2.2) B.kf.fn 14 rfl, by decide, by decide, by decide, rfl, by decide⟩
theorem fn291 : FnOk 291 [Str.ofString "self", Str.ofString "further"] fi291 sb291.1 := ⟨fun B => f_at (P := fun e => LookK B.K e.1 e.2.1 e.2.2.1 e.2.2.2) B.kf.fn 15 rfl, by decide, by decide, by decide, rfl, by decide⟩
theorem fn312 : FnOk 312 [Str.ofString "chunk", Str.ofString "how"] fi312 sb312.1 := ⟨fun B => f_at (P := fun e => LookK B.K e.1 e.2.1 e.2.2.1 e.2.2.2) B.kf.fn 16 rfl, by decide, by decide, by decide, rfl, by decide⟩
theorem fn319 : FnOk 319 [Str.ofString "chunk"] fi319 sb319.1 := ⟨fun B => f_at (P := fun e => LookK B.K e.1 e.2.1 e.2.2.1 e.2.2.2) B.kf.fn 17 rfl, by decide, by decide, by decide, rfl, by decide⟩
theorem fn326 : FnOk 326 [Str.ofString "pieces"] fi326 sb326.1 := ⟨fun B => f_at (P := fun e => LookK B.K e.1 e.2.1 e.2.2.1 e.2.2.2) B.kf.fn 18 rfl, by decide, by decide, by decide, rfl, by decide⟩
theorem fn333 : FnOk 333 [Str.ofString "found", Str.ofString "style", Str.ofString "how"] fi333 sb333.1 := ⟨fun B => f_at (P := fun e => LookK B.K e.1 e.2.1 e.2.2.1 e.2.2.2) B.kf.fn 19 rfl, by decide, by decide, by decide, rfl, by decide⟩
theorem fn340 : FnOk 340 [Str.ofString "deck", Str.ofString "below"] fi340 sb340.1 := ⟨fun B => f_at (P := fun e => LookK B.K e.1 e.2.1 e.2.2.1 e.2.2.2) B.kf.fn 20 rfl, by decide, by decide, by decide, rfl, by decide⟩
theorem fn345 : FnOk 345 [Str.ofString "deck"] fi345 sb345.1 := ⟨fun B => f_at (P := fun e => LookK B.K e.1 e.2.1 e.2.2.1 e.2.2.2) B.kf.fn 21 rfl, by decide, by decide, by decide, rfl, by decide⟩
theorem fn352 : FnOk 352 [Str.ofString "deck"] fi352 sb352.1 := ⟨fun B => f_at (P := fun e => LookK B.K e.1 e.2.1 e.2.2.1 e.2.2.2) B.kf.fn 22 rfl, by decide, by decide, by decide, rfl, by decide⟩
theorem fn359 : FnOk 359 [Str.ofString "chunk"] fi359 sb359.1 := ⟨fun B => f_at (P := fun e => LookK B.K e.1 e.2.1 e.2.2.1 e.2.2.2) B.kf.fn 23 rfl, by decide, by decide, by decide, rfl, by decide⟩
theorem fn366 : FnOk 366 [Str.ofString "one", Str.ofString "other"] fi366 sb366.1 := ⟨fun B => f_at (P := fun e => LookK B.K e.1 e.2.1 e.2.2.1 e.2.2.2) B.kf.fn 24 rfl, by decide, by decide, by decide, rfl, by decide⟩
theorem fn371 : FnOk 371 [Str.ofString "chunk", Str.ofString "pieces"] fi371 sb371.1 := ⟨fun B => f_at (P := fun e => LookK B.K e.1 e.2.1 e.2.2.1 e.2.2.2) B.kf.fn 25 rfl, by decide, by decide, by decide, rfl, by decide⟩
theorem fn378 : FnOk 378 [Str.ofString "chunk"] fi378 sb378.1 := ⟨fun B => f_at (P := fun e => LookK B.K e.1 e.2.1 e.2.2.1 e.2.2.2) B.kf.fn 26 rfl, by decide, by decide, by decide, rfl, by decide⟩
theorem fn383 : FnOk 383 [Str.ofString "told"] fi383 sb383.1 := ⟨fun B => f_at (P := fun e => LookK B.K e.1 e.2.1 e.2.2.1 e.2.2.2) B.kf.fn 27 rfl, by decide, by decide, by decide, rfl, by decide⟩
theorem ie68 (m0 m1 m2 m3 m4 : MV) : initEv fi68.ns [Str.ofString "self", Str.ofString "a_from", Str.ofString "a_to", Str.ofString "b_from", Str.ofString "b_to"] [m0, m1, m2, m3, m4] = [m0, m1, m2, m3, m4] := rfl
theorem ie110 (m0 : MV) : initEv fi110.ns [Str.ofString "self"] [m0] = [m0] := rfl
theorem ie117 (m0 m1 : MV) : initEv fi117.ns [Str.ofString "self", Str.ofString "line"] [m0, m1] = [m0, m1, .undef, .undef, .undef, .undef, .undef, .undef] := rfl
theorem ie122 (m0 m1 : MV) : initEv fi122.ns [Str.ofString "self", Str.ofString "lines"] [m0, m1] = [m0, m1] := rfl
theorem ie143 (m0 m1 m2 : MV) : initEv fi143.ns [Str.ofString "self", Str.ofString "a", Str.ofString "b"] [m0, m1, m2] = [m0, m1, m2, .undef, .undef, .undef] := rfl
theorem ie150 (m0 : MV) : initEv fi150.ns [Str.ofString "self"] [m0] = [m0, .undef] := rfl
theorem ie157 (m0 m1 : MV) : initEv fi157.ns [Str.ofString "self", Str.ofString "part"] [m0, m1] = [m0, m1, .undef, .undef, .undef, .undef] := rfl
theorem ie164 (m0 m1 : MV) : initEv fi164.ns [Str.ofString "self", Str.ofString "part"] [m0, m1] = [m0, m1, .undef, .undef, .undef, .undef, .undef, .undef] := rfl
theorem ie171 (m0 : MV) : initEv fi171.ns [Str.ofString "self"] [m0] = [m0, .undef, .undef, .undef, .undef, .undef, .undef, .undef] := rfl
theorem ie178 (m0 m1 : MV) : initEv fi178.ns [Str.ofString "self", Str.ofString "part"] [m0, m1] = [m0, m1, .undef, .undef, .undef, .undef, .undef, .undef, .undef, .undef, .undef, .undef, .undef, .undef, .undef, .undef, .undef] := rfl
theorem ie185 (m0 m1 : MV) : initEv fi185.ns [Str.ofString "self", Str.ofString "part"] [m0, m1] = [m0, m1, .undef, .undef, .undef, .undef, .undef, .undef, .undef] := rfl
theorem ie234 (m0 m1 : MV) : initEv fi234.ns [Str.ofString "reach", Str.ofString "lane"] [m0, m1] = [m0, m1, .undef] := rfl
theorem ie248 (m0 m1 : MV) : initEv fi248.ns [Str.ofString "a", Str.ofString "b"] [m0, m1] = [m0, m1, .undef, .undef] := rfl
theorem ie270 (m0 m1 m2 : MV) : initEv fi270.ns [Str.ofString "how", Str.ofString "a", Str.ofString "b"] [m0, m1, m2] = [m0, m1, m2, .undef, .undef, .undef, .undef] := rfl
theorem ie284 (m0 m1 m2 m3 m4 : MV) : initEv fi284.ns [Str.ofString "self", Str.ofString "word", Str.ofString "base", Str.ofString "ours", Str.ofString "theirs"] [m0, m1, m2, m3, m4] = [m0, m1, m2, m3, m4] := rfl
theorem ie291 (m0 m1 : MV) : initEv fi291.ns [Str.ofString "self", Str.ofString "further"] [m0, m1] = [m0, m1, .undef, .undef] := rfl
theorem ie312 (m0 m1 : MV) : initEv fi312.ns [Str.ofString "chunk", Str.ofString "how"] [m0, m1] = [m0, m1, .undef, .undef, .undef, .undef, .undef, .undef, .undef, .undef, .undef, .undef] := rfl
theorem ie319 (m0 : MV) : initEv fi319.ns [Str.ofString "chunk"] [m0] = [m0, .undef, .undef, .undef, .undef, .undef, .undef, .undef, .undef, .undef, .undef, .undef, .undef, .undef] := rfl
theorem ie326 (m0 : MV) : initEv fi326.ns [Str.ofString "pieces"] [m0] = [m0, .undef, .undef, .undef, .undef, .undef, .undef, .undef, .undef, .undef, .undef, .undef] := rfl
theorem ie333 (m0 m1 m2 : MV) : initEv fi333.ns [Str.ofString "found", Str.ofString "style", Str.ofString "how"] [m0, m1, m2] = [m0, m1, m2, .undef, .undef, .undef, .undef, .undef, .undef] := rfl
theorem ie340 (m0 m1 : MV) : initEv fi340.ns [Str.ofString "deck", Str.ofString "below"] [m0, m1] = [m0, m1, .undef, .undef, .undef, .undef] := rfl
theorem ie345 (m0 : MV) : initEv fi345.ns [Str.ofString "deck"] [m0] = [m0, .undef, .undef] := rfl
theorem ie352 (m0 : MV) : initEv fi352.ns [Str.ofString "deck"] [m0] = [m0, .undef, .undef, .undef, .undef, .undef, .undef, .undef] := rfl
theorem ie359 (m0 : MV) : initEv fi359.ns [Str.ofString "chunk"] [m0] = [m0, .undef] := rfl
theorem ie366 (m0 m1 : MV) : initEv fi366.ns [Str.ofString "one", Str.ofString "other"] [m0, m1] = [m0, m1, .undef, .undef, .undef, .undef, .undef, .undef, .undef, .undef] := rfl
theorem ie371 (m0 m1 : MV) : initEv fi371.ns [Str.ofString "chunk", Str.ofString "pieces"] [m0, m1] = [m0, m1, .undef, .undef, .undef, .undef, .undef, .undef, .undef, .undef, .undef, .undef] := rfl
theorem ie378 (m0 : MV) : initEv fi378.ns [Str.ofString "chunk"] [m0] = [m0, .undef, .undef, .undef, .undef, .undef, .undef] := rfl
theorem ie383 (m0 : MV) : initEv fi383.ns [Str.ofString "told"] [m0] = [m0, .undef, .undef, .undef, .undef, .undef, .undef, .undef, .undef] := rfl
theorem ie388 (m0 : MV) : initEv fi388.ns [Str.ofString "script"] [m0] = [m0, .undef, .undef, .undef, .undef, .undef, .undef, .undef, .undef, .undef, .undef, .undef, .undef, .undef, .undef, .undef, .undef, .undef, .undef, .undef, .undef, .undef, .undef] := rfl
section
variable {B : Bs} {fi : FI} {d : Nat} {ev : List MV} {H : List MObj} {pos : Pos} {Q : MV → List MObj → Prop}
theorem gl_line_further (hs : fi.ns.lookup (Str.ofString "line_further") = some .globalImplicit) (h : Q (.con (.ref 234)) H) : WPE B fi d (.Name (Str.ofString "line_further") pos) ev H Q :=
  WPE.glob (v := .ref 234) hs (l_at B.kf.nm 0 rfl) (fun g => .con') rfl h
theorem gl_myers (hs : fi.ns.lookup (Str.ofString "myers") = some .globalImplicit) (h : Q (.con (.ref 248)) H) : WPE B fi d (.Name (Str.ofString "myers") pos) ev H Q :=
  WPE.glob (v := .ref 248) hs (l_at B.kf.nm 1 rfl) (fun g => .con') rfl h
theorem gl_by (hs : fi.ns.lookup (Str.ofString "by") = some .globalImplicit) (h : Q (.con (.ref 270)) H) : WPE B fi d (.Name (Str.ofString "by") pos) ev H Q :=
  WPE.glob (v := .ref 270) hs (l_at B.kf.nm 2 rfl) (fun g => .con') rfl h
theorem gl_conflict_parted (hs : fi.ns.lookup (Str.ofString "conflict_parted") = some .globalImplicit) (h : Q (.con (.ref 312)) H) : WPE B fi d (.Name (Str.ofString "conflict_parted") pos) ev H Q :=
  WPE.glob (v := .ref 312) hs (l_at B.kf.nm 3 rfl) (fun g => .con') rfl h
theorem gl_conflict_trimmed (hs : fi.ns.lookup (Str.ofString "conflict_trimmed") = some .globalImplicit) (h : Q (.con (.ref 319)) H) : WPE B fi d (.Name (Str.ofString "conflict_trimmed") pos) ev H Q :=
  WPE.glob (v := .ref 319) hs (l_at B.kf.nm 4 rfl) (fun g => .con') rfl h
theorem gl_conflicts_closed_up (hs : fi.ns.lookup (Str.ofString "conflicts_closed_up") = some .globalImplicit) (h : Q (.con (.ref 326)) H) : WPE B fi d (.Name (Str.ofString "conflicts_closed_up") pos) ev H Q :=
  WPE.glob (v := .ref 326) hs (l_at B.kf.nm 5 rfl) (fun g => .con') rfl h
theorem gl_conflict_pieces (hs : fi.ns.lookup (Str.ofString "conflict_pieces") = some .globalImplicit) (h : Q (.con (.ref 333)) H) : WPE B fi d (.Name (Str.ofString "conflict_pieces") pos) ev H Q :=
  WPE.glob (v := .ref 333) hs (l_at B.kf.nm 6 rfl) (fun g => .con') rfl h
theorem gl_law_draw (hs : fi.ns.lookup (Str.ofString "_law_draw") = some .globalImplicit) (h : Q (.con (.ref 340)) H) : WPE B fi d (.Name (Str.ofString "_law_draw") pos) ev H Q :=
  WPE.glob (v := .ref 340) hs (l_at B.kf.nm 7 rfl) (fun g => .con') rfl h
theorem gl_law_lines (hs : fi.ns.lookup (Str.ofString "_law_lines") = some .globalImplicit) (h : Q (.con (.ref 345)) H) : WPE B fi d (.Name (Str.ofString "_law_lines") pos) ev H Q :=
  WPE.glob (v := .ref 345) hs (l_at B.kf.nm 8 rfl) (fun g => .con') rfl h
theorem gl_law_chunk (hs : fi.ns.lookup (Str.ofString "_law_chunk") = some .globalImplicit) (h : Q (.con (.ref 352)) H) : WPE B fi d (.Name (Str.ofString "_law_chunk") pos) ev H Q :=
  WPE.glob (v := .ref 352) hs (l_at B.kf.nm 9 rfl) (fun g => .con') rfl h
theorem gl_law_told (hs : fi.ns.lookup (Str.ofString "_law_told") = some .globalImplicit) (h : Q (.con (.ref 359)) H) : WPE B fi d (.Name (Str.ofString "_law_told") pos) ev H Q :=
  WPE.glob (v := .ref 359) hs (l_at B.kf.nm 10 rfl) (fun g => .con') rfl h
theorem gl_law_longest (hs : fi.ns.lookup (Str.ofString "_law_longest") = some .globalImplicit) (h : Q (.con (.ref 366)) H) : WPE B fi d (.Name (Str.ofString "_law_longest") pos) ev H Q :=
  WPE.glob (v := .ref 366) hs (l_at B.kf.nm 11 rfl) (fun g => .con') rfl h
theorem gl_law_is_parted (hs : fi.ns.lookup (Str.ofString "_law_is_parted") = some .globalImplicit) (h : Q (.con (.ref 371)) H) : WPE B fi d (.Name (Str.ofString "_law_is_parted") pos) ev H Q :=
  WPE.glob (v := .ref 371) hs (l_at B.kf.nm 12 rfl) (fun g => .con') rfl h
theorem gl_law_trimmed (hs : fi.ns.lookup (Str.ofString "_law_trimmed") = some .globalImplicit) (h : Q (.con (.ref 378)) H) : WPE B fi d (.Name (Str.ofString "_law_trimmed") pos) ev H Q :=
  WPE.glob (v := .ref 378) hs (l_at B.kf.nm 13 rfl) (fun g => .con') rfl h
theorem gl_law_closed (hs : fi.ns.lookup (Str.ofString "_law_closed") = some .globalImplicit) (h : Q (.con (.ref 383)) H) : WPE B fi d (.Name (Str.ofString "_law_closed") pos) ev H Q :=
  WPE.glob (v := .ref 383) hs (l_at B.kf.nm 14 rfl) (fun g => .con') rfl h
theorem gl_Change (hs : fi.ns.lookup (Str.ofString "Change") = some .globalImplicit) (h : Q (.con (.ref 92)) H) : WPE B fi d (.Name (Str.ofString "Change") pos) ev H Q :=
  WPE.glob (v := .ref 92) hs (l_at B.kf.nm 15 rfl) (fun g => .con') rfl h
theorem gl_LineNumbers (hs : fi.ns.lookup (Str.ofString "LineNumbers") = some .globalImplicit) (h : Q (.con (.ref 125)) H) : WPE B fi d (.Name (Str.ofString "LineNumbers") pos) ev H Q :=
  WPE.glob (v := .ref 125) hs (l_at B.kf.nm 16 rfl) (fun g => .con') rfl h
theorem gl_LineSheet (hs : fi.ns.lookup (Str.ofString "LineSheet") = some .globalImplicit) (h : Q (.con (.ref 223)) H) : WPE B fi d (.Name (Str.ofString "LineSheet") pos) ev H Q :=
  WPE.glob (v := .ref 223) hs (l_at B.kf.nm 17 rfl) (fun g => .con') rfl h
theorem gl_Chunk (hs : fi.ns.lookup (Str.ofString "Chunk") = some .globalImplicit) (h : Q (.con (.ref 301)) H) : WPE B fi d (.Name (Str.ofString "Chunk") pos) ev H Q :=
  WPE.glob (v := .ref 301) hs (l_at B.kf.nm 18 rfl) (fun g => .con') rfl h
theorem gl_OURS (hs : fi.ns.lookup (Str.ofString "OURS") = some .globalImplicit) (h : Q (.str (Str.ofString "ours")) H) : WPE B fi d (.Name (Str.ofString "OURS") pos) ev H Q :=
  WPE.glob (v := .str (Str.ofString "ours") 610) hs (l_at B.kf.nm 19 rfl) (fun g => .str') rfl h
theorem gl_THEIRS (hs : fi.ns.lookup (Str.ofString "THEIRS") = some .globalImplicit) (h : Q (.str (Str.ofString "theirs")) H) : WPE B fi d (.Name (Str.ofString "THEIRS") pos) ev H Q :=
  WPE.glob (v := .str (Str.ofString "theirs") 612) hs (l_at B.kf.nm 20 rfl) (fun g => .str') rfl h
theorem gl_BOTH (hs : fi.ns.lookup (Str.ofString "BOTH") = some .globalImplicit) (h : Q (.str (Str.ofString "both")) H) : WPE B fi d (.Name (Str.ofString "BOTH") pos) ev H Q :=
  WPE.glob (v := .str (Str.ofString "both") 614) hs (l_at B.kf.nm 21 rfl) (fun g => .str') rfl h
theorem gl_CONFLICT (hs : fi.ns.lookup (Str.ofString "CONFLICT") = some .globalImplicit) (h : Q (.str (Str.ofString "conflict")) H) : WPE B fi d (.Name (Str.ofString "CONFLICT") pos) ev H Q :=
  WPE.glob (v := .str (Str.ofString "conflict") 616) hs (l_at B.kf.nm 22 rfl) (fun g => .str') rfl h
theorem gl_SHORT (hs : fi.ns.lookup (Str.ofString "SHORT") = some .globalImplicit) (h : Q (.int 3) H) : WPE B fi d (.Name (Str.ofString "SHORT") pos) ev H Q :=
  WPE.glob (v := .int 3 618) hs (l_at B.kf.nm 23 rfl) (fun g => .int') rfl h
theorem gl_len (hs : fi.ns.lookup (Str.ofString "len") = some .globalImplicit) (h : Q (.con (.builtin "len")) H) : WPE B fi d (.Name (Str.ofString "len") pos) ev H Q :=
  WPE.bi hs (l_at B.kf.nm 24 rfl) (by kernel_rfl) (by decide) rfl h
theorem gl_min (hs : fi.ns.lookup (Str.ofString "min") = some .globalImplicit) (h : Q (.con (.builtin "min")) H) : WPE B fi d (.Name (Str.ofString "min") pos) ev H Q :=
  WPE.bi hs (l_at B.kf.nm 25 rfl) (by kernel_rfl) (by decide) rfl h
theorem gl_max (hs : fi.ns.lookup (Str.ofString "max") = some .globalImplicit) (h : Q (.con (.builtin "max")) H) : WPE B fi d (.Name (Str.ofString "max") pos) ev H Q :=
  WPE.bi hs (l_at B.kf.nm 26 rfl) (by kernel_rfl) (by decide) rfl h
theorem gl_isinstance (hs : fi.ns.lookup (Str.ofString "isinstance") = some .globalImplicit) (h : Q (.con (.builtin "isinstance")) H) : WPE B fi d (.Name (Str.ofString "isinstance") pos) ev H Q :=
  WPE.bi hs (l_at B.kf.nm 27 rfl) (by kernel_rfl) (by decide) rfl h
theorem gl_sum (hs : fi.ns.lookup (Str.ofString "sum") = some .globalImplicit) (h : Q (.con (.builtin "sum")) H) : WPE B fi d (.Name (Str.ofString "sum") pos) ev H Q :=
  WPE.bi hs (l_at B.kf.nm 28 rfl) (by kernel_rfl) (by decide) rfl h
theorem gl_list (hs : fi.ns.lookup (Str.ofString "list") = some .globalImplicit) (h : Q (.con (.type "list")) H) : WPE B fi d (.Name (Str.ofString "list") pos) ev H Q :=
  WPE.bi hs (l_at B.kf.nm 29 rfl) (by kernel_rfl) (by decide) rfl h
theorem gl_range (hs : fi.ns.lookup (Str.ofString "range") = some .globalImplicit) (h : Q (.con (.type "range")) H) : WPE B fi d (.Name (Str.ofString "range") pos) ev H Q :=
  WPE.bi hs (l_at B.kf.nm 30 rfl) (by kernel_rfl) (by decide) rfl h
theorem gl_enumerate (hs : fi.ns.lookup (Str.ofString "enumerate") = some .globalImplicit) (h : Q (.con (.type "enumerate")) H) : WPE B fi d (.Name (Str.ofString "enumerate") pos) ev H Q :=
  WPE.bi hs (l_at B.kf.nm 31 rfl) (by kernel_rfl) (by decide) rfl h
theorem gl_zip (hs : fi.ns.lookup (Str.ofString "zip") = some .globalImplicit) (h : Q (.con (.type "zip")) H) : WPE B fi d (.Name (Str.ofString "zip") pos) ev H Q :=
  WPE.bi hs (l_at B.kf.nm 32 rfl) (by kernel_rfl) (by decide) rfl h
theorem gl_bytes (hs : fi.ns.lookup (Str.ofString "bytes") = some .globalImplicit) (h : Q (.con (.type "bytes")) H) : WPE B fi d (.Name (Str.ofString "bytes") pos) ev H Q :=
  WPE.bi hs (l_at B.kf.nm 33 rfl) (by kernel_rfl) (by decide) rfl h
theorem gl_str (hs : fi.ns.lookup (Str.ofString "str") = some .globalImplicit) (h : Q (.con (.type "str")) H) : WPE B fi d (.Name (Str.ofString "str") pos) ev H Q :=
  WPE.bi hs (l_at B.kf.nm 34 rfl) (by kernel_rfl) (by decide) rfl h
end
theorem kp_ok (B : Bs) {a : Addr} (h : kpL.elem a = true) : calleeOk B (.con (.ref a)) = true := List.all_eq_true.mp B.kf.kp a (List.elem_iff.mp h)
theorem at_ok (B : Bs) {C : Addr} {x : Str} (h : atL.elem (C, x) = true) : attrOk B C x = true ∧ setOk B C x = true := Bool.and_eq_true_iff.mp (List.all_eq_true.mp B.kf.at_ (C, x) (List.elem_iff.mp h))
theorem cl_ok (B : Bs) {C f : Addr} (h : clL.elem (C, f) = true) : makesIn (Kw B) C = true ∧ findIn (Kw B) (.ref C) "__init__" = some (some (.ref f)) ∧ typeIn (Kw B) (.ref f) = some (.type "function") := by
  have := (List.map_inj_left.mp B.kf.cl) (C, f) (List.elem_iff.mp h)
  simp only [Prod.mk.injEq] at this; exact this
theorem me_ok (B : Bs) {C f : Addr} {x : Str} (h : meL.elem (C, x, f) = true) : plainGet (Kw B) C x = true ∧ findIn (Kw B) (.ref C) x = some (some (.ref f)) ∧ isFn (Kw B) (.ref f) = true ∧ keepIn (Kw B) (.ref f) = true := by
  have := (List.map_inj_left.mp B.kf.me) (C, x, f) (List.elem_iff.mp h)
  simp only [Prod.mk.injEq] at this; exact this
@[irreducible] noncomputable def Stop (P : Prop) : Prop := P
theorem Stop.of {P : Prop} (h : P) : Stop P := by unfold Stop; exact h
theorem Stop.un {P : Prop} (h : Stop P) : P := by unfold Stop at h; exact h
noncomputable abbrev Line := Fin 3
noncomputable def lineOf : Line → List UInt8
  | 0 => [97, 10]
  | 1 => [98, 10]
  | 2 => [99, 10]
noncomputable def lb (x : Line) : MV := .bytes (lineOf x)
theorem lineOf_beq (x y : Line) : (lineOf x == lineOf y) = (x == y) := by revert x y; decide
inductive Wd where
  | same | ours | theirs | both | conflict
deriving DecidableEq
noncomputable def wS : Wd → Str
  | .same => Str.ofString "same"
  | .ours => Str.ofString "ours"
  | .theirs => Str.ofString "theirs"
  | .both => Str.ofString "both"
  | .conflict => Str.ofString "conflict"
theorem wS_beq (x y : Wd) : (wS x == wS y) = (decide (x = y)) := by cases x <;> cases y <;> decide

noncomputable def Ext (H H' : List MObj) : Prop := ∀ (i : Nat) (o : MObj), H[i]? = some o → H'[i]? = some o
theorem Ext.refl (H : List MObj) : Ext H H := fun _ _ h => h
theorem Ext.trans {a b c : List MObj} (x : Ext a b) (y : Ext b c) : Ext a c := fun i o h => y i o (x i o h)
theorem Ext.app (H : List MObj) (X : List MObj) : Ext H (H ++ X) := fun i o h => by rw [List.getElem?_append_left (List.getElem?_eq_some_iff.mp h).1]; exact h
theorem at_last (H : List MObj) (o : MObj) : (H ++ [o])[H.length]? = some o := by simp
theorem at_lastI {H : List MObj} {o : MObj} {i : Nat} (h : H.length = i) : (H ++ [o])[i]? = some o := h ▸ at_last H o
theorem lt_of_at {H : List MObj} {i : Nat} {o : MObj} (h : H[i]? = some o) : i < H.length := (List.getElem?_eq_some_iff.mp h).1
theorem at_set {H : List MObj} {i : Nat} {o : MObj} (h : i < H.length) : (H.set i o)[i]? = some o := List.getElem?_set_self h
theorem at_set_ne {H : List MObj} {i j : Nat} {o x : MObj} (h : H[j]? = some x) (hne : i ≠ j) : (H.set i o)[j]? = some x := by rw [List.getElem?_set_ne hne]; exact h
theorem at_app {H X : List MObj} {i : Nat} {o : MObj} (h : H[i]? = some o) : (H ++ X)[i]? = some o := Ext.app H X i o h
theorem Ext.get {H H' : List MObj} {i : Nat} {o : MObj} (x : Ext H H') (h : H[i]? = some o) : H'[i]? = some o := x i o h
theorem Ext.len {H H' : List MObj} (x : Ext H H') : H.length ≤ H'.length := by
  rcases Nat.eq_zero_or_pos H.length with h | h
  · lia
  · have := lt_of_at (x (H.length - 1) _ (List.getElem?_eq_getElem (by lia))); lia
/-- all but what is listed stays -/
noncomputable def ExtM (M : List Nat) (H H' : List MObj) : Prop := ∀ (i : Nat) (o : MObj), i ∉ M → H[i]? = some o → H'[i]? = some o
theorem ExtM.refl {M : List Nat} (H : List MObj) : ExtM M H H := fun _ _ _ h => h
theorem ExtM.trans {M : List Nat} {a b c : List MObj} (x : ExtM M a b) (y : ExtM M b c) : ExtM M a c := fun i o n h => y i o n (x i o n h)
theorem Ext.toM {M : List Nat} {a b : List MObj} (x : Ext a b) : ExtM M a b := fun i o _ h => x i o h
theorem ExtM.set {M : List Nat} {H : List MObj} {i : Nat} {o : MObj} (h : i ∈ M) : ExtM M H (H.set i o) := fun j x n e => at_set_ne e (fun q => n (q ▸ h))
theorem ExtM.mono {M M' : List Nat} {a b : List MObj} (x : ExtM M a b) (h : ∀ i, i ∈ M → i ∈ M') : ExtM M' a b := fun i o n e => x i o (fun q => n (h i q)) e
/-- what is set was new -/
theorem Ext.set_new {H H' : List MObj} {i : Nat} {o : MObj} (x : Ext H H') (h : H.length ≤ i) : Ext H (H'.set i o) := fun j p e => at_set_ne (x j p e) (by have := lt_of_at e; lia)

structure Ck where
  word : Wd
  base : List Line
  ours : List Line
  theirs : List Line
noncomputable abbrev Ls (ls : List Line) : MObj := .list (ls.map lb)
noncomputable def ckF (w : Str) (b o t : Nat) : List (Str × MV) := [(Str.ofString "word", .str w), (Str.ofString "base", .ref b), (Str.ofString "ours", .ref o), (Str.ofString "theirs", .ref t)]
noncomputable def RCk (H : List MObj) (m : MV) (k : Ck) : Prop := ∃ c b o t, m = .ref c ∧ H[c]? = some (.inst 301 (ckF (wS k.word) b o t)) ∧ H[b]? = some (Ls k.base) ∧ H[o]? = some (Ls k.ours) ∧ H[t]? = some (Ls k.theirs)
/-- the same, its numbers within P -/
noncomputable def RC (P : Nat → Prop) (H : List MObj) (m : MV) (k : Ck) : Prop := ∃ c b o t, m = .ref c ∧ (P c ∧ P b ∧ P o ∧ P t) ∧ H[c]? = some (.inst 301 (ckF (wS k.word) b o t)) ∧ H[b]? = some (Ls k.base) ∧ H[o]? = some (Ls k.ours) ∧ H[t]? = some (Ls k.theirs)
theorem RC.rck {P : Nat → Prop} {H : List MObj} {m : MV} {k : Ck} (h : RC P H m k) : RCk H m k := by
  obtain ⟨c, b, o, t, e, p, h1, h2, h3, h4⟩ := h
  exact ⟨c, b, o, t, e, h1, h2, h3, h4⟩
theorem RC.mono {P P' : Nat → Prop} {H : List MObj} {m : MV} {k : Ck} (h : RC P H m k) (f : ∀ i, i < H.length → P i → P' i) : RC P' H m k := by
  obtain ⟨c, b, o, t, e, p, h1, h2, h3, h4⟩ := h
  exact ⟨c, b, o, t, e, ⟨f _ (lt_of_at h1) p.1, f _ (lt_of_at h2) p.2.1, f _ (lt_of_at h3) p.2.2.1, f _ (lt_of_at h4) p.2.2.2⟩, h1, h2, h3, h4⟩
theorem RC.of {P : Nat → Prop} {H : List MObj} {m : MV} {k : Ck} (h : RCk H m k) (f : ∀ i, i < H.length → P i) : RC P H m k := by
  obtain ⟨c, b, o, t, e, h1, h2, h3, h4⟩ := h
  exact ⟨c, b, o, t, e, ⟨f _ (lt_of_at h1), f _ (lt_of_at h2), f _ (lt_of_at h3), f _ (lt_of_at h4)⟩, h1, h2, h3, h4⟩
theorem RC.ext {P : Nat → Prop} {H H' : List MObj} {m : MV} {k : Ck} (h : RC P H m k) (x : Ext H H') : RC P H' m k := by
  obtain ⟨c, b, o, t, e, p, h1, h2, h3, h4⟩ := h
  exact ⟨c, b, o, t, e, p, x _ _ h1, x _ _ h2, x _ _ h3, x _ _ h4⟩
theorem RC.extM {M : List Nat} {H H' : List MObj} {m : MV} {k : Ck} (h : RC (fun i => i ∉ M) H m k) (x : ExtM M H H') : RC (fun i => i ∉ M) H' m k := by
  obtain ⟨c, b, o, t, e, p, h1, h2, h3, h4⟩ := h
  exact ⟨c, b, o, t, e, p, x _ _ p.1 h1, x _ _ p.2.1 h2, x _ _ p.2.2.1 h3, x _ _ p.2.2.2 h4⟩
theorem RC.set {j : Nat} {H : List MObj} {m : MV} {k : Ck} {x : MObj} (h : RC (· ≠ j) H m k) : RC (· ≠ j) (H.set j x) m k := by
  obtain ⟨c, b, o, t, e, p, h1, h2, h3, h4⟩ := h
  exact ⟨c, b, o, t, e, p, at_set_ne h1 p.1.symm, at_set_ne h2 p.2.1.symm, at_set_ne h3 p.2.2.1.symm, at_set_ne h4 p.2.2.2.symm⟩
theorem RC.setP {P : Nat → Prop} {j : Nat} {H : List MObj} {m : MV} {k : Ck} {x : MObj} (h : RC P H m k) (hP : ∀ i, P i → j ≠ i) : RC P (H.set j x) m k := by
  obtain ⟨c, b, o, t, e, p, h1, h2, h3, h4⟩ := h
  exact ⟨c, b, o, t, e, p, at_set_ne h1 (hP _ p.1), at_set_ne h2 (hP _ p.2.1), at_set_ne h3 (hP _ p.2.2.1), at_set_ne h4 (hP _ p.2.2.2)⟩
theorem at_eq {H : List MObj} {i : Nat} {o o' : MObj} (h : H[i]? = some o) (e : o = o') : H[i]? = some o' := e ▸ h
theorem Ext.app' {H X Y : List MObj} (h : Ext H X) : Ext H (X ++ Y) := h.trans (Ext.app _ _)
noncomputable def RTd (H : List MObj) (m : MV) (k : Ck) : Prop := ∃ b o t, m = .tup [.str (wS k.word), .ref b, .ref o, .ref t] ∧ H[b]? = some (Ls k.base) ∧ H[o]? = some (Ls k.ours) ∧ H[t]? = some (Ls k.theirs)
noncomputable def RTp (P : Nat → Prop) (H : List MObj) (m : MV) (k : Ck) : Prop := ∃ b o t, m = .tup [.str (wS k.word), .ref b, .ref o, .ref t] ∧ (P b ∧ P o ∧ P t) ∧ H[b]? = some (Ls k.base) ∧ H[o]? = some (Ls k.ours) ∧ H[t]? = some (Ls k.theirs)
theorem RTp.td {P : Nat → Prop} {H : List MObj} {m : MV} {k : Ck} (h : RTp P H m k) : RTd H m k := by
  obtain ⟨b, o, t, e, p, h2, h3, h4⟩ := h
  exact ⟨b, o, t, e, h2, h3, h4⟩
theorem RTp.mono {P P' : Nat → Prop} {H : List MObj} {m : MV} {k : Ck} (h : RTp P H m k) (f : ∀ i, i < H.length → P i → P' i) : RTp P' H m k := by
  obtain ⟨b, o, t, e, p, h2, h3, h4⟩ := h
  exact ⟨b, o, t, e, ⟨f _ (lt_of_at h2) p.1, f _ (lt_of_at h3) p.2.1, f _ (lt_of_at h4) p.2.2⟩, h2, h3, h4⟩
theorem RTp.of {P : Nat → Prop} {H : List MObj} {m : MV} {k : Ck} (h : RTd H m k) (f : ∀ i, i < H.length → P i) : RTp P H m k := by
  obtain ⟨b, o, t, e, h2, h3, h4⟩ := h
  exact ⟨b, o, t, e, ⟨f _ (lt_of_at h2), f _ (lt_of_at h3), f _ (lt_of_at h4)⟩, h2, h3, h4⟩
theorem RTp.ext {P : Nat → Prop} {H H' : List MObj} {m : MV} {k : Ck} (h : RTp P H m k) (x : Ext H H') : RTp P H' m k := by
  obtain ⟨b, o, t, e, p, h2, h3, h4⟩ := h
  exact ⟨b, o, t, e, p, x _ _ h2, x _ _ h3, x _ _ h4⟩
theorem RTp.extM {P : Nat → Prop} {M : List Nat} {H H' : List MObj} {m : MV} {k : Ck} (h : RTp P H m k) (x : ExtM M H H') (hP : ∀ i, P i → i ∉ M) : RTp P H' m k := by
  obtain ⟨b, o, t, e, p, h2, h3, h4⟩ := h
  exact ⟨b, o, t, e, p, x _ _ (hP _ p.1) h2, x _ _ (hP _ p.2.1) h3, x _ _ (hP _ p.2.2) h4⟩
theorem RTp.setP {P : Nat → Prop} {j : Nat} {H : List MObj} {m : MV} {k : Ck} {x : MObj} (h : RTp P H m k) (hP : ∀ i, P i → j ≠ i) : RTp P (H.set j x) m k := by
  obtain ⟨b, o, t, e, p, h2, h3, h4⟩ := h
  exact ⟨b, o, t, e, p, at_set_ne h2 (hP _ p.1), at_set_ne h3 (hP _ p.2.1), at_set_ne h4 (hP _ p.2.2)⟩
theorem RTp.i {P : Nat → Prop} {H : List MObj} {b o t : Nat} {w : Wd} {x y z : List Line} (hb : H[b]? = some (Ls x)) (ho : H[o]? = some (Ls y)) (ht : H[t]? = some (Ls z)) (p1 : P b) (p2 : P o) (p3 : P t) : RTp P H (.tup [.str (wS w), .ref b, .ref o, .ref t]) ⟨w, x, y, z⟩ := ⟨b, o, t, rfl, ⟨p1, p2, p3⟩, hb, ho, ht⟩
/-- lists of them -/
inductive All2 {α : Type} (R : MV → α → Prop) : List MV → List α → Prop
  | nil : All2 R [] []
  | cons {m a ms as} : R m a → All2 R ms as → All2 R (m :: ms) (a :: as)
theorem All2.mono {α : Type} {R R' : MV → α → Prop} {ms : List MV} {as : List α} (h : All2 R ms as) (k : ∀ m a, R m a → R' m a) : All2 R' ms as := by
  induction h with
  | nil => exact .nil
  | cons x _ ih => exact .cons (k _ _ x) ih
theorem All2.length {α : Type} {R : MV → α → Prop} {ms : List MV} {as : List α} (h : All2 R ms as) : ms.length = as.length := by
  induction h with
  | nil => rfl
  | cons _ _ ih => simp [ih]
theorem All2.app {α : Type} {R : MV → α → Prop} {ms ns : List MV} {as bs : List α} (h : All2 R ms as) (k : All2 R ns bs) : All2 R (ms ++ ns) (as ++ bs) := by
  induction h with
  | nil => exact k
  | cons x _ ih => exact .cons x ih
theorem All2.get {α : Type} {R : MV → α → Prop} {ms : List MV} {as : List α} (h : All2 R ms as) {i : Nat} {a : α} (e : as[i]? = some a) : ∃ m, ms[i]? = some m ∧ R m a := by
  induction h generalizing i with
  | nil => cases e
  | cons x _ ih => cases i with
    | zero => cases e; exact ⟨_, rfl, x⟩
    | succ i => exact ih e
theorem All2.take {α : Type} {R : MV → α → Prop} {ms : List MV} {as : List α} (h : All2 R ms as) (n : Nat) : All2 R (ms.take n) (as.take n) := by
  induction h generalizing n with
  | nil => simp; exact .nil
  | cons x _ ih => cases n with
    | zero => exact .nil
    | succ n => exact .cons x (ih n)
theorem All2.drop {α : Type} {R : MV → α → Prop} {ms : List MV} {as : List α} (h : All2 R ms as) (n : Nat) : All2 R (ms.drop n) (as.drop n) := by
  induction h generalizing n with
  | nil => simp; exact .nil
  | cons x h ih => cases n with
    | zero => exact .cons x h
    | succ n => exact ih n
noncomputable def Ck.small (k : Ck) (n : Nat) : Prop := k.base.length ≤ n ∧ k.ours.length ≤ n ∧ k.theirs.length ≤ n
theorem RCk.ext {H H' : List MObj} {m : MV} {k : Ck} (h : RCk H m k) (x : Ext H H') : RCk H' m k := by
  obtain ⟨c, b, o, t, e, h1, h2, h3, h4⟩ := h
  exact ⟨c, b, o, t, e, x _ _ h1, x _ _ h2, x _ _ h3, x _ _ h4⟩
/-- told anew: all three new, behind n, two of them not one -/
noncomputable def RTm (n : Nat) (H : List MObj) (m : MV) (k : Ck) : Prop := ∃ b o t, m = .tup [.str (wS k.word), .ref b, .ref o, .ref t] ∧ (n ≤ b ∧ n ≤ o ∧ n ≤ t ∧ o ≠ t) ∧ H[b]? = some (Ls k.base) ∧ H[o]? = some (Ls k.ours) ∧ H[t]? = some (Ls k.theirs)
noncomputable def RTn (H : List MObj) (m : MV) (k : Ck) : Prop := ∃ b o t, m = .tup [.str (wS k.word), .ref b, .ref o, .ref t] ∧ o ≠ t ∧ H[b]? = some (Ls k.base) ∧ H[o]? = some (Ls k.ours) ∧ H[t]? = some (Ls k.theirs)
theorem RTm.n {n : Nat} {H : List MObj} {m : MV} {k : Ck} (h : RTm n H m k) : RTn H m k := by
  obtain ⟨b, o, t, e, p, h2, h3, h4⟩ := h
  exact ⟨b, o, t, e, p.2.2.2, h2, h3, h4⟩
theorem RTm.p {n : Nat} {H : List MObj} {m : MV} {k : Ck} (h : RTm n H m k) : RTp (fun i => n ≤ i) H m k := by
  obtain ⟨b, o, t, e, p, h2, h3, h4⟩ := h
  exact ⟨b, o, t, e, ⟨p.1, p.2.1, p.2.2.1⟩, h2, h3, h4⟩
theorem RTm.ext {n : Nat} {H H' : List MObj} {m : MV} {k : Ck} (h : RTm n H m k) (x : Ext H H') : RTm n H' m k := by
  obtain ⟨b, o, t, e, p, h2, h3, h4⟩ := h
  exact ⟨b, o, t, e, p, x _ _ h2, x _ _ h3, x _ _ h4⟩
theorem RTm.le {n n' : Nat} {H : List MObj} {m : MV} {k : Ck} (h : RTm n H m k) (l : n' ≤ n) : RTm n' H m k := by
  obtain ⟨b, o, t, e, p, h2, h3, h4⟩ := h
  exact ⟨b, o, t, e, ⟨by lia, by lia, by lia, p.2.2.2⟩, h2, h3, h4⟩
theorem RTm.set {n j : Nat} {H : List MObj} {m : MV} {k : Ck} {x : MObj} (h : RTm n H m k) (l : j < n) : RTm n (H.set j x) m k := by
  obtain ⟨b, o, t, e, p, h2, h3, h4⟩ := h
  exact ⟨b, o, t, e, p, at_set_ne h2 (by lia), at_set_ne h3 (by lia), at_set_ne h4 (by lia)⟩
theorem RTn.ext {H H' : List MObj} {m : MV} {k : Ck} (h : RTn H m k) (x : Ext H H') : RTn H' m k := by
  obtain ⟨b, o, t, e, n, h2, h3, h4⟩ := h
  exact ⟨b, o, t, e, n, x _ _ h2, x _ _ h3, x _ _ h4⟩
theorem RTn.td {H : List MObj} {m : MV} {k : Ck} (h : RTn H m k) : RTd H m k := by
  obtain ⟨b, o, t, e, n, h2, h3, h4⟩ := h
  exact ⟨b, o, t, e, h2, h3, h4⟩
theorem RTd.ext {H H' : List MObj} {m : MV} {k : Ck} (h : RTd H m k) (x : Ext H H') : RTd H' m k := by
  obtain ⟨b, o, t, e, h2, h3, h4⟩ := h
  exact ⟨b, o, t, e, x _ _ h2, x _ _ h3, x _ _ h4⟩

section
variable {H : List MObj} {B : Bs} {fi : FI} {d : Nat} {ev : List MV}
/-! the pure cores, shape by shape -/
theorem go_val {R : Bool → Prop} {a : Bool} (h : R a) : ∃ b, MV.bool a = .bool b ∧ R b := ⟨a, rfl, h⟩
theorem go_notRef {m : MV} {P : Prop} (h1 : notRef m = true) (h : P) : notRef m = true ∧ P := ⟨h1, h⟩
theorem go_typeEq {s : String} {P : Prop} (h : P) : MV.con (.type s) = .con (.type s) ∧ P := ⟨rfl, h⟩
section
variable {P : Bool → Prop}
theorem cmp_lb {x y : Line} (h : P (dc (x = y))) : cmpM .Eq (lb x) (lb y) H P := cmp_eqB (by rw [lineOf_beq]; rw [dc_eq] at h; exact h)
theorem cmp_wd {x y : Wd} (h : P (dc (x = y))) : cmpM .Eq (.str (wS x)) (.str (wS y)) H P := cmp_eqS (by rw [wS_beq]; rw [dc_eq] at h; exact h)
theorem cmp_nwd {x y : Wd} (h : P (dc (x ≠ y))) : cmpM .NotEq (.str (wS x)) (.str (wS y)) H P := cmp_neS (by rw [dc_eq] at h; show P (!(wS x == wS y)); rw [wS_beq]; rw [show (!decide (x = y)) = decide (x ≠ y) from by simp]; exact h)
theorem cmp_wd' {x : Wd} {c : Str} (y : Wd) (hc : c = wS y) (h : P (dc (x = y))) : cmpM .Eq (.str (wS x)) (.str c) H P := by subst hc; exact cmp_wd h
theorem cmp_nwd' {x : Wd} {c : Str} (y : Wd) (hc : c = wS y) (h : P (dc (x ≠ y))) : cmpM .NotEq (.str (wS x)) (.str c) H P := by subst hc; exact cmp_nwd h
theorem any_wS (x : Wd) (ws : List Wd) : (ws.map wS).any (· == wS x) = ws.any fun w => decide (w = x) := by rw [List.any_map]; congr 1; funext w; exact wS_beq w x
theorem map_wS (ws : List Wd) : (ws.map wS).map MV.str = ws.map fun w => .str (wS w) := by rw [List.map_map]; rfl
theorem cmp_inw {x : Wd} {vs : List MV} (ws : List Wd) (hc : vs = ws.map fun w => .str (wS w)) (h : P (ws.any fun w => decide (w = x))) : cmpM .In (.str (wS x)) (.tup vs) H P := by
  rw [hc, ← map_wS]; exact cmp_inS (by rw [any_wS]; exact h)
theorem cmp_ninw {x : Wd} {vs : List MV} (ws : List Wd) (hc : vs = ws.map fun w => .str (wS w)) (h : P (!ws.any fun w => decide (w = x))) : cmpM .NotIn (.str (wS x)) (.tup vs) H P := by
  rw [hc, ← map_wS]; exact cmp_ninS (by rw [any_wS]; exact h)
end
section
variable {Q : MV → List MObj → Prop}
theorem sub_at {j : Nat} {k : Int} {vs : List MV} {m : MV} (n : Nat) (hk : k = (n : Int)) (h1 : H[j]? = some (.list vs)) (h2 : vs.length ≤ 100000) (h3 : vs[n]? = some m) (h : Q m H) : subM (.ref j) (.int k) H Q := by
  refine sub_list h1 h2 ?_ h3 h
  have := (List.getElem?_eq_some_iff.mp h3).1
  unfold idxM; subst hk; rw [if_neg (by lia), if_pos (by lia)]; rfl
theorem sub_neg {j : Nat} {vs : List MV} {m : MV} (h1 : H[j]? = some (.list vs)) (h2 : vs.length ≤ 100000) (h3 : vs[vs.length - 1]? = some m) (h : Q m H) : subM (.ref j) (.int (-1)) H Q := by
  refine sub_list h1 h2 ?_ h3 h
  have := (List.getElem?_eq_some_iff.mp h3).1
  unfold idxM; rw [if_pos (by lia), if_pos (by lia)]; congr 1; lia
theorem sub_tup {k : Int} {vs : List MV} {m : MV} (n : Nat) (hk : k = (n : Int)) (h2 : vs.length ≤ 100000) (h3 : vs[n]? = some m) (h : Q m H) : subM (.tup vs) (.int k) H Q := by
  refine sub_tupM h2 ?_ h3 h
  have := (List.getElem?_eq_some_iff.mp h3).1
  unfold idxM; subst hk; rw [if_neg (by lia), if_pos (by lia)]; rfl
end
theorem set_list {Q : List MObj → Prop} {j : Nat} {k : Int} {vs : List MV} {m : MV} (n : Nat) (hk : k = (n : Int)) (h1 : H[j]? = some (.list vs)) (h2 : n < vs.length) (h3 : vs.length ≤ 100000) (h : Q (H.set j (.list (vs.set n m)))) : setM (.ref j) (.int k) m H Q := by
  subst hk; exact set_listM h1 (by lia) (by lia) h3 h
end

/-! loops -/
section
variable {B : Bs} {fi : FI} {d : Nat} {tg : Expr} {body : List Stmt} {chk : List MObj → Prop} {Qn : List MV → List MObj → Prop} {Qr : MV → List MObj → Prop}
theorem ForS.ind (P : List MV → List MV → List MObj → Prop) (hn : ∀ ev H, P [] ev H → Qn ev H)
    (hs : ∀ m ms ev H, P (m :: ms) ev H → WPG B fi d tg m ev H fun ev1 H1 => Stop (WPS B fi d body ev1 H1 (fun ev2 H2 => chk H2 ∧ P ms ev2 H2) Qr)) : ∀ {ms : List MV} {ev : List MV} {H : List MObj}, P ms ev H → ForS B fi d tg body chk Qn Qr ms ev H := by
  intro ms
  induction ms with
  | nil => intro ev H h; exact hn ev H h
  | cons m ms ih =>
    intro ev H h
    show WPG _ _ _ _ _ _ _ _
    refine fun A env Φ g s v ok I hv => (hs m ms ev H h A env Φ g s v ok I hv).mono fun g1 ev1 H1 _ l q => ?_
    exact WPS.mono q.un (fun ev2 H2 ⟨a, b⟩ => ⟨a, ih b⟩) (fun _ _ x => x)
variable {c : Option Expr} {inner : Inner} {Q : List MV → List MObj → Prop}
theorem CompS.ind (P : List MV → List MV → List MObj → Prop) (hn : ∀ ev H, P [] ev H → Q ev H) (hin : ∀ ev H K K', (∀ ev' H', K ev' H' → K' ev' H') → inner ev H K → inner ev H K')
    (hs : ∀ m ms ev H, P (m :: ms) ev H → WPG B fi d tg m ev H fun ev1 H1 => Stop (CIf B fi d c ev1 H1 (fun H2 => inner ev1 H2 fun ev2 H3 => chk H3 ∧ P ms ev2 H3) (fun H2 => chk H2 ∧ P ms ev1 H2))) : ∀ {ms : List MV} {ev : List MV} {H : List MObj}, P ms ev H → CompS B fi d tg c inner chk Q ms ev H := by
  intro ms
  induction ms with
  | nil => intro ev H h; exact hn ev H h
  | cons m ms ih =>
    intro ev H h
    show WPG _ _ _ _ _ _ _ _
    refine fun A env Φ g s v ok I hv => (hs m ms ev H h A env Φ g s v ok I hv).mono fun g1 ev1 H1 _ l q => ?_
    replace q := q.un
    cases c with
    | none => exact hin _ _ _ _ (fun ev2 H3 ⟨a, b⟩ => ⟨a, ih b⟩) q
    | some c =>
      exact fun A env Φ g s ok I => (q A env Φ g s ok I).mono fun g1 ev1 H1 b l ⟨e, x, y⟩ => ⟨e, fun hb => hin _ _ _ _ (fun ev2 H3 ⟨a, b⟩ => ⟨a, ih b⟩) (x hb), fun hb => ⟨(y hb).1, ih (y hb).2⟩⟩
theorem emitI_mono {a : Nat} {elt : Expr} (ev : List MV) (H : List MObj) (K K' : List MV → List MObj → Prop) (k : ∀ ev' H', K ev' H' → K' ev' H') (h : emitI B fi d a elt ev H K) : emitI B fi d a elt ev H K' :=
  WPE.mono h fun m H1 ⟨vs, x, y, z⟩ => ⟨vs, x, y, k _ _ z⟩
theorem CompS.mono {ms : List MV} {ev : List MV} {H : List MObj} {Q' : List MV → List MObj → Prop} (hin : ∀ ev H K K', (∀ ev' H', K ev' H' → K' ev' H') → inner ev H K → inner ev H K') (k : ∀ ev' H', Q ev' H' → Q' ev' H') :
    CompS B fi d tg c inner chk Q ms ev H → CompS B fi d tg c inner chk Q' ms ev H := by
  induction ms generalizing ev H with
  | nil => exact k ev H
  | cons m ms ih =>
    intro h
    show WPG _ _ _ _ _ _ _ _
    refine fun A env Φ g s v ok I hv => (W.mono (h A env Φ g s v ok I hv) fun g1 ev1 H1 _ l q => ?_)
    cases c with
    | none => exact hin _ _ _ _ (fun ev2 H3 ⟨a, b⟩ => ⟨a, ih b⟩) q
    | some c =>
      exact fun A env Φ g s ok I => W.mono (q A env Φ g s ok I) fun g1 ev1 H1 b l ⟨e, x, y⟩ => ⟨e, fun hb => hin _ _ _ _ (fun ev2 H3 ⟨a, b⟩ => ⟨a, ih b⟩) (x hb), fun hb => ⟨(y hb).1, ih (y hb).2⟩⟩
end
/-! equality of lists -/
theorem eq_Ls {H : List MObj} {n i j : Nat} {x y : List Line} (h1 : H[i]? = some (Ls x)) (h2 : H[j]? = some (Ls y)) : EqM H (n + 1) (.ref i) (.ref j) (decide (x = y)) := by
  have inj : ∀ {x y : List Line}, Ls x = Ls y → x = y := by
    intro x y e
    unfold Ls at e
    injection e with e
    exact (List.map_inj_right (by intro a b h; unfold lb at h; injection h with h; revert h; revert a b; decide)).mp e
  by_cases hij : i = j
  · subst hij
    rw [h1] at h2; injection h2 with h2
    rw [inj h2]; simp; exact .same
  · by_cases hl : x.length = y.length
    · have key : (List.range (x.map lb).length).all (fun k => decide (x[k]? = y[k]?)) = decide (x = y) := by
        rw [Bool.eq_iff_iff]
        simp only [List.all_eq_true, List.mem_range, decide_eq_true_eq, List.length_map]
        constructor
        · intro h; apply List.ext_getElem?; intro k
          by_cases hk : k < x.length
          · exact h k hk
          · rw [List.getElem?_eq_none (by lia), List.getElem?_eq_none (by lia)]
        · intro h k _; rw [h]
      rw [← key]
      refine .lists _ hij h1 h2 (by simp [hl]) fun k u v hu hv => ?_
      rw [List.getElem?_map] at hu hv
      cases hx : x[k]? with
      | none => rw [hx] at hu; cases hu
      | some a =>
        cases hy : y[k]? with
        | none => rw [hy] at hv; cases hv
        | some b =>
          rw [hx] at hu; rw [hy] at hv; cases hu; cases hv
          have : decide (some a = some b) = (lineOf a == lineOf b) := by rw [lineOf_beq, Bool.eq_iff_iff]; simp
          rw [this]; exact .bytes
    · have : decide (x = y) = false := by simp; intro e; exact hl (by rw [e])
      rw [this]
      exact .lens h1 h2 (by simpa using hl)
noncomputable def envN (fi : FI) : Env := { scope := { kind := .function, names := fi.ns, isGenerator := false, isCoroutine := false }, locals := 0, globals := 0, cells := [] }
theorem swap_env {fi : FI} {ts : List Expr} {v : Expr} {r : Option (List Str)} (h : swappedStores ts v (envN fi) = pure r) (env : Env) (hn : env.scope.names = fi.ns) (hk : env.scope.kind = .function) : swappedStores ts v env = pure r := by
  rw [← h]
  unfold swappedStores Env.blockKind Env.kindOf
  rw [hn, hk]
  rfl
theorem swapsWith_env {fi : FI} {v : Expr} {t : Option Expr} {n : Nat} {r : Bool} (h : swapsWith v t n (envN fi) = pure r) (env : Env) (hn : env.scope.names = fi.ns) (hk : env.scope.kind = .function) : swapsWith v t n env = pure r := by
  rw [← h]
  unfold swapsWith Env.blockKind Env.kindOf
  rw [hn, hk]
  rfl
section
variable {H : List MObj} {B : Bs} {fi : FI} {d : Nat} {ev : List MV}
inductive SetTo : List MV → Nat → MV → List MV → Prop
  | zero {x m xs} : SetTo (x :: xs) 0 m (m :: xs)
  | succ {x m xs n ys} : SetTo xs n m ys → SetTo (x :: xs) (n + 1) m (x :: ys)
theorem SetTo.eq {xs ys : List MV} {n : Nat} {m : MV} (h : SetTo xs n m ys) : xs.set n m = ys := by
  induction h with
  | zero => rfl
  | succ _ ih => show _ :: _ = _; rw [ih]
theorem WPG.nameT {x : Str} {pos : Pos} {i : Nat} {k : NameKind} {m : MV} {ev' : List MV} {Q : List MV → List MObj → Prop} (hs : slot fi.ns x = some (i, k)) (hk : k = .local ∨ (k = .cell ∧ x ∈ fi.own)) (he : SetTo ev i m ev') (h : Q ev' H) :
    WPG B fi d (.Name x pos) m ev H Q := WPG.name hs hk (by rw [he.eq]; exact h)
theorem WPS.nrm {ss : List Stmt} {i : Nat} {m : MV} {ev' : List MV} {Qn : List MV → List MObj → Prop} {Qr : MV → List MObj → Prop} (he : SetTo ev i m ev') (h : WPS B fi d ss ev' H Qn Qr) : WPS B fi d ss (ev.set i m) H Qn Qr := by rw [he.eq]; exact h
inductive StoreR (fi : FI) : List Str → List MV → List MV → List MV → Prop
  | nil {e : List MV} : StoreR fi [] [] e e
  | cons {x : Str} {m : MV} {xs : List Str} {ms : List MV} {i : Nat} {e ev1 ev' : List MV} : slot fi.ns x = some (i, .local) → SetTo e i m ev1 → StoreR fi xs ms ev1 ev' → StoreR fi (x :: xs) (m :: ms) e ev'
theorem StoreR.eq {xs : List Str} {ms ev ev' : List MV} (h : StoreR fi xs ms ev ev') : storeN fi xs ms ev = some ev' := by
  induction h with
  | nil => rfl
  | cons a b _ ih => unfold storeN; rw [a]; show storeN _ _ _ _ = _; rw [b.eq]; exact ih
theorem WP1.asgSwap2 {x1 x2 : Str} {p1 p2 : Pos} {k : Nat} {tp : Pos} {value : Expr} {pos : Pos} {i1 i2 : Nat} {Qn : List MV → List MObj → Prop} {Qr : MV → List MObj → Prop}
    (hs : ∀ env, swapsWith value (some (.Tuple [.Name x1 p1, .Name x2 p2] k tp)) pos.line env = pure false) (hw : swappedStores [.Tuple [.Name x1 p1, .Name x2 p2] k tp] value (envN fi) = pure (some [x1, x2]))
    (h1 : slot fi.ns x1 = some (i1, .local)) (h2 : slot fi.ns x2 = some (i2, .local))
    (h : WPE B fi d value ev H fun m H1 => ∃ m1 m2 ev1 ev2, m = .tup [m1, m2] ∧ SetTo ev i2 m2 ev1 ∧ SetTo ev1 i1 m1 ev2 ∧ Qn ev2 H1) : WP1 B fi d (.Assign [.Tuple [.Name x1 p1, .Name x2 p2] k tp] value pos) ev H Qn Qr :=
  WP1.asgSwap (xs := [x1, x2]) (fun env _ _ => hs env) (fun env hn hk => swap_env hw env hn hk) (WPE.mono h fun m H1 ⟨m1, m2, ev1, ev2, e, a, b, q⟩ => ⟨[m1, m2], ev2, e, rfl, (StoreR.cons h2 a (.cons h1 b .nil)).eq, q⟩)
theorem go_swap2 {R : List MV → Prop} {m1 m2 : MV} {i1 i2 : Nat} {ev1 ev2 : List MV} (a : SetTo ev i2 m2 ev1) (b : SetTo ev1 i1 m1 ev2) (h : R ev2) : ∃ n1 n2 ev1 ev2, MV.tup [m1, m2] = .tup [n1, n2] ∧ SetTo ev i2 n2 ev1 ∧ SetTo ev1 i1 n1 ev2 ∧ R ev2 := ⟨m1, m2, ev1, ev2, rfl, a, b, h⟩
theorem WP1.asgSwap3 {x1 x2 x3 : Str} {p1 p2 p3 : Pos} {k : Nat} {tp : Pos} {value : Expr} {pos : Pos} {i1 i2 i3 : Nat} {Qn : List MV → List MObj → Prop} {Qr : MV → List MObj → Prop}
    (hs : ∀ env, swapsWith value (some (.Tuple [.Name x1 p1, .Name x2 p2, .Name x3 p3] k tp)) pos.line env = pure false) (hw : swappedStores [.Tuple [.Name x1 p1, .Name x2 p2, .Name x3 p3] k tp] value (envN fi) = pure (some [x1, x2, x3]))
    (h1 : slot fi.ns x1 = some (i1, .local)) (h2 : slot fi.ns x2 = some (i2, .local)) (h3 : slot fi.ns x3 = some (i3, .local))
    (h : WPE B fi d value ev H fun m H1 => ∃ m1 m2 m3 ev1 ev2 ev3, m = .tup [m1, m2, m3] ∧ SetTo ev i3 m3 ev1 ∧ SetTo ev1 i2 m2 ev2 ∧ SetTo ev2 i1 m1 ev3 ∧ Qn ev3 H1) : WP1 B fi d (.Assign [.Tuple [.Name x1 p1, .Name x2 p2, .Name x3 p3] k tp] value pos) ev H Qn Qr :=
  WP1.asgSwap (xs := [x1, x2, x3]) (fun env _ _ => hs env) (fun env hn hk => swap_env hw env hn hk) (WPE.mono h fun m H1 ⟨m1, m2, m3, ev1, ev2, ev3, e, a, b, c, q⟩ => ⟨[m1, m2, m3], ev3, e, rfl, (StoreR.cons h3 a (.cons h2 b (.cons h1 c .nil))).eq, q⟩)
theorem go_swap3 {R : List MV → Prop} {m1 m2 m3 : MV} {i1 i2 i3 : Nat} {ev1 ev2 ev3 : List MV} (a : SetTo ev i3 m3 ev1) (b : SetTo ev1 i2 m2 ev2) (c : SetTo ev2 i1 m1 ev3) (h : R ev3) : ∃ n1 n2 n3 ev1 ev2 ev3, MV.tup [m1, m2, m3] = .tup [n1, n2, n3] ∧ SetTo ev i3 n3 ev1 ∧ SetTo ev1 i2 n2 ev2 ∧ SetTo ev2 i1 n1 ev3 ∧ R ev3 := ⟨m1, m2, m3, ev1, ev2, ev3, rfl, a, b, c, h⟩
theorem go_range {R : Int → Int → Int → Prop} {ms : List MV} {a b c : Int} (h1 : rangeM ms = some (a, b, c)) (h2 : c ≠ 0 ∧ c.natAbs < 1000000) (h3 : Builtin.Range.small a b c = true) (h : R a b c) :
    ∃ a b c, rangeM ms = some (a, b, c) ∧ (c ≠ 0 ∧ c.natAbs < 1000000) ∧ Builtin.Range.small a b c = true ∧ R a b c := ⟨a, b, c, h1, h2, h3, h⟩
theorem go_enum {R : Nat → List MV → Prop} {j : Nat} {vs : List MV} (h1 : H[j]? = some (.list vs)) (h : R j vs) :
    ∃ i vs, [MV.ref j] = [.ref i] ∧ H[i]? = some (.list vs) ∧ R i vs := ⟨j, vs, rfl, h1, h⟩
theorem go_zip {R : Nat → Nat → List MV → List MV → Prop} {i j : Nat} {vs us : List MV} (h1 : H[i]? = some (.list vs)) (h2 : H[j]? = some (.list us)) (h : R i j vs us) :
    ∃ j1 j2 xs ys, [MV.ref i, .ref j] = [.ref j1, .ref j2] ∧ H[j1]? = some (.list xs) ∧ H[j2]? = some (.list ys) ∧ R j1 j2 xs ys := ⟨i, j, vs, us, rfl, h1, h2, h⟩
theorem go_augAttr {w : Bs} {x : Str} {i : Nat} {C : Addr} {fs : List (Str × MV)} {old : MV} (h1 : H[i]? = some (.inst C fs)) (h2 : attrOk w C x = true) (h3 : setOk w C x = true) (h4 : getF x fs = some old) (h5 : plain old = true) {R : Nat → Addr → MV → Prop} (h : R i C old) :
    ∃ j C fs old, MV.ref i = .ref j ∧ H[j]? = some (.inst C fs) ∧ attrOk w C x = true ∧ setOk w C x = true ∧ getF x fs = some old ∧ plain old = true ∧ R j C old := ⟨i, C, fs, old, rfl, h1, h2, h3, h4, h5, h⟩
theorem go_augSet {i : Nat} {C : Addr} {R : List (Str × MV) → Prop} {fs : List (Str × MV)} (h1 : H[i]? = some (.inst C fs)) (h2 : fs.length ≤ 100) (h : R fs) : ∃ fs2, H[i]? = some (.inst C fs2) ∧ fs2.length ≤ 100 ∧ R fs2 := ⟨fs, h1, h2, h⟩
theorem go_emit {a : Nat} {vs : List MV} {R : List MV → Prop} (h1 : H[a]? = some (.list vs)) (h2 : vs.length ≤ 100000) (h : R vs) : ∃ vs, H[a]? = some (.list vs) ∧ vs.length ≤ 100000 ∧ R vs := ⟨vs, h1, h2, h⟩
theorem small1 {a b : Int} (h : (-1000000 ≤ a ∧ a ≤ 1000000) ∧ (-1000000 ≤ b ∧ b ≤ 1000000)) : Builtin.Range.small a b 1 = true := small_one (by lia) (by lia) (by lia) (by lia)
theorem sub_Ls {Q : MV → List MObj → Prop} {j : Nat} {k : Int} {ls : List Line} (h1 : H[j]? = some (Ls ls)) (h0 : 0 ≤ k) (hk : k < ls.length) (h2 : ls.length ≤ 100000) (h : Q (lb (ls.getD k.toNat 0)) H) : subM (.ref j) (.int k) H Q := by
  obtain ⟨n, rfl⟩ := Int.eq_ofNat_of_zero_le h0
  have hn : n < ls.length := by lia
  refine sub_at n rfl h1 (by simpa using h2) ?_ h
  rw [List.getElem?_map, List.getD_eq_getElem?_getD]
  rw [show ((n : Int)).toNat = n from rfl, List.getElem?_eq_getElem hn]; rfl
theorem WPT.mid {e : Expr} {Q : Bool → List MObj → Prop} (E : Bool → List MObj → Prop) (h : WPT B fi d e ev H E) (k : ∀ b H', E b H' → Q b H') : WPT B fi d e ev H Q :=
  fun A env Φ g s ok I => (h A env Φ g s ok I).mono fun g1 ev1 H1 b l ⟨e1, q⟩ => ⟨e1, k _ _ q⟩
theorem WP1.mid {st : Stmt} {Qn : List MV → List MObj → Prop} {Qr : MV → List MObj → Prop} (E : List MV → List MObj → Prop) (h : WP1 B fi d st ev H E Qr) (k : ∀ ev' H', E ev' H' → Qn ev' H') : WP1 B fi d st ev H Qn Qr :=
  fun A env Φ g s ok I => (h A env Φ g s ok I).mono fun g1 ev1 H1 f l q => by
    cases f with
    | next => exact k _ _ q
    | ret v => exact q
    | brk => exact q
    | cont => exact q
theorem WPV.nap {f a : MV} {xs : List MV} {Q : MV → List MObj → Prop} (h : WPV B d f (a :: xs) H Q) : WPV B d f ([a] ++ xs) H Q := h
section
variable {Qn : List MV → List MObj → Prop} {Qr Q : MV → List MObj → Prop} {ss : List Stmt} {st : Stmt} {e e1 e2 : Expr} {es es2 : List Expr} {m m1 : MV} {ms : List MV} {pos : Pos} {x : Str}
theorem cmp_anynil {i j : Nat} {xs : List MV} {P : Bool → Prop} (h1 : H[i]? = some (.list xs)) (h2 : H[j]? = some (.list [])) (hne : i ≠ j) (h : P (decide (xs ≠ []))) : cmpM .NotEq (.ref i) (.ref j) H P := by
  refine cmp_neR (b := decide (xs = [])) hne ?_ (by rw [show (!decide (xs = [])) = decide (xs ≠ []) from by simp]; exact h)
  by_cases hx : xs = []
  · subst hx
    rw [show decide (([] : List MV) = []) = (List.range ([] : List MV).length).all (fun _ => true) from rfl]
    exact .lists _ hne h1 h2 rfl (fun k x y e => by cases e)
  · rw [show decide (xs = []) = false from by simpa using hx]
    exact .lens h1 h2 (by simpa using hx)
end
section
variable {tg : Expr} {c : Option Expr} {inner : Inner} {chk : List MObj → Prop} {Q : List MV → List MObj → Prop} {ms : List MV} {fi' : FI} {X X1 : List MObj} {dd : Nat}
theorem go_cifN {T F : List MObj → Prop} (h : T H) : CIf B fi d none ev H T F := h
theorem go_cifS {T F : List MObj → Prop} {e : Expr} (h : WPT B fi d e ev H fun b H1 => (b = true → T H1) ∧ (b = false → F H1)) : CIf B fi d (some e) ev H T F := h
theorem go_emitI {a : Nat} {elt : Expr} {K : List MV → List MObj → Prop} (h : WPE B fi d elt ev H fun m H1 => ∃ vs, H1[a]? = some (.list vs) ∧ vs.length ≤ 100000 ∧ K ev (H1.set a (.list (vs ++ [m])))) : emitI B fi d a elt ev H K := h
theorem go_genI {a : Nat} {tg iter elt : Expr} {K : List MV → List MObj → Prop} (h : WPI B fi d tg iter ev H fun chk items H1 => CompS B fi d tg none (emitI B fi d a elt) chk K items ev H1) : genI B fi d a tg iter elt ev H K := h
theorem go_chkT (h : CompS B fi' dd tg c inner chk Q ms ev X) : True ∧ CompS B fi' dd tg c inner chk Q ms ev X := ⟨True.intro, h⟩
theorem go_chkL {j : Nat} {o : MObj} (h1 : X1[j]? = some o) (h : CompS B fi' dd tg c inner chk Q ms ev X) : X1[j]? = some o ∧ CompS B fi' dd tg c inner chk Q ms ev X := ⟨h1, h⟩
theorem go_chkZ {j i : Nat} {o u : MObj} (h1 : X1[j]? = some o) (h2 : X1[i]? = some u) (h : CompS B fi' dd tg c inner chk Q ms ev X) : (X1[j]? = some o ∧ X1[i]? = some u) ∧ CompS B fi' dd tg c inner chk Q ms ev X := ⟨⟨h1, h2⟩, h⟩
end
theorem rangeL1 : ∀ (n : Nat) (a : Int), rangeL a 1 n = (List.range n).map fun (i : Nat) => MV.int (a + (i : Int))
  | 0, _ => rfl
  | n + 1, a => by
    unfold rangeL
    rw [rangeL1 n (a + 1), List.range_succ_eq_map, List.map_cons, List.map_map]
    congr 1
    · simp
    · apply List.map_congr_left; intro i _; simp only [Function.comp]; congr 1; push_cast; lia
theorem rangeSize1 {a b : Int} (h : a ≤ b) : (Builtin.Range.rangeSize a b 1).toNat = (b - a).toNat := by
  unfold Builtin.Range.rangeSize; rw [if_pos (by decide)]; split <;> simp <;> lia
theorem rangeLen (a c : Int) : ∀ n, (rangeL a c n).length = n := by
  intro n; induction n generalizing a with
  | zero => rfl
  | succ n ih => unfold rangeL; simp [ih]
theorem cmpw_both {x : Wd} {P : Bool → Prop} (h : P (dc (x = .both))) : cmpM .Eq (.str (wS x)) (.str (Str.ofString "both")) H P := cmp_wd' .both rfl h
theorem cmpw_conflict {x : Wd} {P : Bool → Prop} (h : P (dc (x = .conflict))) : cmpM .Eq (.str (wS x)) (.str (Str.ofString "conflict")) H P := cmp_wd' .conflict rfl h
theorem cmpw_same {x : Wd} {P : Bool → Prop} (h : P (dc (x = .same))) : cmpM .Eq (.str (wS x)) (.str (Str.ofString "same")) H P := cmp_wd' .same rfl h
theorem cmpw_ours {x : Wd} {P : Bool → Prop} (h : P (dc (x = .ours))) : cmpM .Eq (.str (wS x)) (.str (Str.ofString "ours")) H P := cmp_wd' .ours rfl h
theorem cmpw_theirs {x : Wd} {P : Bool → Prop} (h : P (dc (x = .theirs))) : cmpM .Eq (.str (wS x)) (.str (Str.ofString "theirs")) H P := cmp_wd' .theirs rfl h
theorem cmpw_nconflict {x : Wd} {P : Bool → Prop} (h : P (dc (x ≠ .conflict))) : cmpM .NotEq (.str (wS x)) (.str (Str.ofString "conflict")) H P := cmp_nwd' .conflict rfl h
theorem cmpw_inOT {x : Wd} {P : Bool → Prop} (h : P ([Wd.ours, .theirs].any fun w => decide (w = x))) : cmpM .In (.str (wS x)) (.tup [.str (Str.ofString "ours"), .str (Str.ofString "theirs")]) H P := cmp_inw [.ours, .theirs] rfl h
theorem cmpw_inSB {x : Wd} {P : Bool → Prop} (h : P ([Wd.same, .both].any fun w => decide (w = x))) : cmpM .In (.str (wS x)) (.tup [.str (Str.ofString "same"), .str (Str.ofString "both")]) H P := cmp_inw [.same, .both] rfl h
theorem cmpw_ninBC {x : Wd} {P : Bool → Prop} (h : P (![Wd.both, .conflict].any fun w => decide (w = x))) : cmpM .NotIn (.str (wS x)) (.tup [.str (Str.ofString "both"), .str (Str.ofString "conflict")]) H P := cmp_ninw [.both, .conflict] rfl h
end
noncomputable abbrev KE := MV → List MObj → Prop
noncomputable abbrev KS := List MV → List MObj → Prop
noncomputable def LeafE (B : Bs) (fi : FI) (d : Nat) (e : Expr) (ev : List MV) (H : List MObj) (Q : KE) : Prop := WPE B fi d e ev H Q
noncomputable def Leaf1 (B : Bs) (fi : FI) (d : Nat) (st : Stmt) (ev : List MV) (H : List MObj) (Qn : KS) (Qr : KE) : Prop := WP1 B fi d st ev H Qn Qr
noncomputable def LeafG (B : Bs) (fi : FI) (d : Nat) (t : Expr) (m : MV) (ev : List MV) (H : List MObj) (Q : KS) : Prop := WPG B fi d t m ev H Q
noncomputable def LeafT (B : Bs) (fi : FI) (d : Nat) (t : Expr) (ev : List MV) (H : List MObj) (Q : Bool → List MObj → Prop) : Prop := WPT B fi d t ev H Q
noncomputable def LeafA (B : Bs) (o : MV) (x : Str) (H : List MObj) (Q : KE) : Prop := ∃ i C fs m, o = .ref i ∧ H[i]? = some (.inst C fs) ∧ attrOk B C x = true ∧ getF x fs = some m ∧ plain m = true ∧ Q m H
noncomputable def LeafP (B : Bs) (o : MV) (x : Str) (m : MV) (H : List MObj) (Q : List MObj → Prop) : Prop := ∃ i C fs, o = .ref i ∧ H[i]? = some (.inst C fs) ∧ setOk B C x = true ∧ fs.length ≤ 100 ∧ Q (H.set i (.inst C (putF x m fs)))
noncomputable def LeafL (o : MV) (a b : Option Int) (H : List MObj) (Q : KE) : Prop := ∃ j vs, o = .ref j ∧ H[j]? = some (.list vs) ∧ vs.length ≤ 100000 ∧ Q (.ref H.length) (H ++ [.list (sliceM vs a b)])
structure Go (P : Prop) : Prop where
  go : P
theorem lf {P : Prop} (h : Go P) : P := h.go
noncomputable def getQ (ev : List MV) (i : Nat) (H : List MObj) (Q : KE) : Prop := match ev[i]? with | some m => (match (generalizing := false) m with | .undef => False | .none => Q m H | .bool _ => Q m H | .int _ => Q m H | .str _ => Q m H | .bytes _ => Q m H | .tup _ => Q m H | .con _ => Q m H | .ref _ => Q m H) | none => False
theorem getQ.nd {m : MV} {H : List MObj} {Q : KE} (h : m ≠ .undef) (q : Q m H) : (match (generalizing := false) m with | .undef => False | .none => Q m H | .bool _ => Q m H | .int _ => Q m H | .str _ => Q m H | .bytes _ => Q m H | .tup _ => Q m H | .con _ => Q m H | .ref _ => Q m H : Prop) := by
  cases m <;> first | exact absurd rfl h | exact q
theorem getQ.inv {ev : List MV} {i : Nat} {H : List MObj} {Q : KE} (h : getQ ev i H Q) : ∃ m, ev[i]? = some m ∧ m ≠ .undef ∧ Q m H := by
  unfold getQ at h
  cases he : ev[i]? with
  | none => rw [he] at h; exact h.elim
  | some m =>
    rw [he] at h
    refine ⟨m, rfl, ?_⟩
    cases m <;> first | exact h.elim | exact ⟨(by intro q; cases q), h⟩
noncomputable def gTab : List (Str × MV) := [
  (Str.ofString "len", .con (.builtin "len")), (Str.ofString "min", .con (.builtin "min")), (Str.ofString "max", .con (.builtin "max")), (Str.ofString "isinstance", .con (.builtin "isinstance")), (Str.ofString "sum", .con (.builtin "sum")),
  (Str.ofString "list", .con (.type "list")), (Str.ofString "range", .con (.type "range")), (Str.ofString "enumerate", .con (.type "enumerate")), (Str.ofString "zip", .con (.type "zip")), (Str.ofString "bytes", .con (.type "bytes")), (Str.ofString "str", .con (.type "str")),
  (Str.ofString "Chunk", .con (.ref 301)), (Str.ofString "Change", .con (.ref 92)), (Str.ofString "LineSheet", .con (.ref 223)), (Str.ofString "LineNumbers", .con (.ref 125)),
  (Str.ofString "BOTH", .str (Str.ofString "both")), (Str.ofString "CONFLICT", .str (Str.ofString "conflict")), (Str.ofString "OURS", .str (Str.ofString "ours")), (Str.ofString "THEIRS", .str (Str.ofString "theirs")), (Str.ofString "SHORT", .int 3),
  (Str.ofString "line_further", .con (.ref 234)), (Str.ofString "myers", .con (.ref 248)), (Str.ofString "by", .con (.ref 270)), (Str.ofString "conflict_parted", .con (.ref 312)), (Str.ofString "conflict_trimmed", .con (.ref 319)), (Str.ofString "conflicts_closed_up", .con (.ref 326)), (Str.ofString "conflict_pieces", .con (.ref 333)),
  (Str.ofString "_law_draw", .con (.ref 340)), (Str.ofString "_law_lines", .con (.ref 345)), (Str.ofString "_law_chunk", .con (.ref 352)), (Str.ofString "_law_told", .con (.ref 359)), (Str.ofString "_law_longest", .con (.ref 366)), (Str.ofString "_law_is_parted", .con (.ref 371)), (Str.ofString "_law_trimmed", .con (.ref 378)), (Str.ofString "_law_closed", .con (.ref 383))]
noncomputable def calT : MV → Bool
  | .con (.builtin _) => true
  | .con (.type _) => true
  | .con (.ref a) => kpL.elem a
  | _ => false
noncomputable def notStar : Expr → Bool | .Starred .. => false | _ => true
noncomputable def notComp : Expr → Bool | .ListComp .. => false | .SetComp .. => false | .DictComp .. => false | _ => true
noncomputable def notTup : Expr → Bool | .Tuple .. => false | _ => true
noncomputable def isNm : Expr → Bool | .Name .. => true | _ => false
noncomputable def tgtV (t v : Expr) : Bool := match t with | .Name .. => true | .Attribute .. => true | .Subscript .. => true | .Tuple ts _ _ => notTup v && ts.all notStar | _ => false
noncomputable def res (x : Str) : Bool := (x == ("__debug__" : Str)) || (x == ("__classdict__" : Str))
noncomputable def sure (b : Bool) (P : Prop) : Prop := match b with | true => P | false => False
theorem sure.inv {b : Bool} {P : Prop} (h : sure b P) : b = true ∧ P := by cases b; exact h.elim; exact ⟨rfl, h⟩
noncomputable abbrev KB := Bool → List MObj → Prop
noncomputable abbrev KO := Option Int → List MObj → Prop
noncomputable abbrev FE := Expr → List MV → List MObj → KE → Prop
noncomputable abbrev FEs := List Expr → List MV → List MObj → KS → Prop
noncomputable abbrev FO := Option Expr → List MV → List MObj → KO → Prop
noncomputable abbrev FT := Expr → List MV → List MObj → KB → Prop
noncomputable def kCons (a : MV) (k : List MV → Prop) (r : List MV) : Prop := k (a :: r)
noncomputable def kH (Q : KS) (H : List MObj) (ev : List MV) : Prop := Q ev H
noncomputable def setE : List MV → Nat → MV → (List MV → Prop) → Prop
  | [], _, _, k => k []
  | a :: r, n, m, k => match n with | 0 => k (m :: r) | n + 1 => setE r n m (kCons a k)
theorem setE_ok : ∀ {ev : List MV} {i : Nat} {m : MV} {k : List MV → Prop}, setE ev i m k → k (ev.set i m)
  | [], _, _, _, h => h
  | _ :: _, 0, _, _, h => h
  | _ :: r, n + 1, _, _, h => setE_ok (ev := r) (i := n) h
noncomputable def augQ (op : Operator) (a b : MV) (i : Nat) (ev : List MV) (H : List MObj) (Q : KS) : Prop := match a with
  | .int x => (match b with | .int y => (match op with | .Add => setE ev i (.int (x + y)) (kH Q H) | .Sub => setE ev i (.int (x - y)) (kH Q H) | _ => False) | _ => False)
  | _ => False
noncomputable def binQ (op : Operator) (a b : MV) (H : List MObj) (Q : KE) : Prop := match a with
  | .int x => (match b with
    | .int y => (match op with | .Add => Q (.int (x + y)) H | .Sub => Q (.int (x - y)) H | op => Go (binM op (.int x) (.int y) H Q))
    | b => Go (binM op (.int x) b H Q))
  | a => Go (binM op a b H Q)
noncomputable def kQ (Q : KB) (H : List MObj) (c : Bool) : Prop := Q c H
noncomputable def cmpQ (op : CmpOp) (a b : MV) (H : List MObj) (Q : KB) : Prop := match a with
  | .int x => (match b with
    | .int y => (match op with | .Lt => Q (dc (x < y)) H | .LtE => Q (dc (x ≤ y)) H | .Gt => Q (dc (x > y)) H | .GtE => Q (dc (x ≥ y)) H | .Eq => Q (dc (x = y)) H | .NotEq => Q (dc (x ≠ y)) H | op => Go (cmpM op (.int x) (.int y) H (kQ Q H)))
    | b => Go (cmpM op (.int x) b H (kQ Q H)))
  | a => Go (cmpM op a b H (kQ Q H))
noncomputable def kTup (Q : KE) (ms : List MV) (H : List MObj) : Prop := sure (Nat.ble ms.length 100000) (Q (.tup ms) H)
noncomputable def kLst (Q : KE) (ms : List MV) (H : List MObj) : Prop := sure (Nat.ble ms.length 100000) (Q (.ref H.length) (H ++ [.list ms]))
noncomputable def kB2 (op : Operator) (a : MV) (Q : KE) (b : MV) (H : List MObj) : Prop := binQ op a b H Q
noncomputable def kB1 (F : FE) (op : Operator) (r : Expr) (ev : List MV) (Q : KE) (a : MV) (H : List MObj) : Prop := F r ev H (kB2 op a Q)
noncomputable def kNg (Q : KE) (a : MV) (H : List MObj) : Prop := match a with | .int i => Q (.int (-i)) H | _ => False
noncomputable def kM2 (op : CmpOp) (a : MV) (Q : KB) (b : MV) (H : List MObj) : Prop := cmpQ op a b H Q
noncomputable def kM1 (F : FE) (op : CmpOp) (r : Expr) (ev : List MV) (Q : KB) (a : MV) (H : List MObj) : Prop := F r ev H (kM2 op a Q)
noncomputable def kBl (Q : KE) (c : Bool) (H : List MObj) : Prop := Q (.bool c) H
noncomputable def kNot (Q : KB) (c : Bool) (H : List MObj) : Prop := Q (!c) H
noncomputable def br (c : Bool) (X Y : Prop) : Prop := (c = true → X) ∧ (c = false → Y)
noncomputable def kIf (F : FE) (a b : Expr) (ev : List MV) (Q : KE) (c : Bool) (H : List MObj) : Prop := Go (br c (F a ev H Q) (F b ev H Q))
noncomputable def kAt (B : Bs) (x : Str) (Q : KE) (m : MV) (H : List MObj) : Prop := Go (LeafA B m x H Q)
noncomputable def kS3 (Q : KE) (o : MV) (a b : Option Int) (H : List MObj) : Prop := Go (LeafL o a b H Q)
noncomputable def kS2 (O : FO) (hi : Option Expr) (ev : List MV) (Q : KE) (o : MV) (a : Option Int) (H : List MObj) : Prop := O hi ev H (kS3 Q o a)
noncomputable def kS1 (O : FO) (lo hi : Option Expr) (ev : List MV) (Q : KE) (o : MV) (H : List MObj) : Prop := O lo ev H (kS2 O hi ev Q o)
noncomputable def kU2 (Q : KE) (o k : MV) (H : List MObj) : Prop := Go (subM o k H Q)
noncomputable def kU1 (F : FE) (i : Expr) (ev : List MV) (Q : KE) (o : MV) (H : List MObj) : Prop := F i ev H (kU2 Q o)
noncomputable def kC2 (B : Bs) (d : Nat) (f : MV) (Q : KE) (ms : List MV) (H : List MObj) : Prop := Go (WPV B d f ms H Q)
noncomputable def kC1 (B : Bs) (d : Nat) (F : FEs) (args : List Expr) (ev : List MV) (Q : KE) (f : MV) (H : List MObj) : Prop := sure (calT f) (F args ev H (kC2 B d f Q))
noncomputable def kD3 (B : Bs) (d : Nat) (f a : MV) (Q : KE) (ms : List MV) (H : List MObj) : Prop := Go (WPV B d f (a :: ms) H Q)
noncomputable def kD2 (B : Bs) (d : Nat) (F : FEs) (args : List Expr) (ev : List MV) (Q : KE) (H : List MObj) (f : MV) (first : List MV) : Prop := match first with
  | [] => F args ev H (kC2 B d f Q)
  | a :: r => (match r with | [] => F args ev H (kD3 B d f a Q) | _ :: _ => False)
noncomputable def kD1 (B : Bs) (d : Nat) (F : FEs) (x : Str) (args : List Expr) (ev : List MV) (Q : KE) (o : MV) (H : List MObj) : Prop := Go (methM B o x H (kD2 B d F args ev Q H))
noncomputable def kE2 (m : MV) (Q : KS) (ms : List MV) (H : List MObj) : Prop := Q (m :: ms) H
noncomputable def kE1 (F : FEs) (r : List Expr) (ev : List MV) (Q : KS) (m : MV) (H : List MObj) : Prop := F r ev H (kE2 m Q)
noncomputable def kO (Q : KO) (m : MV) (H : List MObj) : Prop := match m with | .int i => Go (Stop (0 ≤ i ∧ Q (some i) H)) | _ => False
noncomputable def kAn (F : BoolOp → List Expr → List MV → List MObj → KB → Prop) (r : List Expr) (ev : List MV) (Q : KB) (b : Bool) (H : List MObj) : Prop := Go (br b (F .And r ev H Q) (Q false H))
noncomputable def kOr (F : BoolOp → List Expr → List MV → List MObj → KB → Prop) (r : List Expr) (ev : List MV) (Q : KB) (b : Bool) (H : List MObj) : Prop := Go (br b (Q true H) (F .Or r ev H Q))
noncomputable def nmQ (B : Bs) (fi : FI) (d : Nat) (x : Str) (p : Pos) (ev : List MV) (H : List MObj) (Q : KE) (o : Option (Nat × NameKind)) : Prop := match o with
  | some (i, k) => (match k with
    | .local => sure (!res x) (getQ ev i H Q)
    | .cell => sure (!res x) (getQ ev i H Q)
    | .free => sure (!res x) (getQ ev i H Q)
    | .globalImplicit => (match gTab.lookup x with | some m => Q m H | none => Go (LeafE B fi d (.Name x p) ev H Q))
    | _ => Go (LeafE B fi d (.Name x p) ev H Q))
  | none => Go (LeafE B fi d (.Name x p) ev H Q)
noncomputable def nmG (B : Bs) (fi : FI) (d : Nat) (x : Str) (p : Pos) (m : MV) (ev : List MV) (H : List MObj) (Q : KS) (o : Option (Nat × NameKind)) : Prop := match o with
  | some (i, k) => (match k with
    | .local => setE ev i m (kH Q H)
    | .cell => sure (fi.own.elem x) (setE ev i m (kH Q H))
    | _ => Go (LeafG B fi d (.Name x p) m ev H Q))
  | none => Go (LeafG B fi d (.Name x p) m ev H Q)
mutual
noncomputable def vE (B : Bs) (fi : FI) (d : Nat) : Nat → Expr → List MV → List MObj → KE → Prop
  | 0, e, ev, H, Q => Go (LeafE B fi d e ev H Q)
  | n + 1, e, ev, H, Q => match e with
    | .Name x p => nmQ B fi d x p ev H Q (slot fi.ns x)
    | .Constant c k p => (match c with
      | .int i => Q (.int i) H
      | .str s => Q (.str s) H
      | .bool b => Q (.bool b) H
      | .none => Q .none H
      | .bytes b => Q (.bytes b) H
      | c => Go (LeafE B fi d (.Constant c k p) ev H Q))
    | .Tuple es _ _ => vEs B fi d n es ev H (kTup Q)
    | .List es _ => vEs B fi d n es ev H (kLst Q)
    | .BinOp l op r _ => vE B fi d n l ev H (kB1 (vE B fi d n) op r ev Q)
    | .UnaryOp op e p => (match op with
      | .USub => vE B fi d n e ev H (kNg Q)
      | op => Go (LeafE B fi d (.UnaryOp op e p) ev H Q))
    | .Compare l [op] [r] _ => sure (!behindInMarks op r) (vE B fi d n l ev H (kM1 (vE B fi d n) op r ev (kBl Q)))
    | .IfExp t a b _ => vT B fi d n t ev H (kIf (vE B fi d n) a b ev Q)
    | .Attribute o x p => (match o with
      | .Name y q => vE B fi d n (.Name y q) ev H (kAt B x Q)
      | o => Go (LeafE B fi d (.Attribute o x p) ev H Q))
    | .Subscript e i p => (match i with
      | .Slice lo hi none sp => vE B fi d n e ev H (kS1 (vO B fi d n) lo hi ev Q)
      | .Slice lo hi (some st) sp => Go (LeafE B fi d (.Subscript e (.Slice lo hi (some st) sp) p) ev H Q)
      | i => vE B fi d n e ev H (kU1 (vE B fi d n) i ev Q))
    | .Call f args kws p => (match kws with
      | [] => (match f with
        | .Name x q => sure (args.all notStar) (vE B fi d n (.Name x q) ev H (kC1 B d (vEs B fi d n) args ev Q))
        | .Attribute o x ap => sure (isNm o && (args.all notStar && (Nat.blt args.length 30 && (ap.endLine == p.line)))) (vE B fi d n o ev H (kD1 B d (vEs B fi d n) x args ev Q))
        | f => Go (LeafE B fi d (.Call f args [] p) ev H Q))
      | kw :: kws => Go (LeafE B fi d (.Call f args (kw :: kws) p) ev H Q))
    | e => Go (LeafE B fi d e ev H Q)
noncomputable def vEs (B : Bs) (fi : FI) (d : Nat) : Nat → List Expr → List MV → List MObj → (List MV → List MObj → Prop) → Prop
  | 0, _, _, _, _ => False
  | n + 1, es, ev, H, Q => match es with
    | [] => Q [] H
    | e :: r => sure (notStar e) (vE B fi d n e ev H (kE1 (vEs B fi d n) r ev Q))
noncomputable def vO (B : Bs) (fi : FI) (d : Nat) : Nat → Option Expr → List MV → List MObj → (Option Int → List MObj → Prop) → Prop
  | 0, _, _, _, _ => False
  | n + 1, o, ev, H, Q => match o with
    | none => Q none H
    | some e => vE B fi d n e ev H (kO Q)
noncomputable def vT (B : Bs) (fi : FI) (d : Nat) : Nat → Expr → List MV → List MObj → (Bool → List MObj → Prop) → Prop
  | 0, e, ev, H, Q => Go (LeafT B fi d e ev H Q)
  | n + 1, e, ev, H, Q => match e with
    | .Compare l [op] [r] _ => sure (!behindInMarks op r) (vE B fi d n l ev H (kM1 (vE B fi d n) op r ev Q))
    | .UnaryOp op e p => (match op with
      | .Not => vT B fi d n e ev H (kNot Q)
      | op => Go (LeafT B fi d (.UnaryOp op e p) ev H Q))
    | .BoolOp op es _ => vA B fi d n op es ev H Q
    | e => Go (LeafT B fi d e ev H Q)
noncomputable def vA (B : Bs) (fi : FI) (d : Nat) : Nat → BoolOp → List Expr → List MV → List MObj → (Bool → List MObj → Prop) → Prop
  | 0, _, _, _, _, _ => False
  | n + 1, op, es, ev, H, Q => match op with
    | .And => (match es with | [] => Q true H | e :: r => vT B fi d n e ev H (kAn (vA B fi d n) r ev Q))
    | .Or => (match es with | [] => Q false H | e :: r => vT B fi d n e ev H (kOr (vA B fi d n) r ev Q))
end
/-! soundness -/
section
variable {B : Bs} {fi : FI} {d : Nat}
theorem starEach_plain : ∀ {es : List Expr} (env : Env), es.all notStar = true → starEach es env = es.map fun e => (false, eval e env)
  | [], _, _ => rfl
  | e :: r, env, h => by
    rw [List.all_cons, Bool.and_eq_true] at h
    have := starEach_plain env h.2
    cases e <;> first | (cases h.1; done) | (show _ :: starEach r env = _; rw [this]; rfl)
theorem star_cons {e : Expr} {r : List Expr} (h : notStar e = true) (env : Env) : starEach (e :: r) env = (false, eval e env) :: starEach r env := by
  cases e <;> first | (cases h; done) | rfl
theorem back_any {es : List Expr} {pos : Pos} (env : Env) (h : es.all notStar = true) : (backTo pos (starEach es env)).any (·.1) = false := by
  rw [starEach_plain env h]
  unfold backTo
  simp
theorem calT_ok {f : MV} (h : calT f = true) : calleeOk B f = true := by
  cases f with
  | con v =>
    cases v with
    | builtin s => rfl
    | type s => rfl
    | ref a =>
      exact kp_ok B h
    | _ => cases h
  | _ => cases h
theorem gTab_ok {x : Str} {m : MV} {p : Pos} {ev : List MV} {H : List MObj} {Q : KE} (h : gTab.lookup x = some m) (hs : fi.ns.lookup x = some .globalImplicit) (q : Q m H) : WPE B fi d (.Name x p) ev H Q := by
  have key : ∀ (l : List (Str × MV)), (∀ y ∈ l, ∀ (x : Str), x = y.1 → fi.ns.lookup x = some .globalImplicit → Q y.2 H → WPE B fi d (.Name x p) ev H Q) → l.lookup x = some m → WPE B fi d (.Name x p) ev H Q := by
    intro l
    induction l with
    | nil => intro _ e; cases e
    | cons y r ih =>
      intro hl e
      rw [List.lookup_cons] at e
      cases hb : x == y.1 with
      | true => rw [hb] at e; cases e; exact hl y (by simp) x (eq_of_beq hb) hs q
      | false => rw [hb] at e; exact ih (fun z hz => hl z (by simp [hz])) e
  refine key gTab ?_ h
  unfold gTab
  simp only [List.forall_mem_cons]
  refine ⟨?_, ?_, ?_, ?_, ?_, ?_, ?_, ?_, ?_, ?_, ?_, ?_, ?_, ?_, ?_, ?_, ?_, ?_, ?_, ?_, ?_, ?_, ?_, ?_, ?_, ?_, ?_, ?_, ?_, ?_, ?_, ?_, ?_, ?_, ?_, fun y hy => by cases hy⟩
  · rintro x rfl; exact gl_len
  · rintro x rfl; exact gl_min
  · rintro x rfl; exact gl_max
  · rintro x rfl; exact gl_isinstance
  · rintro x rfl; exact gl_sum
  · rintro x rfl; exact gl_list
  · rintro x rfl; exact gl_range
  · rintro x rfl; exact gl_enumerate
  · rintro x rfl; exact gl_zip
  · rintro x rfl; exact gl_bytes
  · rintro x rfl; exact gl_str
  · rintro x rfl; exact gl_Chunk
  · rintro x rfl; exact gl_Change
  · rintro x rfl; exact gl_LineSheet
  · rintro x rfl; exact gl_LineNumbers
  · rintro x rfl; exact gl_BOTH
  · rintro x rfl; exact gl_CONFLICT
  · rintro x rfl; exact gl_OURS
  · rintro x rfl; exact gl_THEIRS
  · rintro x rfl; exact gl_SHORT
  · rintro x rfl; exact gl_line_further
  · rintro x rfl; exact gl_myers
  · rintro x rfl; exact gl_by
  · rintro x rfl; exact gl_conflict_parted
  · rintro x rfl; exact gl_conflict_trimmed
  · rintro x rfl; exact gl_conflicts_closed_up
  · rintro x rfl; exact gl_conflict_pieces
  · rintro x rfl; exact gl_law_draw
  · rintro x rfl; exact gl_law_lines
  · rintro x rfl; exact gl_law_chunk
  · rintro x rfl; exact gl_law_told
  · rintro x rfl; exact gl_law_longest
  · rintro x rfl; exact gl_law_is_parted
  · rintro x rfl; exact gl_law_trimmed
  · rintro x rfl; exact gl_law_closed
theorem binQ_ok {op : Operator} {a b : MV} {H : List MObj} {Q : KE} (h : binQ op a b H Q) : binM op a b H Q := by
  cases a <;> first | exact lf h | skip
  cases b <;> first | exact lf h | skip
  cases op <;> first | exact lf h | exact bin_add h | exact bin_sub h
theorem cmpQ_ok {op : CmpOp} {a b : MV} {H : List MObj} {Q : KB} (h : cmpQ op a b H Q) : cmpM op a b H fun c => Q c H := by
  cases a <;> first | exact lf h | skip
  cases b <;> first | exact lf h | skip
  cases op <;> first | exact lf h | exact cmp_lt h | exact cmp_le h | exact cmp_gt h | exact cmp_ge h | exact cmp_eq h | exact cmp_ne h
noncomputable def plN (y : Str) (q : Pos) (env : Env) : Sem Bool := do return (← importBound (.Name y q) env).getD true
theorem meth_eval {y x : Str} {q ap p : Pos} {es : List Expr} (env : Env) (h : es.all notStar = true) (hl : es.length < 30) (hp : (ap.endLine == p.line) = true) : eval (.Call (.Attribute (.Name y q) x ap) es [] p) env = (do
      let ov ← eval (.Name y q) env
      standAt ap.atName
      let (f, first) ← holding [ov] (getMethod ov x (plN y q env))
      callWith p f first (backTo p (starEach es env)) []) := by
  have hf : methodCallForm (es.length + 0) (backTo p (starEach es env)) (backToKw p (keywordEach [] env)) = true := by
    unfold methodCallForm
    rw [starEach_plain env h]
    unfold backTo backToKw keywordEach
    simp; omega
  show (do
    let ov ← eval (.Name y q) env
    standAt ap.atName
    methodCall (.Name y q) x ap p env ov (es.length + 0) (backTo p (starEach es env)) (backToKw p (keywordEach [] env))) = _
  unfold methodCall
  rw [hf]
  have hq : methodCallPos true (.Name y q) env ap p = pure p := by unfold methodCallPos; rw [hp]; rfl
  rw [hq]
  rfl
theorem methM_mono {o : MV} {x : Str} {H : List MObj} {R R' : MV → List MV → Prop} (h : methM B o x H R) (k : ∀ f a, R f a → R' f a) : methM B o x H R' :=
  fun fi env Φ A g ev s ov pl I ho => W.mono (h fi env Φ A g ev s ov pl I ho) fun g' ev' H' r l ⟨q, f, first, a, b, c, d⟩ => ⟨q, f, first, a, b, c, k _ _ d⟩
noncomputable def Snd (B : Bs) (fi : FI) (d n : Nat) : Prop :=
  (∀ e ev H Q, vE B fi d n e ev H Q → WPE B fi d e ev H Q) ∧ (∀ es ev H Q, vEs B fi d n es ev H Q → WPEs B fi d es ev H Q) ∧ (∀ o ev H Q, vO B fi d n o ev H Q → WPO B fi d o ev H fun a H1 => Q a H1) ∧
  (∀ e ev H Q, vT B fi d n e ev H Q → WPT B fi d e ev H Q) ∧ (∀ op es ev H Q, vA B fi d n op es ev H Q → WPA B fi d op es ev H Q)
theorem WPEs.mono {es : List Expr} {ev : List MV} {H : List MObj} {Q Q' : List MV → List MObj → Prop} (h : WPEs B fi d es ev H Q) (k : ∀ ms H', Q ms H' → Q' ms H') : WPEs B fi d es ev H Q' :=
  fun A env Φ g s pos ok I => (h A env Φ g s pos ok I).mono fun g1 ev1 H1 v l ⟨e1, ms, r, q⟩ => ⟨e1, ms, r, k _ _ q⟩
theorem nmQ_loc {x : Str} {p : Pos} {i : Nat} {k : NameKind} {ev : List MV} {H : List MObj} {Q : KE} (hs : slot fi.ns x = some (i, k)) (hk : k = .local ∨ k = .cell ∨ k = .free) (h : sure (!res x) (getQ ev i H Q)) : WPE B fi d (.Name x p) ev H Q := by
  obtain ⟨hr, h⟩ := h.inv
  obtain ⟨m, e1, e2, q⟩ := h.inv
  exact WPE.name hs hk e1 e2 (by simpa [res] using hr) q
theorem nmQ_ok {x : Str} {p : Pos} {ev : List MV} {H : List MObj} {Q : KE} {o : Option (Nat × NameKind)} (hs : slot fi.ns x = o) (h : nmQ B fi d x p ev H Q o) : WPE B fi d (.Name x p) ev H Q := by
  rcases o with _ | ⟨i, k⟩
  · exact lf h
  · cases k
    case «local» => exact nmQ_loc hs (.inl rfl) h
    case cell => exact nmQ_loc hs (.inr (.inl rfl)) h
    case free => exact nmQ_loc hs (.inr (.inr rfl)) h
    case globalImplicit =>
      have key : ∀ o, gTab.lookup x = o → (match (generalizing := false) o with | some m => Q m H | none => Go (LeafE B fi d (.Name x p) ev H Q) : Prop) → WPE B fi d (.Name x p) ev H Q := by
        intro o ho h
        cases o with
        | none => exact lf h
        | some m => exact gTab_ok ho (slot_lookup hs) h
      exact key _ rfl h
    all_goals exact lf h
theorem isNm.inv {e : Expr} (h : isNm e = true) : ∃ y q, e = .Name y q := by
  cases e
  case Name y q => exact ⟨y, q, rfl⟩
  all_goals cases h
theorem vNil {n : Nat} {ev : List MV} {H : List MObj} {Q : List MV → List MObj → Prop} (h : vEs B fi d n [] ev H Q) : Q [] H := by
  cases n with
  | zero => exact False.elim h
  | succ n => exact h
theorem snd : ∀ n, Snd B fi d n
  | 0 => ⟨fun _ _ _ _ h => lf h, fun _ _ _ _ h => False.elim h, fun _ _ _ _ h => False.elim h, fun _ _ _ _ h => lf h, fun _ _ _ _ _ h => False.elim h⟩
  | n + 1 => by
    obtain ⟨iE, iEs, iO, iT, iA⟩ := snd n
    have iE2 : ∀ {e ev H} {Q Q' : KE}, vE B fi d n e ev H Q → (∀ m H', Q m H' → Q' m H') → WPE B fi d e ev H Q' := fun h k => WPE.mono (iE _ _ _ _ h) k
    have iEs2 : ∀ {es ev H} {Q Q' : List MV → List MObj → Prop}, vEs B fi d n es ev H Q → (∀ m H', Q m H' → Q' m H') → WPEs B fi d es ev H Q' := fun h k => WPEs.mono (iEs _ _ _ _ h) k
    have iO2 : ∀ {o ev H} {Q Q' : Option Int → List MObj → Prop}, vO B fi d n o ev H Q → (∀ m H', Q m H' → Q' m H') → WPO B fi d o ev H Q' := by
      intro o ev H Q Q' h k
      have := iO _ _ _ _ h
      cases o with
      | none => exact k _ _ this
      | some e =>
        refine WPE.mono this ?_
        rintro m H1 ⟨i, a, b, c⟩
        exact ⟨i, a, b, k _ _ c⟩
    refine ⟨?_, ?_, ?_, ?_, ?_⟩
    · intro e ev H Q h
      cases e
      case Name x p => exact nmQ_ok rfl h
      case Constant c k p =>
        cases c
        case int => exact WPE.cInt h
        case str => exact WPE.cStr h
        case bool => exact WPE.cBool h
        case none => exact WPE.cNone h
        case bytes => exact WPE.cBytes h
        all_goals exact lf h
      case Tuple es k p => exact WPE.tup (iEs2 h fun ms H1 q => (sure.inv q).imp Nat.le_of_ble_eq_true fun x => x)
      case List es p => exact WPE.list (iEs2 h fun ms H1 q => (sure.inv q).imp Nat.le_of_ble_eq_true fun x => x)
      case BinOp l op r p => exact WPE.bin (iE2 h fun a H1 q => iE2 q fun b H2 q => binQ_ok q)
      case UnaryOp op e p =>
        cases op
        case USub =>
          refine WPE.neg (iE2 h ?_)
          intro a H1 q
          cases a
          case int => exact ⟨_, rfl, q⟩
          all_goals exact q.elim
        all_goals exact lf h
      case Compare l ops rs p =>
        rcases ops with _ | ⟨op, _ | ⟨op2, ops⟩⟩
        · exact lf h
        · rcases rs with _ | ⟨r, _ | ⟨r2, rs⟩⟩
          · exact lf h
          · have h := sure.inv h
            exact WPE.cmp (Bool.not_eq_true' _ ▸ h.1) (iE2 h.2 fun a H1 q => iE2 q fun b H2 q => cmpQ_ok q)
          · exact lf h
        · exact lf h
      case IfExp t a b p => exact WPE.ifx (WPT.mid _ (iT _ _ _ _ h) fun c H1 q => ⟨fun hc => iE _ _ _ _ ((lf q).1 hc), fun hc => iE _ _ _ _ ((lf q).2 hc)⟩)
      case Attribute o x p =>
        cases o
        case Name y q => exact WPE.attr (fun _ => rfl) (iE2 h fun m H1 q => lf q)
        all_goals exact lf h
      case Subscript e i p =>
        cases i
        case Slice lo hi st sp =>
          cases st with
          | none => exact WPE.slice (iE2 h fun o H1 q => iO2 q fun a H2 q => iO2 q fun b H3 q => lf q)
          | some s => exact lf h
        all_goals exact WPE.sub (fun _ _ => rfl) (iE2 h fun o H1 q => iE2 q fun k H2 q => lf q)
      case Call f args kws p =>
        cases kws with
        | cons a b => exact lf h
        | nil =>
        cases f
        case Name x q =>
          have h := sure.inv h
          cases args with
          | nil => exact WPE.call0 (iE2 h.2 fun fv H1 q => (sure.inv q).imp calT_ok fun q => lf (vNil q))
          | cons e rest =>
            have ha := h.1
            rw [List.all_cons, Bool.and_eq_true] at ha
            exact WPE.call (fun env => star_cons ha.1 env) (fun env => back_any env ha.2) (iE2 h.2 fun fv H1 q => (sure.inv q).imp calT_ok fun q => iEs2 q fun ms H2 q => lf q)
        case Attribute o x ap =>
          have h := sure.inv h
          have hx := h.1
          rw [Bool.and_eq_true, Bool.and_eq_true, Bool.and_eq_true] at hx
          obtain ⟨hx1, hx2, hx3, hx4⟩ := hx
          obtain ⟨y, yp, rfl⟩ := isNm.inv hx1
          have hl := Nat.le_of_ble_eq_true hx3
          cases args with
          | nil => exact WPE.meth0 (fun env => meth_eval env hx2 hl hx4) (iE2 h.2 fun ov H1 q => methM_mono (lf q) fun f first q => by
              rcases first with _ | ⟨a, _ | ⟨b, r⟩⟩
              · exact lf (vNil q)
              · exact lf (vNil q)
              · exact False.elim q)
          | cons e rest =>
            have ha := hx2
            rw [List.all_cons, Bool.and_eq_true] at ha
            exact WPE.meth (fun env => meth_eval env hx2 hl hx4) (fun env => star_cons ha.1 env) (fun env => back_any env ha.2) (iE2 h.2 fun ov H1 q => methM_mono (lf q) fun f first q => by
              rcases first with _ | ⟨a, _ | ⟨b, r⟩⟩
              · exact iEs2 q fun ms H2 q => lf q
              · exact iEs2 q fun ms H2 q => lf q
              · exact False.elim q)
        all_goals exact lf h
      all_goals exact lf h
    · intro es ev H Q h
      cases es with
      | nil => exact WPEs.nil h
      | cons e r =>
        have h := sure.inv h
        exact WPEs.cons (fun env => star_cons h.1 env) (iE2 h.2 fun m H1 q => iEs2 q fun ms H2 q => q)
    · intro o ev H Q h
      cases o with
      | none => exact h
      | some e =>
        refine iE2 h ?_
        intro m H1 q
        cases m
        case int => have q := Stop.un (lf q); exact ⟨_, rfl, q.1, q.2⟩
        all_goals exact q.elim
    · intro e ev H Q h
      cases e
      case Compare l ops rs p =>
        rcases ops with _ | ⟨op, _ | ⟨op2, ops⟩⟩
        · exact lf h
        · rcases rs with _ | ⟨r, _ | ⟨r2, rs⟩⟩
          · exact lf h
          · have h := sure.inv h
            exact WPT.cmp (Bool.not_eq_true' _ ▸ h.1) (iE2 h.2 fun a H1 q => iE2 q fun b H2 q => cmpQ_ok q)
          · exact lf h
        · exact lf h
      case UnaryOp op e p =>
        cases op
        case Not => exact WPT.not (iT _ _ _ _ h)
        all_goals exact lf h
      case BoolOp op es p => exact WPT.bop (iA _ _ _ _ _ h)
      all_goals exact lf h
    · intro op es ev H Q h
      cases op
      · cases es with
        | nil => exact WPA.andNil h
        | cons => exact WPA.and (WPT.mid _ (iT _ _ _ _ h) fun b H1 q => ⟨fun hb => iA _ _ _ _ _ ((lf q).1 hb), (lf q).2⟩)
      · cases es with
        | nil => exact WPA.orNil h
        | cons => exact WPA.or (WPT.mid _ (iT _ _ _ _ h) fun b H1 q => ⟨(lf q).1, fun hb => iA _ _ _ _ _ ((lf q).2 hb)⟩)
end
/-! targets, statements -/
noncomputable def kP1 (B : Bs) (x : Str) (m : MV) (ev : List MV) (Q : KS) (o : MV) (H : List MObj) : Prop := Go (LeafP B o x m H (Q ev))
noncomputable def kZ2 (o m : MV) (ev : List MV) (Q : KS) (i : MV) (H : List MObj) : Prop := Go (setM o i m H (Q ev))
noncomputable def kZ1 (F : FE) (k : Expr) (m : MV) (ev : List MV) (Q : KS) (o : MV) (H : List MObj) : Prop := F k ev H (kZ2 o m ev Q)
noncomputable def kG (F : List Expr → List MV → List MV → List MObj → KS → Prop) (ts : List Expr) (ms : List MV) (Q : KS) (ev : List MV) (H : List MObj) : Prop := F ts ms ev H Q
mutual
noncomputable def vG (B : Bs) (fi : FI) (d : Nat) : Nat → Expr → MV → List MV → List MObj → KS → Prop
  | 0, t, m, ev, H, Q => Go (LeafG B fi d t m ev H Q)
  | n + 1, t, m, ev, H, Q => match t with
    | .Name x p => nmG B fi d x p m ev H Q (slot fi.ns x)
    | .Attribute e x _ => vE B fi d n e ev H (kP1 B x m ev Q)
    | .Subscript e k _ => vE B fi d n e ev H (kZ1 (vE B fi d n) k m ev Q)
    | .Tuple ts k p => (match m with
      | .tup ms => sure (Nat.beq ts.length ms.length && ts.all notStar) (vGs B fi d n ts ms ev H Q)
      | m => Go (LeafG B fi d (.Tuple ts k p) m ev H Q))
    | t => Go (LeafG B fi d t m ev H Q)
noncomputable def vGs (B : Bs) (fi : FI) (d : Nat) : Nat → List Expr → List MV → List MV → List MObj → KS → Prop
  | 0, _, _, _, _, _ => False
  | n + 1, ts, ms, ev, H, Q => match ts with
    | [] => (match ms with | [] => Q ev H | _ :: _ => False)
    | t :: ts => (match ms with | [] => False | m :: ms => sure (notStar t) (vG B fi d n t m ev H (kG (vGs B fi d n) ts ms Q)))
end
noncomputable def kA1 (B : Bs) (fi : FI) (d n : Nat) (t : Expr) (ev : List MV) (Q : KS) (m : MV) (H : List MObj) : Prop := vG B fi d n t m ev H Q
noncomputable def kX (ev : List MV) (Q : KS) (m : MV) (H : List MObj) : Prop := sure (notRef m) (Q ev H)
noncomputable def kG2 (op : Operator) (old : MV) (i : Nat) (ev : List MV) (Q : KS) (v : MV) (H : List MObj) : Prop := augQ op old v i ev H Q
noncomputable def kG1 (F : FE) (op : Operator) (value : Expr) (i : Nat) (ev : List MV) (Q : KS) (old : MV) (H : List MObj) : Prop := F value ev H (kG2 op old i ev Q)
noncomputable def agQ (B : Bs) (fi : FI) (d : Nat) (n : Nat) (x : Str) (np : Pos) (op : Operator) (value : Expr) (pos : Pos) (ev : List MV) (H : List MObj) (Qn : KS) (Qr : KE) (o : Option (Nat × NameKind)) : Prop := match o with
  | some (i, k) => (match k with
    | .local => sure (!res x) (getQ ev i H (kG1 (vE B fi d n) op value i ev Qn))
    | _ => Go (Leaf1 B fi d (.AugAssign (.Name x np) op value pos) ev H Qn Qr))
  | none => Go (Leaf1 B fi d (.AugAssign (.Name x np) op value pos) ev H Qn Qr)
noncomputable def v1 (B : Bs) (fi : FI) (d : Nat) (n : Nat) (st : Stmt) (ev : List MV) (H : List MObj) (Qn : KS) (Qr : KE) : Prop := match st with
  | .Return (some e) _ => vE B fi d n e ev H Qr
  | .Assign ts value pos => (match ts with
    | [] => False
    | t :: r => (match r with
      | [] => (match notComp value && tgtV t value with
        | true => vE B fi d n value ev H (kA1 B fi d n t ev Qn)
        | false => Go (Leaf1 B fi d (.Assign [t] value pos) ev H Qn Qr))
      | _ :: _ => False))
  | .AugAssign t op value pos => (match t with
    | .Name x np => agQ B fi d n x np op value pos ev H Qn Qr (slot fi.ns x)
    | t => Go (Leaf1 B fi d (.AugAssign t op value pos) ev H Qn Qr))
  | .Expr e pos => (match notComp e with
    | true => vE B fi d n e ev H (kX ev Qn)
    | false => Go (Leaf1 B fi d (.Expr e pos) ev H Qn Qr))
  | st => Go (Leaf1 B fi d st ev H Qn Qr)
noncomputable def kS (F : List MV → List MObj → KS → KE → Prop) (Qn : KS) (Qr : KE) (ev : List MV) (H : List MObj) : Prop := F ev H Qn Qr
noncomputable def vS (B : Bs) (fi : FI) (d : Nat) (n : Nat) : List Stmt → List MV → List MObj → KS → KE → Prop
  | [], ev, H, Qn, _ => Qn ev H
  | st :: r, ev, H, Qn, Qr => v1 B fi d n st ev H (kS (vS B fi d n r) Qn Qr) Qr
structure goE (Q : KE) (m : MV) (H : List MObj) : Prop where
  go : Q m H
structure goS (Q : KS) (m : List MV) (H : List MObj) : Prop where
  go : Q m H
structure goB (Q : KB) (m : Bool) (H : List MObj) : Prop where
  go : Q m H
section
variable {B : Bs} {fi : FI} {d : Nat}
theorem assignEach_cons {t : Expr} {r : List Expr} (h : notStar t = true) (env : Env) : assignEach (t :: r) env = (false, assign t env) :: assignEach r env := by
  cases t <;> first | (cases h; done) | rfl
theorem assignEach_none : ∀ {ts : List Expr} (env : Env), ts.all notStar = true → (assignEach ts env).findIdx? (·.1) = none
  | [], _, _ => rfl
  | t :: r, env, h => by
    rw [List.all_cons, Bool.and_eq_true] at h
    rw [assignEach_cons h.1, List.findIdx?_cons, assignEach_none env h.2]; rfl
theorem notComp_swaps {e : Expr} (h : notComp e = true) (t : Option Expr) (l : Nat) (env : Env) : swapsWith e t l env = pure false := by
  cases e <;> first | (cases h; done) | rfl
theorem tgt_swapped {t v : Expr} (h : tgtV t v = true) (env : Env) : swappedStores [t] v env = pure none := by
  cases t <;> first | (cases h; done) | skip
  case Tuple ts k p =>
    cases v <;> first | rfl | (cases h; done)
  all_goals (cases v <;> rfl)
theorem tgt_star {t v : Expr} (h : tgtV t v = true) : notStar t = true := by
  cases t <;> first | (cases h; done) | rfl
noncomputable def SndG (B : Bs) (fi : FI) (d n : Nat) : Prop := (∀ t m ev H Q, vG B fi d n t m ev H Q → WPG B fi d t m ev H Q) ∧ (∀ ts ms ev H Q, vGs B fi d n ts ms ev H Q → WPGs B fi d ts ms ev H Q)
theorem WPG.mono {t : Expr} {m : MV} {ev : List MV} {H : List MObj} {Q Q' : KS} (h : WPG B fi d t m ev H Q) (k : ∀ ev' H', Q ev' H' → Q' ev' H') : WPG B fi d t m ev H Q' :=
  fun A env Φ g s v ok I hv => W.mono (h A env Φ g s v ok I hv) fun g1 ev1 H1 _ l q => k _ _ q
theorem nmG_ok {x : Str} {p : Pos} {m : MV} {ev : List MV} {H : List MObj} {Q : KS} {o : Option (Nat × NameKind)} (hs : slot fi.ns x = o) (h : nmG B fi d x p m ev H Q o) : WPG B fi d (.Name x p) m ev H Q := by
  rcases o with _ | ⟨i, k⟩
  · exact lf h
  · cases k
    case «local» => exact WPG.name hs (.inl rfl) (setE_ok h)
    case cell => exact WPG.name hs (.inr ⟨rfl, List.elem_iff.mp (sure.inv h).1⟩) (setE_ok (sure.inv h).2)
    all_goals exact lf h
theorem sndG : ∀ n, SndG B fi d n
  | 0 => ⟨fun _ _ _ _ _ h => lf h, fun _ _ _ _ _ h => False.elim h⟩
  | n + 1 => by
    obtain ⟨iG, iGs⟩ := sndG n
    have iE2 : ∀ {e ev H} {Q Q' : KE}, vE B fi d n e ev H Q → (∀ m H', Q m H' → Q' m H') → WPE B fi d e ev H Q' := fun h k => WPE.mono ((snd n).1 _ _ _ _ h) k
    refine ⟨?_, ?_⟩
    · intro t m ev H Q h
      cases t
      case Name x p => exact nmG_ok rfl h
      case Attribute e x p => exact WPG.attr (iE2 h fun o H1 q => lf q)
      case Subscript e k p => exact WPG.sub (iE2 h fun o H1 q => iE2 q fun i H2 q => lf q)
      case Tuple ts k p =>
        cases m
        case tup ms =>
          have h := sure.inv h
          have a := h.1
          rw [Bool.and_eq_true] at a
          exact WPG.tup (Nat.eq_of_beq_eq_true a.1) (fun env => assignEach_none env a.2) (iGs _ _ _ _ _ h.2)
        all_goals exact lf h
      all_goals exact lf h
    · intro ts ms ev H Q h
      cases ts with
      | nil => cases ms with
        | nil => exact WPGs.nil h
        | cons => exact False.elim h
      | cons t ts => cases ms with
        | nil => exact False.elim h
        | cons m ms =>
          have h := sure.inv h
          exact WPGs.cons (fun env => assignEach_cons h.1 env) (WPG.mono (iG _ _ _ _ _ h.2) fun ev1 H1 q => iGs _ _ _ _ _ q)
theorem augQ_ok {op : Operator} {a b : MV} {i : Nat} {ev : List MV} {H : List MObj} {Q : KS} (h : augQ op a b i ev H Q) : augM op a b fun r => Q (ev.set i r) H := by
  cases a <;> first | exact h.elim | skip
  cases b <;> first | exact h.elim | skip
  cases op <;> first | exact aug_add (setE_ok h) | exact aug_sub (setE_ok h) | exact h.elim
theorem agQ_ok {n : Nat} {x : Str} {np : Pos} {op : Operator} {value : Expr} {pos : Pos} {ev : List MV} {H : List MObj} {Qn : KS} {Qr : KE} {o : Option (Nat × NameKind)} (hs : slot fi.ns x = o) (h : agQ B fi d n x np op value pos ev H Qn Qr o) : WP1 B fi d (.AugAssign (.Name x np) op value pos) ev H Qn Qr := by
  rcases o with _ | ⟨i, k⟩
  · exact lf h
  · cases k
    case «local» =>
      have h := sure.inv h
      obtain ⟨m, e1, e2, q⟩ := getQ.inv h.2
      have hr := h.1
      unfold res at hr
      rw [Bool.not_eq_true', Bool.or_eq_false_iff] at hr
      exact WP1.augName hs e1 e2 hr.2 (WPE.mono ((snd n).1 _ _ _ _ q) fun v H1 q => augQ_ok q)
    all_goals exact lf h
theorem snd1 {n : Nat} {st : Stmt} {ev : List MV} {H : List MObj} {Qn : KS} {Qr : KE} (h : v1 B fi d n st ev H Qn Qr) : WP1 B fi d st ev H Qn Qr := by
  have iE2 : ∀ {e ev H} {Q Q' : KE}, vE B fi d n e ev H Q → (∀ m H', Q m H' → Q' m H') → WPE B fi d e ev H Q' := fun h k => WPE.mono ((snd n).1 _ _ _ _ h) k
  cases st
  case Return o p =>
    cases o with
    | none => exact lf h
    | some e => exact WP1.ret ((snd n).1 _ _ _ _ h)
  case Assign ts value pos =>
    rcases ts with _ | ⟨t, _ | ⟨t2, r⟩⟩
    · exact False.elim h
    · have key : ∀ b, (notComp value && tgtV t value) = b → (match (generalizing := false) b with | true => vE B fi d n value ev H (kA1 B fi d n t ev Qn) | false => Go (Leaf1 B fi d (.Assign [t] value pos) ev H Qn Qr) : Prop) → WP1 B fi d (.Assign [t] value pos) ev H Qn Qr := by
        intro b hb h
        cases b
        · exact lf h
        · rw [Bool.and_eq_true] at hb
          exact WP1.asg (fun env => assignEach_cons (tgt_star hb.2) env) (fun env _ _ => notComp_swaps hb.1 _ _ env) (fun env _ _ => tgt_swapped hb.2 env) (iE2 h fun m H1 q => (sndG n).1 _ _ _ _ _ q)
      exact key _ rfl h
    · exact False.elim h
  case AugAssign t op value pos =>
    cases t
    case Name x np => exact agQ_ok rfl h
    all_goals exact lf h
  case Expr e pos =>
    have key : ∀ b, notComp e = b → (match (generalizing := false) b with | true => vE B fi d n e ev H (kX ev Qn) | false => Go (Leaf1 B fi d (.Expr e pos) ev H Qn Qr) : Prop) → WP1 B fi d (.Expr e pos) ev H Qn Qr := by
      intro b hb h
      cases b
      · exact lf h
      · exact WP1.expr (fun env => notComp_swaps hb _ _ env) (iE2 h fun m H1 q => sure.inv q)
    exact key _ rfl h
  all_goals exact lf h
theorem sndS {n : Nat} : ∀ {ss : List Stmt} {ev : List MV} {H : List MObj} {Qn : KS} {Qr : KE}, vS B fi d n ss ev H Qn Qr → WPS B fi d ss ev H Qn Qr
  | [], _, _, _, _, h => WPS.nil h
  | st :: r, _, _, _, _, h => WPS.cons (WP1.mid _ (snd1 h) fun ev1 H1 q => sndS q)
theorem sE {e : Expr} {ev : List MV} {H : List MObj} {Q : KE} (h : vE B fi d 40 e ev H (goE Q)) : WPE B fi d e ev H Q := WPE.mono ((snd 40).1 _ _ _ _ h) fun _ _ q => q.go
theorem sT {e : Expr} {ev : List MV} {H : List MObj} {Q : Bool → List MObj → Prop} (h : vT B fi d 40 e ev H (goB Q)) : WPT B fi d e ev H Q := WPT.mid _ ((snd 40).2.2.2.1 _ _ _ _ h) fun _ _ q => q.go
theorem sG {t : Expr} {m : MV} {ev : List MV} {H : List MObj} {Q : KS} (h : vG B fi d 40 t m ev H (goS Q)) : WPG B fi d t m ev H Q := WPG.mono ((sndG 40).1 _ _ _ _ _ h) fun _ _ q => q.go
theorem sEs {es : List Expr} {ev : List MV} {H : List MObj} {Q : List MV → List MObj → Prop} (h : vEs B fi d 40 es ev H (goS Q)) : WPEs B fi d es ev H Q := WPEs.mono ((snd 40).2.1 _ _ _ _ h) fun _ _ q => q.go
theorem sS {ss : List Stmt} {ev : List MV} {H : List MObj} {Qn : KS} {Qr : KE} (h : vS B fi d 40 ss ev H (goS Qn) (goE Qr)) : WPS B fi d ss ev H Qn Qr := WPS.mono (sndS h) (fun _ _ q => q.go) (fun _ _ q => q.go)
/-! the leaves -/
theorem Leaf1.of {st : Stmt} {ev : List MV} {H : List MObj} {Qn : KS} {Qr : KE} (h : WP1 B fi d st ev H Qn Qr) : Leaf1 B fi d st ev H Qn Qr := h
theorem LeafE.of {e : Expr} {ev : List MV} {H : List MObj} {Q : KE} (h : WPE B fi d e ev H Q) : LeafE B fi d e ev H Q := h
theorem LeafT.of {e : Expr} {ev : List MV} {H : List MObj} {Q : Bool → List MObj → Prop} (h : WPT B fi d e ev H Q) : LeafT B fi d e ev H Q := h
theorem LeafA.go {i : Nat} {C : Addr} {x : Str} {fs : List (Str × MV)} {m : MV} {H : List MObj} {Q : KE} (h1 : H[i]? = some (.inst C fs)) (h2 : attrOk B C x = true) (h3 : getF x fs = some m) (h4 : plain m = true) (h : Q m H) : LeafA B (.ref i) x H Q := ⟨i, C, fs, m, rfl, h1, h2, h3, h4, h⟩
theorem LeafP.go {i : Nat} {C : Addr} {x : Str} {fs : List (Str × MV)} {m : MV} {H : List MObj} {Q : List MObj → Prop} (h1 : H[i]? = some (.inst C fs)) (h2 : setOk B C x = true) (h3 : fs.length ≤ 100) (h : Q (H.set i (.inst C (putF x m fs)))) : LeafP B (.ref i) x m H Q := ⟨i, C, fs, rfl, h1, h2, h3, h⟩
theorem LeafL.go {j : Nat} {vs : List MV} {a b : Option Int} {H : List MObj} {Q : KE} (h1 : H[j]? = some (.list vs)) (h2 : vs.length ≤ 100000) (h : Q (.ref H.length) (H ++ [.list (sliceM vs a b)])) : LeafL (.ref j) a b H Q := ⟨j, vs, rfl, h1, h2, h⟩
theorem Stop.and {P Q : Prop} (h1 : P) (h2 : Q) : Stop (P ∧ Q) := Stop.of ⟨h1, h2⟩
theorem WPI.seqV {tg e : Expr} {ev : List MV} {H : List MObj} {Q : (List MObj → Prop) → List MV → List MObj → Prop} (h : WPE B fi d e ev H fun o H1 => Stop (seqM o H1 fun chk items => Q chk items H1)) : WPI B fi d tg e ev H Q :=
  WPI.seq (WPE.mono h fun _ _ q => q.un)
end
section
variable {B : Bs} {fi : FI} {d : Nat} {ev : List MV} {H : List MObj} {Qn C : KS} {Qr : KE} {Q : KE}
theorem Leaf1.midK {st : Stmt} (M : KS → Prop) (h : ∀ K, M K → WP1 B fi d st ev H K Qr) (k : M Qn) : Leaf1 B fi d st ev H Qn Qr := h _ k
theorem go_br {p : Prop} [Decidable p] {X Y : Prop} (h1 : p → X) (h2 : ¬p → Y) : br (dc p) X Y := ⟨fun h => h1 (of_dc_t h), fun h => h2 (of_dc_f h)⟩
theorem go_brF {X Y : Prop} (h2 : Y) : br false X Y := ⟨fun h => Bool.noConfusion h, fun _ => h2⟩
theorem go_brT {X Y : Prop} (h2 : X) : br true X Y := ⟨fun _ => h2, fun h => Bool.noConfusion h⟩
@[reducible] noncomputable def wq (B : Bs) (fi : FI) (d : Nat) (body : List Stmt) (C Qn : KS) (Qr : KE) (ev : List MV) (b : Bool) (H : List MObj) : Prop := br b (WPS B fi d body ev H C Qr) (Qn ev H)
@[reducible] noncomputable def wt (B : Bs) (fi : FI) (d : Nat) (test : Expr) (body : List Stmt) (C Qn : KS) (Qr : KE) (ev : List MV) (H : List MObj) : Prop := WPT B fi d test ev H (wq B fi d body C Qn Qr ev)
theorem go_wt {test : Expr} {body : List Stmt} (h : WPT B fi d test ev H (wq B fi d body C Qn Qr ev)) : wt B fi d test body C Qn Qr ev H := h
theorem WP1.whl {test : Expr} {body : List Stmt} {pos : Pos} (I : Nat → KS → Prop) (n : Nat) (h0 : ∀ K, I n K → K ev H)
    (cl : ∀ n (C : KS), (∀ ev H, (∀ K, I n K → K ev H) → C ev H) → I n C)
    (step : ∀ n (C : KS), (∀ m, m < n → I m C) → I n (wt B fi d test body C Qn Qr)) : WP1 B fi d (.While test body [] pos) ev H Qn Qr :=
  WP1.whileI (fun n ev H => ∀ K, I n K → K ev H) n h0 fun n ev H p => p _ (step n _ fun m hm => cl m _ fun ev H q => ⟨m, hm, q⟩)
@[reducible] noncomputable def iq (B : Bs) (fi : FI) (d : Nat) (a b : List Stmt) (Qn : KS) (Qr : KE) (ev : List MV) (c : Bool) (H : List MObj) : Prop := br c (WPS B fi d a ev H Qn Qr) (WPS B fi d b ev H Qn Qr)
theorem WP1.ite {t : Expr} {a b : List Stmt} {pos : Pos} (h : WPT B fi d t ev H (iq B fi d a b Qn Qr ev)) : WP1 B fi d (.If t a b pos) ev H Qn Qr := WP1.ifs h
theorem len_Ls {j : Nat} {ls : List Line} (hj : H[j]? = some (Ls ls)) (hs : ls.length ≤ 100000) (h : Q (.int ls.length) H) : WPV B d (.con (.builtin "len")) [.ref j] H Q :=
  WPV.len hj (by rw [List.length_map]; exact hs) (by rw [List.length_map]; exact h)
theorem min_N {a b : Nat} (h : Q (.int (min a b : Nat)) H) : WPV B d (.con (.builtin "min")) [.int (a : Int), .int (b : Int)] H Q :=
  WPV.min (by rw [show (if (b : Int) < (a : Int) then (b : Int) else (a : Int)) = ((min a b : Nat) : Int) from by split <;> lia]; exact h)
end
theorem toNat_sub1 (n i : Nat) : ((n : Int) - 1 - (i : Int)).toNat = n - 1 - i := by lia
/-! what is at a place: each with what is to be shown by itself -/
section
variable {H H' X : List MObj} {i j n : Nat} {o x : MObj}
theorem mvC (h : False) : ([] : List MObj)[i]? = some o := h.elim
theorem dApp (h : H[i]? = some o) : (H ++ X)[i]? = some o := at_app h
theorem dSetN (h : H[j]? = some x) (hne : i ≠ j) : (H.set i o)[j]? = some x := at_set_ne h hne
theorem dSet (h : i < H.length) : (H.set i o)[i]? = some o := at_set h
theorem dExt (x : Ext H H') (h : H[i]? = some o) : H'[i]? = some o := x i o h
theorem dLast (h : H.length = i) : (H ++ [o])[i]? = some o := at_lastI h
theorem ltS : H.length < (H ++ [x]).length := by simp
theorem ltA (h : n < H.length) : n < (H ++ [x]).length := Nat.lt_of_lt_of_le h (by simp)
theorem ltT (h : n < H.length) : n < (H.set i x).length := by rw [List.length_set]; exact h
theorem ltO (h : H[i]? = some o) : i < H.length := lt_of_at h
theorem ltX (x : Ext H H') (h : n < H.length) : n < H'.length := Nat.lt_of_lt_of_le h x.len
theorem leS : H.length ≤ (H ++ [x]).length := by simp
theorem leA (h : n ≤ H.length) : n ≤ (H ++ [x]).length := Nat.le_trans h leS
theorem leT (h : n ≤ H.length) : n ≤ (H.set i x).length := by rw [List.length_set]; exact h
theorem leX (x : Ext H H') (h : n ≤ H.length) : n ≤ H'.length := Nat.le_trans h x.len
theorem lt_k {n k : Nat} (h : Nat.ble 1 k = true) : n < n + k := Nat.lt_add_of_pos_right (Nat.le_of_ble_eq_true h)
theorem lt_kk {n a b : Nat} (h : Nat.ble (a + 1) b = true) : n + a < n + b := Nat.add_lt_add_left (Nat.le_of_ble_eq_true h) n
theorem neL (h : i < j) : i ≠ j := Nat.ne_of_lt h
theorem neG (h : j < i) : i ≠ j := Nat.ne_of_gt h
theorem xApp (h : Ext H H') : Ext H (H' ++ X) := h.trans (Ext.app _ _)
theorem xSet (h : Ext H H') (h2 : H.length ≤ i) : Ext H (H'.set i o) := h.set_new h2
theorem xTr {H0 : List MObj} (h2 : Ext H0 H') (h : Ext H H0) : Ext H H' := h.trans h2
theorem mApp {M : List Nat} (h : ExtM M H H') : ExtM M H (H' ++ X) := h.trans (Ext.app _ _).toM
theorem ExtM.set_new {M : List Nat} {H H' : List MObj} {i : Nat} {o : MObj} (x : ExtM M H H') (h : H.length ≤ i) : ExtM M H (H'.set i o) := fun j p n e => at_set_ne (x j p n e) (by have := lt_of_at e; lia)
theorem mSet {M : List Nat} (h : ExtM M H H') (h2 : H.length ≤ i) : ExtM M H (H'.set i o) := h.set_new h2
theorem mSetI {M : List Nat} (h : ExtM M H H') (h2 : i ∈ M) : ExtM M H (H'.set i o) := h.trans (.set h2)
theorem mTr {M : List Nat} {H0 : List MObj} (h2 : ExtM M H0 H') (h : ExtM M H H0) : ExtM M H H' := h.trans h2
theorem mX {M : List Nat} (h : Ext H H') : ExtM M H H' := h.toM
end
section
variable {B : Bs} {fi : FI} {d : Nat} {ev : List MV} {H : List MObj} {Q : KE} {Qn C : KS} {Qr : KE} {P : Bool → Prop}
theorem sliceM_map {α : Type} (f : α → MV) (ls : List α) (lo hi : Option Int) : sliceM (ls.map f) lo hi = ((ls.drop (lo.elim 0 Int.toNat)).take (hi.elim ls.length Int.toNat - lo.elim 0 Int.toNat)).map f := by
  unfold sliceM; rw [List.map_take, List.map_drop, List.length_map]
theorem le_k {n : Nat} (h : n ≤ 1000) : n ≤ 100000 := Nat.le_trans h (Nat.le_of_ble_eq_true rfl)
/-! attributes, slices -/
theorem tA {i : Nat} {A : Addr} {x : Str} {fs : List (Str × MV)} {m : MV} (h : Q m H) (h1 : H[i]? = some (.inst A fs)) (h3 : getF x fs = some m) (h2 : (atL.elem (A, x) && plain m) = true) : LeafA B (.ref i) x H Q :=
  ⟨i, A, fs, m, rfl, h1, (at_ok B (Bool.and_eq_true_iff.mp h2).1).1, h3, (Bool.and_eq_true_iff.mp h2).2, h⟩
theorem tP {i : Nat} {A : Addr} {x : Str} {fs : List (Str × MV)} {m : MV} {Q : List MObj → Prop} (h : Q (H.set i (.inst A (putF x m fs)))) (h1 : H[i]? = some (.inst A fs)) (h2 : (atL.elem (A, x) && Nat.ble fs.length 100) = true) : LeafP B (.ref i) x m H Q :=
  ⟨i, A, fs, rfl, h1, (at_ok B (Bool.and_eq_true_iff.mp h2).1).2, Nat.le_of_ble_eq_true (Bool.and_eq_true_iff.mp h2).2, h⟩
theorem tL {j : Nat} {vs : List MV} {a b : Option Int} (h : Q (.ref H.length) (H ++ [.list (sliceM vs a b)])) (h1 : H[j]? = some (.list vs)) (h2 : vs.length ≤ 100000) : LeafL (.ref j) a b H Q := ⟨j, vs, rfl, h1, h2, h⟩
theorem tLt {j : Nat} {ls : List Line} {b : Int} (h : Q (.ref H.length) (H ++ [Ls (ls.take b.toNat)])) (h1 : H[j]? = some (Ls ls)) (h2 : ls.length ≤ 100000) : LeafL (.ref j) none (some b) H Q :=
  tL (by rw [sliceM_map]; exact h) h1 (by rw [List.length_map]; exact h2)
theorem tLd {j : Nat} {ls : List Line} {a : Int} (h : Q (.ref H.length) (H ++ [Ls (ls.drop a.toNat)])) (h1 : H[j]? = some (Ls ls)) (h2 : ls.length ≤ 100000) : LeafL (.ref j) (some a) none H Q :=
  tL (by rw [sliceM_map]; show Q _ (_ ++ [MObj.list (((ls.drop a.toNat).take (ls.length - a.toNat)).map lb)]); rw [List.take_of_length_le (by simp)]; exact h) h1 (by rw [List.length_map]; exact h2)
theorem tLm {j : Nat} {ls : List Line} {a b : Int} (h : Q (.ref H.length) (H ++ [Ls ((ls.drop a.toNat).take (b.toNat - a.toNat))])) (h1 : H[j]? = some (Ls ls)) (h2 : ls.length ≤ 100000) : LeafL (.ref j) (some a) (some b) H Q :=
  tL (by rw [sliceM_map]; exact h) h1 (by rw [List.length_map]; exact h2)
theorem tLtN {j n : Nat} {ls : List Line} (h : Q (.ref H.length) (H ++ [Ls (ls.take n)])) (h1 : H[j]? = some (Ls ls)) (h2 : ls.length ≤ 100000) : LeafL (.ref j) none (some (n : Int)) H Q := tLt h h1 h2
theorem tLdN {j n : Nat} {ls : List Line} (h : Q (.ref H.length) (H ++ [Ls (ls.drop n)])) (h1 : H[j]? = some (Ls ls)) (h2 : ls.length ≤ 100000) : LeafL (.ref j) (some (n : Int)) none H Q := tLd h h1 h2
theorem tLdS {j a b : Nat} {ls : List Line} (h : Q (.ref H.length) (H ++ [Ls (ls.drop (a - b))])) (h1 : H[j]? = some (Ls ls)) (h2 : ls.length ≤ 100000) : LeafL (.ref j) (some ((a : Int) - (b : Int))) none H Q := tLd (by rw [Int.toNat_sub]; exact h) h1 h2
theorem tLmN {j n m : Nat} {ls : List Line} (h : Q (.ref H.length) (H ++ [Ls ((ls.drop n).take (m - n))])) (h1 : H[j]? = some (Ls ls)) (h2 : ls.length ≤ 100000) : LeafL (.ref j) (some (n : Int)) (some (m : Int)) H Q := tLm h h1 h2
theorem tLmS {j n a b : Nat} {ls : List Line} (h : Q (.ref H.length) (H ++ [Ls ((ls.drop n).take (a - b - n))])) (h1 : H[j]? = some (Ls ls)) (h2 : ls.length ≤ 100000) : LeafL (.ref j) (some (n : Int)) (some ((a : Int) - (b : Int))) H Q := tLm (by rw [Int.toNat_sub]; exact h) h1 h2
theorem tStop {P R : Prop} (h2 : R) (h1 : P) : Stop (P ∧ R) := Stop.of ⟨h1, h2⟩
/-! subscripts -/
noncomputable abbrev Ns (ns : List Nat) : MObj := .list (ns.map fun (n : Nat) => .int (n : Int))
noncomputable abbrev Bl (g : List Bool) : MObj := .list (g.map .bool)
theorem uMap {α : Type} (f : α → MV) (z : α) {j : Nat} {k : Int} {ls : List α} (h : Q (f (ls.getD k.toNat z)) H) (h1 : H[j]? = some (.list (ls.map f))) (h0 : 0 ≤ k) (hk : k < ls.length) (h2 : ls.length ≤ 100000) : subM (.ref j) (.int k) H Q := by
  obtain ⟨n, rfl⟩ := Int.eq_ofNat_of_zero_le h0
  have hn : n < ls.length := by lia
  refine sub_at n rfl h1 (by rw [List.length_map]; exact h2) ?_ h
  rw [List.getElem?_map, List.getD_eq_getElem?_getD, show ((n : Int)).toNat = n from rfl, List.getElem?_eq_getElem hn]; rfl
theorem uLs {j : Nat} {k : Int} {ls : List Line} (h : Q (lb (ls.getD k.toNat 0)) H) (h1 : H[j]? = some (Ls ls)) (h0 : 0 ≤ k) (hk : k < ls.length) (h2 : ls.length ≤ 100000) : subM (.ref j) (.int k) H Q := uMap lb 0 h h1 h0 hk h2
theorem uNs {j : Nat} {k : Int} {ls : List Nat} (h : Q (.int ((ls.getD k.toNat 0 : Nat) : Int)) H) (h1 : H[j]? = some (Ns ls)) (h0 : 0 ≤ k) (hk : k < ls.length) (h2 : ls.length ≤ 100000) : subM (.ref j) (.int k) H Q := uMap (fun n : Nat => MV.int n) 0 h h1 h0 hk h2
theorem uBl {j : Nat} {k : Int} {ls : List Bool} (h : Q (.bool (ls.getD k.toNat false)) H) (h1 : H[j]? = some (Bl ls)) (h0 : 0 ≤ k) (hk : k < ls.length) (h2 : ls.length ≤ 100000) : subM (.ref j) (.int k) H Q := uMap MV.bool false h h1 h0 hk h2
theorem uMapN {α : Type} (f : α → MV) (z : α) {j n : Nat} {ls : List α} (h : Q (f (ls.getD n z)) H) (h1 : H[j]? = some (.list (ls.map f))) (hk : n < ls.length) (h2 : ls.length ≤ 100000) : subM (.ref j) (.int (n : Int)) H Q := uMap f z h h1 (Int.natCast_nonneg n) (Int.ofNat_lt.mpr hk) h2
theorem uLsN {j n : Nat} {ls : List Line} (h : Q (lb (ls.getD n 0)) H) (h1 : H[j]? = some (Ls ls)) (hk : n < ls.length) (h2 : ls.length ≤ 100000) : subM (.ref j) (.int (n : Int)) H Q := uMapN lb 0 h h1 hk h2
theorem uNsN {j n : Nat} {ls : List Nat} (h : Q (.int ((ls.getD n 0 : Nat) : Int)) H) (h1 : H[j]? = some (Ns ls)) (hk : n < ls.length) (h2 : ls.length ≤ 100000) : subM (.ref j) (.int (n : Int)) H Q := uMapN (fun n : Nat => MV.int n) 0 h h1 hk h2
theorem uBlN {j n : Nat} {ls : List Bool} (h : Q (.bool (ls.getD n false)) H) (h1 : H[j]? = some (Bl ls)) (hk : n < ls.length) (h2 : ls.length ≤ 100000) : subM (.ref j) (.int (n : Int)) H Q := uMapN MV.bool false h h1 hk h2
theorem uIs {j : Nat} {k : Int} {ls : List Int} (h : Q (.int (ls.getD k.toNat 0)) H) (h1 : H[j]? = some (.list (ls.map .int))) (h0 : 0 ≤ k) (hk : k < ls.length) (h2 : ls.length ≤ 100000) : subM (.ref j) (.int k) H Q := uMap MV.int 0 h h1 h0 hk h2
theorem uLast {j : Nat} {ls : List Line} (h : Q (lb (ls.getD (ls.length - 1) 0)) H) (h1 : H[j]? = some (Ls ls)) (hne : ls ≠ []) (h2 : ls.length ≤ 100000) : subM (.ref j) (.int (-1)) H Q := by
  have hp : 0 < ls.length := List.length_pos_iff.mpr hne
  refine sub_neg h1 (by rw [List.length_map]; exact h2) ?_ h
  rw [List.length_map, List.getElem?_map, List.getD_eq_getElem?_getD, List.getElem?_eq_getElem (Nat.sub_lt hp Nat.one_pos)]; rfl
theorem uS {j : Nat} {k : Str} {es : List (Str × MV)} {m : MV} (h : Q m H) (h1 : H[j]? = some (.dS es)) (h2 : (es.find? (fun e => decide (e.1 = k))).map (·.2) = some m) : subM (.ref j) (.str k) H Q := sub_dS h1 h2 h
theorem zBl {Q : List MObj → Prop} {j : Nat} {k : Int} {ns : List Bool} {v : Bool} (h : Q (H.set j (Bl (ns.set k.toNat v)))) (h1 : H[j]? = some (Bl ns)) (h0 : 0 ≤ k) (hk : k < ns.length) (h2 : ns.length ≤ 100000) : setM (.ref j) (.int k) (.bool v) H Q :=
  set_listM h1 h0 (by rw [List.length_map]; exact hk) (by rw [List.length_map]; exact h2) (by rw [show (ns.map MV.bool).set k.toNat (.bool v) = (ns.set k.toNat v).map MV.bool from List.map_set.symm]; exact h)
theorem zBlN {Q : List MObj → Prop} {j n : Nat} {ns : List Bool} {v : Bool} (h : Q (H.set j (Bl (ns.set n v)))) (h1 : H[j]? = some (Bl ns)) (hk : n < ns.length) (h2 : ns.length ≤ 100000) : setM (.ref j) (.int (n : Int)) (.bool v) H Q := zBl h h1 (Int.natCast_nonneg n) (Int.ofNat_lt.mpr hk) h2
theorem zS {Q : List MObj → Prop} {j : Nat} {k : Str} {es : List (Str × MV)} {m : MV} (h : Q (H.set j (.dS (setD k m es)))) (h1 : H[j]? = some (.dS es)) (h2 : Nat.ble es.length 100000 = true) : setM (.ref j) (.str k) m H Q := set_dS h1 (Nat.le_of_ble_eq_true h2) h
/-! comparisons -/
theorem cmp_nil {i j : Nat} {xs : List MV} {c : Bool} {op : CmpOp} (hop : op = .Eq ∧ c = true ∨ op = .NotEq ∧ c = false) (h1 : H[i]? = some (.list xs)) (h2 : H[j]? = some (.list [])) (hne : i ≠ j) (h : P (decide (xs = []) == c)) : cmpM op (.ref i) (.ref j) H P := by
  have e : EqM H 20 (.ref i) (.ref j) (decide (xs = [])) := by
    by_cases hx : xs = []
    · subst hx
      rw [show decide (([] : List MV) = []) = (List.range ([] : List MV).length).all (fun _ => true) from rfl]
      exact .lists _ hne h1 h2 rfl (fun k x y e => by cases e)
    · rw [show decide (xs = []) = false from decide_eq_false hx]
      exact .lens h1 h2 (fun q => hx (List.length_eq_zero_iff.mp q))
  rcases hop with ⟨rfl, rfl⟩ | ⟨rfl, rfl⟩
  · exact cmp_eqR hne e (by rw [beq_true] at h; exact h)
  · exact cmp_neR hne e (by rw [beq_false] at h; exact h)
theorem eNil {i j : Nat} {ls : List Line} (h : P (dc (ls = []))) (h1 : H[i]? = some (Ls ls)) (h2 : H[j]? = some (.list [])) (hne : i ≠ j) : cmpM .Eq (.ref i) (.ref j) H P :=
  cmp_nil (.inl ⟨rfl, rfl⟩) h1 h2 hne (by rw [dc_eq] at h; rw [beq_true, show (decide (ls.map lb = [])) = decide (ls = []) from decide_eq_decide.mpr List.map_eq_nil_iff]; exact h)
theorem nNil {i j : Nat} {ls : List Line} (h : P (dc (ls ≠ []))) (h1 : H[i]? = some (Ls ls)) (h2 : H[j]? = some (.list [])) (hne : i ≠ j) : cmpM .NotEq (.ref i) (.ref j) H P :=
  cmp_nil (.inr ⟨rfl, rfl⟩) h1 h2 hne (by rw [dc_eq] at h; rw [beq_false, show (decide (ls.map lb = [])) = decide (ls = []) from decide_eq_decide.mpr List.map_eq_nil_iff, ← decide_not]; exact h)
theorem nNilA {i j : Nat} {xs : List MV} (h : P (dc (xs ≠ []))) (h1 : H[i]? = some (.list xs)) (h2 : H[j]? = some (.list [])) (hne : i ≠ j) : cmpM .NotEq (.ref i) (.ref j) H P :=
  cmp_nil (.inr ⟨rfl, rfl⟩) h1 h2 hne (by rw [dc_eq] at h; rw [beq_false, ← decide_not]; exact h)
theorem eLs {i j : Nat} {x y : List Line} (h : P (dc (x = y))) (h1 : H[i]? = some (Ls x)) (h2 : H[j]? = some (Ls y)) (hne : i ≠ j) : cmpM .Eq (.ref i) (.ref j) H P := cmp_eqR hne (eq_Ls h1 h2) (undc h)
theorem nLs {i j : Nat} {x y : List Line} (h : P (dc (x ≠ y))) (h1 : H[i]? = some (Ls x)) (h2 : H[j]? = some (Ls y)) (hne : i ≠ j) : cmpM .NotEq (.ref i) (.ref j) H P := cmp_neR hne (eq_Ls h1 h2) (by rw [dc_eq] at h; rw [← decide_not]; exact h)
theorem nInB {b : List UInt8} {j : Nat} {es : List (List UInt8 × MV)} (h : P (!es.any fun e => decide (e.1 = b))) (h1 : H[j]? = some (.dB es)) : cmpM .NotIn (.tup [.bool false, .bytes b]) (.ref j) H P := cmp_nindB h1 h
theorem nInI {a : Int} {j : Nat} {es : List (Int × MV)} (h : P (!es.any fun e => decide (e.1 = a))) (h1 : H[j]? = some (.dI es)) : cmpM .NotIn (.int a) (.ref j) H P := cmp_nindI h1 h
theorem eInI {a : Int} {j : Nat} {es : List (Int × MV)} (h : P (es.any fun e => decide (e.1 = a))) (h1 : H[j]? = some (.dI es)) : cmpM .In (.int a) (.ref j) H P := cmp_indI h1 h
/-! operators, methods, calls -/
theorem bMod {a b : Int} (h : Q (.int (a.fmod b)) H) (h0 : b ≠ 0) : binM .Mod (.int a) (.int b) H Q := bin_mod h0 h
theorem bMul {a b : Int} (h : Q (.int (a * b)) H) (h0 : -1000000 < b ∧ b < 1000000) : binM .Mult (.int a) (.int b) H Q := bin_mul h0 h
theorem bDiv {a b : Int} (h : Q (.int (a.fdiv b)) H) (h0 : b ≠ 0 ∧ -1000000 < b ∧ b < 1000000) : binM .FloorDiv (.int a) (.int b) H Q := bin_fdiv h0 h
theorem bLs {i j : Nat} {x y : List Line} (h : Q (.ref H.length) (H ++ [Ls (x ++ y)])) (h1 : H[i]? = some (Ls x)) (h2 : H[j]? = some (Ls y)) (h3 : x.length + y.length ≤ 100000) : binM .Add (.ref i) (.ref j) H Q :=
  bin_lapp h1 h2 (by rw [List.length_map, List.length_map]; exact h3) (by rw [← List.map_append]; exact h)
theorem bAp {i j : Nat} {xs ys : List MV} (h : Q (.ref H.length) (H ++ [.list (xs ++ ys)])) (h1 : H[i]? = some (.list xs)) (h2 : H[j]? = some (.list ys)) (h3 : xs.length + ys.length ≤ 100000) : binM .Add (.ref i) (.ref j) H Q := bin_lapp h1 h2 h3 h
theorem bRep {i : Nat} {m : MV} {b : Int} (h : Q (.ref H.length) (H ++ [.list (List.replicate b.toNat m)])) (h1 : H[i]? = some (.list [m])) (h0 : 0 ≤ b) (h2 : b ≤ 100000) : binM .Mult (.ref i) (.int b) H Q := bin_rep h1 ⟨h0, h2⟩ h
theorem mAp {R : MV → List MV → Prop} {i : Nat} {vs : List MV} (h : R (.con (.builtin "list.append")) [.ref i]) (h1 : H[i]? = some (.list vs)) : methM B (.ref i) (Str.ofString "append") H R := meth_append h1 h
theorem mEx {R : MV → List MV → Prop} {i : Nat} {vs : List MV} (h : R (.con (.builtin "list.extend")) [.ref i]) (h1 : H[i]? = some (.list vs)) : methM B (.ref i) (Str.ofString "extend") H R := meth_extend h1 h
theorem mPo {R : MV → List MV → Prop} {i : Nat} {vs : List MV} (h : R (.con (.builtin "list.pop")) [.ref i]) (h1 : H[i]? = some (.list vs)) : methM B (.ref i) (Str.ofString "pop") H R := meth_pop h1 h
noncomputable def meF (A : Addr) (x : Str) : Addr := match meL.find? fun p => p.1 == A && p.2.1 == x with | some p => p.2.2 | none => 0
theorem mIn {R : MV → List MV → Prop} {i f : Nat} {A : Addr} {x : Str} {fs : List (Str × MV)} (h : R (.con (.ref f)) [.ref i]) (h1 : H[i]? = some (.inst A fs)) (hf : meF A x = f) (h2 : (meL.elem (A, x, f)) = true) (h3 : getF x fs = none) : methM B (.ref i) x H R := meth_inst h1 (me_ok B h2) h3 h
theorem vLenN {j : Nat} {ns : List Nat} (h : Q (.int ns.length) H) (hj : H[j]? = some (Ns ns)) (hs : ns.length ≤ 100000) : WPV B d (.con (.builtin "len")) [.ref j] H Q := WPV.len hj (by rw [List.length_map]; exact hs) (by rw [List.length_map]; exact h)
theorem vLenI {j : Nat} {ns : List Int} (h : Q (.int ns.length) H) (hj : H[j]? = some (.list (ns.map .int))) (hs : ns.length ≤ 100000) : WPV B d (.con (.builtin "len")) [.ref j] H Q := WPV.len hj (by rw [List.length_map]; exact hs) (by rw [List.length_map]; exact h)
theorem vLenL {j : Nat} {ls : List Line} (h : Q (.int ls.length) H) (hj : H[j]? = some (Ls ls)) (hs : ls.length ≤ 100000) : WPV B d (.con (.builtin "len")) [.ref j] H Q := len_Ls hj hs h
theorem vLen {j : Nat} {vs : List MV} (h : Q (.int vs.length) H) (hj : H[j]? = some (.list vs)) (hs : vs.length ≤ 100000) : WPV B d (.con (.builtin "len")) [.ref j] H Q := WPV.len hj hs h
theorem vListL {j : Nat} {ls : List Line} (h : Q (.ref H.length) (H ++ [Ls ls])) (hj : H[j]? = some (Ls ls)) (hs : ls.length ≤ 100000) : WPV B d (.con (.type "list")) [.ref j] H Q := WPV.list hj (by rw [List.length_map]; exact hs) h
theorem vList {j : Nat} {vs : List MV} (h : Q (.ref H.length) (H ++ [.list vs])) (hj : H[j]? = some (.list vs)) (hs : vs.length ≤ 100000) : WPV B d (.con (.type "list")) [.ref j] H Q := WPV.list hj hs h
theorem vAppL {j : Nat} {ls : List Line} {x : Line} (h : Q .none (H.set j (Ls (ls ++ [x])))) (hj : H[j]? = some (Ls ls)) (hs : ls.length ≤ 100000) : WPV B d (.con (.builtin "list.append")) [.ref j, lb x] H Q := WPV.append hj (by rw [List.length_map]; exact hs) (by rw [show ls.map lb ++ [lb x] = (ls ++ [x]).map lb from by simp]; exact h)
theorem vApp {j : Nat} {vs : List MV} {m : MV} (h : Q .none (H.set j (.list (vs ++ [m])))) (hj : H[j]? = some (.list vs)) (hs : vs.length ≤ 100000) : WPV B d (.con (.builtin "list.append")) [.ref j, m] H Q := WPV.append hj hs h
theorem vExt {j k : Nat} {vs us : List MV} (h : Q .none (H.set j (.list (vs ++ us)))) (hj : H[j]? = some (.list vs)) (hk : H[k]? = some (.list us)) (hs : vs.length + us.length ≤ 100000) : WPV B d (.con (.builtin "list.extend")) [.ref j, .ref k] H Q := WPV.extend hj hk hs h
theorem vPop0 {j : Nat} {ls : List Line} (h : Q (lb (ls.getD 0 0)) (H.set j (Ls (ls.drop 1)))) (h1 : H[j]? = some (Ls ls)) (hne : ls ≠ []) (h2 : ls.length ≤ 90000) : WPV B d (.con (.builtin "list.pop")) [.ref j, .int 0] H Q := by
  cases ls with
  | nil => exact absurd rfl hne
  | cons x xs => exact WPV.pop0 h1 (by simp at h2 ⊢; lia) h
theorem vPopL {j : Nat} {ls : List Line} (h : Q (lb (ls.getD (ls.length - 1) 0)) (H.set j (Ls (ls.take (ls.length - 1))))) (h1 : H[j]? = some (Ls ls)) (hne : ls ≠ []) (h2 : ls.length ≤ 90000) : WPV B d (.con (.builtin "list.pop")) [.ref j] H Q := by
  have hp : 0 < ls.length := List.length_pos_iff.mpr hne
  refine WPV.pop h1 (by rw [List.length_map]; lia) (m := lb (ls.getD (ls.length - 1) 0)) ?_ ?_
  · rw [List.length_map, List.getElem?_map, List.getD_eq_getElem?_getD, List.getElem?_eq_getElem (Nat.sub_lt hp Nat.one_pos)]; rfl
  · rw [List.length_map]
    have e : (ls.map lb).eraseIdx (ls.length - 1) = (ls.take (ls.length - 1)).map lb := by
      rw [List.eraseIdx_eq_take_drop_succ, List.drop_of_length_le (by simp; lia), List.append_nil, List.map_take]
    rw [e]; exact h
/-! statements -/
noncomputable def kSw1 (Qn : KS) (H : List MObj) (i1 : Nat) (m1 : MV) (ev : List MV) : Prop := setE ev i1 m1 (kH Qn H)
noncomputable def kSw2 (i1 i2 : Nat) (ev : List MV) (Qn : KS) (m : MV) (H : List MObj) : Prop := match m with
  | .tup [m1, m2] => setE ev i2 m2 (kSw1 Qn H i1 m1)
  | _ => False
noncomputable def kSw3' (Qn : KS) (H : List MObj) (i1 i2 : Nat) (m1 m2 : MV) (ev : List MV) : Prop := setE ev i2 m2 (kSw1 Qn H i1 m1)
noncomputable def kSw3 (i1 i2 i3 : Nat) (ev : List MV) (Qn : KS) (m : MV) (H : List MObj) : Prop := match m with
  | .tup [m1, m2, m3] => setE ev i3 m3 (kSw3' Qn H i1 i2 m1 m2)
  | _ => False
theorem storeN_cons {x : Str} {m : MV} {xs : List Str} {ms : List MV} {i : Nat} {e e' : List MV} (h : slot fi.ns x = some (i, .local)) (k : storeN fi xs ms (e.set i m) = some e') : storeN fi (x :: xs) (m :: ms) e = some e' := by
  unfold storeN; rw [h]; exact k
theorem lSw2 {x1 x2 : Str} {p1 p2 : Pos} {k : Nat} {tp : Pos} {value : Expr} {pos : Pos} {i1 i2 : Nat} (h : WPE B fi d value ev H (kSw2 i1 i2 ev Qn))
    (hs : ∀ env, swapsWith value (some (.Tuple [.Name x1 p1, .Name x2 p2] k tp)) pos.line env = pure false) (hw : swappedStores [.Tuple [.Name x1 p1, .Name x2 p2] k tp] value (envN fi) = pure (some [x1, x2]))
    (h1 : slot fi.ns x1 = some (i1, .local)) (h2 : slot fi.ns x2 = some (i2, .local)) : Leaf1 B fi d (.Assign [.Tuple [.Name x1 p1, .Name x2 p2] k tp] value pos) ev H Qn Qr :=
  WP1.asgSwap (xs := [x1, x2]) (fun env _ _ => hs env) (fun env hn hk => swap_env hw env hn hk) (WPE.mono h fun m H1 q => by
    unfold kSw2 at q
    split at q
    · exact ⟨_, _, rfl, rfl, storeN_cons h2 (storeN_cons h1 rfl), setE_ok (setE_ok q)⟩
    · exact q.elim)
theorem lSw3 {x1 x2 x3 : Str} {p1 p2 p3 : Pos} {k : Nat} {tp : Pos} {value : Expr} {pos : Pos} {i1 i2 i3 : Nat} (h : WPE B fi d value ev H (kSw3 i1 i2 i3 ev Qn))
    (hs : ∀ env, swapsWith value (some (.Tuple [.Name x1 p1, .Name x2 p2, .Name x3 p3] k tp)) pos.line env = pure false) (hw : swappedStores [.Tuple [.Name x1 p1, .Name x2 p2, .Name x3 p3] k tp] value (envN fi) = pure (some [x1, x2, x3]))
    (h1 : slot fi.ns x1 = some (i1, .local)) (h2 : slot fi.ns x2 = some (i2, .local)) (h3 : slot fi.ns x3 = some (i3, .local)) : Leaf1 B fi d (.Assign [.Tuple [.Name x1 p1, .Name x2 p2, .Name x3 p3] k tp] value pos) ev H Qn Qr :=
  WP1.asgSwap (xs := [x1, x2, x3]) (fun env _ _ => hs env) (fun env hn hk => swap_env hw env hn hk) (WPE.mono h fun m H1 q => by
    unfold kSw3 at q
    split at q
    · exact ⟨_, _, rfl, rfl, storeN_cons h3 (storeN_cons h2 (storeN_cons h1 rfl)), setE_ok (setE_ok (setE_ok q))⟩
    · exact q.elim)
theorem lAsg {t value : Expr} {pos : Pos} (h : WPE B fi d value ev H fun m H1 => WPG B fi d t m ev H1 Qn) (ht : ∀ env, assignEach [t] env = [(false, assign t env)])
    (hs : ∀ env, env.scope.names = fi.ns → env.scope.kind = .function → swapsWith value (some t) pos.line env = pure false)
    (hw : ∀ env, env.scope.names = fi.ns → env.scope.kind = .function → swappedStores [t] value env = pure none) : Leaf1 B fi d (.Assign [t] value pos) ev H Qn Qr := WP1.asg ht hs hw h
noncomputable def kFor (B : Bs) (fi : FI) (d : Nat) (tg : Expr) (body : List Stmt) (Qn : KS) (Qr : KE) (chk : List MObj → Prop) (items ev : List MV) (H : List MObj) : Prop := ForS B fi d tg body chk Qn Qr items ev H
@[reducible] noncomputable def kForQ (B : Bs) (fi : FI) (d : Nat) (tg : Expr) (body : List Stmt) (ev : List MV) (Qn : KS) (Qr : KE) (chk : List MObj → Prop) (items : List MV) (H : List MObj) : Prop := kFor B fi d tg body Qn Qr chk items ev H
theorem lFor {tg iter : Expr} {body : List Stmt} {pos : Pos} (h : WPI B fi d tg iter ev H (kForQ B fi d tg body ev Qn Qr)) (hs : ∀ env x, foldedSetIterable iter env x = pure x) : Leaf1 B fi d (.For tg iter body [] pos) ev H Qn Qr := WP1.forI hs h
theorem lIte {t : Expr} {a b : List Stmt} {pos : Pos} (h : WPT B fi d t ev H (iq B fi d a b Qn Qr ev)) : Leaf1 B fi d (.If t a b pos) ev H Qn Qr := WP1.ite h
theorem lWhl {test : Expr} {body : List Stmt} {pos : Pos} (I : Nat → KS → Prop) (n : Nat) (h0 : ∀ K, I n K → K ev H)
    (cl : ∀ n (C : KS), (∀ ev H, (∀ K, I n K → K ev H) → C ev H) → I n C)
    (step : ∀ n (C : KS), (∀ m, m < n → I m C) → I n (wt B fi d test body C Qn Qr)) : Leaf1 B fi d (.While test body [] pos) ev H Qn Qr := WP1.whl I n h0 cl step
/-- counting upwards -/
theorem whlUp {test : Expr} {body : List Stmt} {pos : Pos} (n : Nat) (I : Nat → KS → Prop) (i0 : Nat) (hi : i0 ≤ n) (h0 : ∀ K, I i0 K → K ev H)
    (cl : ∀ i (C : KS), (∀ ev H, (∀ K, I i K → K ev H) → C ev H) → I i C)
    (step : ∀ i (C : KS), i ≤ n → (i < n → I (i + 1) C) → I i (wt B fi d test body C Qn Qr)) : WP1 B fi d (.While test body [] pos) ev H Qn Qr :=
  WP1.whileI (fun f ev H => ∃ i, i ≤ n ∧ n - i = f ∧ ∀ K, I i K → K ev H) (n - i0) ⟨i0, hi, rfl, h0⟩ fun f ev H ⟨i, h1, h2, p⟩ =>
    p _ (step i _ h1 fun h3 => cl _ _ fun ev H q => ⟨n - (i + 1), h2 ▸ Nat.sub_succ_lt_self n i h3, i + 1, h3, rfl, q⟩)
@[reducible] noncomputable def ft (B : Bs) (fi : FI) (d : Nat) (tg : Expr) (body : List Stmt) (chk : List MObj → Prop) (Qr : KE) (m : MV) (C : KS) (ev : List MV) (H : List MObj) : Prop := WPG B fi d tg m ev H fun ev1 H1 => WPS B fi d body ev1 H1 (fun ev2 H2 => chk H2 ∧ C ev2 H2) Qr
theorem forMap {α : Type} {tg : Expr} {body : List Stmt} {chk : List MObj → Prop} (f : α → MV) (I : List α → KS → Prop) (cl : ∀ as (C : KS), (∀ ev H, (∀ K, I as K → K ev H) → C ev H) → I as C)
    (hn : I [] Qn) (hs : ∀ a as C, I as C → I (a :: as) (ft B fi d tg body chk Qr (f a) C)) : ∀ {as : List α} {ev : List MV} {H : List MObj}, (∀ K, I as K → K ev H) → kFor B fi d tg body Qn Qr chk (as.map f) ev H
  | [], _, _, h0 => h0 _ hn
  | a :: as, _, _, h0 => h0 _ (hs a as _ (cl as _ fun _ _ p => forMap f I cl hn hs p))
theorem forAll {α : Type} {tg : Expr} {body : List Stmt} {chk : List MObj → Prop} {R : MV → α → Prop} (I : List α → KS → Prop) (cl : ∀ as (C : KS), (∀ ev H, (∀ K, I as K → K ev H) → C ev H) → I as C)
    (hn : I [] Qn) (hs : ∀ m a as C, R m a → I as C → I (a :: as) (ft B fi d tg body chk Qr m C)) {as : List α} {ms : List MV} (h : All2 R ms as) : ∀ {ev : List MV} {H : List MObj}, (∀ K, I as K → K ev H) → kFor B fi d tg body Qn Qr chk ms ev H := by
  induction h with
  | nil => exact fun h0 => h0 _ hn
  | cons r _ ih => exact fun h0 => h0 _ (hs _ _ _ _ r (cl _ _ fun _ _ p => ih p))
theorem forUp {tg : Expr} {body : List Stmt} {chk : List MObj → Prop} (f : Nat → MV) {n : Nat} (I : Nat → KS → Prop) (cl : ∀ i (C : KS), (∀ ev H, (∀ K, I i K → K ev H) → C ev H) → I i C)
    (hn : I n Qn) (hs : ∀ i C, i < n → I (i + 1) C → I i (ft B fi d tg body chk Qr (f i) C)) (h0 : ∀ K, I 0 K → K ev H) : kFor B fi d tg body Qn Qr chk ((List.range n).map f) ev H := by
  have key : ∀ k i, i + k = n → ∀ ev H, (∀ K, I i K → K ev H) → kFor B fi d tg body Qn Qr chk ((List.range' i k).map f) ev H := by
    intro k
    induction k with
    | zero => intro i e ev H h; exact h _ (by rw [show i = n from e]; exact hn)
    | succ k ih => intro i e ev H h; exact h _ (hs i _ (by lia) (cl _ _ fun ev H p => ih (i + 1) (by lia) ev H p))
  rw [List.range_eq_range']
  exact key n 0 (Nat.zero_add n) ev H h0
theorem WPT.dec {e : Expr} {Q : KB} (p : Prop) [Decidable p] (h : ∀ K : KB, K (dc p) H → WPT B fi d e ev H K) (k : Q (dc p) H) : WPT B fi d e ev H Q := h _ k
theorem go_brB {b : Bool} {X Y : Prop} (h1 : b = true → X) (h2 : b = false → Y) : br b X Y := ⟨h1, h2⟩
theorem kT {p : Prop} [Decidable p] {K : KB} (k : K (dc p) H) (h : p) : K true H := dc_t h ▸ k
theorem kF {p : Prop} [Decidable p] {K : KB} (k : K (dc p) H) (h : ¬p) : K false H := dc_f h ▸ k
/-! comprehensions, what is gone through -/
noncomputable def kCk (chk : List MObj → Prop) (C : KS) (ev : List MV) (H : List MObj) : Prop := chk H ∧ C ev H
@[reducible] noncomputable def kCi (inner : Inner) (chk : List MObj → Prop) (C : KS) (ev : List MV) (H : List MObj) : Prop := inner ev H (kCk chk C)
@[reducible] noncomputable def kCt (B : Bs) (fi : FI) (d : Nat) (c : Option Expr) (inner : Inner) (chk : List MObj → Prop) (C : KS) (ev : List MV) (H : List MObj) : Prop := CIf B fi d c ev H (kCi inner chk C ev) (kCk chk C ev)
@[reducible] noncomputable def ct (B : Bs) (fi : FI) (d : Nat) (tg : Expr) (c : Option Expr) (inner : Inner) (chk : List MObj → Prop) (m : MV) (C : KS) (ev : List MV) (H : List MObj) : Prop := WPG B fi d tg m ev H (kCt B fi d c inner chk C)
theorem gNone {T F : List MObj → Prop} (h : T H) : CIf B fi d none ev H T F := h
noncomputable def kCs (T F : List MObj → Prop) (b : Bool) (H : List MObj) : Prop := br b (T H) (F H)
theorem gSome {T F : List MObj → Prop} {e : Expr} (h : WPT B fi d e ev H (kCs T F)) : CIf B fi d (some e) ev H T F := h
noncomputable def EmM (a : Nat) (m : MV) (H : List MObj) (K : List MObj → Prop) : Prop := ∃ vs, H[a]? = some (.list vs) ∧ vs.length ≤ 100000 ∧ K (H.set a (.list (vs ++ [m])))
noncomputable def kEm (a : Nat) (ev : List MV) (K : KS) (m : MV) (H : List MObj) : Prop := Go (EmM a m H (K ev))
theorem gEmit {a : Nat} {elt : Expr} {K : KS} (h : WPE B fi d elt ev H (kEm a ev K)) : emitI B fi d a elt ev H K := WPE.mono h fun _ _ q => lf q
noncomputable def kGen (B : Bs) (fi : FI) (d : Nat) (a : Nat) (tg elt : Expr) (ev : List MV) (K : KS) (chk : List MObj → Prop) (items : List MV) (H : List MObj) : Prop := CompS B fi d tg none (emitI B fi d a elt) chk K items ev H
theorem gGen {a : Nat} {tg iter elt : Expr} {K : KS} (h : WPI B fi d tg iter ev H (kGen B fi d a tg elt ev K)) : genI B fi d a tg iter elt ev H K := h
theorem emL {a : Nat} {x : Line} {ls : List Line} {K : List MObj → Prop} (h : K (H.set a (Ls (ls ++ [x])))) (h1 : H[a]? = some (Ls ls)) (h2 : ls.length ≤ 100000) : EmM a (lb x) H K := ⟨_, h1, by rw [List.length_map]; exact h2, by rw [show ls.map lb ++ [lb x] = (ls ++ [x]).map lb from by simp]; exact h⟩
theorem emN {a n : Nat} {ls : List Nat} {K : List MObj → Prop} (h : K (H.set a (Ns (ls ++ [n])))) (h1 : H[a]? = some (Ns ls)) (h2 : ls.length ≤ 100000) : EmM a (.int (n : Int)) H K := ⟨_, h1, by rw [List.length_map]; exact h2, by rw [show (ls.map fun (n : Nat) => MV.int (n : Int)) ++ [MV.int (n : Int)] = (ls ++ [n]).map fun (n : Nat) => MV.int (n : Int) from by simp]; exact h⟩
theorem emA {a : Nat} {m : MV} {vs : List MV} {K : List MObj → Prop} (h : K (H.set a (.list (vs ++ [m])))) (h1 : H[a]? = some (.list vs)) (h2 : vs.length ≤ 100000) : EmM a m H K := ⟨_, h1, h2, h⟩
noncomputable def kCq (Q : KE) (n : Nat) (_ : List MV) (H : List MObj) : Prop := Q (.ref n) H
noncomputable def kCp (B : Bs) (fi : FI) (d : Nat) (tg : Expr) (c : Option Expr) (inner : Nat → Inner) (scope : Scope) (ev : List MV) (Q : KE) (chk : List MObj → Prop) (items : List MV) (H : List MObj) : Prop := chk (H ++ [.list []]) ∧ CompS B (fiC scope fi) d tg c (inner H.length) chk (kCq Q H.length) items (evC scope fi ev) (H ++ [.list []])
theorem eComp {elt tg iter : Expr} {scope : Scope} {pos : Pos} (h : WPI B fi d tg iter ev H (kCp B fi d tg none (fun a => emitI B (fiC scope fi) d a elt) scope ev Q)) (S : scope.kind = .function ∧ (scope.names.map (·.1)).Nodup ∧ compOk scope fi = true) (hs : ∀ env x, foldedSetIterable iter env x = pure x) : LeafE B fi d (.ListComp elt [⟨tg, iter, [], 0⟩] scope pos) ev H Q :=
  WPE.comp1 ⟨S.1, S.2.1, S.2.2⟩ hs h
theorem eCompIf {elt tg iter c : Expr} {scope : Scope} {pos : Pos} (h : WPI B fi d tg iter ev H (kCp B fi d tg (some c) (fun a => emitI B (fiC scope fi) d a elt) scope ev Q)) (S : scope.kind = .function ∧ (scope.names.map (·.1)).Nodup ∧ compOk scope fi = true) (hs : ∀ env x, foldedSetIterable iter env x = pure x) : LeafE B fi d (.ListComp elt [⟨tg, iter, [c], 0⟩] scope pos) ev H Q :=
  WPE.compIf ⟨S.1, S.2.1, S.2.2⟩ hs h
theorem eComp2 {elt tg iter tg2 iter2 : Expr} {scope : Scope} {pos : Pos} (h : WPI B fi d tg iter ev H (kCp B fi d tg none (fun a => genI B (fiC scope fi) d a tg2 iter2 elt) scope ev Q)) (S : scope.kind = .function ∧ (scope.names.map (·.1)).Nodup ∧ compOk scope fi = true) (hs : ∀ env x, foldedSetIterable iter env x = pure x) (hs2 : ∀ env x, foldedSetIterable iter2 env x = pure x) : LeafE B fi d (.ListComp elt [⟨tg, iter, [], 0⟩, ⟨tg2, iter2, [], 0⟩] scope pos) ev H Q :=
  WPE.comp2 ⟨S.1, S.2.1, S.2.2⟩ hs hs2 h
theorem eD0 {pos : Pos} (h : Q (.ref H.length) (H ++ [.dB []])) : LeafE B fi d (.Dict [] [] pos) ev H Q := WPE.dict0 h
theorem eD1 {k v : Int} {kk kv : Nat} {p1 p2 pos : Pos} (h : Q (.ref H.length) (H ++ [.dI [(k, .int v)]])) : LeafE B fi d (.Dict [some (.Constant (.int k) kk p1)] [.Constant (.int v) kv p2] pos) ev H Q := WPE.dictI h
noncomputable def kVal (Q : KB) (m : MV) (H : List MObj) : Prop := match m with | .bool b => Q b H | _ => False
theorem tVal {e : Expr} {Q : KB} (h : WPE B fi d e ev H (kVal Q)) (he : ∀ env, isTrue e env (eval e env) = (do let v ← eval e env; standAt e.pos; holding [v] (truthy v))) : LeafT B fi d e ev H Q :=
  WPT.val he (WPE.mono h fun m H1 q => by cases m <;> first | exact ⟨_, rfl, q⟩ | exact q.elim)
noncomputable def kSeq2 (Q : (List MObj → Prop) → List MV → List MObj → Prop) (H : List MObj) (chk : List MObj → Prop) (items : List MV) : Prop := Q chk items H
noncomputable def kSeq (Q : (List MObj → Prop) → List MV → List MObj → Prop) (o : MV) (H : List MObj) : Prop := Go (seqM o H (kSeq2 Q H))
theorem iSeq {tg e : Expr} {Q : (List MObj → Prop) → List MV → List MObj → Prop} (h : WPE B fi d e ev H (kSeq Q)) : WPI B fi d tg e ev H Q := WPI.seq (WPE.mono h fun _ _ q => lf q)
theorem qList {j : Nat} {vs : List MV} {Q : (List MObj → Prop) → List MV → Prop} (h : Q (fun H => H[j]? = some (.list vs)) vs) (h1 : H[j]? = some (.list vs)) : seqM (.ref j) H Q := seq_list h1 h
theorem qTup {vs : List MV} {Q : (List MObj → Prop) → List MV → Prop} (h : Q (fun _ => True) vs) : seqM (.tup vs) H Q := seq_tup h
noncomputable def RngM (ms : List MV) (H : List MObj) (Q : (List MObj → Prop) → List MV → List MObj → Prop) : Prop := ∃ a b c, rangeM ms = some (a, b, c) ∧ (c ≠ 0 ∧ c.natAbs < 1000000) ∧ Builtin.Range.small a b c = true ∧ Q (fun _ => True) (rangeL a c (Builtin.Range.rangeSize a b c).toNat) H
noncomputable def kRng (Q : (List MObj → Prop) → List MV → List MObj → Prop) (ms : List MV) (H : List MObj) : Prop := Go (RngM ms H Q)
theorem iRng {tg e : Expr} {p pos : Pos} {rest : List Expr} {Q : (List MObj → Prop) → List MV → List MObj → Prop} (h : WPEs B fi d (e :: rest) ev H (kRng Q)) (hn : fi.ns.lookup (Str.ofString "range") = some .globalImplicit)
    (he : ∀ env, starEach (e :: rest) env = (false, eval e env) :: starEach rest env) (hp : ∀ env, (backTo pos (starEach rest env)).any (·.1) = false) : WPI B fi d tg (.Call (.Name (Str.ofString "range") p) (e :: rest) [] pos) ev H Q :=
  WPI.range he hp (gl_range hn ⟨rfl, WPEs.mono h fun _ _ q => lf q⟩)
theorem rng2 {a b : Nat} {Q : (List MObj → Prop) → List MV → List MObj → Prop} (h : Q (fun _ => True) ((List.range (b - a)).map fun (i : Nat) => .int ((a + i : Nat) : Int)) H) (h1 : a ≤ 1000000) (h2 : b ≤ 1000000) : RngM [.int (a : Int), .int (b : Int)] H Q := by
  refine ⟨a, b, 1, rfl, by decide, small1 ⟨⟨by lia, by lia⟩, by lia, by lia⟩, ?_⟩
  rw [rangeL1, show (Builtin.Range.rangeSize (a : Int) (b : Int) 1).toNat = b - a from by unfold Builtin.Range.rangeSize; rw [if_pos (by decide)]; split <;> simp <;> lia]
  exact h
theorem rng1 {b : Nat} {Q : (List MObj → Prop) → List MV → List MObj → Prop} (h : Q (fun _ => True) ((List.range b).map fun (i : Nat) => .int (i : Int)) H) (h2 : b ≤ 1000000) : RngM [.int (b : Int)] H Q := by
  have x := rng2 (H := H) (a := 0) (b := b) (Q := Q) (by rw [Nat.sub_zero]; simp only [Nat.zero_add]; exact h) (Nat.zero_le _) h2
  obtain ⟨a, b, c, e, r⟩ := x
  cases e
  exact ⟨_, _, _, rfl, r⟩
theorem rng1v {v : Int} {Q : (List MObj → Prop) → List MV → List MObj → Prop} (h : Q (fun _ => True) ((List.range v.toNat).map fun (i : Nat) => .int (i : Int)) H) (h1 : 0 ≤ v) (h2 : v ≤ 1000000) : RngM [.int v] H Q := by
  obtain ⟨b, rfl⟩ := Int.eq_ofNat_of_zero_le h1
  exact rng1 h (Int.ofNat_le.mp h2)
theorem compMap {α : Type} {tg : Expr} {c : Option Expr} {inner : Inner} {chk : List MObj → Prop} (f : α → MV) (I : List α → KS → Prop) (cl : ∀ as (C : KS), (∀ ev H, (∀ K, I as K → K ev H) → C ev H) → I as C)
    (hn : I [] Qn) (hs : ∀ a as C, I as C → I (a :: as) (ct B fi d tg c inner chk (f a) C)) : ∀ {as : List α} {ev : List MV} {H : List MObj}, (∀ K, I as K → K ev H) → CompS B fi d tg c inner chk Qn (as.map f) ev H
  | [], _, _, h0 => h0 _ hn
  | a :: as, _, _, h0 => h0 _ (hs a as _ (cl as _ fun _ _ p => compMap f I cl hn hs p))
theorem compAll {α : Type} {tg : Expr} {c : Option Expr} {inner : Inner} {chk : List MObj → Prop} {R : MV → α → Prop} (I : List α → KS → Prop) (cl : ∀ as (C : KS), (∀ ev H, (∀ K, I as K → K ev H) → C ev H) → I as C)
    (hn : I [] Qn) (hs : ∀ m a as C, R m a → I as C → I (a :: as) (ct B fi d tg c inner chk m C)) {as : List α} {ms : List MV} (h : All2 R ms as) : ∀ {ev : List MV} {H : List MObj}, (∀ K, I as K → K ev H) → CompS B fi d tg c inner chk Qn ms ev H := by
  induction h with
  | nil => exact fun h0 => h0 _ hn
  | cons r _ ih => exact fun h0 => h0 _ (hs _ _ _ _ r (cl _ _ fun _ _ p => ih p))
/-! enumerate, zip -/
noncomputable def EnuM (ms : List MV) (H : List MObj) (Q : (List MObj → Prop) → List MV → List MObj → Prop) : Prop := ∃ j vs, ms = [.ref j] ∧ H[j]? = some (.list vs) ∧ Q (fun H => H[j]? = some (.list vs)) (enumL vs 0) H
noncomputable def kEnu (Q : (List MObj → Prop) → List MV → List MObj → Prop) (ms : List MV) (H : List MObj) : Prop := Go (EnuM ms H Q)
theorem iEnu {e : Expr} {elts : List Expr} {k : Nat} {tp p pos : Pos} {Q : (List MObj → Prop) → List MV → List MObj → Prop} (h : WPEs B fi d [e] ev H (kEnu Q)) (hn : fi.ns.lookup (Str.ofString "enumerate") = some .globalImplicit)
    (he : ∀ env, starEach [e] env = (false, eval e env) :: starEach [] env) (hp : ∀ env, (backTo pos (starEach [] env)).any (·.1) = false) : WPI B fi d (.Tuple elts k tp) (.Call (.Name (Str.ofString "enumerate") p) [e] [] pos) ev H Q :=
  WPI.enum he hp (gl_enumerate hn ⟨rfl, WPEs.mono h fun _ _ q => lf q⟩)
theorem enumL_map {α : Type} (f : α → MV) (z : α) : ∀ (as : List α) (n : Nat), enumL (as.map f) n = (List.range as.length).map fun (i : Nat) => .tup [.int ((n + i : Nat) : Int), f (as.getD i z)]
  | [], _ => rfl
  | a :: as, n => by
    rw [List.map_cons, enumL, enumL_map f z as (n + 1), List.length_cons, List.range_succ_eq_map, List.map_cons, List.map_map]
    congr 1
    apply List.map_congr_left; intro i _; show _ = MV.tup [.int ((n + (i + 1) : Nat) : Int), _]; rw [Nat.add_right_comm]; rfl
theorem enu {α : Type} (f : α → MV) (z : α) {j : Nat} {as : List α} {Q : (List MObj → Prop) → List MV → List MObj → Prop} (h : Q (fun H => H[j]? = some (.list (as.map f))) ((List.range as.length).map fun (i : Nat) => .tup [.int (i : Int), f (as.getD i z)]) H) (h1 : H[j]? = some (.list (as.map f))) : EnuM [.ref j] H Q :=
  ⟨j, _, rfl, h1, by rw [enumL_map f z as 0]; simp only [Nat.zero_add]; exact h⟩
noncomputable def ZipM (ms : List MV) (H : List MObj) (Q : (List MObj → Prop) → List MV → List MObj → Prop) : Prop := ∃ j1 j2 xs ys, ms = [.ref j1, .ref j2] ∧ H[j1]? = some (.list xs) ∧ H[j2]? = some (.list ys) ∧ Q (fun H => H[j1]? = some (.list xs) ∧ H[j2]? = some (.list ys)) (zipL xs ys) H
noncomputable def kZip (Q : (List MObj → Prop) → List MV → List MObj → Prop) (ms : List MV) (H : List MObj) : Prop := Go (ZipM ms H Q)
theorem iZip {e1 e2 : Expr} {elts : List Expr} {k : Nat} {tp p pos : Pos} {Q : (List MObj → Prop) → List MV → List MObj → Prop} (h : WPEs B fi d [e1, e2] ev H (kZip Q)) (hn : fi.ns.lookup (Str.ofString "zip") = some .globalImplicit)
    (he : ∀ env, starEach [e1, e2] env = (false, eval e1 env) :: starEach [e2] env) (hp : ∀ env, (backTo pos (starEach [e2] env)).any (·.1) = false) : WPI B fi d (.Tuple elts k tp) (.Call (.Name (Str.ofString "zip") p) [e1, e2] [] pos) ev H Q :=
  WPI.zip he hp (gl_zip hn ⟨rfl, WPEs.mono h fun _ _ q => lf q⟩)
theorem qZip {i j : Nat} {xs ys : List MV} {Q : (List MObj → Prop) → List MV → List MObj → Prop} (h : Q (fun H => H[i]? = some (.list xs) ∧ H[j]? = some (.list ys)) (zipL xs ys) H) (h1 : H[i]? = some (.list xs)) (h2 : H[j]? = some (.list ys)) : ZipM [.ref i, .ref j] H Q := ⟨i, j, xs, ys, rfl, h1, h2, h⟩
theorem max_N {a b : Nat} (h : Q (.int ((if b > a then b else a : Nat) : Int)) H) : WPV B d (.con (.builtin "max")) [.int (a : Int), .int (b : Int)] H Q :=
  WPV.max (by rw [show (if (b : Int) > (a : Int) then (b : Int) else (a : Int)) = ((if b > a then b else a : Nat) : Int) from by split <;> split <;> first | rfl | lia]; exact h)
/-! a number field that grows -/
noncomputable def AugA (B : Bs) (fi : FI) (d : Nat) (x : Str) (op : Operator) (value : Expr) (ev : List MV) (Qn : KS) (o : MV) (H : List MObj) : Prop := ∃ i C fs old, o = .ref i ∧ H[i]? = some (.inst C fs) ∧ attrOk B C x = true ∧ setOk B C x = true ∧ getF x fs = some old ∧ plain old = true ∧
      WPE B fi d value ev H fun v H2 => augM op old v fun r => ∃ fs2, H2[i]? = some (.inst C fs2) ∧ fs2.length ≤ 100 ∧ Qn ev (H2.set i (.inst C (putF x r fs2)))
noncomputable def kAug (B : Bs) (fi : FI) (d : Nat) (x : Str) (op : Operator) (value : Expr) (ev : List MV) (Qn : KS) (o : MV) (H : List MObj) : Prop := Go (AugA B fi d x op value ev Qn o H)
theorem lAug {e value : Expr} {x : Str} {tp pos : Pos} {op : Operator} (h : WPE B fi d e ev H (kAug B fi d x op value ev Qn)) : Leaf1 B fi d (.AugAssign (.Attribute e x tp) op value pos) ev H Qn Qr := WP1.augAttr (WPE.mono h fun _ _ q => lf q)
theorem tAug {i kk : Nat} {A : Addr} {x : Str} {fs : List (Str × MV)} {n k : Int} {p : Pos} (h : Qn ev (H.set i (.inst A (putF x (.int (n + k)) fs)))) (h1 : H[i]? = some (.inst A fs)) (h3 : getF x fs = some (.int n)) (h2 : (atL.elem (A, x) && Nat.ble fs.length 100) = true) : AugA B fi d x .Add (.Constant (.int k) kk p) ev Qn (.ref i) H :=
  ⟨i, A, fs, .int n, rfl, h1, (at_ok B (Bool.and_eq_true_iff.mp h2).1).1, (at_ok B (Bool.and_eq_true_iff.mp h2).1).2, h3, rfl, WPE.cInt (aug_add ⟨fs, h1, Nat.le_of_ble_eq_true (Bool.and_eq_true_iff.mp h2).2, h⟩)⟩
theorem isBsL {x : Line} (h : Q (.bool true) H) : WPV B d (.con (.builtin "isinstance")) [lb x, .tup [.con (.type "bytes"), .con (.type "str")]] H Q := WPV.isBs h
theorem isStL {x : Line} (h : Q (.bool false) H) : WPV B d (.con (.builtin "isinstance")) [lb x, .con (.type "str")] H Q := WPV.isStr h
/-! functions -/
noncomputable def kRet (Q : KE) (_ : List MV) (H : List MObj) : Prop := Q .none H
theorem WPF.go {a : Addr} {ps : List Str} {body : List Stmt} {args : List MV} (F : FnOk a ps fi body) (he : initEv fi.ns ps args = ev) (hl : args.length = ps.length) (h : WPS B fi d body ev H (kRet Q) Q) : WPF B (d + 1) (.con (.ref a)) args H Q :=
  WPF.fn F (Nat.succ_pos d) hl (he ▸ h)
end
/-! the two classes of records -/
section
variable {B : Bs} {fi : FI} {d : Nat} {H : List MObj} {Q : KE}
theorem cls_new {A f : Addr} {args : List MV} (h : WPF B (d + 1) (.con (.ref f)) (.ref H.length :: args) (H ++ [.inst A []]) (fun m H' => m = .none ∧ Q (.ref H.length) H')) (hc : clL.elem (A, f) = true) : WPV B (d + 2) (.con (.ref A)) args H Q :=
  WPF.vc (WPF.cls (cl_ok B hc).1 (cl_ok B hc).2.1 (cl_ok B hc).2.2 (Nat.succ_pos _) h)
theorem lt_last (a : MObj) : H.length < (H ++ [a]).length := by simp
theorem set_last (a b : MObj) : (H ++ [a]).set H.length b = H ++ [b] := by simp
theorem rec_at {Y : List MObj} {o : MObj} (h : H.length < Y.length) : (Y.set H.length o)[H.length]? = some o := at_set h
theorem rec_lt {Y : List MObj} {o : MObj} (h : H.length < Y.length) : H.length < (Y.set H.length o).length := by rw [List.length_set]; exact h
theorem rec_fin {a b c d e : MObj} (h : Q (.ref H.length) (H ++ [e])) : Q (.ref H.length) (((((H ++ [a]).set H.length b).set H.length c).set H.length d).set H.length e) := by
  rw [set_last, set_last, set_last, set_last]; exact h
theorem vChunk {w : Wd} {b o t : Nat} (h : Q (.ref H.length) (H ++ [.inst 301 (ckF (wS w) b o t)])) : WPV B (d + 2) (.con (.ref 301)) [.str (wS w), .ref b, .ref o, .ref t] H Q := by
  refine cls_new (f := 284) (WPF.go fn284 (ie284 _ _ _ _ _) rfl (sS ⟨?_⟩)) rfl
  refine tP ⟨?_⟩ (at_last _ _) rfl
  refine tP ⟨?_⟩ (rec_at (lt_last _)) rfl
  refine tP ⟨?_⟩ (rec_at (rec_lt (lt_last _))) rfl
  refine tP ⟨?_⟩ (rec_at (rec_lt (rec_lt (lt_last _)))) rfl
  exact ⟨rfl, rec_fin h⟩
theorem vChunkB {b o t : Nat} (h : Q (.ref H.length) (H ++ [.inst 301 (ckF (wS .both) b o t)])) : WPV B (d + 2) (.con (.ref 301)) [.str (Str.ofString "both"), .ref b, .ref o, .ref t] H Q := vChunk h
theorem vChunkC {b o t : Nat} (h : Q (.ref H.length) (H ++ [.inst 301 (ckF (wS .conflict) b o t)])) : WPV B (d + 2) (.con (.ref 301)) [.str (Str.ofString "conflict"), .ref b, .ref o, .ref t] H Q := vChunk h
noncomputable def chF (a b c d : Nat) : List (Str × MV) := [(Str.ofString "a_from", .int a), (Str.ofString "a_to", .int b), (Str.ofString "b_from", .int c), (Str.ofString "b_to", .int d)]
theorem vChange {a b e f : Nat} (h : Q (.ref H.length) (H ++ [.inst 92 (chF a b e f)])) : WPV B (d + 2) (.con (.ref 92)) [.int a, .int b, .int e, .int f] H Q := by
  refine cls_new (f := 68) (WPF.go fn68 (ie68 _ _ _ _ _) rfl (sS ⟨?_⟩)) rfl
  refine tP ⟨?_⟩ (at_last _ _) rfl
  refine tP ⟨?_⟩ (rec_at (lt_last _)) rfl
  refine tP ⟨?_⟩ (rec_at (rec_lt (lt_last _))) rfl
  refine tP ⟨?_⟩ (rec_at (rec_lt (rec_lt (lt_last _)))) rfl
  exact ⟨rfl, rec_fin h⟩
/-- records and what tells of them -/
theorem lsNil {i : Nat} (h : H[i]? = some (.list [])) : H[i]? = some (Ls []) := h
theorem lsEq {i : Nat} {x y : List Line} (h : H[i]? = some (Ls x)) (e : x = y) : H[i]? = some (Ls y) := e ▸ h
theorem rCk {P : Nat → Prop} {c b o t : Nat} {w : Wd} {x y z : List Line} (hc : H[c]? = some (.inst 301 (ckF (wS w) b o t))) (hb : H[b]? = some (Ls x)) (ho : H[o]? = some (Ls y)) (ht : H[t]? = some (Ls z))
    (p1 : P c) (p2 : P b) (p3 : P o) (p4 : P t) : RC P H (.ref c) ⟨w, x, y, z⟩ := ⟨c, b, o, t, rfl, ⟨p1, p2, p3, p4⟩, hc, hb, ho, ht⟩
theorem rTp {P : Nat → Prop} {b o t : Nat} {w : Wd} {x y z : List Line} (hb : H[b]? = some (Ls x)) (ho : H[o]? = some (Ls y)) (ht : H[t]? = some (Ls z))
    (p2 : P b) (p3 : P o) (p4 : P t) : RTp P H (.tup [.str (wS w), .ref b, .ref o, .ref t]) ⟨w, x, y, z⟩ := ⟨b, o, t, rfl, ⟨p2, p3, p4⟩, hb, ho, ht⟩
theorem rTpB {P : Nat → Prop} {b o t : Nat} {x y z : List Line} (hb : H[b]? = some (Ls x)) (ho : H[o]? = some (Ls y)) (ht : H[t]? = some (Ls z)) (p2 : P b) (p3 : P o) (p4 : P t) : RTp P H (.tup [.str (Str.ofString "both"), .ref b, .ref o, .ref t]) ⟨.both, x, y, z⟩ := ⟨b, o, t, rfl, ⟨p2, p3, p4⟩, hb, ho, ht⟩
theorem rTpC {P : Nat → Prop} {b o t : Nat} {x y z : List Line} (hb : H[b]? = some (Ls x)) (ho : H[o]? = some (Ls y)) (ht : H[t]? = some (Ls z)) (p2 : P b) (p3 : P o) (p4 : P t) : RTp P H (.tup [.str (Str.ofString "conflict"), .ref b, .ref o, .ref t]) ⟨.conflict, x, y, z⟩ := ⟨b, o, t, rfl, ⟨p2, p3, p4⟩, hb, ho, ht⟩
end
/-! the closing, in plain Lean -/
noncomputable def isSB (k : Ck) : Bool := decide (k.word = .same ∨ k.word = .both)
noncomputable def isC (k : Ck) : Bool := decide (k.word = .conflict)
noncomputable def osum : List Ck → Nat
  | [] => 0
  | k :: r => k.ours.length + osum r
theorem osum_app (a b : List Ck) : osum (a ++ b) = osum a + osum b := by
  induction a with
  | nil => simp [osum]
  | cons x a ih => show _ + osum (a ++ b) = _ + osum a + osum b; rw [ih]; lia
noncomputable def cat (f : Ck → List Line) : List Ck → List Line
  | [] => []
  | k :: r => f k ++ cat f r
theorem cat_app (f : Ck → List Line) (a b : List Ck) : cat f (a ++ b) = cat f a ++ cat f b := by
  induction a with
  | nil => rfl
  | cons x a ih => show f x ++ cat f (a ++ b) = f x ++ cat f a ++ cat f b; rw [ih, List.append_assoc]
noncomputable def joinC (l : List Ck) : Ck := ⟨.conflict, cat (·.base) l, cat (·.ours) l, cat (·.theirs) l⟩
theorem joinC_in (a b c : List Ck) : joinC (a ++ joinC b :: c) = joinC (a ++ b ++ c) := by
  unfold joinC; simp [cat_app, cat]
noncomputable def goC : Option (Ck × List Ck) → List Ck → List Ck
  | none, [] => []
  | some (c, bs), [] => c :: bs
  | none, p :: r => if isC p then goC (some (p, [])) r else p :: goC none r
  | some (c, bs), p :: r => if isC p then (if osum bs ≤ 3 then goC (some (joinC (c :: bs ++ [p]), [])) r else c :: bs ++ goC (some (p, [])) r)
      else if isSB p then goC (some (c, bs ++ [p])) r else c :: bs ++ p :: goC none r
theorem isC_join (l : List Ck) : isC (joinC l) = true := rfl
theorem isSB_notC {k : Ck} (h : isSB k = true) : isC k = false := by
  unfold isSB at h; unfold isC
  have h' := of_decide_eq_true h
  rcases h' with h' | h' <;> rw [h'] <;> rfl
theorem goC_betw {c : Ck} : ∀ (bs b0 r : List Ck), (∀ x ∈ bs, isSB x = true) → goC (some (c, b0)) (bs ++ r) = goC (some (c, b0 ++ bs)) r
  | [], b0, r, _ => by simp
  | x :: bs, b0, r, h => by
    have hx := h x (by simp)
    show goC (some (c, b0)) (x :: (bs ++ r)) = _
    rw [goC, isSB_notC hx, hx]
    simp only [if_true, if_false, Bool.false_eq_true]
    rw [goC_betw bs (b0 ++ [x]) r fun y hy => h y (by simp [hy])]
    simp
theorem goC_step {c c2 : Ck} {bs : List Ck} (hc : isC c = true) (hc2 : isC c2 = true) (hb : ∀ x ∈ bs, isSB x = true) (hs : osum bs ≤ 3) (r : List Ck) :
    ∀ (a : List Ck) (s : Option (Ck × List Ck)), goC s (a ++ c :: bs ++ c2 :: r) = goC s (a ++ joinC (c :: bs ++ [c2]) :: r)
  | [], none => by
    show goC none (c :: (bs ++ c2 :: r)) = goC none (joinC (c :: bs ++ [c2]) :: r)
    rw [goC, goC, if_pos hc, if_pos (isC_join _), goC_betw _ _ _ hb, goC, if_pos hc2, List.nil_append, if_pos hs]
  | [], some (c0, b0) => by
    show goC (some (c0, b0)) (c :: (bs ++ c2 :: r)) = goC (some (c0, b0)) (joinC (c :: bs ++ [c2]) :: r)
    rw [goC, goC, if_pos hc, if_pos (isC_join _), goC_betw _ _ _ hb, goC_betw _ _ _ hb, goC, goC, if_pos hc2, if_pos hc2, List.nil_append, if_pos hs, if_pos hs]
    congr 3
    have e := joinC_in (c0 :: b0) (c :: bs ++ [c2]) []
    have e2 := joinC_in [] (c0 :: b0 ++ [c]) (bs ++ [c2])
    simp only [List.nil_append, List.append_nil, List.cons_append, List.append_assoc] at e e2 ⊢
    rw [e, e2]
  | x :: a, none => by
    show goC none (x :: (a ++ c :: bs ++ c2 :: r)) = goC none (x :: (a ++ joinC (c :: bs ++ [c2]) :: r))
    rw [goC, goC, goC_step hc hc2 hb hs r a, goC_step hc hc2 hb hs r a]
  | x :: a, some (c0, b0) => by
    show goC (some (c0, b0)) (x :: (a ++ c :: bs ++ c2 :: r)) = goC (some (c0, b0)) (x :: (a ++ joinC (c :: bs ++ [c2]) :: r))
    rw [goC, goC]
    simp only [goC_step hc hc2 hb hs r a]
noncomputable def flatS : Option (Ck × List Ck) → List Ck
  | none => []
  | some (c, bs) => c :: bs
noncomputable def stOk : Option (Ck × List Ck) → Prop
  | none => True
  | some (c, bs) => isC c = true ∧ ∀ x ∈ bs, isSB x = true
theorem goC_still (l : List Ck) (h : ∀ (a : List Ck) (c c2 : Ck) (bs r : List Ck), l = a ++ c :: bs ++ c2 :: r → isC c = true → isC c2 = true → (∀ x ∈ bs, isSB x = true) → ¬ osum bs ≤ 3) :
    ∀ (r a : List Ck) (s : Option (Ck × List Ck)), stOk s → l = a ++ flatS s ++ r → goC s r = flatS s ++ r
  | [], a, none, _, _ => rfl
  | [], a, some (c, bs), _, _ => by simp [goC, flatS]
  | p :: r, a, none, _, e => by
    rw [goC]
    have e' : l = a ++ p :: r := by simpa [flatS] using e
    split
    · rename_i hp
      rw [goC_still l h r a (some (p, [])) ⟨hp, by simp⟩ (by rw [e']; simp [flatS])]; rfl
    · rw [goC_still l h r (a ++ [p]) none trivial (by rw [e']; simp [flatS])]; rfl
  | p :: r, a, some (c, bs), ⟨hc, hb⟩, e => by
    have e' : l = a ++ c :: bs ++ p :: r := by simpa [flatS] using e
    rw [goC]
    split
    · rename_i hp
      rw [if_neg (h a c p bs r e' hc hp hb)]
      rw [goC_still l h r (a ++ c :: bs) (some (p, [])) ⟨hp, by simp⟩ (by rw [e']; simp [flatS])]; rfl
    · split
      · rename_i hp
        rw [goC_still l h r a (some (c, bs ++ [p])) ⟨hc, by intro x hx; rcases List.mem_append.mp hx with hx | hx; exact hb x hx; simp at hx; rw [hx]; exact hp⟩ (by rw [e']; simp [flatS])]
        simp [flatS]
      · rw [goC_still l h r (a ++ c :: bs ++ [p]) none trivial (by rw [e']; simp [flatS])]
        simp [flatS]
noncomputable def closS (l : List Ck) : List Ck := goC none l
theorem closS_step {c c2 : Ck} {bs a r : List Ck} (hc : isC c = true) (hc2 : isC c2 = true) (hb : ∀ x ∈ bs, isSB x = true) (hs : osum bs ≤ 3) :
    closS (a ++ c :: bs ++ c2 :: r) = closS (a ++ joinC (c :: bs ++ [c2]) :: r) := goC_step hc hc2 hb hs r a none
theorem closS_still {l : List Ck} (h : ∀ (a : List Ck) (c c2 : Ck) (bs r : List Ck), l = a ++ c :: bs ++ c2 :: r → isC c = true → isC c2 = true → (∀ x ∈ bs, isSB x = true) → ¬ osum bs ≤ 3) : closS l = l :=
  goC_still l h l [] none trivial (by simp [flatS])
section
open Lean
def tOne (c : String) : MacroM (TSyntax `tactic) := pure ⟨match ("D tacticDecreasing_trivial_pre_omega decreasing_trivial_pre_omega|L Array.tacticArray_mem_dec array_mem_dec|T tacticDecreasing_trivial decreasing_trivial|X List.tacticSizeOf_list_dec sizeOf_list_dec|N tacticGet_elem_tactic_extensible get_elem_tactic_extensible|P tacticClean_wf clean_wf|S tacticSimp_wf simp_wf|a Lean.Parser.Tactic.assumption assumption".splitOn "|").findSome? (fun w => match w.splitOn " " with
  | [d, k, a] => if c = d then some (k, a) else none
  | _ => none) with
  | some (k, a) => Syntax.node .none k.toName #[mkAtom a]
  | none => .missing⟩
def tSide (c : Char) : MacroM (TSyntax `tactic) := match c with
  | 'A' => do `(tactic| with_reducible $(← tOne "a"):tactic)
  | 'F' => `(tactic| (intros; rfl))
  | 'I' => `(tactic| exact fun _ n k => swapsWith_env rfl _ n k)
  | 'J' => `(tactic| exact fun _ n k => swap_env rfl _ n k)
  | 'Y' => `(tactic| exact ⟨rfl, by decide, rfl⟩)
  | 'M' => `(tactic| simp)
  | 'm' => `(tactic| (simp; done))
  | 'n' => `(tactic| (simp; lia))
  | 'o' => `(tactic| (simp only [List.length_append, List.length_set, List.length_cons, List.length_nil, List.length_map, List.length_replicate, List.length_range]; lia))
  | 'l' => `(tactic| lia)
  | 'd' => `(tactic| decide)
  | 'p' => `(tactic| (refine ⟨?_, ?_⟩ <;> decreasing_trivial))
  | 'g' => `(tactic| refine ⟨?_⟩)
  | 'R' => `(tactic| exact rfl)
  | _ => tOne c.toString
def tCut (s : String) : TSyntax `ident × Array Char := match s.splitOn ":" with
  | [x, t] => (mkIdent x.toName, t.toList.toArray)
  | _ => (mkIdent s.toName, #[])
def tSeq (ts : Array (TSyntax `tactic)) : MacroM (TSyntax `tactic) := `(tactic| ($[$ts];*))
def tAny (ts : Array (TSyntax `tactic)) : MacroM (TSyntax `tactic) := `(tactic| first $[| $ts:tactic]*)
/-- one way: a letter, or a rule to apply (+ with_reducible, * as it is) and what it asks -/
def tWay (s : String) : MacroM (TSyntax `tactic) := match s.toList with
  | [c] => tSide c
  | c :: r => do
    let (x, cs) := tCut (String.ofList r)
    let t ← if c = '+' then `(tactic| with_reducible apply $x) else `(tactic| apply $x)
    tSeq (#[t] ++ (← cs.mapM tSide))
  | [] => tSide 'R'
def tWays (s : String) : MacroM (TSyntax `tactic) := do tAny (← (s.splitOn " ").toArray.mapM tWay)
def tMore : Char → MacroM (TSyntax `tactic)
  | 'Q' => tWays "A *Int.natCast_nonneg *Int.ofNat_lt.mpr:a *Int.ofNat_zero_le *Int.le_refl"
  | 'W' => tWays "F I J"
  | c => tSide c
/-- a step: the rule, then what it asks beside its last goal; one letter: that alone -/
def tStep (s : String) : MacroM (TSyntax `tactic) := do
  if s.length = 1 then tSide s.front else
  let (x, cs) := tCut s
  let t : TSyntax `term := ⟨Syntax.mkApp x (Array.replicate (cs.size + 1) (← `(?_)))⟩
  if cs.size = 0 then `(tactic| with_reducible refine $t)
  else
    let q ← tSeq (← cs.mapM tMore)
    `(tactic| focus ((with_reducible refine' $t); rotate_right $(quote cs.size):num; $q))
def tSteps (s : String) : MacroM (TSyntax `tactic) := do tAny (← (s.splitOn " ").toArray.mapM tStep)
/-- steps for goals of one head alone -/
def tGrp (s : String) (n : Nat) (t : String) : MacroM (TSyntax `tactic) := do
  let h : TSyntax `term := ⟨Syntax.mkApp (mkIdent s.toName) (Array.replicate n (← `(_)))⟩
  let q ← tSteps t
  `(tactic| ((with_reducible show $h); $q))
end
section
local macro_rules | `(tactic| decreasing_trivial_pre_omega) => tWays "A +at_last +dApp:D +dSetN:DN +dSet:N +dExt:AD +dLast:L"
local macro_rules | `(tactic| decreasing_trivial) => tWays "A +ltS +leS +Nat.le_refl +ltA:T +ltT:T +ltO:A +leA:T +leT:T +neL:T +neG:T *lt_k:R *lt_kk:R +ltX:AT +leX:AT"
local macro_rules | `(tactic| get_elem_tactic_extensible) => tWays "T l d"
local macro_rules | `(tactic| array_mem_dec) => tWays "A *le_k:A *Nat.le_of_ble_eq_true:R +Int.natCast_nonneg *Int.ofNat_lt.mpr:a l o m n"
local macro_rules | `(tactic| sizeOf_list_dec) => tWays "A +Ext.refl +xApp:X +xSet:XN +xTr:AX +mApp:X +mSet:XN +mSetI:XM +mTr:AX +mX:X +rCk:DSDDPPPP +rTp:SDDPPP +rTpB:SDDPPP +rTpC:SDDPPP"
local macro_rules | `(tactic| clean_wf) => tWays "T p L"
local macro_rules | `(tactic| simp_wf) => tWays "D +lsNil:D R M"
local macro_rules | `(tactic| array_get_dec) => do tAny #[← tSteps "g tStop:L sS sT sE tA:DRR tP:DR", ← tGrp "WPV" 6 "vLenL:DL vAppL:DL vApp:DL vChunk vChunkB vChunkC vListL:DL vList:DL vLenN:DL vLenI:DL vLen:DL vExt:DDL vPop0:DLL vPopL:DLL vChange min_N max_N WPV.max isBsL isStL", ← tGrp "cmpM" 5 "cmp_lb cmp_wd cmpw_both cmpw_conflict cmpw_same cmpw_ours cmpw_theirs cmpw_nconflict cmpw_inOT cmpw_inSB cmpw_ninBC eNil:DDN nNil:DDN nNilA:DDN eLs:DDN nLs:DDN nInB:D", ← tGrp "subM" 4 "uLsN:DLL uNsN:DLL uBlN:DLL uLs:DQQL uNs:DQQL uBl:DQQL uIs:DQQL uLast:DLL uS:DR", ← tGrp "LeafL" 5 "tLtN:DL tLdN:DL tLdS:DL tLmN:DL tLmS:DL tL:DL", ← tGrp "methM" 5 "mAp:D mIn:DRRR mEx:D mPo:D", ← tGrp "binM" 5 "bMod:N bMul:N bDiv:N bLs:DDL bAp:DDL bRep:DLL", ← tGrp "setM" 5 "zBlN:DLL zBl:DLLL zS:DR", ← tGrp "Leaf1" 8 "lSw2:FRRR lSw3:FRRRR lAsg:FWW lFor:F lAug", ← tGrp "LeafE" 7 "eComp:YF eCompIf:YF eComp2:YFF eD0 eD1", ← tSteps "sG sEs iRng:RFF iEnu:RFF iZip:RFF iSeq qList:D qTup qZip:DD gNone gSome gEmit gGen emL:DL emN:DL emA:DL tVal:F tAug:DRR go_brT go_brF"]
section
variable {B : Bs} {d : Nat} {H : List MObj} {Q : KE}
theorem told_ok {m : MV} {k : Ck} (hk : RCk H m k) (hs : k.small 1000) (ret : ∀ H' r, Ext H H' → RTm H.length H' r k → Q r H') : WPF B (d + 1) (.con (.ref 359)) [m] H Q := by
  obtain ⟨c, b, o, t, rfl, hc, hb, ho, ht⟩ := hk
  obtain ⟨s1, s2, s3⟩ := hs
  refine WPF.go fn359 (ie359 _) rfl ?_
  repeat array_get_dec
  exact ret _ _ (by sizeOf_list_dec) ⟨_, _, _, rfl, ⟨(by decreasing_trivial), (by decreasing_trivial), (by decreasing_trivial), neL (by decreasing_trivial)⟩, (by decreasing_trivial_pre_omega), (by decreasing_trivial_pre_omega), (by decreasing_trivial_pre_omega)⟩
end
noncomputable def upF (p : Nat → Bool) : Nat → Nat → Nat
  | n, 0 => n
  | n, f + 1 => if p n then upF p (n + 1) f else n
theorem upF_le (p : Nat → Bool) : ∀ f n, upF p n f ≤ n + f
  | 0, n => Nat.le_refl _
  | f + 1, n => by
    show (if p n then upF p (n + 1) f else n) ≤ _
    split
    · exact Nat.le_trans (upF_le p f (n + 1)) (Nat.le_of_eq (Nat.succ_add_eq_add_succ n f))
    · exact Nat.le_add_right _ _
theorem upF_at {p : Nat → Bool} {i : Nat} : ∀ (f n : Nat), n ≤ i → i ≤ n + f → (∀ j, n ≤ j → j < i → p j = true) → (i < n + f → ¬p i = true) → upF p n f = i
  | 0, n, h1, h2, _, _ => Nat.le_antisymm h1 h2
  | f + 1, n, h1, h2, h3, h4 => by
    rcases Nat.eq_or_lt_of_le h1 with rfl | h
    · exact if_neg (h4 (Nat.lt_add_of_pos_right (Nat.succ_pos f)))
    · refine (if_pos (h3 n (Nat.le_refl n) h)).trans (upF_at f (n + 1) h (by rw [Nat.succ_add_eq_add_succ]; exact h2) (fun j a b => h3 j (Nat.le_of_lt a) b) (by rw [Nat.succ_add_eq_add_succ]; exact h4))
/-- what holds from a on, below i -/
noncomputable def BlwF (p : Nat → Bool) (a i : Nat) : Prop := ∀ j, a ≤ j → j < i → p j = true
theorem BlwF.zero {p : Nat → Bool} {a : Nat} : BlwF p a a := fun j h h' => absurd (Nat.lt_of_lt_of_le h' h) (Nat.lt_irrefl j)
theorem BlwF.succ {p : Nat → Bool} {a i : Nat} (h : BlwF p a i) (e : p i = true) : BlwF p a (i + 1) := fun j h1 hj => (Nat.eq_or_lt_of_le (Nat.le_of_lt_succ hj)).elim (fun q => q ▸ e) (h j h1)
theorem BlwF.at {p : Nat → Bool} {a i f : Nat} (h : BlwF p a i) (ha : a ≤ i) (hi : i ≤ a + f) (hx : i < a + f → ¬p i = true) : upF p a f = i := upF_at f a ha hi h hx
/-- what holds of all below i -/
noncomputable def Blw (p : Nat → Bool) (i : Nat) : Prop := ∀ j, j < i → p j = true
theorem Blw.zero {p : Nat → Bool} : Blw p 0 := fun j h => absurd h (Nat.not_lt_zero j)
theorem Blw.succ {p : Nat → Bool} {i : Nat} (h : Blw p i) (e : p i = true) : Blw p (i + 1) := fun j hj => (Nat.eq_or_lt_of_le (Nat.le_of_lt_succ hj)).elim (fun q => q ▸ e) (h j)
theorem Blw.at {p : Nat → Bool} {i n : Nat} (h : Blw p i) (hi : i ≤ n) (hx : i < n → ¬p i = true) : upF p 0 n = i := upF_at n 0 (Nat.zero_le i) (by rw [Nat.zero_add]; exact hi) (fun j _ => h j) (by rw [Nat.zero_add]; exact hx)
noncomputable def trimA (a b : List Line) : Nat := upF (fun i => decide (a.getD i 0 = b.getD i 0)) 0 (min a.length b.length)
noncomputable def trimB (a b : List Line) (A : Nat) : Nat := upF (fun i => decide (a.getD (a.length - 1 - i) 0 = b.getD (b.length - 1 - i) 0)) 0 (min a.length b.length - A)
theorem trimA_le (a b : List Line) : trimA a b ≤ min a.length b.length := Nat.le_trans (upF_le _ _ _) (Nat.le_of_eq (Nat.zero_add _))
theorem trimB_le (a b : List Line) (A : Nat) : trimB a b A ≤ min a.length b.length - A := Nat.le_trans (upF_le _ _ _) (Nat.le_of_eq (Nat.zero_add _))
noncomputable def trimP (k : Ck) (A Z : Nat) : List Ck :=
  (if A > 0 then [⟨.both, [], k.ours.take A, k.ours.take A⟩] else []) ++ (⟨.conflict, k.base, (k.ours.drop A).take (k.ours.length - Z - A), (k.theirs.drop A).take (k.theirs.length - Z - A)⟩ ::
    (if Z > 0 then [⟨.both, [], k.ours.drop (k.ours.length - Z), k.ours.drop (k.ours.length - Z)⟩] else []))
noncomputable def trimS (k : Ck) : List Ck := trimP k (trimA k.ours k.theirs) (trimB k.ours k.theirs (trimA k.ours k.theirs))
theorem lt_sub {i n A : Nat} : ((i : Int) < (n : Int) - (A : Int)) ↔ i < n - A := by lia
theorem back_ok {i n l : Nat} (h : i < n) (hl : n ≤ l) : 0 ≤ (l : Int) - 1 - (i : Int) ∧ (l : Int) - 1 - (i : Int) < (l : Int) := by lia
theorem sub_ok {a b : Nat} (h : a ≤ b) : 0 ≤ (b : Int) - (a : Int) := Int.sub_nonneg_of_le (Int.ofNat_le.mpr h)
section
variable {B : Bs} {d : Nat} {H : List MObj} {Q : KE}
theorem trim_ok {m : MV} {k : Ck} {q : Nat} (hk : RC (· ≠ q) H m k) (hq : q < H.length) (hs : k.small 1000)
    (ret : ∀ H' j vs, Ext H H' → H.length ≤ j → H'[j]? = some (.list vs) → All2 (RC (· ≠ q) H') vs (trimS k) → Q (.ref j) H') : WPF B (d + 3) (.con (.ref 319)) [m] H Q := by
  obtain ⟨c, b, o, t, rfl, ⟨pc, pb, po, ptt⟩, hc, hb, ho, ht⟩ := hk
  obtain ⟨s1, s2, s3⟩ := hs
  have hA := trimA_le k.ours k.theirs
  have lo := Nat.min_le_left k.ours.length k.theirs.length
  have lt := Nat.min_le_right k.ours.length k.theirs.length
  refine WPF.go fn319 (ie319 _) rfl ?_
  repeat array_get_dec
  refine Leaf1.midK (fun K => ∀ A, trimA k.ours k.theirs = A → K [.ref c, .ref o, .ref t, .int (min k.ours.length k.theirs.length : Nat), .int A, .undef, .undef, .undef, .undef, .undef, .undef, .undef, .undef, .undef] H) (fun K k1 => ?_) ?_
  · refine whlUp (min k.ours.length k.theirs.length) (fun i K => Blw (fun i => decide (k.ours.getD i 0 = k.theirs.getD i 0)) i → K [.ref c, .ref o, .ref t, .int (min k.ours.length k.theirs.length : Nat), .int i, .undef, .undef, .undef, .undef, .undef, .undef, .undef, .undef, .undef] H)
      0 (Nat.zero_le _) (fun K k => k Blw.zero) (fun i C c h => c _ _ fun K k => k h) fun i C hi cc hu => go_wt ?_
    repeat array_get_dec
    refine go_br (fun h => ?_) (fun h => ?_)
    · have h3 := Int.ofNat_lt.mp h
      have h4 := Nat.lt_of_lt_of_le h3 lo
      have h5 := Nat.lt_of_lt_of_le h3 lt
      repeat array_get_dec
      refine go_br (fun h2 => ?_) (fun h2 => ?_)
      · repeat array_get_dec
        exact cc h3 (hu.succ (decide_eq_true h2))
      · repeat array_get_dec
        exact k1 i (hu.at hi fun _ => by simpa using h2)
    · repeat array_get_dec
      exact k1 i (hu.at hi fun q => absurd (Int.ofNat_lt.mpr q) h)
  intro A eA
  rw [eA] at hA
  have hZ := trimB_le k.ours k.theirs A
  repeat array_get_dec
  refine Leaf1.midK (fun K => ∀ Z, trimB k.ours k.theirs A = Z → K [.ref c, .ref o, .ref t, .int (min k.ours.length k.theirs.length : Nat), .int A, .int Z, .undef, .undef, .undef, .undef, .undef, .undef, .undef, .undef] H) (fun K k1 => ?_) ?_
  · refine whlUp (min k.ours.length k.theirs.length - A) (fun i K => Blw (fun i => decide (k.ours.getD (k.ours.length - 1 - i) 0 = k.theirs.getD (k.theirs.length - 1 - i) 0)) i → K [.ref c, .ref o, .ref t, .int (min k.ours.length k.theirs.length : Nat), .int A, .int i, .undef, .undef, .undef, .undef, .undef, .undef, .undef, .undef] H)
      0 (Nat.zero_le _) (fun K k => k Blw.zero) (fun i C c h => c _ _ fun K k => k h) fun i C hi cc hu => go_wt ?_
    repeat array_get_dec
    refine go_br (fun h => ?_) (fun h => ?_)
    · have h3 := lt_sub.mp h
      have h4 := Nat.lt_of_lt_of_le h3 (Nat.sub_le _ _)
      have h5 := (back_ok h4 lo).1
      have h6 := (back_ok h4 lo).2
      have h7 := (back_ok h4 lt).1
      have h8 := (back_ok h4 lt).2
      repeat array_get_dec
      rw [toNat_sub1, toNat_sub1]
      refine go_br (fun h2 => ?_) (fun h2 => ?_)
      · repeat array_get_dec
        exact cc h3 (hu.succ (decide_eq_true h2))
      · repeat array_get_dec
        exact k1 i (hu.at hi fun _ => by simpa using h2)
    · repeat array_get_dec
      exact k1 i (hu.at hi fun q => absurd (lt_sub.mpr q) h)
  intro Z eZ
  rw [eZ] at hZ
  replace hZ := Nat.le_trans hZ (Nat.sub_le _ _)
  have e1 := sub_ok (Nat.le_trans hZ lo)
  have e3 := sub_ok (Nat.le_trans hZ lt)
  replace ret : ∀ H' j vs, Ext H H' → H.length ≤ j → H'[j]? = some (.list vs) → All2 (RC (· ≠ q) H') vs (trimP k A Z) → Q (.ref j) H' := by subst eA eZ; exact ret
  repeat array_get_dec
  refine Leaf1.midK (fun K => ∀ H1 vs, Ext H H1 → H1[H.length]? = some (.list vs) → vs.length ≤ 1 → All2 (RC (fun i => i ≠ H.length ∧ i ≠ q) H1) vs (if A > 0 then [⟨.both, [], k.ours.take A, k.ours.take A⟩] else []) →
    K [.ref c, .ref o, .ref t, .int (min k.ours.length k.theirs.length : Nat), .int A, .int Z, .ref H.length, .undef, .undef, .undef, .undef, .undef, .undef, .undef] H1) (fun K k1 => ?_) ?_
  · refine WP1.ite ?_
    repeat array_get_dec
    refine go_br (fun h => ?_) (fun h => ?_)
    · rw [if_pos (Int.ofNat_lt.mp h)] at k1
      repeat array_get_dec
      refine k1 _ _ (by sizeOf_list_dec) (by decreasing_trivial_pre_omega) (Nat.le_refl _) ?_
      refine .cons ?_ .nil
      sizeOf_list_dec
    · rw [if_neg (fun g => h (Int.ofNat_lt.mpr g))] at k1
      repeat array_get_dec
      exact k1 _ _ (by sizeOf_list_dec) (by decreasing_trivial_pre_omega) (Nat.zero_le _) .nil
  intro H1 vs x1 hv l3 r1
  have hc1 := x1 _ _ hc
  have hb1 := x1 _ _ hb
  have ho1 := x1 _ _ ho
  have ht1 := x1 _ _ ht
  have y2 := lt_of_at hv
  repeat array_get_dec
  refine Leaf1.midK (fun K => ∀ H2 vs2 co la, Ext H H2 → H2[H.length]? = some (.list vs2) → All2 (RC (· ≠ q) H2) vs2 (trimP k A Z) →
    K [.ref c, .ref o, .ref t, .int (min k.ours.length k.theirs.length : Nat), .int A, .int Z, .ref H.length, co, la, .undef, .undef, .undef, .undef, .undef] H2) (fun K k1 => ?_) ?_
  · clear ret
    unfold trimP at k1
    refine WP1.ite ?_
    repeat array_get_dec
    refine go_br (fun h => ?_) (fun h => ?_)
    · rw [if_pos (show Z > 0 from Int.ofNat_lt.mp h)] at k1
      repeat array_get_dec
      refine k1 _ _ _ _ (by sizeOf_list_dec) (by decreasing_trivial_pre_omega) ?_
      rw [show ∀ (L : List Ck) x y, L ++ x :: [y] = (L ++ [x]) ++ [y] from fun L x y => by simp]
      refine All2.app (All2.app (r1.mono fun m a h => ?_) (.cons ?_ .nil)) (.cons ?_ .nil)
      · refine RC.mono (P := fun i => i ≠ H.length ∧ i ≠ q) ?_ (fun i _ h => h.2)
        exact ((((((((h.ext (Ext.app _ _)).ext (Ext.app _ _)).ext (Ext.app _ _)).setP (fun _ h => h.1.symm)).ext (Ext.app _ _)).ext (Ext.app _ _)).ext (Ext.app _ _)).setP (fun _ h => h.1.symm))
      · sizeOf_list_dec
      · sizeOf_list_dec
    · rw [if_neg (show ¬ Z > 0 from fun g => h (Int.ofNat_lt.mpr g))] at k1
      repeat array_get_dec
      refine k1 _ _ _ _ (by sizeOf_list_dec) (by decreasing_trivial_pre_omega) ?_
      refine All2.app (r1.mono fun m a h => ?_) (.cons ?_ .nil)
      rotate_left
      · sizeOf_list_dec
      exact ((((h.ext (Ext.app _ _)).ext (Ext.app _ _)).ext (Ext.app _ _)).setP (fun _ h => h.1.symm)).mono (fun i _ h => h.2)
  intro H2 vs2 co la x2 hv2 r2
  repeat array_get_dec
  exact ret _ _ _ x2 (Nat.le_refl _) hv2 r2
end
noncomputable def deckO (c : Nat) (n s : Int) : MObj := .dS [(Str.ofString "cells", .ref c), (Str.ofString "at", .int n), (Str.ofString "stir", .int s)]
noncomputable def Deck (i c : Nat) (H : List MObj) : Prop := ∃ (cells : List Int) (n s : Int), i ≠ c ∧ H[i]? = some (deckO c n s) ∧ H[c]? = some (.list (cells.map .int)) ∧ cells.length ≤ 1000 ∧ 0 ≤ n
theorem Deck.ext {i c : Nat} {H H' : List MObj} (h : Deck i c H) (x : Ext H H') : Deck i c H' := by
  obtain ⟨cells, n, s, h1, h2, h3, h4⟩ := h
  exact ⟨cells, n, s, h1, x _ _ h2, x _ _ h3, h4⟩
theorem Deck.set {i c j : Nat} {H : List MObj} {o : MObj} (h : Deck i c H) (hi : j ≠ i) (hc : j ≠ c) : Deck i c (H.set j o) := by
  obtain ⟨cells, n, s, h1, h2, h3, h4⟩ := h
  exact ⟨cells, n, s, h1, at_set_ne h2 hi, at_set_ne h3 hc, h4⟩
theorem Deck.lt {i c : Nat} {H : List MObj} (h : Deck i c H) : i < H.length ∧ c < H.length := by
  obtain ⟨cells, n, s, h1, h2, h3, h4⟩ := h
  exact ⟨lt_of_at h2, lt_of_at h3⟩
theorem ExtM.keep {i j : Nat} {o : MObj} {H H' : List MObj} (x : ExtM [i] H H') (h : H[j]? = some o) (hne : j ≠ i) : H'[j]? = some o := x j o (fun q => hne (List.mem_singleton.mp q)) h
section
variable {B : Bs} {d : Nat} {H : List MObj} {Q : KE}
theorem draw_ok {i c : Nat} {b : Int} (hk : Deck i c H) (hb : 0 < b) (ret : ∀ H' v, ExtM [i] H H' → H.length = H'.length → Deck i c H' → 0 ≤ v → v < b → Q (.int v) H') : WPF B (d + 1) (.con (.ref 340)) [.ref i, .int b] H Q := by
  obtain ⟨cells, n, s, hne, hi, hc, hl, hn⟩ := hk
  have fin : ∀ v x : Int, Q (.int (v.fmod b)) ((H.set i (deckO c (n + 1) s)).set i (deckO c (n + 1) x)) := fun v x =>
    ret _ _ ((ExtM.set (List.mem_singleton.mpr rfl)).trans (.set (List.mem_singleton.mpr rfl))) (by rw [List.length_set, List.length_set])
      ⟨cells, n + 1, x, hne, at_set (by rw [List.length_set]; exact lt_of_at hi), at_set_ne (at_set_ne hc hne) hne, hl, Int.le_add_one hn⟩ (Int.fmod_nonneg_of_pos _ hb) (Int.fmod_lt_of_pos _ hb)
  unfold deckO at hi
  refine WPF.go fn340 (ie340 _ _) rfl ?_
  repeat array_get_dec
  refine go_br (fun h => ?_) (fun h => ?_)
  · repeat array_get_dec
    exact fin _ _
  · repeat array_get_dec
    exact fin _ _
theorem lines_ok {i c : Nat} (hk : Deck i c H) (ret : ∀ H' j ls, ExtM [i] H H' → Deck i c H' → H.length ≤ j → H'[j]? = some (Ls ls) → ls.length ≤ 3 → Q (.ref j) H') : WPF B (d + 2) (.con (.ref 345)) [.ref i] H Q := by
  refine WPF.go fn345 (ie345 _) rfl ?_
  repeat array_get_dec
  refine WPF.vc (draw_ok hk (by decide) fun H1 v x1 e1 hk1 hv0 hv4 => ?_)
  obtain ⟨w, rfl⟩ := Int.eq_ofNat_of_zero_le hv0
  have hw : w ≤ 3 := Int.ofNat_le.mp (Int.le_of_lt_add_one hv4)
  have hw' : w ≤ 1000000 := Nat.le_trans hw (by decide)
  repeat array_get_dec
  refine rng1 ?_ hw'
  have z := hk1.lt
  refine ⟨True.intro, compMap _ (fun as K => ∀ t H2 ls, ExtM [i] H1 H2 → H1.length < H2.length → Deck i c H2 → H2[H1.length]? = some (Ls ls) → ls.length + as.length ≤ 3 → K [.undef, t, .undef, .ref i] H2) (fun as C p t H2 ls a b c d e => p _ _ fun K k => k t H2 ls a b c d e) ?_ ?_
    (fun K k => k _ _ [] (mX (by sizeOf_list_dec)) (by decreasing_trivial) (hk1.ext (by sizeOf_list_dec)) (at_last _ _) (by rw [List.length_range]; simpa using hw))⟩
  · intro t H2 ls x2 l2 hk2 h1 h2
    exact ⟨ret _ _ _ (x1.trans x2) hk2 (Nat.le_of_eq e1) h1 h2⟩
  · intro a as C cc t H2 ls x2 l2 hk2 h1 h2
    have c1 : ls.length ≤ 1000 := Nat.le_trans (Nat.le_trans (Nat.le_add_right _ _) h2) (by decide)
    repeat array_get_dec
    refine WPF.vc (draw_ok hk2 (by decide) fun H3 v x3 e3 hk3 hv0 hv3 => ?_)
    obtain ⟨n, rfl⟩ := Int.eq_ofNat_of_zero_le hv0
    have hn : n < 3 := Int.ofNat_lt.mp hv3
    have h3 := x3.keep h1 (Nat.ne_of_gt z.1)
    repeat array_get_dec
    refine sub_tup n rfl (by decide) (m := lb ⟨n, hn⟩) (match n, hn with | 0, _ => rfl | 1, _ => rfl | 2, _ => rfl) ?_
    repeat array_get_dec
    exact ⟨True.intro, cc _ _ _ ((x2.trans x3).set_new (Nat.le_refl _)) (by rw [List.length_set, ← e3]; exact l2) (hk3.set (Nat.ne_of_gt z.1) (Nat.ne_of_gt z.2)) (at_set (by rw [← e3]; exact l2)) (by rw [List.length_append]; rw [List.length_cons] at h2; rw [Nat.add_assoc]; exact Nat.add_comm 1 _ ▸ h2)⟩
end
noncomputable def wdOf : Nat → Wd
  | 0 => .same
  | 1 => .ours
  | 2 => .theirs
  | 3 => .both
  | _ => .conflict
section
variable {B : Bs} {d : Nat} {H : List MObj} {Q : KE}
theorem lchunk_ok {i c : Nat} (hk : Deck i c H) (ret : ∀ H' r k, ExtM [i] H H' → Deck i c H' → RC (fun j => H.length ≤ j) H' r k → k.small 3 → Q r H') : WPF B (d + 4) (.con (.ref 352)) [.ref i] H Q := by
  refine WPF.go fn352 (ie352 _) rfl ?_
  have y0 := hk.lt.1
  repeat array_get_dec
  refine WPF.vc (draw_ok hk (by decide) fun H1 v x1 e1 hk1 hv0 hv6 => ?_)
  obtain ⟨n, rfl⟩ := Int.eq_ofNat_of_zero_le hv0
  have hn : n < 6 := Int.ofNat_lt.mp hv6
  repeat array_get_dec
  refine sub_tup n rfl (by decide) (m := .str (wS (wdOf n))) (match n, hn with | 0, _ => rfl | 1, _ => rfl | 2, _ => rfl | 3, _ => rfl | 4, _ => rfl | 5, _ => rfl) ?_
  generalize wdOf n = w
  repeat array_get_dec
  refine WPF.vc (lines_ok hk1 fun H2 jb lsb x2 hk2 hjb hb2 hlb => ?_)
  have x12 := x1.trans x2
  rw [← e1] at hjb
  have z1 := Nat.lt_of_le_of_lt hjb (lt_of_at hb2)
  have z1' := Nat.le_of_lt z1
  have cb : lsb.length ≤ 1000 := Nat.le_trans hlb (by decide)
  repeat array_get_dec
  refine lIte ?_
  repeat array_get_dec
  refine go_br (fun h => ?_) (fun h => ?_)
  · repeat array_get_dec
    exact ret _ _ ⟨w, lsb, lsb, lsb⟩ (x12.trans (Ext.toM (by sizeOf_list_dec))) (hk2.ext (by sizeOf_list_dec)) (by sizeOf_list_dec) ⟨hlb, hlb, hlb⟩
  repeat array_get_dec
  refine WPF.vc (lines_ok hk2 fun H3 jm lsm x3 hk3 hjm hm3 hlm => ?_)
  have x13 := x12.trans x3
  have hb3 := x3.keep hb2 (Nat.ne_of_gt (Nat.lt_of_lt_of_le y0 hjb))
  have hjm' := Nat.le_trans z1' hjm
  have z2 := Nat.lt_of_le_of_lt hjm' (lt_of_at hm3)
  have z2' := Nat.le_of_lt z2
  have cm : lsm.length ≤ 1000 := Nat.le_trans hlm (by decide)
  repeat array_get_dec
  refine lIte ?_
  repeat array_get_dec
  refine go_br (fun h => ?_) (fun h => ?_)
  · repeat array_get_dec
    exact ret _ _ ⟨w, lsb, lsm, lsb⟩ (x13.trans (Ext.toM (by sizeOf_list_dec))) (hk3.ext (by sizeOf_list_dec)) (by sizeOf_list_dec) ⟨hlb, hlm, hlb⟩
  repeat array_get_dec
  refine lIte ?_
  repeat array_get_dec
  refine go_br (fun h => ?_) (fun h => ?_)
  · repeat array_get_dec
    exact ret _ _ ⟨w, lsb, lsb, lsm⟩ (x13.trans (Ext.toM (by sizeOf_list_dec))) (hk3.ext (by sizeOf_list_dec)) (by sizeOf_list_dec) ⟨hlb, hlb, hlm⟩
  repeat array_get_dec
  refine go_br (fun h => ?_) (fun h => ?_)
  · repeat array_get_dec
    exact ret _ _ ⟨w, lsb, lsm, lsm⟩ (x13.trans (Ext.toM (by sizeOf_list_dec))) (hk3.ext (by sizeOf_list_dec)) (by sizeOf_list_dec) ⟨hlb, hlm, hlm⟩
  repeat array_get_dec
  refine WPF.vc (lines_ok hk3 fun H4 jt lst x4 hk4 hjt ht4 hlt => ?_)
  have hb4 := x4.keep hb3 (Nat.ne_of_gt (Nat.lt_of_lt_of_le y0 hjb))
  have hm4 := x4.keep hm3 (Nat.ne_of_gt (Nat.lt_of_lt_of_le y0 hjm'))
  have hjt' := Nat.le_trans z2' hjt
  have z3 := Nat.le_of_lt (Nat.lt_of_le_of_lt hjt' (lt_of_at ht4))
  repeat array_get_dec
  exact ret _ _ ⟨w, lsb, lsm, lst⟩ ((x13.trans x4).trans (Ext.toM (by sizeOf_list_dec))) (hk4.ext (by sizeOf_list_dec)) (by sizeOf_list_dec) ⟨hlb, hlm, hlt⟩
end
theorem drop_ne {a : List Line} {i : Nat} : a.drop i ≠ [] ↔ i < a.length := by
  rw [ne_eq, List.drop_eq_nil_iff, Nat.not_le]
theorem getD_drop0 (a : List Line) (i : Nat) : (a.drop i).getD 0 0 = a.getD i 0 := by simp [List.getD_eq_getElem?_getD]
theorem take_snoc {a : List Line} {i : Nat} (h : i < a.length) : a.take i ++ [(a.drop i).getD 0 0] = a.take (i + 1) := by
  rw [List.take_add_one, getD_drop0, List.getElem?_eq_getElem h, List.getD_eq_getElem?_getD, List.getElem?_eq_getElem h]; rfl
theorem drop_cons {a : List Line} {j : Nat} (h : j < a.length) : [a.getD (a.length - 1 - j) 0] ++ a.drop (a.length - j) = a.drop (a.length - (j + 1)) := by
  have h1 : a.length - (j + 1) < a.length := Nat.sub_lt (Nat.lt_of_le_of_lt (Nat.zero_le _) h) (Nat.succ_pos j)
  rw [Nat.sub_right_comm, ← Nat.sub_add_eq, List.drop_eq_getElem_cons h1, List.getD_eq_getElem?_getD, List.getElem?_eq_getElem h1, show a.length - (j + 1) + 1 = a.length - j by lia]; rfl
noncomputable def mid (a : List Line) (A j : Nat) : List Line := (a.drop A).take (a.length - A - j)
theorem mid_len (a : List Line) (A j : Nat) : (mid a A j).length = a.length - A - j := by unfold mid; simp
theorem mid_ne {a : List Line} {A j : Nat} : mid a A j ≠ [] ↔ A + j < a.length := by
  rw [← List.length_pos_iff, mid_len]; lia
theorem mid_zero (a : List Line) (A : Nat) : mid a A 0 = a.drop A := by unfold mid; rw [List.take_of_length_le (by simp)]
theorem mid_last {a : List Line} {A j : Nat} (h : A + j < a.length) : (mid a A j).getD (a.length - A - j - 1) 0 = a.getD (a.length - 1 - j) 0 := by
  unfold mid
  rw [List.getD_eq_getElem?_getD, List.getD_eq_getElem?_getD, List.getElem?_take_of_lt (by lia), List.getElem?_drop, show A + (a.length - A - j - 1) = a.length - 1 - j by lia]
theorem mid_pop {a : List Line} {A j : Nat} : (mid a A j).take (a.length - A - j - 1) = mid a A (j + 1) := by
  unfold mid; rw [List.take_take, Nat.min_eq_left (Nat.sub_le _ _)]; rfl
theorem mid_eq (a : List Line) (A Z : Nat) : mid a A Z = (a.drop A).take (a.length - Z - A) := by unfold mid; rw [Nat.sub_right_comm]
theorem at4 {H : List MObj} (a b c e : MObj) : (H ++ [a] ++ [b] ++ [c] ++ [e])[H.length]? = some a ∧ (H ++ [a] ++ [b] ++ [c] ++ [e])[H.length + 1]? = some b ∧ (H ++ [a] ++ [b] ++ [c] ++ [e])[H.length + 2]? = some c ∧ (H ++ [a] ++ [b] ++ [c] ++ [e])[H.length + 3]? = some e := by
  simp
theorem ndec {p : Prop} [Decidable p] (h : ¬p) : ¬decide p = true := fun g => h (of_decide_eq_true g)
section
variable {B : Bs} {d : Nat} {H : List MObj} {Q : KE}
theorem ltrim_ok {m : MV} {k : Ck} (hk : RCk H m k) (hs : k.small 1000) (ret : ∀ H' j vs, Ext H H' → H.length ≤ j → H'[j]? = some (.list vs) → All2 (RTp (fun i => H.length ≤ i) H') vs (trimS k) → Q (.ref j) H') : WPF B (d + 1) (.con (.ref 378)) [m] H Q := by
  obtain ⟨c, b, o, t, rfl, hc, hb, ho, ht⟩ := hk
  obtain ⟨s1, s2, s3⟩ := hs
  have s2' : ∀ i, (k.ours.drop i).length ≤ 1000 := fun i => by rw [List.length_drop]; exact Nat.le_trans (Nat.sub_le _ _) s2
  have s3' : ∀ i, (k.theirs.drop i).length ≤ 1000 := fun i => by rw [List.length_drop]; exact Nat.le_trans (Nat.sub_le _ _) s3
  have lo := Nat.min_le_left k.ours.length k.theirs.length
  have lt := Nat.min_le_right k.ours.length k.theirs.length
  refine WPF.go fn378 (ie378 _) rfl ?_
  repeat array_get_dec
  refine Leaf1.midK (fun K => ∀ A H1, trimA k.ours k.theirs = A → Ext H H1 → H1[H.length]? = some (Ls (k.ours.drop A)) → H1[H.length + 1]? = some (Ls (k.theirs.drop A)) → H1[H.length + 2]? = some (Ls (k.ours.take A)) → H1[H.length + 3]? = some (Ls []) →
    K [.ref c, .ref H.length, .ref (H.length + 1), .ref (H.length + 2), .ref (H.length + 3), .undef, .undef] H1) (fun K k1 => ?_) ?_
  · refine whlUp (min k.ours.length k.theirs.length) (fun i K => ∀ H1, Blw (fun i => decide (k.ours.getD i 0 = k.theirs.getD i 0)) i → Ext H H1 → H1[H.length]? = some (Ls (k.ours.drop i)) → H1[H.length + 1]? = some (Ls (k.theirs.drop i)) → H1[H.length + 2]? = some (Ls (k.ours.take i)) → H1[H.length + 3]? = some (Ls []) →
      K [.ref c, .ref H.length, .ref (H.length + 1), .ref (H.length + 2), .ref (H.length + 3), .undef, .undef] H1) 0 (Nat.zero_le _) (fun K k2 => ?_) (fun i C c H1 a1 a2 a3 a4 a5 a6 => c _ _ fun K k => k H1 a1 a2 a3 a4 a5 a6) fun i C hi cc H1 hu x1 h1 h2 h3 h4 => ?_
    · have q := at4 (H := H) (Ls k.ours) (Ls k.theirs) (.list []) (.list [])
      simp only [List.length_append, List.length_cons, List.length_nil]
      exact k2 _ Blw.zero (by sizeOf_list_dec) q.1 q.2.1 q.2.2.1 q.2.2.2
    have b1 := s2' i
    have b2 := s3' i
    have b3 : (k.ours.take i).length ≤ 1000 := Nat.le_trans (List.length_take_le' i _) s2
    repeat array_get_dec
    refine go_br (fun h => ?_) (fun h => ?_)
    · have h' := drop_ne.mp h
      repeat array_get_dec
      refine go_br (fun g => ?_) (fun g => ?_)
      · have g' := drop_ne.mp g
        have p1 := List.length_pos_iff.mpr h
        have p2 := List.length_pos_iff.mpr g
        have p1' := Int.ofNat_lt.mpr p1
        have p2' := Int.ofNat_lt.mpr p2
        repeat array_get_dec
        refine go_br (fun e => ?_) (fun e => ?_)
        · repeat array_get_dec
          exact cc (Nat.lt_min.mpr ⟨h', g'⟩) _ (hu.succ (decide_eq_true (by rw [← getD_drop0 k.ours i, ← getD_drop0 k.theirs i]; exact e))) (by sizeOf_list_dec) (at_eq (by decreasing_trivial_pre_omega) (by rw [List.drop_drop])) (at_eq (by decreasing_trivial_pre_omega) (by rw [List.drop_drop])) (at_eq (by decreasing_trivial_pre_omega) (by rw [take_snoc h'])) (by decreasing_trivial_pre_omega)
        · repeat array_get_dec
          exact k1 i _ (hu.at hi fun _ q => e (by rw [show (0 : Int).toNat = 0 from rfl, getD_drop0, getD_drop0]; exact of_decide_eq_true q)) (by sizeOf_list_dec) (by decreasing_trivial_pre_omega) (by decreasing_trivial_pre_omega) (by decreasing_trivial_pre_omega) (by decreasing_trivial_pre_omega)
      · repeat array_get_dec
        exact k1 i _ (hu.at hi fun q => absurd (drop_ne.mpr (Nat.lt_of_lt_of_le q lt)) g) (by sizeOf_list_dec) (by decreasing_trivial_pre_omega) (by decreasing_trivial_pre_omega) (by decreasing_trivial_pre_omega) (by decreasing_trivial_pre_omega)
    · repeat array_get_dec
      exact k1 i _ (hu.at hi fun q => absurd (drop_ne.mpr (Nat.lt_of_lt_of_le q lo)) h) (by sizeOf_list_dec) (by decreasing_trivial_pre_omega) (by decreasing_trivial_pre_omega) (by decreasing_trivial_pre_omega) (by decreasing_trivial_pre_omega)
  intro A H1 eA x1 h1 h2 h3 h4
  replace ret : ∀ Z H' j vs, trimB k.ours k.theirs A = Z → Ext H H' → H.length ≤ j → H'[j]? = some (.list vs) → All2 (RTp (fun i => H.length ≤ i) H') vs (trimP k A Z) → Q (.ref j) H' := by subst eA; rintro _ H' j vs rfl; exact ret H' j vs
  rw [← mid_zero] at h1 h2
  repeat array_get_dec
  refine Leaf1.midK (fun K => ∀ Z H2 jb, trimB k.ours k.theirs A = Z → H.length + 1 < jb → Ext H H2 → H2[H.length]? = some (Ls (mid k.ours A Z)) → H2[H.length + 1]? = some (Ls (mid k.theirs A Z)) → H2[H.length + 2]? = some (Ls (k.ours.take A)) → H2[jb]? = some (Ls (k.ours.drop (k.ours.length - Z))) →
    K [.ref c, .ref H.length, .ref (H.length + 1), .ref (H.length + 2), .ref jb, .undef, .undef] H2) (fun K k1 => ?_) ?_
  · refine whlUp (min k.ours.length k.theirs.length - A) (fun i K => ∀ H1 jb, Blw (fun i => decide (k.ours.getD (k.ours.length - 1 - i) 0 = k.theirs.getD (k.theirs.length - 1 - i) 0)) i → H.length + 1 < jb → Ext H H1 → H1[H.length]? = some (Ls (mid k.ours A i)) → H1[H.length + 1]? = some (Ls (mid k.theirs A i)) → H1[H.length + 2]? = some (Ls (k.ours.take A)) → H1[jb]? = some (Ls (k.ours.drop (k.ours.length - i))) →
      K [.ref c, .ref H.length, .ref (H.length + 1), .ref (H.length + 2), .ref jb, .undef, .undef] H1) 0 (Nat.zero_le _) (fun K k2 => k2 _ _ Blw.zero (by decreasing_trivial) x1 h1 h2 h3 (at_eq h4 (by rw [Nat.sub_zero, List.drop_of_length_le (Nat.le_refl _)]))) (fun i C c H1 jb a1 a2 a3 a4 a5 a6 a7 => c _ _ fun K k => k H1 jb a1 a2 a3 a4 a5 a6 a7) fun i C hi cc H1 jb hu nb x1 h1 h2 h3 h4 => ?_
    have nb' := Nat.lt_of_succ_lt nb
    have b1 : (mid k.ours A i).length ≤ 1000 := by rw [mid_len]; exact Nat.le_trans (Nat.le_trans (Nat.sub_le _ _) (Nat.sub_le _ _)) s2
    have b2 : (mid k.theirs A i).length ≤ 1000 := by rw [mid_len]; exact Nat.le_trans (Nat.le_trans (Nat.sub_le _ _) (Nat.sub_le _ _)) s3
    repeat array_get_dec
    refine go_br (fun h => ?_) (fun h => ?_)
    · have h' := mid_ne.mp h
      repeat array_get_dec
      refine go_br (fun g => ?_) (fun g => ?_)
      · have g' := mid_ne.mp g
        repeat array_get_dec
        rw [mid_len, mid_len, mid_last h', mid_last g']
        refine go_br (fun e => ?_) (fun e => ?_)
        · repeat array_get_dec
          exact cc (by lia) _ _ (hu.succ (decide_eq_true e)) (by decreasing_trivial) (by sizeOf_list_dec) (at_eq (by decreasing_trivial_pre_omega) (by rw [mid_len, mid_pop])) (at_eq (by decreasing_trivial_pre_omega) (by rw [mid_len, mid_pop])) (by decreasing_trivial_pre_omega) (at_eq (by decreasing_trivial_pre_omega) (by rw [mid_len, mid_last h', ← drop_cons (by lia)]; rfl))
        · repeat array_get_dec
          exact k1 i _ _ (hu.at hi fun _ => ndec e) nb (by sizeOf_list_dec) (by decreasing_trivial_pre_omega) (by decreasing_trivial_pre_omega) (by decreasing_trivial_pre_omega) (by decreasing_trivial_pre_omega)
      · repeat array_get_dec
        exact k1 i _ _ (hu.at hi fun q => absurd (mid_ne.mpr (by lia)) g) nb (by sizeOf_list_dec) (by decreasing_trivial_pre_omega) (by decreasing_trivial_pre_omega) (by decreasing_trivial_pre_omega) (by decreasing_trivial_pre_omega)
    · repeat array_get_dec
      exact k1 i _ _ (hu.at hi fun q => absurd (mid_ne.mpr (by lia)) h) nb (by sizeOf_list_dec) (by decreasing_trivial_pre_omega) (by decreasing_trivial_pre_omega) (by decreasing_trivial_pre_omega) (by decreasing_trivial_pre_omega)
  have hA : A ≤ k.ours.length := eA ▸ Nat.le_trans (trimA_le _ _) lo
  clear eA lt s2' s3' h1 h2 h3 h4 x1 H1
  intro Z H2 jb eZ nb x2 h1 h2 h3 h4
  have nb' := Nat.lt_of_succ_lt nb
  have hb2 := x2 _ _ hb
  have hc2 := x2 _ _ hc
  rw [mid_eq] at h1 h2
  have hZ : Z ≤ k.ours.length := eZ ▸ Nat.le_trans (Nat.le_trans (trimB_le _ _ _) (Nat.sub_le _ _)) lo
  have q1 : k.ours.take A ≠ [] ↔ A > 0 := by rw [← List.length_pos_iff, List.length_take, Nat.min_eq_left hA]
  have q2 : k.ours.drop (k.ours.length - Z) ≠ [] ↔ Z > 0 := by rw [← List.length_pos_iff, List.length_drop, Nat.sub_sub_self hZ]
  replace ret := fun H' j vs => ret Z H' j vs eZ
  unfold trimP at ret
  clear eZ hA hZ lo
  repeat array_get_dec
  refine go_br (fun h => ?_) (fun h => ?_)
  · rw [if_pos (q1.mp h)] at ret
    repeat array_get_dec
    refine go_br (fun g => ?_) (fun g => ?_)
    · rw [if_pos (q2.mp g)] at ret
      repeat array_get_dec
      refine ret _ _ _ (by sizeOf_list_dec) (by decreasing_trivial) (by decreasing_trivial_pre_omega) (All2.app (All2.app (.cons ?_ .nil) (.cons ?_ .nil)) (.cons ?_ .nil) : All2 _ _ (([_] ++ [_]) ++ [_]))
      all_goals sizeOf_list_dec
    · rw [if_neg (fun q => g (q2.mpr q))] at ret
      repeat array_get_dec
      refine ret _ _ _ (by sizeOf_list_dec) (by decreasing_trivial) (by decreasing_trivial_pre_omega) (All2.app (All2.app (.cons ?_ .nil) (.cons ?_ .nil)) .nil : All2 _ _ (([_] ++ [_]) ++ []))
      all_goals sizeOf_list_dec
  · rw [if_neg (fun q => h (q1.mpr q))] at ret
    repeat array_get_dec
    refine go_br (fun g => ?_) (fun g => ?_)
    · rw [if_pos (q2.mp g)] at ret
      repeat array_get_dec
      refine ret _ _ _ (by sizeOf_list_dec) (by decreasing_trivial) (by decreasing_trivial_pre_omega) (All2.app (All2.app .nil (.cons ?_ .nil)) (.cons ?_ .nil) : All2 _ _ (([] ++ [_]) ++ [_]))
      all_goals sizeOf_list_dec
    · rw [if_neg (fun q => g (q2.mpr q))] at ret
      repeat array_get_dec
      refine ret _ _ _ (by sizeOf_list_dec) (by decreasing_trivial) (by decreasing_trivial_pre_omega) (All2.app (All2.app .nil (.cons ?_ .nil)) .nil : All2 _ _ (([] ++ [_]) ++ []))
      all_goals sizeOf_list_dec
end
noncomputable def num (kn : List Line) (x : Line) : List Line × Nat := if x ∈ kn then (kn, kn.idxOf x) else (kn ++ [x], kn.length)
noncomputable def nums : List Line → List Line → List Line × List Nat
  | kn, [] => (kn, [])
  | kn, x :: xs => let p := num kn x; let q := nums p.1 xs; (q.1, p.2 :: q.2)
noncomputable def knE : Nat → List Line → List (List UInt8 × MV)
  | _, [] => []
  | i, x :: xs => (lineOf x, .int (i : Int)) :: knE (i + 1) xs
theorem lineOf_inj {x y : Line} : lineOf x = lineOf y ↔ x = y := by revert x y; decide
theorem knE_len : ∀ (kn : List Line) (i : Nat), (knE i kn).length = kn.length
  | [], _ => rfl
  | x :: xs, i => by unfold knE; simp [knE_len xs]
theorem knE_any (x : Line) : ∀ (kn : List Line) (i : Nat), ((knE i kn).any fun e => decide (e.1 = lineOf x)) = decide (x ∈ kn)
  | [], _ => by simp [knE]
  | y :: ys, i => by
    unfold knE
    rw [List.any_cons, knE_any x ys (i + 1), Bool.eq_iff_iff]
    simp only [Bool.or_eq_true, decide_eq_true_eq, lineOf_inj, List.mem_cons]
    constructor
    · rintro (h | h)
      · exact .inl h.symm
      · exact .inr h
    · rintro (h | h)
      · exact .inl h.symm
      · exact .inr h
theorem knE_find (x : Line) : ∀ (kn : List Line) (i : Nat), x ∈ kn → ((knE i kn).find? fun e => decide (e.1 = lineOf x)).map (·.2) = some (.int ((i + kn.idxOf x : Nat) : Int))
  | y :: ys, i, h => by
    unfold knE
    rw [List.find?_cons, List.idxOf_cons]
    by_cases e : y = x
    · subst e; simp
    · have hx : x ∈ ys := by simpa [Ne.symm e] using h
      have e1 : decide (lineOf y = lineOf x) = false := by simpa [lineOf_inj] using e
      have e2 : (y == x) = false := by simpa using e
      rw [e1, e2]
      simp only [cond_false]
      rw [knE_find x ys (i + 1) hx]
      congr 3; lia
theorem knE_app : ∀ (kn : List Line) (x : Line) (i : Nat), knE i (kn ++ [x]) = knE i kn ++ [(lineOf x, .int ((i + kn.length : Nat) : Int))]
  | [], x, i => by simp [knE]
  | y :: ys, x, i => by
    show (lineOf y, _) :: knE (i + 1) (ys ++ [x]) = (lineOf y, _) :: _ ++ _
    rw [knE_app ys x (i + 1)]
    simp only [List.length_cons, List.cons_append]
    rw [show i + 1 + ys.length = i + (ys.length + 1) from by lia]
noncomputable def numF (jk js : Nat) (n : Int) : List (Str × MV) := [(Str.ofString "known", .ref jk), (Str.ofString "strange", .ref js), (Str.ofString "count", .int n)]
noncomputable def RNum (s jk : Nat) (H : List MObj) (kn : List Line) : Prop := ∃ js, s ≠ jk ∧ H[s]? = some (.inst 125 (numF jk js kn.length)) ∧ H[jk]? = some (.dB (knE 0 kn))
theorem ExtM.keep2 {i k j : Nat} {o : MObj} {H H' : List MObj} (x : ExtM [i, k] H H') (h : H[j]? = some o) (n1 : j ≠ i) (n2 : j ≠ k) : H'[j]? = some o := x j o (fun q => (List.mem_cons.mp q).elim n1 fun q => n2 (List.mem_singleton.mp q)) h
theorem RNum.set {s jk j : Nat} {kn : List Line} {H : List MObj} {o : MObj} (h : RNum s jk H kn) (h1 : j ≠ s) (h2 : j ≠ jk) : RNum s jk (H.set j o) kn := by
  obtain ⟨js, a, b, c⟩ := h
  exact ⟨js, a, at_set_ne b h1, at_set_ne c h2⟩
theorem RNum.ext {s jk : Nat} {kn : List Line} {H H' : List MObj} (h : RNum s jk H kn) (x : Ext H H') : RNum s jk H' kn := by
  obtain ⟨js, a, b, c⟩ := h
  exact ⟨js, a, x _ _ b, x _ _ c⟩
theorem RNum.lt {s jk : Nat} {kn : List Line} {H : List MObj} (h : RNum s jk H kn) : s < H.length ∧ jk < H.length := by
  obtain ⟨js, a, b, c⟩ := h
  exact ⟨lt_of_at b, lt_of_at c⟩
theorem num_in {kn : List Line} {x : Line} (h : x ∈ kn) : num kn x = (kn, kn.idxOf x) := if_pos h
theorem num_out {kn : List Line} {x : Line} (h : x ∉ kn) : num kn x = (kn ++ [x], kn.length) := if_neg h
theorem num_len (kn : List Line) (x : Line) : (num kn x).1.length ≤ kn.length + 1 := by
  by_cases h : x ∈ kn
  · rw [num_in h]; exact Nat.le_succ _
  · rw [num_out h]; simp
section
variable {B : Bs} {d : Nat} {H : List MObj} {Q : KE}
theorem nInK {x : Line} {j : Nat} {kn : List Line} {P : Bool → Prop} (h1 : H[j]? = some (.dB (knE 0 kn))) (h : P (dc (x ∉ kn))) : cmpM .NotIn (.tup [.bool false, lb x]) (.ref j) H P := cmp_nindB h1 (by rw [dc_eq] at h; rw [knE_any, ← decide_not]; exact h)
theorem zK {x : Line} {j : Nat} {kn : List Line} {Q : List MObj → Prop} (h1 : H[j]? = some (.dB (knE 0 kn))) (hx : x ∉ kn) (hl : kn.length ≤ 1000) (h : Q (H.set j (.dB (knE 0 (kn ++ [x]))))) : setM (.ref j) (.tup [.bool false, lb x]) (.int (kn.length : Int)) H Q :=
  set_dB h1 (by rw [knE_len]; exact le_k hl) (by rw [knE_any]; exact decide_eq_false hx) (by rw [knE_app, Nat.zero_add] at h; exact h)
theorem uK {x : Line} {j : Nat} {kn : List Line} (h1 : H[j]? = some (.dB (knE 0 kn))) (hx : x ∈ kn) (h : Q (.int ((kn.idxOf x : Nat) : Int)) H) : subM (.ref j) (.tup [.bool false, lb x]) H Q := sub_dB h1 (knE_find x kn 0 hx) (by rw [Nat.zero_add]; exact h)
theorem number_ok {s jk : Nat} {kn : List Line} {x : Line} (hk : RNum s jk H kn) (hl : kn.length ≤ 1000) (ret : ∀ H', ExtM [s, jk] H H' → H.length = H'.length → RNum s jk H' (num kn x).1 → Q (.int ((num kn x).2 : Nat)) H') : WPF B (d + 1) (.con (.ref 117)) [.ref s, lb x] H Q := by
  obtain ⟨js, hne, hs, hj⟩ := hk
  refine WPF.go fn117 (ie117 _ _) rfl ?_
  repeat array_get_dec
  refine lIte ?_
  repeat array_get_dec
  refine lIte ?_
  repeat array_get_dec
  refine nInK hj ?_
  repeat array_get_dec
  refine go_br (fun h => ?_) (fun h => ?_)
  · rw [num_out h] at ret; dsimp only at ret
    repeat array_get_dec
    refine zK hj h hl ?_
    repeat array_get_dec
    refine uK (kn := kn ++ [x]) (by decreasing_trivial_pre_omega) (by simp) ?_
    rw [show (kn ++ [x]).idxOf x = kn.length by rw [List.idxOf_append, if_neg h]; simp]
    repeat array_get_dec
    refine ret _ ?_ ?_ ⟨js, hne, at_eq (by decreasing_trivial_pre_omega) ?_, (by decreasing_trivial_pre_omega)⟩
    · exact (ExtM.set (List.mem_cons_of_mem _ (List.mem_singleton.mpr rfl))).trans (.set List.mem_cons_self)
    · rw [List.length_set, List.length_set]
    · rw [List.length_append]; rfl
  · rw [num_in (Classical.not_not.mp h)] at ret; dsimp only at ret
    repeat array_get_dec
    refine uK hj (Classical.not_not.mp h) ?_
    repeat array_get_dec
    exact ret _ (.refl _) rfl ⟨js, hne, hs, hj⟩
theorem numbers_ok {s jk l : Nat} {kn ls : List Line} (hk : RNum s jk H kn) (hl : kn.length + ls.length ≤ 1000) (hls : H[l]? = some (Ls ls)) (n1 : l ≠ s) (n2 : l ≠ jk)
    (ret : ∀ H', ExtM [s, jk] H H' → H.length < H'.length → RNum s jk H' (nums kn ls).1 → H'[H.length]? = some (Ns (nums kn ls).2) → Q (.ref H.length) H') : WPF B (d + 2) (.con (.ref 122)) [.ref s, .ref l] H Q := by
  have z := hk.lt
  have zl := lt_of_at hls
  refine WPF.go fn122 (ie122 _ _) rfl ?_
  repeat array_get_dec
  refine ⟨(by decreasing_trivial_pre_omega), compMap lb (fun as K => ∀ k1 done t H2, (nums kn ls).1 = (nums k1 as).1 → (nums kn ls).2 = done ++ (nums k1 as).2 → k1.length + as.length ≤ 1000 → done.length + as.length ≤ 1000 → ExtM [s, jk] H H2 → H.length < H2.length → RNum s jk H2 k1 → H2[H.length]? = some (Ns done) → H2[l]? = some (Ls ls) → K [.undef, t, .ref s] H2)
    (fun as C p k1 done t H2 a1 a2 a3 a4 a5 a6 a7 a8 a9 => p _ _ fun K k => k k1 done t H2 a1 a2 a3 a4 a5 a6 a7 a8 a9) ?_ ?_ (fun K k => k kn [] _ _ rfl rfl hl (Nat.le_trans (Nat.le_of_eq (Nat.zero_add _)) (Nat.le_trans (Nat.le_add_left _ _) hl)) (mX (by sizeOf_list_dec)) (by decreasing_trivial) (hk.ext (by sizeOf_list_dec)) (at_last _ _) (by decreasing_trivial_pre_omega))⟩
  · intro k1 done t H2 a1 a2 a3 a4 x1 l1 hk1 h1 h2
    exact ⟨ret _ x1 l1 (a1 ▸ hk1) (by rw [a2]; simpa [nums] using h1)⟩
  · intro x rest C cc k1 done t H2 a1 a2 a3 a4 x1 l1 hk1 h1 h2
    have b1 : k1.length ≤ 1000 := Nat.le_trans (Nat.le_add_right _ _) a3
    have b2 : done.length ≤ 1000 := Nat.le_trans (Nat.le_add_right _ _) a4
    have hk1' := hk1
    obtain ⟨js, hne, hs2, hj2⟩ := hk1'
    repeat array_get_dec
    refine WPF.vc (number_ok hk1 b1 fun H3 x3 e3 hk3 => ?_)
    have h3 := x3.keep2 h1 (Nat.ne_of_gt z.1) (Nat.ne_of_gt z.2)
    have h4 := x3.keep2 h2 n1 n2
    have b3 := num_len k1 x
    rw [List.length_cons] at a3 a4
    repeat array_get_dec
    exact ⟨(by decreasing_trivial_pre_omega), cc (num k1 x).1 (done ++ [(num k1 x).2]) _ _ a1 (by rw [a2, List.append_assoc]; rfl) (by lia) (by rw [List.length_append]; exact (by rw [Nat.add_assoc, Nat.add_comm _ rest.length]; exact a4)) ((x1.trans x3).set_new (Nat.le_refl _)) (by rw [List.length_set, ← e3]; exact l1) (hk3.set (Nat.ne_of_gt z.1) (Nat.ne_of_gt z.2)) (by decreasing_trivial_pre_omega) (by decreasing_trivial_pre_omega)⟩
end
noncomputable def shF (ia ib ig ic : Nat) : List (Str × MV) := [(Str.ofString "a", .ref ia), (Str.ofString "b", .ref ib), (Str.ofString "gone", .ref ig), (Str.ofString "come", .ref ic)]
structure Sh (s ia ib ig ic : Nat) (H : List MObj) (na nb : List Nat) (g c : List Bool) : Prop where
  hs : H[s]? = some (.inst 223 (shF ia ib ig ic))
  ha : H[ia]? = some (Ns na)
  hb : H[ib]? = some (Ns nb)
  hg : H[ig]? = some (Bl g)
  hc : H[ic]? = some (Bl c)
  ne : ig ≠ s ∧ ig ≠ ia ∧ ig ≠ ib ∧ ic ≠ s ∧ ic ≠ ia ∧ ic ≠ ib ∧ ig ≠ ic
theorem nums_len : ∀ (ls kn : List Line), (nums kn ls).1.length ≤ kn.length + ls.length
  | [], kn => Nat.le_refl _
  | x :: xs, kn => by
    show (nums (num kn x).1 xs).1.length ≤ kn.length + (xs.length + 1)
    exact Nat.le_trans (nums_len xs _) (by have := num_len kn x; lia)
theorem Bl_rep (n : Nat) : MObj.list (List.replicate (Int.toNat (n : Int)) (.bool false)) = Bl (List.replicate n false) := by rw [Int.toNat_natCast, Bl, List.map_replicate]
section
variable {B : Bs} {d : Nat} {H : List MObj} {Q : KE}
theorem lnum_new (ret : ∀ H' s jk, Ext H H' → H.length ≤ s → H.length ≤ jk → RNum s jk H' [] → Q (.ref s) H') : WPV B (d + 2) (.con (.ref 125)) [] H Q := by
  refine cls_new (f := 110) (WPF.go fn110 (ie110 _) rfl ?_) rfl
  repeat array_get_dec
  exact ⟨rfl, ret _ _ _ (by sizeOf_list_dec) (Nat.le_refl _) (by decreasing_trivial) ⟨_, neL (by decreasing_trivial), at_eq (by decreasing_trivial_pre_omega) (by rfl), dSetN (dSetN (dApp (dSetN (at_last _ _) (neL (by decreasing_trivial)))) (neL (by decreasing_trivial))) (neL (by decreasing_trivial))⟩⟩
theorem sheet_new {la lb' : Nat} {a b : List Line} (ha : H[la]? = some (Ls a)) (hb : H[lb']? = some (Ls b)) (hl : a.length + b.length ≤ 900)
    (ret : ∀ H' s ia ib ig ic, Ext H H' → H.length ≤ s → H.length ≤ ia → H.length ≤ ib → H.length ≤ ig → H.length ≤ ic → Sh s ia ib ig ic H' (nums [] a).2 (nums (nums [] a).1 b).2 (List.replicate a.length false) (List.replicate b.length false) → Q (.ref s) H') :
    WPV B (d + 4) (.con (.ref 223)) [.ref la, .ref lb'] H Q := by
  have ca : a.length ≤ 1000 := Nat.le_trans (Nat.le_trans (Nat.le_add_right _ _) hl) (by decide)
  have cb : b.length ≤ 1000 := Nat.le_trans (Nat.le_trans (Nat.le_add_left _ _) hl) (by decide)
  refine cls_new (f := 143) (WPF.go fn143 (ie143 _ _ _) rfl ?_) rfl
  repeat array_get_dec
  refine lnum_new fun H1 s1 jk x1 l1 l2 hk1 => ?_
  have n1 : H.length < s1 := Nat.lt_of_lt_of_le ltS l1
  have n2 : H.length < jk := Nat.lt_of_lt_of_le ltS l2
  have za := lt_of_at ha
  have zb := lt_of_at hb
  have m1 := Nat.lt_trans za n1
  have m2 := Nat.lt_trans za n2
  have m3 := Nat.lt_trans zb n1
  have m4 := Nat.lt_trans zb n2
  have ha1 := x1 _ _ (at_app (X := [MObj.inst 223 []]) ha)
  have hb1 := x1 _ _ (at_app (X := [MObj.inst 223 []]) hb)
  have f1 := x1 _ _ (at_last H (.inst 223 []))
  have x01 : Ext H H1 := (Ext.app _ _).trans x1
  obtain ⟨js, hne, hs1, hj1⟩ := id hk1
  repeat array_get_dec
  refine WPF.vc (numbers_ok hk1 (by simpa using ca) ha1 (Nat.ne_of_lt m1) (Nat.ne_of_lt m2) fun H2 x2 l3 hk2 hn2 => ?_)
  have f2 := x2.keep2 f1 (Nat.ne_of_lt n1) (Nat.ne_of_lt n2)
  have hb2 := x2.keep2 hb1 (Nat.ne_of_lt m3) (Nat.ne_of_lt m4)
  have ha2 := x2.keep2 ha1 (Nat.ne_of_lt m1) (Nat.ne_of_lt m2)
  have hk3 := hk2.set (j := H.length) (o := .inst 223 (putF (Str.ofString "a") (.ref H1.length) [])) (Nat.ne_of_lt n1) (Nat.ne_of_lt n2)
  have y1 : H.length < H1.length := Nat.lt_trans n1 (lt_of_at hs1)
  have y2 := Nat.lt_trans y1 l3
  have x02 : ∀ i o, H[i]? = some o → H2[i]? = some o := fun i o h => x2.keep2 (x01 i o h) (Nat.ne_of_lt (Nat.lt_trans (lt_of_at h) n1)) (Nat.ne_of_lt (Nat.lt_trans (lt_of_at h) n2))
  have x02' : Ext H (H2.set H.length (.inst 223 (putF (Str.ofString "a") (.ref H1.length) []))) := Ext.set_new x02 (Nat.le_refl _)
  obtain ⟨js3, hne3, hs3, hj3⟩ := id hk3
  repeat array_get_dec
  refine WPF.vc (numbers_ok hk3 (Nat.le_trans (Nat.add_le_add_right (nums_len a []) _) (by rw [List.length_nil, Nat.zero_add]; exact Nat.le_trans hl (by decide))) (at_set_ne hb2 (Nat.ne_of_gt zb)) (Nat.ne_of_lt m3) (Nat.ne_of_lt m4) fun H4 x4 l4 hk4 hn4 => ?_)
  have f4 := x4.keep2 (at_set y2) (Nat.ne_of_lt n1) (Nat.ne_of_lt n2)
  have ha4 := x4.keep2 (at_set_ne ha2 (Nat.ne_of_gt za)) (Nat.ne_of_lt m1) (Nat.ne_of_lt m2)
  have hb4 := x4.keep2 (at_set_ne hb2 (Nat.ne_of_gt zb)) (Nat.ne_of_lt m3) (Nat.ne_of_lt m4)
  have z2 := hk1.lt
  have hn2' := x4.keep2 (at_set_ne hn2 (Nat.ne_of_lt y1)) (Nat.ne_of_gt z2.1) (Nat.ne_of_gt z2.2)
  have x04 : Ext H H4 := fun i o h => x4.keep2 (x02' i o h) (Nat.ne_of_lt (Nat.lt_trans (lt_of_at h) n1)) (Nat.ne_of_lt (Nat.lt_trans (lt_of_at h) n2))
  rw [List.length_set] at hn4 l4
  have y3 := Nat.lt_trans y1 l3
  have y4 := Nat.lt_trans l3 l4
  repeat array_get_dec
  rw [List.length_set]
  repeat array_get_dec
  refine ⟨rfl, ret _ _ H1.length H2.length _ _ (by sizeOf_list_dec) (Nat.le_refl _) (Nat.le_of_lt y1) (Nat.le_of_lt y3) ?_ ?_ ⟨at_eq (by decreasing_trivial_pre_omega) (by rfl), (by decreasing_trivial_pre_omega), (by decreasing_trivial_pre_omega), at_eq (by decreasing_trivial_pre_omega) (Bl_rep _), at_eq (by decreasing_trivial_pre_omega) (Bl_rep _), ?_⟩⟩
  · decreasing_trivial
  · decreasing_trivial
  · refine ⟨?_, ?_, ?_, ?_, ?_, ?_, ?_⟩ <;> decreasing_trivial
end
section
variable {B : Bs} {d : Nat} {H : List MObj} {s ia ib ig ic : Nat} {na nb : List Nat} {g c : List Bool} {Q : KE}
@[reducible] noncomputable def pt (al ah bl bh : Nat) : MV := .tup [.int al, .int ah, .int bl, .int bh]
theorem le_l {a b : Nat} (h : a + b ≤ 1000) : a ≤ 1000 := Nat.le_trans (Nat.le_add_right _ _) h
theorem le_r {a b : Nat} (h : a + b ≤ 1000) : b ≤ 1000 := Nat.le_trans (Nat.le_add_left _ _) h
theorem whole_ok (S : Sh s ia ib ig ic H na nb g c) (hl : na.length + nb.length ≤ 1000) (ret : Q (pt 0 na.length 0 nb.length) H) : WPF B (d + 1) (.con (.ref 150)) [.ref s] H Q := by
  obtain ⟨h1, h2, h3, h4, h5, ne⟩ := S
  have l1 := le_l hl
  have l2 := le_r hl
  refine WPF.go fn150 (ie150 _) rfl ?_
  repeat array_get_dec
  exact ret
noncomputable def loN (na nb : List Nat) (al ah bl bh : Nat) : Nat := upF (fun i => decide (na.getD (al + i) 0 = nb.getD (bl + i) 0)) 0 (min (ah - al) (bh - bl))
noncomputable def hiN (na nb : List Nat) (al ah bl bh : Nat) : Nat := upF (fun i => decide (na.getD (ah - 1 - i) 0 = nb.getD (bh - 1 - i) 0)) 0 (min (ah - al) (bh - bl))
theorem dec_cast {a x : Nat} (h : x < a) : ((a - x : Nat) : Int) - 1 = ((a - (x + 1) : Nat) : Int) := by lia
theorem dec_at {a x n : Nat} (h : x < a) (hn : a ≤ n) : ((a - x : Nat) : Int) - 1 = ((a - 1 - x : Nat) : Int) ∧ 0 ≤ ((a - x : Nat) : Int) - 1 ∧ ((a - x : Nat) : Int) - 1 < (n : Int) := by lia
theorem lt_off {a h x : Nat} (q : ((a + x : Nat) : Int) < (h : Int)) : x < h - a := by lia
theorem lt_off' {a h x : Nat} (q : x < h - a) : ((a + x : Nat) : Int) < (h : Int) := by lia
theorem lt_dn {a h x : Nat} (q : (a : Int) < ((h - x : Nat) : Int)) : x < h - a ∧ x < h := by lia
theorem lt_dn' {a h x : Nat} (q : x < h - a) : (a : Int) < ((h - x : Nat) : Int) := by lia
theorem sheet_trimmed_ok {al ah bl bh i j : Nat} (S : Sh s ia ib ig ic H na nb g c) (hl : na.length + nb.length ≤ 1000) (ha : ah ≤ na.length) (hb : bh ≤ nb.length) (ei : loN na nb al ah bl bh = i) (ej : hiN na nb (al + i) ah (bl + i) bh = j)
    (ret : Q (pt (al + i) (ah - j) (bl + i) (bh - j)) H) : WPF B (d + 1) (.con (.ref 157)) [.ref s, pt al ah bl bh] H Q := by
  obtain ⟨h1, h2, h3, h4, h5, ne⟩ := S
  have l1 := le_l hl
  have l2 := le_r hl
  refine WPF.go fn157 (ie157 _ _) rfl ?_
  repeat array_get_dec
  refine Leaf1.midK (fun K => K [.ref s, pt al ah bl bh, .int ((al + i : Nat) : Int), .int ah, .int ((bl + i : Nat) : Int), .int bh] H) (fun K k => ?_) ?_
  · refine whlUp (min (ah - al) (bh - bl)) (fun x K => Blw (fun i => decide (na.getD (al + i) 0 = nb.getD (bl + i) 0)) x → K [.ref s, pt al ah bl bh, .int ((al + x : Nat) : Int), .int ah, .int ((bl + x : Nat) : Int), .int bh] H)
      0 (Nat.zero_le _) (fun K k => k Blw.zero) (fun x C c h => c _ _ fun K k => k h) fun x C hx cc hu => ?_
    have out : (x < min (ah - al) (bh - bl) → ¬decide (na.getD (al + x) 0 = nb.getD (bl + x) 0) = true) → K [.ref s, pt al ah bl bh, .int ((al + x : Nat) : Int), .int ah, .int ((bl + x : Nat) : Int), .int bh] H := fun q => by
      rw [show x = i from (hu.at hx q).symm.trans ei]; exact k
    repeat array_get_dec
    refine go_br (fun h => ?_) (fun h => ?_)
    · have q1 := lt_off h
      have q3 := Nat.lt_of_lt_of_le (Int.ofNat_lt.mp h) ha
      repeat array_get_dec
      refine go_br (fun h' => ?_) (fun h' => ?_)
      · have q2 := lt_off h'
        have q4 := Nat.lt_of_lt_of_le (Int.ofNat_lt.mp h') hb
        repeat array_get_dec
        refine go_br (fun e => ?_) (fun e => ?_)
        · repeat array_get_dec
          exact cc (Nat.lt_min.mpr ⟨q1, q2⟩) (hu.succ (decide_eq_true (Int.ofNat_inj.mp e)))
        · repeat array_get_dec
          exact out fun _ q => e (Int.ofNat_inj.mpr (of_decide_eq_true q))
      · repeat array_get_dec
        exact out fun q => absurd (lt_off' (Nat.lt_of_lt_of_le q (Nat.min_le_right _ _))) h'
    · repeat array_get_dec
      exact out fun q => absurd (lt_off' (Nat.lt_of_lt_of_le q (Nat.min_le_left _ _))) h
  repeat array_get_dec
  refine Leaf1.midK (fun K => K [.ref s, pt al ah bl bh, .int ((al + i : Nat) : Int), .int ((ah - j : Nat) : Int), .int ((bl + i : Nat) : Int), .int ((bh - j : Nat) : Int)] H) (fun K k => ?_) ?_
  · refine whlUp (min (ah - (al + i)) (bh - (bl + i))) (fun x K => Blw (fun i => decide (na.getD (ah - 1 - i) 0 = nb.getD (bh - 1 - i) 0)) x → K [.ref s, pt al ah bl bh, .int ((al + i : Nat) : Int), .int ((ah - x : Nat) : Int), .int ((bl + i : Nat) : Int), .int ((bh - x : Nat) : Int)] H)
      0 (Nat.zero_le _) (fun K k => k Blw.zero) (fun x C c h => c _ _ fun K k => k h) fun x C hx cc hu => ?_
    have out : (x < min (ah - (al + i)) (bh - (bl + i)) → ¬decide (na.getD (ah - 1 - x) 0 = nb.getD (bh - 1 - x) 0) = true) → K [.ref s, pt al ah bl bh, .int ((al + i : Nat) : Int), .int ((ah - x : Nat) : Int), .int ((bl + i : Nat) : Int), .int ((bh - x : Nat) : Int)] H := fun q => by
      rw [show x = j from (hu.at hx q).symm.trans ej]; exact k
    repeat array_get_dec
    refine go_br (fun h => ?_) (fun h => ?_)
    · have q1 := lt_dn h
      have q3 := dec_at q1.2 ha
      have q5 := q3.2.1
      have q7 := q3.2.2
      repeat array_get_dec
      refine go_br (fun h' => ?_) (fun h' => ?_)
      · have q2 := lt_dn h'
        have q4 := dec_at q2.2 hb
        have q6 := q4.2.1
        have q8 := q4.2.2
        repeat array_get_dec
        rw [q3.1, q4.1]
        refine go_br (fun e => ?_) (fun e => ?_)
        · repeat array_get_dec
          rw [dec_cast q1.2, dec_cast q2.2]
          exact cc (Nat.lt_min.mpr ⟨q1.1, q2.1⟩) (hu.succ (decide_eq_true (Int.ofNat_inj.mp e)))
        · repeat array_get_dec
          exact out fun _ q => e (Int.ofNat_inj.mpr (of_decide_eq_true q))
      · repeat array_get_dec
        exact out fun q => absurd (lt_dn' (Nat.lt_of_lt_of_le q (Nat.min_le_right _ _))) h'
    · repeat array_get_dec
      exact out fun q => absurd (lt_dn' (Nat.lt_of_lt_of_le q (Nat.min_le_left _ _))) h
  repeat array_get_dec
  exact ret
noncomputable def markB (g : List Bool) (lo : Nat) : Nat → List Bool
  | 0 => g
  | n + 1 => (markB g lo n).set (lo + n) true
theorem markB_len : ∀ (n : Nat) (g : List Bool) (lo : Nat), (markB g lo n).length = g.length
  | 0, _, _ => rfl
  | n + 1, g, lo => (List.length_set).trans (markB_len n g lo)
theorem mark_ok {al ah bl bh : Nat} (S : Sh s ia ib ig ic H na nb g c) (hl : g.length + c.length ≤ 1000) (ha : ah ≤ g.length) (hb : bh ≤ c.length) (ha' : al ≤ ah) (hb' : bl ≤ bh)
    (ret : ∀ H', ExtM [ig, ic] H H' → H.length = H'.length → Sh s ia ib ig ic H' na nb (markB g al (ah - al)) (markB c bl (bh - bl)) → Q .none H') : WPF B (d + 1) (.con (.ref 164)) [.ref s, pt al ah bl bh] H Q := by
  have l1 := le_l hl
  have l2 := le_r hl
  have r2 := Nat.le_trans ha (Nat.le_trans l1 (Nat.le_of_ble_eq_true (rfl : Nat.ble 1000 1000000 = true)))
  have r1 := Nat.le_trans ha' r2
  have r4 := Nat.le_trans hb (Nat.le_trans l2 (Nat.le_of_ble_eq_true (rfl : Nat.ble 1000 1000000 = true)))
  have r3 := Nat.le_trans hb' r4
  refine WPF.go fn164 (ie164 _ _) rfl ?_
  repeat array_get_dec
  refine rng2 ?_ r1 r2
  refine forUp _ (fun i K => ∀ t H1, Sh s ia ib ig ic H1 na nb (markB g al i) c → ExtM [ig, ic] H H1 → H.length = H1.length → K [.ref s, pt al ah bl bh, .int al, .int ah, .int bl, .int bh, t, .undef] H1)
    (fun i C p t H1 a1 a2 a3 => p _ _ fun K k => k t H1 a1 a2 a3) ?_ ?_ (fun K k => k _ _ S (.refl _) rfl)
  · intro t H1 S1 x1 e1
    repeat array_get_dec
    refine rng2 ?_ r3 r4
    refine forUp _ (fun i K => ∀ t H1, Sh s ia ib ig ic H1 na nb (markB g al (ah - al)) (markB c bl i) → ExtM [ig, ic] H H1 → H.length = H1.length → K [.ref s, pt al ah bl bh, .int al, .int ah, .int bl, .int bh, t, .undef] H1)
      (fun i C p t H1 a1 a2 a3 => p _ _ fun K k => k t H1 a1 a2 a3) ?_ ?_ (fun K k => k _ _ S1 x1 e1)
    · intro t H1 S1 x1 e1
      repeat array_get_dec
      exact ret _ x1 e1 S1
    · intro i C hi cc t H1 S1 x1 e1
      have h1 := S1.hs
      have h5 := S1.hc
      have z5 := lt_of_at h5
      have b1 : (markB c bl i).length ≤ 1000 := by rw [markB_len]; exact l2
      have b2 : bl + i < (markB c bl i).length := by rw [markB_len]; lia
      have ne := S1.ne
      repeat array_get_dec
      exact ⟨trivial, cc _ _ ⟨at_set_ne h1 ne.2.2.2.1, at_set_ne S1.ha ne.2.2.2.2.1, at_set_ne S1.hb ne.2.2.2.2.2.1, at_set_ne S1.hg (Ne.symm ne.2.2.2.2.2.2), at_set z5, ne⟩ (x1.trans (ExtM.set (List.mem_cons_of_mem _ (List.mem_singleton.mpr rfl)))) (by rw [List.length_set]; exact e1)⟩
  · intro i C hi cc t H1 S1 x1 e1
    have h1 := S1.hs
    have h4 := S1.hg
    have z4 := lt_of_at h4
    have b1 : (markB g al i).length ≤ 1000 := by rw [markB_len]; exact l1
    have b2 : al + i < (markB g al i).length := by rw [markB_len]; lia
    have ne := S1.ne
    repeat array_get_dec
    exact ⟨trivial, cc _ _ ⟨at_set_ne h1 ne.1, at_set_ne S1.ha ne.2.1, at_set_ne S1.hb ne.2.2.1, at_set z4, at_set_ne S1.hc ne.2.2.2.2.2.2, ne⟩ (x1.trans (ExtM.set List.mem_cons_self)) (by rw [List.length_set]; exact e1)⟩
end
noncomputable def chgF (g c : List Bool) : Nat → Nat → Nat → Option (List (Nat × Nat × Nat × Nat))
  | fuel, a, f => if a < g.length ∨ f < c.length then
      match fuel with
      | 0 => none
      | n + 1 =>
        let a' := upF (fun i => g.getD i false) a (g.length - a)
        let f' := upF (fun i => c.getD i false) f (c.length - f)
        if a' > a ∨ f' > f then (chgF g c n a' f').map (fun r => (a, a', f, f') :: r) else chgF g c n (a + 1) (f + 1)
    else some []
theorem chgF_end {g c : List Bool} {n a f : Nat} {rest : List (Nat × Nat × Nat × Nat)} (hc : chgF g c n a f = some rest) (h : ¬(a < g.length ∨ f < c.length)) : rest = [] := by
  unfold chgF at hc; rw [if_neg h] at hc; exact (Option.some.inj hc).symm
theorem chgF_go {g c : List Bool} {n a f : Nat} {rest : List (Nat × Nat × Nat × Nat)} (hc : chgF g c n a f = some rest) (h : a < g.length ∨ f < c.length) : ∃ k, n = k + 1 ∧ ∀ a' f', upF (fun i => g.getD i false) a (g.length - a) = a' → upF (fun i => c.getD i false) f (c.length - f) = f' →
    ((a' > a ∨ f' > f) → ∃ rest', chgF g c k a' f' = some rest' ∧ rest = (a, a', f, f') :: rest') ∧ (¬(a' > a ∨ f' > f) → a' = a ∧ f' = f ∧ chgF g c k (a + 1) (f + 1) = some rest) := by
  cases n with
  | zero => unfold chgF at hc; rw [if_pos h] at hc; cases hc
  | succ k =>
    refine ⟨k, rfl, ?_⟩
    rintro _ _ rfl rfl
    unfold chgF at hc
    rw [if_pos h] at hc
    refine ⟨fun q => ?_, fun q => ?_⟩
    · dsimp only at hc; rw [if_pos q] at hc
      obtain ⟨r, h1, h2⟩ := Option.map_eq_some_iff.mp hc
      exact ⟨r, h1, h2.symm⟩
    · dsimp only at hc; rw [if_neg q] at hc
      rw [not_or, Nat.not_lt, Nat.not_lt] at q
      have ge : ∀ (p : Nat → Bool) f n, n ≤ upF p n f := fun p f => by
        induction f with
        | zero => exact fun n => Nat.le_refl _
        | succ f ih => intro n; show n ≤ if p n then upF p (n + 1) f else n; split; exact Nat.le_of_succ_le (ih (n + 1)); exact Nat.le_refl _
      exact ⟨Nat.le_antisymm q.1 (ge _ _ _), Nat.le_antisymm q.2 (ge _ _ _), hc⟩
noncomputable def RCh (H : List MObj) (m : MV) (k : Nat × Nat × Nat × Nat) : Prop := ∃ i, m = .ref i ∧ H[i]? = some (.inst 92 (chF k.1 k.2.1 k.2.2.1 k.2.2.2))
theorem RCh.ext {H H' : List MObj} {m : MV} {k : Nat × Nat × Nat × Nat} (h : RCh H m k) (x : Ext H H') : RCh H' m k := by
  obtain ⟨i, e, h⟩ := h; exact ⟨i, e, x _ _ h⟩
noncomputable def RChN (j : Nat) (H : List MObj) (m : MV) (k : Nat × Nat × Nat × Nat) : Prop := ∃ i, i ≠ j ∧ m = .ref i ∧ H[i]? = some (.inst 92 (chF k.1 k.2.1 k.2.2.1 k.2.2.2))
theorem RChN.push {j : Nat} {H : List MObj} {m : MV} {k : Nat × Nat × Nat × Nat} {X : List MObj} {o : MObj} (h : RChN j H m k) : RChN j ((H ++ X).set j o) m k := by
  obtain ⟨i, n, e, h⟩ := h; exact ⟨i, n, e, at_set_ne (at_app h) n.symm⟩
theorem lt_add_sub {x a n : Nat} (h : x < n) : x < a + (n - a) := by lia
theorem lt_of_add_sub {x a n : Nat} (h : x < a + (n - a)) (ha : a ≤ x) : x < n := by lia
section
variable {B : Bs} {d : Nat} {H : List MObj} {s ia ib ig ic : Nat} {na nb : List Nat} {g c : List Bool} {Q : KE}
theorem changes_ok {L : List (Nat × Nat × Nat × Nat)} {N : Nat} (S : Sh s ia ib ig ic H na nb g c) (hl : na.length + nb.length ≤ 1000) (ga : na.length = g.length) (gb : nb.length = c.length) (hL : L.length ≤ 1000) (e : chgF g c N 0 0 = some L)
    (ret : ∀ H' j vs, Ext H H' → H.length ≤ j → H'[j]? = some (.list vs) → All2 (RCh H') vs L → Q (.ref j) H') : WPF B (d + 3) (.con (.ref 171)) [.ref s] H Q := by
  have l1 := le_l hl
  have l2 := le_r hl
  have l3 := ga ▸ l1
  have l4 := gb ▸ l2
  refine WPF.go fn171 (ie171 _) rfl ?_
  repeat array_get_dec
  refine Leaf1.midK (fun K => ∀ x y z w H1 vs, Ext H H1 → H1[H.length]? = some (.list vs) → All2 (RChN H.length H1) vs L → K [.ref s, .ref H.length, x, y, z, w, .undef, .undef] H1) (fun K k => ?_) ?_
  · refine WP1.whl (fun n K => ∀ a f done rest z w H1 vs, chgF g c n a f = some rest → L = done ++ rest → Ext H H1 → H1[H.length]? = some (.list vs) → All2 (RChN H.length H1) vs done → K [.ref s, .ref H.length, .int (a : Nat), .int (f : Nat), z, w, .undef, .undef] H1) N
      (fun K k => k 0 0 [] L _ _ _ _ e rfl (by sizeOf_list_dec) (by decreasing_trivial_pre_omega) .nil) (fun n C p a f done rest z w H1 vs a1 a2 a3 a4 a5 => p _ _ fun K k => k a f done rest z w H1 vs a1 a2 a3 a4 a5) fun n C cc a f done rest z w H1 vs hc eL x1 hv r1 => ?_
    have g1 := x1 _ _ S.hs
    have g2 := x1 _ _ S.ha
    have g3 := x1 _ _ S.hb
    have g4 := x1 _ _ S.hg
    have g5 := x1 _ _ S.hc
    have z1 := lt_of_at hv
    have lv : vs.length ≤ 1000 := by rw [r1.length]; rw [eL, List.length_append] at hL; exact le_l hL
    refine WPT.dec (a < na.length ∨ f < nb.length) (fun K k => ?_) ?_
    · repeat array_get_dec
      refine go_br (fun h => ?_) (fun h => ?_)
      · repeat array_get_dec
        exact kT k (.inl (Int.ofNat_lt.mp h))
      · repeat array_get_dec
        refine go_br (fun h' => ?_) (fun h' => ?_)
        · repeat array_get_dec
          exact kT k (.inr (Int.ofNat_lt.mp h'))
        · repeat array_get_dec
          exact kF k fun q => q.elim (fun q => h (Int.ofNat_lt.mpr q)) (fun q => h' (Int.ofNat_lt.mpr q))
    rw [ga, gb]
    refine go_br (fun h => ?_) (fun h => ?_)
    rotate_left
    · obtain rfl := chgF_end hc h
      rw [List.append_nil] at eL
      exact k _ _ _ _ _ _ x1 hv (eL ▸ r1)
    obtain ⟨n, rfl, hstep⟩ := chgF_go hc h
    repeat array_get_dec
    refine Leaf1.midK (fun K => ∀ a', upF (fun i => g.getD i false) a (g.length - a) = a' → K [.ref s, .ref H.length, .int (a' : Nat), .int (f : Nat), .int (a : Nat), .int (f : Nat), .undef, .undef] H1) (fun K k => ?_) ?_
    · refine whlUp (a + (g.length - a)) (fun x K => a ≤ x → BlwF (fun i => g.getD i false) a x → K [.ref s, .ref H.length, .int (x : Nat), .int (f : Nat), .int (a : Nat), .int (f : Nat), .undef, .undef] H1) a (Nat.le_add_right _ _)
        (fun K k => k (Nat.le_refl a) BlwF.zero) (fun n C p a1 a2 => p _ _ fun K k => k a1 a2) fun x C hx cc ax hu => ?_
      repeat array_get_dec
      refine go_br (fun h => ?_) (fun h => ?_)
      · have q := Int.ofNat_lt.mp h
        rw [ga] at q
        repeat array_get_dec
        refine go_brB (fun e => ?_) (fun e => ?_)
        · repeat array_get_dec
          exact cc (lt_add_sub q) (Nat.le_succ_of_le ax) (hu.succ e)
        · repeat array_get_dec
          exact k x (hu.at ax hx fun _ => by rw [e]; exact Bool.false_ne_true)
      · repeat array_get_dec
        exact k x (hu.at ax hx fun q => absurd (Int.ofNat_lt.mpr (by rw [ga]; exact lt_of_add_sub q ax)) h)
    intro a' ea
    repeat array_get_dec
    refine Leaf1.midK (fun K => ∀ f', upF (fun i => c.getD i false) f (c.length - f) = f' → K [.ref s, .ref H.length, .int (a' : Nat), .int (f' : Nat), .int (a : Nat), .int (f : Nat), .undef, .undef] H1) (fun K k => ?_) ?_
    · refine whlUp (f + (c.length - f)) (fun x K => f ≤ x → BlwF (fun i => c.getD i false) f x → K [.ref s, .ref H.length, .int (a' : Nat), .int (x : Nat), .int (a : Nat), .int (f : Nat), .undef, .undef] H1) f (Nat.le_add_right _ _)
        (fun K k => k (Nat.le_refl f) BlwF.zero) (fun n C p a1 a2 => p _ _ fun K k => k a1 a2) fun x C hx cc ax hu => ?_
      repeat array_get_dec
      refine go_br (fun h => ?_) (fun h => ?_)
      · have q := Int.ofNat_lt.mp h
        rw [gb] at q
        repeat array_get_dec
        refine go_brB (fun e => ?_) (fun e => ?_)
        · repeat array_get_dec
          exact cc (lt_add_sub q) (Nat.le_succ_of_le ax) (hu.succ e)
        · repeat array_get_dec
          exact k x (hu.at ax hx fun _ => by rw [e]; exact Bool.false_ne_true)
      · repeat array_get_dec
        exact k x (hu.at ax hx fun q => absurd (Int.ofNat_lt.mpr (by rw [gb]; exact lt_of_add_sub q ax)) h)
    intro f' ef
    obtain ⟨hs1, hs2⟩ := hstep a' f' ea ef
    repeat array_get_dec
    refine lIte ?_
    refine WPT.dec (a' > a ∨ f' > f) (fun K k => ?_) ?_
    · repeat array_get_dec
      refine go_br (fun h => ?_) (fun h => ?_)
      · repeat array_get_dec
        exact kT k (.inl (Int.ofNat_lt.mp h))
      · repeat array_get_dec
        refine go_br (fun h' => ?_) (fun h' => ?_)
        · repeat array_get_dec
          exact kT k (.inr (Int.ofNat_lt.mp h'))
        · repeat array_get_dec
          exact kF k fun q => q.elim (fun q => h (Int.ofNat_lt.mpr q)) (fun q => h' (Int.ofNat_lt.mpr q))
    refine go_br (fun h => ?_) (fun h => ?_)
    · obtain ⟨rest', hc', rfl⟩ := hs1 h
      repeat array_get_dec
      exact cc n (Nat.lt_succ_self n) a' f' (done ++ [(a, a', f, f')]) rest' _ _ _ _ hc' (by rw [eL, List.append_assoc]; rfl) (by sizeOf_list_dec) (by decreasing_trivial_pre_omega) (All2.app (r1.mono fun m k h => h.push) (.cons ⟨_, neG (by decreasing_trivial), rfl, at_eq (by decreasing_trivial_pre_omega) (by rfl)⟩ .nil))
    · obtain ⟨rfl, rfl, hc'⟩ := hs2 h
      repeat array_get_dec
      exact cc n (Nat.lt_succ_self n) _ _ done rest _ _ _ _ hc' eL x1 hv r1
  · intro x y z w H1 vs x1 hv r1
    repeat array_get_dec
    exact ret _ _ vs x1 (Nat.le_refl _) hv (r1.mono fun m k ⟨i, _, e, h⟩ => ⟨i, e, h⟩)
end
noncomputable abbrev Dct := List (Int × Int)
noncomputable def dE (D : Dct) : List (Int × MV) := D.map fun e => (e.1, .int e.2)
noncomputable abbrev DI (D : Dct) : MObj := .dI (dE D)
noncomputable def dhas (D : Dct) (k : Int) : Bool := D.any fun e => decide (e.1 = k)
noncomputable def dget (D : Dct) (k : Int) : Option Int := (D.find? fun e => decide (e.1 = k)).map (·.2)
noncomputable def dset (k v : Int) : Dct → Dct
  | [] => [(k, v)]
  | (x, w) :: r => if x = k then (x, v) :: r else (x, w) :: dset k v r
theorem dE_any (D : Dct) (k : Int) : ((dE D).any fun e => decide (e.1 = k)) = dhas D k := by unfold dE dhas; rw [List.any_map]; rfl
theorem dE_find {D : Dct} {k v : Int} (h : dget D k = some v) : ((dE D).find? fun e => decide (e.1 = k)).map (·.2) = some (.int v) := by
  unfold dget at h; unfold dE
  rw [List.find?_map]
  obtain ⟨e, h1, h2⟩ := Option.map_eq_some_iff.mp h
  show Option.map _ (Option.map _ (List.find? (fun e : Int × Int => decide (e.1 = k)) D)) = _
  rw [h1]; simp [h2]
theorem dE_set (k v : Int) : ∀ D : Dct, setD k (.int v) (dE D) = dE (dset k v D)
  | [] => rfl
  | (x, w) :: r => by
    show (if x = k then _ else _) = dE (if x = k then _ else _)
    split
    · rfl
    · show _ :: setD k (.int v) (dE r) = _
      rw [dE_set k v r]; rfl
theorem dset_len (k v : Int) : ∀ D : Dct, (dset k v D).length ≤ D.length + 1
  | [] => by simp [dset]
  | (x, w) :: r => by
    unfold dset; split
    · simp
    · have := dset_len k v r; simp; lia
noncomputable def fur (D : Dct) (lane : Int) : Option Int :=
  if dhas D (lane - 1) then
    (if dhas D (lane + 1) then (dget D (lane - 1)).bind fun x => (dget D (lane + 1)).map fun y => if y > x + 1 then y else x + 1
     else (dget D (lane - 1)).map (· + 1))
  else dget D (lane + 1)
noncomputable def getI (ns : List Nat) (k : Int) : Option Nat := if 0 ≤ k then ns[k.toNat]? else none
noncomputable def walkG (p : Int → Option Bool) (wide tall lane : Int) : Nat → Int → Option Int
  | fuel, a => if a < wide ∧ a - lane < tall then
      (match p a with
      | none => none
      | some false => some a
      | some true => match fuel with
        | 0 => none
        | n + 1 => walkG p wide tall lane n (a + 1))
    else some a
inductive Stp where
  | out (x y : Int)
  | on (D : Dct)
noncomputable def loopL (f : Dct → Int → Option Stp) : List Int → Dct → Option Stp
  | [], D => some (.on D)
  | l :: ls, D => match f D l with
    | none => none
    | some (.out x y) => some (.out x y)
    | some (.on D') => loopL f ls D'
noncomputable def rangeI (x c : Int) : Nat → List Int
  | 0 => []
  | n + 1 => x :: rangeI (x + c) c n
theorem rangeL_I (c : Int) : ∀ (n : Nat) (x : Int), rangeL x c n = (rangeI x c n).map .int
  | 0, _ => rfl
  | n + 1, x => by unfold rangeL rangeI; rw [rangeL_I c n]; rfl
noncomputable def pF (na nb : List Nat) (al bl : Nat) (lane : Int) (a : Int) : Option Bool := (getI na (al + a)).bind fun x => (getI nb (bl + a - lane)).map fun y => decide (x = y)
noncomputable def pB (na nb : List Nat) (ah bh : Nat) (lane : Int) (a : Int) : Option Bool := (getI na (ah - 1 - a)).bind fun x => (getI nb (bh - 1 - a + lane)).map fun y => decide (x = y)
/-- one lane: D is the side that walks, O the other -/
noncomputable def laneS (p : Int → Int → Option Bool) (wide tall : Int) (par : Int) (O : Dct) (out : Int → Int → Stp) (D : Dct) (lane : Int) : Option Stp :=
  if D.length ≥ 1000 then none else (fur D lane).bind fun a0 => (walkG (p lane) wide tall lane 60 a0).bind fun a =>
    if (wide - tall).fmod 2 = par ∧ dhas O (wide - tall - lane) = true then
      (dget O (wide - tall - lane)).map fun o => if a + o ≥ wide then out a lane else .on (dset lane a D)
    else some (.on (dset lane a D))
noncomputable def lanesOf (m : Int) : List Int := rangeI (-m) 2 (Builtin.Range.rangeSize (-m) (m + 1) 2).toNat
noncomputable def LF (na nb : List Nat) (al ah bl bh : Nat) (Db : Dct) : List Int → Dct → Option Stp := loopL (laneS (pF na nb al bl) (ah - al) (bh - bl) 1 Db fun a l => .out (al + a) (bl + a - l))
noncomputable def LB (na nb : List Nat) (al ah bl bh : Nat) (Da : Dct) : List Int → Dct → Option Stp := loopL (laneS (pB na nb ah bh) (ah - al) (bh - bl) 0 Da fun a l => .out (ah - a) (bh - a + l))
noncomputable def manyL (na nb : List Nat) (al ah bl bh : Nat) : List Int → Dct → Dct → Option (Int × Int)
  | [], _, _ => none
  | m :: ms, Da, Db => if ¬ (0 ≤ m ∧ m ≤ 1000) then none else match LF na nb al ah bl bh Db (lanesOf m) Da with
    | none => none
    | some (.out x y) => some (x, y)
    | some (.on Da') => match LB na nb al ah bl bh Da' (lanesOf m) Db with
      | none => none
      | some (.out x y) => some (x, y)
      | some (.on Db') => manyL na nb al ah bl bh ms Da' Db'
noncomputable def halvedS (na nb : List Nat) (al ah bl bh : Nat) : Option (Int × Int) :=
  manyL na nb al ah bl bh (rangeI 1 1 (Builtin.Range.rangeSize 1 (Int.fdiv ((ah : Int) - al + (bh - bl) + 1) 2 + 1) 1).toNat) [(0, 0)] [(0, 0)]
theorem walkG_go {p : Int → Option Bool} {wide tall lane a a9 : Int} {n : Nat} (hw : walkG p wide tall lane n a = some a9) : (¬(a < wide ∧ a - lane < tall) → a = a9) ∧
    (a < wide ∧ a - lane < tall → ∃ b, p a = some b ∧ (b = false → a = a9) ∧ (b = true → ∃ k, n = k + 1 ∧ walkG p wide tall lane k (a + 1) = some a9)) := by
  refine ⟨fun h => ?_, fun h => ?_⟩
  · unfold walkG at hw; rw [if_neg h] at hw; exact Option.some.inj hw
  · unfold walkG at hw; rw [if_pos h] at hw
    cases hp : p a with
    | none => rw [hp] at hw; cases hw
    | some b =>
      rw [hp] at hw
      refine ⟨b, rfl, fun q => ?_, fun q => ?_⟩
      · subst q; exact Option.some.inj hw
      · subst q
        cases n with
        | zero => cases hw
        | succ k => exact ⟨k, rfl, hw⟩
theorem loopL_go {f : Dct → Int → Option Stp} {l : Int} {ls : List Int} {D : Dct} {R : Stp} (e : loopL f (l :: ls) D = some R) : ∃ st, f D l = some st ∧ (∀ x y, st = .out x y → R = .out x y) ∧ (∀ D', st = .on D' → loopL f ls D' = some R) := by
  unfold loopL at e
  cases hf : f D l with
  | none => rw [hf] at e; cases e
  | some st =>
    rw [hf] at e
    refine ⟨st, rfl, ?_, ?_⟩
    · rintro x y rfl; exact (Option.some.inj e).symm
    · rintro D' rfl; exact e
theorem laneS_go {p : Int → Int → Option Bool} {wide tall par : Int} {O D : Dct} {out : Int → Int → Stp} {lane : Int} {st : Stp} (hst : laneS p wide tall par O out D lane = some st) : D.length ≤ 1000 ∧ ∃ a0 a9, fur D lane = some a0 ∧ walkG (p lane) wide tall lane 60 a0 = some a9 ∧
    ((wide - tall).fmod 2 = par ∧ dhas O (wide - tall - lane) = true → ∃ o, dget O (wide - tall - lane) = some o ∧ (a9 + o ≥ wide → st = out a9 lane) ∧ (¬(a9 + o ≥ wide) → st = .on (dset lane a9 D))) ∧ (¬((wide - tall).fmod 2 = par ∧ dhas O (wide - tall - lane) = true) → st = .on (dset lane a9 D)) := by
  unfold laneS at hst
  split at hst
  · cases hst
  rename_i hsz
  obtain ⟨a0, ha0, hst⟩ := Option.bind_eq_some_iff.mp hst
  obtain ⟨a9, ha9, hst⟩ := Option.bind_eq_some_iff.mp hst
  refine ⟨Nat.le_of_lt (Nat.not_le.mp hsz), a0, a9, ha0, ha9, fun h => ?_, fun h => ?_⟩
  · rw [if_pos h] at hst
    obtain ⟨o, h1, h2⟩ := Option.map_eq_some_iff.mp hst
    refine ⟨o, h1, fun q => ?_, fun q => ?_⟩
    · rw [if_pos q] at h2; exact h2.symm
    · rw [if_neg q] at h2; exact h2.symm
  · rw [if_neg h] at hst; exact (Option.some.inj hst).symm
theorem manyL_go {na nb : List Nat} {al ah bl bh : Nat} {m : Int} {ms : List Int} {Da Db : Dct} {x y : Int} (e : manyL na nb al ah bl bh (m :: ms) Da Db = some (x, y)) : (0 ≤ m ∧ m ≤ 1000) ∧ ∃ R, LF na nb al ah bl bh Db (lanesOf m) Da = some R ∧ (∀ u v, R = .out u v → u = x ∧ v = y) ∧
    ∀ D1, R = .on D1 → ∃ R2, LB na nb al ah bl bh D1 (lanesOf m) Db = some R2 ∧ (∀ u v, R2 = .out u v → u = x ∧ v = y) ∧ ∀ D2, R2 = .on D2 → manyL na nb al ah bl bh ms D1 D2 = some (x, y) := by
  unfold manyL at e
  split at e
  · cases e
  rename_i hm
  refine ⟨Classical.not_not.mp hm, ?_⟩
  cases h1 : LF na nb al ah bl bh Db (lanesOf m) Da with
  | none => rw [h1] at e; cases e
  | some R =>
    rw [h1] at e
    refine ⟨R, rfl, ?_, ?_⟩
    · rintro u v rfl; cases e; exact ⟨rfl, rfl⟩
    · rintro D1 rfl
      dsimp only at e
      cases h2 : LB na nb al ah bl bh D1 (lanesOf m) Db with
      | none => rw [h2] at e; cases e
      | some R2 =>
        rw [h2] at e
        refine ⟨R2, rfl, ?_, ?_⟩
        · rintro u v rfl; cases e; exact ⟨rfl, rfl⟩
        · rintro D2 rfl; exact e
theorem small2 {m : Int} (hm : 0 ≤ m ∧ m ≤ 1000) : Builtin.Range.small (-m) (m + 1) 2 = true := by
  have hrs : Builtin.Range.rangeSize (-m) (m + 1) 2 = m + 1 := by
    unfold Builtin.Range.rangeSize; rw [if_pos (by decide)]; split <;> lia
  unfold Builtin.Range.small
  rw [hrs]
  simp only [Builtin.Range.rangeFitsLong, Bool.and_eq_true, Bool.or_eq_true, decide_eq_true_eq, beq_iff_eq, show (2 : Int) > 0 by decide, if_true]
  lia
theorem rngI {H : List MObj} {a b c : Int} {Q : (List MObj → Prop) → List MV → List MObj → Prop} {ms : List MV} (hm : rangeM ms = some (a, b, c)) (hc : c ≠ 0 ∧ c.natAbs < 1000000) (hs : Builtin.Range.small a b c = true) (h : Q (fun _ => True) ((rangeI a c (Builtin.Range.rangeSize a b c).toNat).map .int) H) : RngM ms H Q :=
  ⟨a, b, c, hm, hc, hs, by rw [rangeL_I]; exact h⟩
theorem sub_getI {H : List MObj} {Q : MV → List MObj → Prop} {j : Nat} {k : Int} {ns : List Nat} {u : Nat} (h1 : H[j]? = some (Ns ns)) (e : getI ns k = some u) (h2 : ns.length ≤ 1000) (h : Q (.int (u : Int)) H) : subM (.ref j) (.int k) H Q := by
  unfold getI at e
  split at e
  · rename_i h0
    obtain ⟨n, rfl⟩ := Int.eq_ofNat_of_zero_le h0
    have e' : ns[n]? = some u := e
    exact sub_at n rfl h1 (by rw [List.length_map]; exact le_k h2) (by rw [List.getElem?_map, e']; rfl) h
  · cases e
theorem eInD {H : List MObj} {P : Bool → Prop} {a : Int} {j : Nat} {D : Dct} (h1 : H[j]? = some (DI D)) (h : P (dhas D a)) : cmpM .In (.int a) (.ref j) H P := cmp_indI h1 (by rw [dE_any]; exact h)
theorem nInD {H : List MObj} {P : Bool → Prop} {a : Int} {j : Nat} {D : Dct} (h1 : H[j]? = some (DI D)) (h : P (!dhas D a)) : cmpM .NotIn (.int a) (.ref j) H P := cmp_nindI h1 (by rw [dE_any]; exact h)
theorem uD {H : List MObj} {Q : MV → List MObj → Prop} {j : Nat} {k v : Int} {D : Dct} (h1 : H[j]? = some (DI D)) (e : dget D k = some v) (h : Q (.int v) H) : subM (.ref j) (.int k) H Q := sub_dI h1 (dE_find e) h
theorem zD {H : List MObj} {Q : List MObj → Prop} {j : Nat} {k v : Int} {D : Dct} (h1 : H[j]? = some (DI D)) (hl : D.length ≤ 1000) (h : Q (H.set j (DI (dset k v D)))) : setM (.ref j) (.int k) (.int v) H Q := set_dI h1 (by unfold dE; rw [List.length_map]; exact le_k hl) (by rw [dE_set]; exact h)
theorem go_nb {b : Bool} {X Y : Prop} (h1 : b = false → X) (h2 : b = true → Y) : br (!b) X Y := by cases b; exact ⟨fun _ => h1 rfl, fun h => Bool.noConfusion h⟩; exact ⟨fun h => Bool.noConfusion h, fun _ => h2 rfl⟩
theorem fur_go {D : Dct} {lane v : Int} (e : fur D lane = some v) : (dhas D (lane - 1) = false → dget D (lane + 1) = some v) ∧ (dhas D (lane - 1) = true → (dhas D (lane + 1) = false → ∃ x, dget D (lane - 1) = some x ∧ x + 1 = v) ∧
    (dhas D (lane + 1) = true → ∃ x y, dget D (lane - 1) = some x ∧ dget D (lane + 1) = some y ∧ (if y > x + 1 then y else x + 1) = v)) := by
  unfold fur at e
  refine ⟨fun h => ?_, fun h => ⟨fun h' => ?_, fun h' => ?_⟩⟩
  · rw [if_neg (by rw [h]; exact Bool.false_ne_true)] at e; exact e
  · rw [if_pos h, if_neg (by rw [h']; exact Bool.false_ne_true)] at e
    obtain ⟨x, a, b⟩ := Option.map_eq_some_iff.mp e; exact ⟨x, a, b⟩
  · rw [if_pos h, if_pos h'] at e
    obtain ⟨x, hx, e⟩ := Option.bind_eq_some_iff.mp e
    obtain ⟨y, hy, e⟩ := Option.map_eq_some_iff.mp e
    exact ⟨x, y, hx, hy, e⟩
section
variable {B : Bs} {d : Nat} {H : List MObj} {Q : KE}
theorem further_ok {j : Nat} {D : Dct} {lane v : Int} (hj : H[j]? = some (DI D)) (e : fur D lane = some v) (ret : Q (.int v) H) : WPF B (d + 1) (.con (.ref 234)) [.ref j, .int lane] H Q := by
  obtain ⟨f1, f2⟩ := fur_go e
  refine WPF.go fn234 (ie234 _ _) rfl ?_
  repeat array_get_dec
  refine lIte ?_
  repeat array_get_dec
  refine nInD hj ?_
  repeat array_get_dec
  refine go_nb (fun h => ?_) (fun h => ?_)
  · repeat array_get_dec
    refine uD hj (f1 h) ?_
    repeat array_get_dec
    exact ret
  obtain ⟨f2, f3⟩ := f2 h
  repeat array_get_dec
  refine lIte ?_
  repeat array_get_dec
  refine nInD hj ?_
  repeat array_get_dec
  refine go_nb (fun h => ?_) (fun h => ?_)
  · obtain ⟨x, hx, rfl⟩ := f2 h
    repeat array_get_dec
    refine uD hj hx ?_
    repeat array_get_dec
    exact ret
  obtain ⟨x, y, hx, hy, rfl⟩ := f3 h
  repeat array_get_dec
  refine uD hj hx ?_
  repeat array_get_dec
  refine uD hj hy ?_
  repeat array_get_dec
  exact ret
end
@[reducible] noncomputable def hEv (s al ah bl bh j1 j2 : Nat) (m l t : MV) : List MV := [.ref s, pt al ah bl bh, .int al, .int ah, .int bl, .int bh, .int (ah - al), .int (bh - bl), .int (ah - al - (bh - bl)), .ref j1, .ref j2, m, l, t, .undef, .undef, .undef]
theorem fd2 {a b c e : Nat} (h1 : a ≤ 1000) (h2 : c ≤ 1000) : -1000000 ≤ Int.fdiv ((a : Int) - b + (c - e) + 1) 2 + 1 ∧ Int.fdiv ((a : Int) - b + (c - e) + 1) 2 + 1 ≤ 1000000 ∨ True := .inr trivial
section
variable {B : Bs} {d : Nat} {H : List MObj} {s ia ib ig ic : Nat} {na nb : List Nat} {g c : List Bool} {Q : KE}
theorem halved_ok {al ah bl bh : Nat} {x y : Int} (S : Sh s ia ib ig ic H na nb g c) (hl : na.length + nb.length ≤ 1000) (ha : ah ≤ na.length) (hb : bh ≤ nb.length) (ha' : al ≤ ah) (hb' : bl ≤ bh) (e : halvedS na nb al ah bl bh = some (x, y))
    (ret : ∀ H', Ext H H' → Q (.tup [.int x, .int y]) H') : WPF B (d + 2) (.con (.ref 178)) [.ref s, pt al ah bl bh] H Q := by
  have c1 := le_l hl
  have c2 := le_r hl
  have sm : Builtin.Range.small 1 (Int.fdiv ((ah : Int) - al + (bh - bl) + 1) 2 + 1) 1 = true := by
    have hq : ∀ X : Int, 0 ≤ X → X.fdiv 2 = X / 2 := fun X h => Int.fdiv_eq_ediv_of_nonneg _ (by decide)
    rw [hq _ (by lia)]
    exact small1 ⟨⟨by lia, by lia⟩, by lia, by lia⟩
  refine WPF.go fn178 (ie178 _ _) rfl ?_
  repeat array_get_dec
  refine rngI rfl (by decide) sm ?_
  refine forMap MV.int (fun as K => ∀ Da Db m l t H1 j1 j2, manyL na nb al ah bl bh as Da Db = some (x, y) → H.length ≤ j1 → j1 < j2 → Ext H H1 → H1[j1]? = some (DI Da) → H1[j2]? = some (DI Db) → K (hEv s al ah bl bh j1 j2 m l t) H1)
    (fun as C p Da Db m l t H1 j1 j2 a1 a2 a3 a4 a5 a6 => p _ _ fun K k => k Da Db m l t H1 j1 j2 a1 a2 a3 a4 a5 a6) ?_ ?_ (fun K k => k [(0, 0)] [(0, 0)] _ _ _ _ _ _ e (Nat.le_refl _) (by decreasing_trivial) (by sizeOf_list_dec) (at_eq (by decreasing_trivial_pre_omega) (by rfl)) (at_eq (by decreasing_trivial_pre_omega) (by rfl)))
  · intro Da Db m l t H1 j1 j2 e; cases e
  intro m items C cc Da Db m1 l1 t1 H1 j1 j2 e b1 b2 x1 k1 k2
  obtain ⟨hm, RF, eF, oF, nF⟩ := manyL_go e
  have b3 := Nat.le_of_lt (Nat.lt_of_le_of_lt b1 b2)
  repeat array_get_dec
  refine rngI rfl (by decide) (small2 hm) ?_
  refine forMap MV.int (fun as K => ∀ D1 l t H2, LF na nb al ah bl bh Db as D1 = some RF → Ext H H2 → H2[j1]? = some (DI D1) → H2[j2]? = some (DI Db) → K (hEv s al ah bl bh j1 j2 (.int m) l t) H2)
    (fun as C p D1 l t H2 a1 a2 a3 a4 => p _ _ fun K k => k D1 l t H2 a1 a2 a3 a4) ?_ ?_ (fun K k => k Da _ _ _ eF x1 k1 k2)
  rotate_left
  · intro lane lanes C cc D1 l t H2 e2 x2 q1 q2
    have g1 := x2 _ _ S.hs
    have g2 := x2 _ _ S.ha
    have g3 := x2 _ _ S.hb
    obtain ⟨st, hst, o1, n1⟩ := loopL_go e2
    obtain ⟨hsz, a0, a9, ha0, ha9, s1, s2⟩ := laneS_go hst
    repeat array_get_dec
    refine WPF.vc (further_ok q1 ha0 ?_)
    repeat array_get_dec
    refine Leaf1.midK (fun K => K (hEv s al ah bl bh j1 j2 (.int m) (.int lane) (.int a9)) H2) (fun K k => ?_) ?_
    · refine WP1.whl (fun n K => ∀ a, walkG (pF na nb al bl lane) (ah - al) (bh - bl) lane n a = some a9 → K (hEv s al ah bl bh j1 j2 (.int m) (.int lane) (.int a)) H2) 60 (fun K k => k a0 ha9) (fun n C p a a1 => p _ _ fun K k => k a a1) fun n C cc a hw => ?_
      obtain ⟨w1, w2⟩ := walkG_go hw
      repeat array_get_dec
      refine go_br (fun t1 => ?_) (fun t1 => ?_)
      · repeat array_get_dec
        refine go_br (fun t2 => ?_) (fun t2 => ?_)
        · obtain ⟨b, hb, w3, w4⟩ := w2 ⟨t1, t2⟩
          obtain ⟨u, hu, hb⟩ := Option.bind_eq_some_iff.mp hb
          obtain ⟨v, hv, rfl⟩ := Option.map_eq_some_iff.mp hb
          repeat array_get_dec
          refine sub_getI g2 hu c1 ?_
          repeat array_get_dec
          refine sub_getI g3 hv c2 ?_
          repeat array_get_dec
          refine go_br (fun t3 => ?_) (fun t3 => ?_)
          · obtain ⟨n, rfl, hw'⟩ := w4 (decide_eq_true (Int.ofNat_inj.mp t3))
            repeat array_get_dec
            exact cc n (Nat.lt_succ_self n) _ hw'
          · repeat array_get_dec
            exact w3 (decide_eq_false fun q => t3 (Int.ofNat_inj.mpr q)) ▸ k
        · repeat array_get_dec
          exact w1 (fun q => t2 q.2) ▸ k
      · repeat array_get_dec
        exact w1 (fun q => t1 q.1) ▸ k
    repeat array_get_dec
    refine zD q1 hsz ?_
    have w1 : (H2.set j1 (DI (dset lane a9 D1)))[j2]? = some (DI Db) := at_set_ne q2 (Nat.ne_of_lt b2)
    have fin : st = .on (dset lane a9 D1) → C (hEv s al ah bl bh j1 j2 (.int m) (.int lane) (.int a9)) (H2.set j1 (DI (dset lane a9 D1))) := fun q => cc _ _ _ _ (n1 _ q) (by sizeOf_list_dec) (by decreasing_trivial_pre_omega) w1
    repeat array_get_dec
    refine lIte ?_
    repeat array_get_dec
    refine go_br (fun t1 => ?_) (fun t1 => ?_)
    · repeat array_get_dec
      refine eInD w1 ?_
      repeat array_get_dec
      refine go_brB (fun t2 => ?_) (fun t2 => ?_)
      · obtain ⟨o, ho, s3, s4⟩ := s1 ⟨t1, t2⟩
        repeat array_get_dec
        refine uD w1 ho ?_
        repeat array_get_dec
        refine go_br (fun t3 => ?_) (fun t3 => ?_)
        · repeat array_get_dec
          obtain ⟨rfl, rfl⟩ := oF _ _ (o1 _ _ (s3 t3))
          exact ret _ (by sizeOf_list_dec)
        · repeat array_get_dec
          exact ⟨trivial, fin (s4 t3)⟩
      · repeat array_get_dec
        exact ⟨trivial, fin (s2 fun q => by rw [q.2] at t2; cases t2)⟩
    · repeat array_get_dec
      exact ⟨trivial, fin (s2 fun q => t1 q.1)⟩
  intro D1 l t H2 e2 x2 q1 q2
  obtain ⟨RB, eB, oB, nB⟩ := nF D1 (Option.some.inj e2).symm
  clear oF nF eF e2
  repeat array_get_dec
  refine rngI rfl (by decide) (small2 hm) ?_
  refine forMap MV.int (fun as K => ∀ D2 l t H2, LB na nb al ah bl bh D1 as D2 = some RB → Ext H H2 → H2[j1]? = some (DI D1) → H2[j2]? = some (DI D2) → K (hEv s al ah bl bh j1 j2 (.int m) l t) H2)
    (fun as C p D1 l t H2 a1 a2 a3 a4 => p _ _ fun K k => k D1 l t H2 a1 a2 a3 a4) ?_ ?_ (fun K k => k Db _ _ _ eB x2 q1 q2)
  rotate_left
  · intro lane lanes C cc D2 l t H2 e2 x2 q1 q2
    have g1 := x2 _ _ S.hs
    have g2 := x2 _ _ S.ha
    have g3 := x2 _ _ S.hb
    obtain ⟨st, hst, o1, n1⟩ := loopL_go e2
    obtain ⟨hsz, a0, a9, ha0, ha9, s1, s2⟩ := laneS_go hst
    repeat array_get_dec
    refine WPF.vc (further_ok q2 ha0 ?_)
    repeat array_get_dec
    refine Leaf1.midK (fun K => K (hEv s al ah bl bh j1 j2 (.int m) (.int lane) (.int a9)) H2) (fun K k => ?_) ?_
    · refine WP1.whl (fun n K => ∀ a, walkG (pB na nb ah bh lane) (ah - al) (bh - bl) lane n a = some a9 → K (hEv s al ah bl bh j1 j2 (.int m) (.int lane) (.int a)) H2) 60 (fun K k => k a0 ha9) (fun n C p a a1 => p _ _ fun K k => k a a1) fun n C cc a hw => ?_
      obtain ⟨w1, w2⟩ := walkG_go hw
      repeat array_get_dec
      refine go_br (fun t1 => ?_) (fun t1 => ?_)
      · repeat array_get_dec
        refine go_br (fun t2 => ?_) (fun t2 => ?_)
        · obtain ⟨b, hb, w3, w4⟩ := w2 ⟨t1, t2⟩
          obtain ⟨u, hu, hb⟩ := Option.bind_eq_some_iff.mp hb
          obtain ⟨v, hv, rfl⟩ := Option.map_eq_some_iff.mp hb
          repeat array_get_dec
          refine sub_getI g2 hu c1 ?_
          repeat array_get_dec
          refine sub_getI g3 hv c2 ?_
          repeat array_get_dec
          refine go_br (fun t3 => ?_) (fun t3 => ?_)
          · obtain ⟨n, rfl, hw'⟩ := w4 (decide_eq_true (Int.ofNat_inj.mp t3))
            repeat array_get_dec
            exact cc n (Nat.lt_succ_self n) _ hw'
          · repeat array_get_dec
            exact w3 (decide_eq_false fun q => t3 (Int.ofNat_inj.mpr q)) ▸ k
        · repeat array_get_dec
          exact w1 (fun q => t2 q.2) ▸ k
      · repeat array_get_dec
        exact w1 (fun q => t1 q.1) ▸ k
    repeat array_get_dec
    refine zD q2 hsz ?_
    have w1 : (H2.set j2 (DI (dset lane a9 D2)))[j1]? = some (DI D1) := at_set_ne q1 (Nat.ne_of_gt b2)
    have fin : st = .on (dset lane a9 D2) → C (hEv s al ah bl bh j1 j2 (.int m) (.int lane) (.int a9)) (H2.set j2 (DI (dset lane a9 D2))) := fun q => cc _ _ _ _ (n1 _ q) (by sizeOf_list_dec) w1 (by decreasing_trivial_pre_omega)
    repeat array_get_dec
    refine lIte ?_
    repeat array_get_dec
    refine go_br (fun t1 => ?_) (fun t1 => ?_)
    · repeat array_get_dec
      refine eInD w1 ?_
      repeat array_get_dec
      refine go_brB (fun t2 => ?_) (fun t2 => ?_)
      · obtain ⟨o, ho, s3, s4⟩ := s1 ⟨t1, t2⟩
        repeat array_get_dec
        refine uD w1 ho ?_
        repeat array_get_dec
        refine go_br (fun t3 => ?_) (fun t3 => ?_)
        · repeat array_get_dec
          obtain ⟨rfl, rfl⟩ := oB _ _ (o1 _ _ (s3 t3))
          exact ret _ (by sizeOf_list_dec)
        · repeat array_get_dec
          exact ⟨trivial, fin (s4 t3)⟩
      · repeat array_get_dec
        exact ⟨trivial, fin (s2 fun q => by rw [q.2] at t2; cases t2)⟩
    · repeat array_get_dec
      exact ⟨trivial, fin (s2 fun q => t1 q.1)⟩
  intro D2 l t H2 e2 x2 q1 q2
  repeat array_get_dec
  exact ⟨trivial, cc D1 D2 _ _ _ _ _ _ (nB D2 (Option.some.inj e2).symm) b1 b2 x2 q1 q2⟩
end
noncomputable abbrev Pt := Nat × Nat × Nat × Nat
noncomputable def ptV (p : Pt) : MV := pt p.1 p.2.1 p.2.2.1 p.2.2.2
noncomputable def fewS (na nb : List Nat) : Nat → List Pt → List Bool → List Bool → Option (List Bool × List Bool)
  | n, st, g, c =>
    match st with
    | [] => some (g, c)
    | (al, ah, bl, bh) :: r =>
      match n with
      | 0 => none
      | n + 1 =>
        if al ≤ ah ∧ ah ≤ na.length ∧ bl ≤ bh ∧ bh ≤ nb.length ∧ r.length ≤ 100 then
          let i := loN na nb al ah bl bh
          let j := hiN na nb (al + i) ah (bl + i) bh
          if al + i = ah - j ∨ bl + i = bh - j then fewS na nb n r (markB g (al + i) (ah - j - (al + i))) (markB c (bl + i) (bh - j - (bl + i)))
          else match halvedS na nb (al + i) (ah - j) (bl + i) (bh - j) with
            | none => none
            | some (x, y) => if 0 ≤ x ∧ 0 ≤ y then fewS na nb n ((x.toNat, ah - j, y.toNat, bh - j) :: (al + i, x.toNat, bl + i, y.toNat) :: r) g c else none
        else none
theorem fewS_go {na nb : List Nat} {n al ah bl bh : Nat} {r : List Pt} {g c G C : List Bool} (e : fewS na nb n ((al, ah, bl, bh) :: r) g c = some (G, C)) : ∃ k, n = k + 1 ∧ (al ≤ ah ∧ ah ≤ na.length ∧ bl ≤ bh ∧ bh ≤ nb.length ∧ r.length ≤ 100) ∧ ∀ i j, loN na nb al ah bl bh = i → hiN na nb (al + i) ah (bl + i) bh = j →
    ((al + i = ah - j ∨ bl + i = bh - j) → fewS na nb k r (markB g (al + i) (ah - j - (al + i))) (markB c (bl + i) (bh - j - (bl + i))) = some (G, C)) ∧
    (¬(al + i = ah - j ∨ bl + i = bh - j) → ∃ x y : Nat, halvedS na nb (al + i) (ah - j) (bl + i) (bh - j) = some ((x : Int), (y : Int)) ∧ fewS na nb k ((x, ah - j, y, bh - j) :: (al + i, x, bl + i, y) :: r) g c = some (G, C)) := by
  cases n with
  | zero => unfold fewS at e; cases e
  | succ k =>
    unfold fewS at e
    dsimp only at e
    split at e
    rotate_left
    · cases e
    rename_i hg
    refine ⟨k, rfl, hg, ?_⟩
    rintro _ _ rfl rfl
    refine ⟨fun h => ?_, fun h => ?_⟩
    · rw [if_pos h] at e; exact e
    · rw [if_neg h] at e
      split at e
      · cases e
      · rename_i x y hxy
        split at e
        rotate_left
        · cases e
        rename_i hp
        obtain ⟨x, rfl⟩ := Int.eq_ofNat_of_zero_le hp.1
        obtain ⟨y, rfl⟩ := Int.eq_ofNat_of_zero_le hp.2
        exact ⟨x, y, hxy, e⟩
theorem lo1 {a h i j : Nat} (k : a ≤ h) (q1 : i ≤ h - a) (q2 : j ≤ h - (a + i)) : a + i ≤ h - j :=
  Nat.le_sub_of_add_le (Nat.add_comm j _ ▸ Nat.add_le_of_le_sub (Nat.add_comm i a ▸ Nat.add_le_of_le_sub k q1) q2)
theorem lohi {na nb : List Nat} {al ah bl bh i j : Nat} (k1 : al ≤ ah) (k3 : bl ≤ bh) (hi : loN na nb al ah bl bh = i) (hj : hiN na nb (al + i) ah (bl + i) bh = j) : al + i ≤ ah - j ∧ bl + i ≤ bh - j := by
  have q1 : i ≤ min (ah - al) (bh - bl) := hi ▸ Nat.le_trans (upF_le _ _ _) (Nat.le_of_eq (Nat.zero_add _))
  have q2 : j ≤ min (ah - (al + i)) (bh - (bl + i)) := hj ▸ Nat.le_trans (upF_le _ _ _) (Nat.le_of_eq (Nat.zero_add _))
  exact ⟨lo1 k1 (Nat.le_trans q1 (Nat.min_le_left _ _)) (Nat.le_trans q2 (Nat.min_le_left _ _)), lo1 k3 (Nat.le_trans q1 (Nat.min_le_right _ _)) (Nat.le_trans q2 (Nat.min_le_right _ _))⟩
section
variable {B : Bs} {d : Nat} {H : List MObj} {s ia ib ig ic : Nat} {na nb : List Nat} {g c : List Bool} {Q : KE}
theorem Sh.ext {H' : List MObj} (S : Sh s ia ib ig ic H na nb g c) (x : Ext H H') : Sh s ia ib ig ic H' na nb g c := ⟨x _ _ S.hs, x _ _ S.ha, x _ _ S.hb, x _ _ S.hg, x _ _ S.hc, S.ne⟩
theorem Sh.set {j : Nat} {o : MObj} (S : Sh s ia ib ig ic H na nb g c) (h : j ≠ s ∧ j ≠ ia ∧ j ≠ ib ∧ j ≠ ig ∧ j ≠ ic) : Sh s ia ib ig ic (H.set j o) na nb g c :=
  ⟨at_set_ne S.hs h.1, at_set_ne S.ha h.2.1, at_set_ne S.hb h.2.2.1, at_set_ne S.hg h.2.2.2.1, at_set_ne S.hc h.2.2.2.2, S.ne⟩
theorem Sh.lt (S : Sh s ia ib ig ic H na nb g c) : s < H.length ∧ ia < H.length ∧ ib < H.length ∧ ig < H.length ∧ ic < H.length := ⟨lt_of_at S.hs, lt_of_at S.ha, lt_of_at S.hb, lt_of_at S.hg, lt_of_at S.hc⟩
theorem pop_st {j : Nat} {p : Pt} {st : List Pt} (hj : H[j]? = some (.list ((p :: st).reverse.map ptV))) (hs : st.length ≤ 1000) (h : Q (ptV p) (H.set j (.list (st.reverse.map ptV)))) : WPV B d (.con (.builtin "list.pop")) [.ref j] H Q := by
  have e : (p :: st).reverse.map ptV = st.reverse.map ptV ++ [ptV p] := by simp
  rw [e] at hj
  refine WPV.pop hj (by simp; lia) (m := ptV p) (by simp) ?_
  have e2 : (st.reverse.map ptV ++ [ptV p]).eraseIdx ((st.reverse.map ptV ++ [ptV p]).length - 1) = st.reverse.map ptV := by
    rw [List.length_append, List.eraseIdx_append_of_length_le (by simp)]; simp
  rw [e2]; exact h
theorem few_ok {al ah bl bh n : Nat} {G C : List Bool} (S : Sh s ia ib ig ic H na nb g c) (hl : na.length + nb.length ≤ 1000) (lg : g.length = na.length) (lc : c.length = nb.length) (e : fewS na nb n [(al, ah, bl, bh)] g c = some (G, C))
    (ret : ∀ H', ExtM [ig, ic] H H' → H.length ≤ H'.length → Sh s ia ib ig ic H' na nb G C → Q .none H') : WPF B (d + 3) (.con (.ref 185)) [.ref s, pt al ah bl bh] H Q := by
  have y0 := S.lt
  have nS : H.length ≠ s ∧ H.length ≠ ia ∧ H.length ≠ ib ∧ H.length ≠ ig ∧ H.length ≠ ic := ⟨Nat.ne_of_gt y0.1, Nat.ne_of_gt y0.2.1, Nat.ne_of_gt y0.2.2.1, Nat.ne_of_gt y0.2.2.2.1, Nat.ne_of_gt y0.2.2.2.2⟩
  have wk : ∀ {o X Y}, ExtM [ig, ic] X Y → X[H.length]? = some o → Y[H.length]? = some o := fun x h => x.keep2 h nS.2.2.2.1 nS.2.2.2.2
  refine WPF.go fn185 (ie185 _ _) rfl ?_
  repeat array_get_dec
  refine WP1.whl (fun n K => ∀ st g' c' a1 a2 a3 a4 a5 a6 H1, fewS na nb n st g' c' = some (G, C) → g'.length = na.length → c'.length = nb.length → ExtM [ig, ic] H H1 → H.length < H1.length → H1[H.length]? = some (.list (st.reverse.map ptV)) → Sh s ia ib ig ic H1 na nb g' c' →
      K [.ref s, pt al ah bl bh, .ref H.length, a1, a2, a3, a4, a5, a6] H1) n
    (fun K k => k [(al, ah, bl, bh)] g c _ _ _ _ _ _ _ e lg lc (mX (by sizeOf_list_dec)) (by decreasing_trivial) (at_eq (by decreasing_trivial_pre_omega) (by rfl)) (S.ext (by sizeOf_list_dec)))
    (fun n C p st g' c' a1 a2 a3 a4 a5 a6 H1 b1 b2 b3 b4 b5 b6 b7 => p _ _ fun K k => k st g' c' a1 a2 a3 a4 a5 a6 H1 b1 b2 b3 b4 b5 b6 b7) fun n C cc st g' c' a1 a2 a3 a4 a5 a6 H1 e1 lg' lc' x1 l1 hw S1 => ?_
  repeat array_get_dec
  refine go_br (fun h => ?_) (fun h => ?_)
  rotate_left
  · obtain rfl : st = [] := by simpa using h
    unfold fewS at e1
    cases e1
    repeat array_get_dec
    exact ret _ (mTr (by sizeOf_list_dec) x1) (by decreasing_trivial) (S1.ext (by sizeOf_list_dec))
  cases st with
  | nil => exact absurd rfl h
  | cons p st =>
  obtain ⟨al1, ah1, bl1, bh1⟩ := p
  obtain ⟨n, rfl, ⟨k1, k2, k3, k4, k5⟩, e2⟩ := fewS_go e1
  obtain ⟨i, hi⟩ : ∃ i, loN na nb al1 ah1 bl1 bh1 = i := ⟨_, rfl⟩
  obtain ⟨j, hj⟩ : ∃ j, hiN na nb (al1 + i) ah1 (bl1 + i) bh1 = j := ⟨_, rfl⟩
  obtain ⟨q1, q2⟩ := lohi k1 k3 hi hj
  obtain ⟨e3, e4⟩ := e2 i j hi hj
  have m2 := Nat.le_trans (Nat.sub_le ah1 j) k2
  have m4 := Nat.le_trans (Nat.sub_le bh1 j) k4
  have k5' : st.length ≤ 1000 := Nat.le_trans k5 (by decide)
  have sh1 := S1.hs
  repeat array_get_dec
  refine pop_st (at_app hw) k5' ?_
  have S2 := (S1.ext (Ext.app _ [MObj.list []])).set (o := MObj.list (st.reverse.map ptV)) nS
  have l2 : H.length < ((H1 ++ [MObj.list []]).set H.length (MObj.list (st.reverse.map ptV))).length := (by decreasing_trivial)
  have hw2 : ((H1 ++ [MObj.list []]).set H.length (MObj.list (st.reverse.map ptV)))[H.length]? = some (.list (st.reverse.map ptV)) := dSet (by decreasing_trivial)
  have x2 : ExtM [ig, ic] H ((H1 ++ [MObj.list []]).set H.length (MObj.list (st.reverse.map ptV))) := (by sizeOf_list_dec)
  clear hw x1 l1 S1 e1 e2 sh1
  generalize (H1 ++ [MObj.list []]).set H.length (MObj.list (st.reverse.map ptV)) = H2 at S2 hw2 x2 l2 ⊢
  have sh1 := S2.hs
  repeat array_get_dec
  refine WPF.vc (sheet_trimmed_ok S2 hl k2 k4 hi hj ?_)
  repeat array_get_dec
  refine lIte ?_
  refine WPT.dec (al1 + i = ah1 - j ∨ bl1 + i = bh1 - j) (fun K k => ?_) ?_
  · repeat array_get_dec
    refine go_br (fun h => ?_) (fun h => ?_)
    · repeat array_get_dec
      exact kT k (.inl (Int.ofNat_inj.mp h))
    · repeat array_get_dec
      refine go_br (fun h' => ?_) (fun h' => ?_)
      · repeat array_get_dec
        exact kT k (.inr (Int.ofNat_inj.mp h'))
      · repeat array_get_dec
        exact kF k fun q => q.elim (fun q => h (Int.ofNat_inj.mpr q)) (fun q => h' (Int.ofNat_inj.mpr q))
  refine go_br (fun h => ?_) (fun h => ?_)
  · repeat array_get_dec
    refine WPF.vc (mark_ok S2 (by rw [lg', lc']; exact hl) (by rw [lg']; exact m2) (by rw [lc']; exact m4) q1 q2 fun H5 x5 l5 S5 => ?_)
    repeat array_get_dec
    exact cc n (Nat.lt_succ_self n) st _ _ _ _ _ _ _ _ _ (e3 h) ((markB_len _ _ _).trans lg') ((markB_len _ _ _).trans lc') (x2.trans x5) (l5 ▸ l2) (wk x5 hw2) S5
  · obtain ⟨x, y, hxy, e5⟩ := e4 h
    repeat array_get_dec
    refine WPF.vc (halved_ok S2 hl m2 m4 q1 q2 hxy fun H5 x5 => ?_)
    have hw5 := x5 _ _ hw2
    have lw : (st.reverse.map ptV).length ≤ 1000 := by rw [List.length_map, List.length_reverse]; exact k5'
    repeat array_get_dec
    refine cc n (Nat.lt_succ_self n) ((x, ah1 - j, y, bh1 - j) :: (al1 + i, x, bl1 + i, y) :: st) g' c' _ _ _ _ _ _ _ e5 lg' lc' (mSet (mSet (x2.trans x5.toM) (Nat.le_refl _)) (Nat.le_refl _)) (by decreasing_trivial) (at_eq (by decreasing_trivial_pre_omega) ?_) (((S2.ext x5).set nS).set nS)
    simp; exact ⟨rfl, rfl⟩
end
noncomputable def myersS (a b : List Line) : Option (List Pt) :=
  (fewS (nums [] a).2 (nums (nums [] a).1 b).2 50 [(0, a.length, 0, b.length)] (List.replicate a.length false) (List.replicate b.length false)).bind fun r =>
    (chgF r.1 r.2 50 0 0).bind fun L => if L.length ≤ 50 ∧ r.1.length = a.length ∧ r.2.length = b.length then some L else none
theorem nums_len2 : ∀ (ls kn : List Line), (nums kn ls).2.length = ls.length
  | [], _ => rfl
  | x :: xs, kn => by show (nums (num kn x).1 xs).2.length + 1 = xs.length + 1; rw [nums_len2 xs]
theorem cmp_streq {H : List MObj} {x y : Str} {r : Bool} {P : Bool → Prop} (hr : (x == y) = r) (h : P r) : cmpM .Eq (.str x) (.str y) H P := cmp_eqS (by rw [hr]; exact h)
section
variable {B : Bs} {d : Nat} {H : List MObj} {Q : KE}
theorem myers_ok {la lb' : Nat} {a b : List Line} {L : List Pt} (ha : H[la]? = some (Ls a)) (hb : H[lb']? = some (Ls b)) (hl : a.length + b.length ≤ 900) (e : myersS a b = some L)
    (ret : ∀ H' j vs, Ext H H' → H.length ≤ j → H'[j]? = some (.list vs) → All2 (RCh H') vs L → L.length ≤ 50 → Q (.ref j) H') : WPF B (d + 5) (.con (.ref 248)) [.ref la, .ref lb'] H Q := by
  unfold myersS at e
  obtain ⟨⟨G, C⟩, e1, e⟩ := Option.bind_eq_some_iff.mp e
  obtain ⟨L', e2, e⟩ := Option.bind_eq_some_iff.mp e
  split at e
  rotate_left
  · cases e
  cases e
  rename_i hL
  have n1 := nums_len2 a []
  have n2 := nums_len2 b (nums [] a).1
  have hl' : (nums [] a).2.length + (nums (nums [] a).1 b).2.length ≤ 1000 := by rw [n1, n2]; exact Nat.le_trans hl (by decide)
  refine WPF.go fn248 (ie248 _ _) rfl ?_
  repeat array_get_dec
  refine sheet_new ha hb hl fun H1 s ia ib ig ic x1 k0 k1 k2 k3 k4 S1 => ?_
  have sh1 := S1.hs
  repeat array_get_dec
  refine WPF.vc (whole_ok S1 hl' ?_)
  rw [n1, n2]
  repeat array_get_dec
  refine WPF.vc (few_ok S1 hl' (by rw [n1, List.length_replicate]) (by rw [n2, List.length_replicate]) e1 fun H3 x3 l3 S3 => ?_)
  have x03 : Ext H H3 := fun i o hi => x3.keep2 (x1 i o hi) (Nat.ne_of_lt (Nat.lt_of_lt_of_le (lt_of_at hi) k3)) (Nat.ne_of_lt (Nat.lt_of_lt_of_le (lt_of_at hi) k4))
  have sh3 := S3.hs
  repeat array_get_dec
  refine WPF.vc (changes_ok S3 hl' (by rw [n1]; exact hL.2.1.symm) (by rw [n2]; exact hL.2.2.symm) (Nat.le_trans hL.1 (by decide)) e2 fun H4 j vs x4 hj hv r4 => ?_)
  repeat array_get_dec
  exact ret _ j vs (x03.trans x4) (Nat.le_trans x03.len hj) hv r4 hL.1
theorem by_ok {la lb' : Nat} {a b : List Line} {L : List Pt} (ha : H[la]? = some (Ls a)) (hb : H[lb']? = some (Ls b)) (hl : a.length + b.length ≤ 900) (e : myersS a b = some L)
    (ret : ∀ H' j vs, Ext H H' → H.length ≤ j → H'[j]? = some (.list vs) → All2 (RCh H') vs L → L.length ≤ 50 → Q (.ref j) H') : WPF B (d + 6) (.con (.ref 270)) [.str (Str.ofString "myers"), .ref la, .ref lb'] H Q := by
  refine WPF.go fn270 (ie270 _ _ _) rfl ?_
  repeat array_get_dec
  refine lIte ?_
  repeat array_get_dec
  refine cmp_streq (r := true) (by rfl) ?_
  repeat array_get_dec
  refine WPF.vc (myers_ok ha hb hl e ?_)
  intro H' j vs x hj hv r hL
  repeat array_get_dec
  exact ret H' j vs x hj hv r hL
end
noncomputable def parGo (o t : List Line) : Nat → List Pt → List Ck
  | p, [] => if p < o.length then [⟨.both, [], o.drop p, o.drop p⟩] else []
  | p, q :: r => (if q.1 > p then [⟨.both, [], (o.drop p).take (q.1 - p), (o.drop p).take (q.1 - p)⟩] else []) ++ (⟨.conflict, [], (o.drop q.1).take (q.2.1 - q.1), (t.drop q.2.2.1).take (q.2.2.2 - q.2.2.1)⟩ :: parGo o t q.2.1 r)
noncomputable def parS (k : Ck) : Option (List Ck) := (myersS k.ours k.theirs).map (parGo k.ours k.theirs 0)
theorem ExtM.ext {n : Nat} {H H1 H2 : List MObj} (x : ExtM [n] H1 H2) (x1 : Ext H H1) (hn : H.length ≤ n) : Ext H H2 := fun i o h => x.keep (x1 i o h) (Nat.ne_of_lt (Nat.lt_of_lt_of_le (lt_of_at h) hn))
theorem len_opt {p : Prop} [Decidable p] (k : Ck) : (if p then [k] else []).length ≤ 1 := by split <;> simp
section
variable {B : Bs} {d : Nat} {H : List MObj} {Q : KE}
theorem parted_ok {m : MV} {k : Ck} {ps : List Ck} (hk : RCk H m k) (hs : k.small 300) (e : parS k = some ps) (hp : ps.length ≤ 200)
    (ret : ∀ H' j vs, Ext H H' → H.length ≤ j → H'[j]? = some (.list vs) → All2 (RC (fun i => H.length < i) H') vs ps → Q (.ref j) H') : WPF B (d + 7) (.con (.ref 312)) [m, .str (Str.ofString "myers")] H Q := by
  obtain ⟨c, b, o, t, rfl, hc, hb, ho, ht⟩ := hk
  obtain ⟨s1, s2, s3⟩ := hs
  obtain ⟨L, eL, rfl⟩ := Option.map_eq_some_iff.mp e
  have l2 : k.ours.length ≤ 1000 := Nat.le_trans s2 (by decide)
  have l3 : k.theirs.length ≤ 1000 := Nat.le_trans s3 (by decide)
  refine WPF.go fn312 (ie312 _ _) rfl ?_
  repeat array_get_dec
  refine WPF.vc (by_ok (at_app ho) (at_app ht) (Nat.le_trans (Nat.add_le_add s2 s3) (by decide)) eL fun H1 j vs x1 hj hv r1 hL => ?_)
  have x01 : Ext H H1 := (Ext.app _ _).trans x1
  have hf1 := x1 _ _ (at_last H (.list []))
  have nj : j ≠ H.length := Nat.ne_of_gt (Nat.lt_of_lt_of_le ltS hj)
  have zl := lt_of_at hf1
  repeat array_get_dec
  refine forAll (fun as K => ∀ done p a1 a2 a3 a4 a5 a6 a7 a8 H2 us, done ++ parGo k.ours k.theirs p as = parGo k.ours k.theirs 0 L → ExtM [H.length] H1 H2 → H1.length ≤ H2.length → H2[H.length]? = some (.list us) → All2 (RC (fun i => H.length < i) H2) us done →
      K [.ref c, .str (Str.ofString "myers"), .ref H.length, .int (p : Nat), a1, a2, a3, a4, a5, a6, a7, a8] H2)
    (fun as C q done p a1 a2 a3 a4 a5 a6 a7 a8 H2 us b1 b2 b3 b4 b5 => q _ _ fun K k => k done p a1 a2 a3 a4 a5 a6 a7 a8 H2 us b1 b2 b3 b4 b5) ?_ ?_ r1 (fun K k => k [] 0 _ _ _ _ _ _ _ _ _ [] rfl (.refl _) (Nat.le_refl _) hf1 .nil)
  · intro done p a1 a2 a3 a4 a5 a6 a7 a8 H2 us hp2 x2 y2 hu r3
    have x02 := x2.ext x01 (Nat.le_refl _)
    have g1 := x02 _ _ hc
    have g3 := x02 _ _ ho
    have lz : us.length ≤ 1000 := by rw [r3.length]; refine Nat.le_trans (Nat.le_trans (Nat.le_add_right _ _) (Nat.le_of_eq (List.length_append.symm.trans (congrArg List.length hp2)))) (Nat.le_trans hp (by decide))
    repeat array_get_dec
    refine lIte ?_
    repeat array_get_dec
    refine go_br (fun h => ?_) (fun h => ?_)
    · have hp3 : done ++ [⟨.both, [], k.ours.drop p, k.ours.drop p⟩] = parGo k.ours k.theirs 0 L := by rw [← hp2]; unfold parGo; rw [if_pos (Int.ofNat_lt.mp h)]
      repeat array_get_dec
      refine ret _ _ _ (by sizeOf_list_dec) (Nat.le_refl _) (by decreasing_trivial_pre_omega) (hp3 ▸ All2.app (r3.mono fun m a h => ?_) (.cons ?_ .nil))
      · exact ((((h.ext (Ext.app _ _)).ext (Ext.app _ _)).ext (Ext.app _ _)).ext (Ext.app _ _)).setP (fun _ h => Nat.ne_of_lt h)
      · sizeOf_list_dec
    · have hp3 : done = parGo k.ours k.theirs 0 L := by rw [← hp2]; unfold parGo; rw [if_neg (fun q => h (Int.ofNat_lt.mpr q)), List.append_nil]
      repeat array_get_dec
      exact ret _ _ _ x02 (Nat.le_refl _) hu (hp3 ▸ r3)
  · intro m q rest C ch cc done p a1 a2 a3 a4 a5 a6 a7 a8 H2 us hp2 x2 y2 hu r3
    obtain ⟨i, rfl, hi⟩ := ch
    have ni : i ≠ H.length := by rintro rfl; rw [hf1] at hi; cases hi
    have x02 := x2.ext x01 (Nat.le_refl _)
    have g1 := x02 _ _ hc
    have g3 := x02 _ _ ho
    have hi2 := x2.keep hi ni
    have ld : done.length ≤ 200 := Nat.le_trans (Nat.le_trans (Nat.le_add_right _ _) (Nat.le_of_eq (List.length_append.symm.trans (congrArg List.length hp2)))) hp
    have lz : us.length ≤ 1000 := by rw [r3.length]; exact Nat.le_trans ld (by decide)
    have z2 := Nat.lt_of_lt_of_le zl y2
    repeat array_get_dec
    refine Leaf1.midK (fun K => ∀ a2 a3 a4 a5 a6 a7 a8 H3 us, ExtM [H.length] H1 H3 → H1.length ≤ H3.length → H3[H.length]? = some (.list us) → All2 (RC (fun i => H.length < i) H3) us (done ++ (if q.1 > p then [⟨.both, [], (k.ours.drop p).take (q.1 - p), (k.ours.drop p).take (q.1 - p)⟩] else [])) →
      K [.ref c, .str (Str.ofString "myers"), .ref H.length, .int (p : Nat), .ref i, a2, a3, a4, a5, a6, a7, a8] H3) (fun K k1 => ?_) ?_
    · refine WP1.ite ?_
      repeat array_get_dec
      refine go_br (fun h => ?_) (fun h => ?_)
      · rw [if_pos (show q.1 > p from Int.ofNat_lt.mp h)] at k1
        repeat array_get_dec
        refine k1 _ _ _ _ _ _ _ _ _ (by sizeOf_list_dec) (by decreasing_trivial) (by decreasing_trivial_pre_omega) (All2.app (r3.mono fun m a h => ?_) (.cons ?_ .nil))
        · exact (((h.ext (Ext.app _ _)).ext (Ext.app _ _)).ext (Ext.app _ _)).setP (fun _ h => Nat.ne_of_lt h)
        · sizeOf_list_dec
      · rw [if_neg (show ¬ q.1 > p from fun g => h (Int.ofNat_lt.mpr g)), List.append_nil] at k1
        repeat array_get_dec
        exact k1 _ _ _ _ _ _ _ _ _ x2 y2 hu r3
    clear g1 g3 hi2 r3 hu x2 y2 z2 lz x02
    intro a2 a3 a4 a5 a6 a7 a8 H3 us x3 y3 hu r3
    have x03 := x3.ext x01 (Nat.le_refl _)
    have g1 := x03 _ _ hc
    have g3 := x03 _ _ ho
    have g4 := x03 _ _ ht
    have hi3 := x3.keep hi ni
    have hv3 := x3.keep hv nj
    have lz : us.length ≤ 1000 := by rw [r3.length, List.length_append]; exact Nat.le_trans (Nat.add_le_add ld (len_opt _)) (by decide)
    have z3 := Nat.lt_of_lt_of_le zl y3
    repeat array_get_dec
    refine ⟨(by decreasing_trivial_pre_omega), cc _ q.2.1 _ _ _ _ _ _ _ _ _ _ (?_ : (done ++ (if q.1 > p then [⟨.both, [], (k.ours.drop p).take (q.1 - p), (k.ours.drop p).take (q.1 - p)⟩] else []) ++ [⟨.conflict, [], (k.ours.drop q.1).take (q.2.1 - q.1), (k.theirs.drop q.2.2.1).take (q.2.2.2 - q.2.2.1)⟩]) ++ _ = _) (by sizeOf_list_dec) (by decreasing_trivial) (by decreasing_trivial_pre_omega) (All2.app (r3.mono fun m a h => ?_) (.cons ?_ .nil))⟩
    · rw [← hp2]; show _ = done ++ (_ ++ _ :: _); rw [List.append_assoc, List.append_assoc]; rfl
    · exact ((((h.ext (Ext.app _ _)).ext (Ext.app _ _)).ext (Ext.app _ _)).ext (Ext.app _ _)).setP (fun _ h => Nat.ne_of_lt h)
    · sizeOf_list_dec
end
noncomputable def longIn (x : Line) (row : List Nat) : List Line → List Nat → List Nat
  | [], fresh => fresh
  | y :: ys, fresh => longIn x row ys (fresh ++ [if x = y then row.getD (fresh.length - 1) 0 + 1 else (if fresh.getD (fresh.length - 1) 0 > row.getD fresh.length 0 then fresh.getD (fresh.length - 1) 0 else row.getD fresh.length 0)])
noncomputable def longOut (b : List Line) : List Line → List Nat → List Nat
  | [], row => row
  | x :: xs, row => longOut b xs (longIn x row b [0])
noncomputable def longS (a b : List Line) : Nat := (longOut b a (List.replicate (b.length + 1) 0)).getD b.length 0
noncomputable def bsum : List Ck → Nat
  | [] => 0
  | k :: r => (if k.word = .both then k.ours.length else 0) + bsum r
noncomputable def pieceOk (prev : Option Wd) (k : Ck) : Bool :=
  decide (k.base = []) && (decide (k.word = .both) || decide (k.word = .conflict)) && decide (prev ≠ some k.word) && (decide (k.word ≠ .both) || (decide (k.ours = k.theirs) && decide (k.ours ≠ []))) &&
    (decide (k.word ≠ .conflict) || decide (k.ours ≠ []) || decide (k.theirs ≠ []))
noncomputable def piecesOk : Option Wd → List Ck → Bool
  | _, [] => true
  | w, k :: r => pieceOk w k && piecesOk (some k.word) r
noncomputable def isParted (a b : List Line) (ps : List Ck) : Bool :=
  piecesOk none ps && decide (cat (·.ours) ps = a) && decide (cat (·.theirs) ps = b) && decide (bsum ps = longS a b) && decide (ps.length ≤ 7)
noncomputable def okPair (a b : List Line) : Bool := match myersS a b with
  | none => false
  | some L => isParted a b (parGo a b 0 L)

noncomputable def allL : List (List Line) := [] :: ([0, 1, 2] : List Line).flatMap fun x => [x] :: ([0, 1, 2] : List Line).flatMap fun y => [x, y] :: ([0, 1, 2] : List Line).map fun z => [x, y, z]
theorem mem_allL : ∀ a : List Line, a.length ≤ 3 → a ∈ allL
  | [], _ => by decide
  | [x], _ => by revert x; decide
  | [x, y], _ => by revert x y; decide
  | [x, y, z], _ => by revert x y z; decide
  | _ :: _ :: _ :: _ :: _, h => by simp at h
section
theorem longIn_len (x : Line) (row : List Nat) : ∀ (b : List Line) (f : List Nat), (longIn x row b f).length = f.length + b.length
  | [], f => rfl
  | y :: ys, f => by unfold longIn; rw [longIn_len x row ys]; simp; lia
theorem longIn_cons (x : Line) (row : List Nat) (y : Line) (ys : List Line) (f : List Nat) : longIn x row (y :: ys) f = longIn x row ys (f ++ [if x = y then row.getD (f.length - 1) 0 + 1 else (if f.getD (f.length - 1) 0 > row.getD f.length 0 then f.getD (f.length - 1) 0 else row.getD f.length 0)]) := rfl
theorem drop_getD {α : Type} {b : List α} {z : α} {i : Nat} (h : i < b.length) : b.drop i = b.getD i z :: b.drop (i + 1) := by
  rw [List.drop_eq_getElem_cons h, List.getD_eq_getElem?_getD, List.getElem?_eq_getElem h]; rfl
variable {B : Bs} {d : Nat} {H : List MObj} {Q : KE}
theorem longest_ok {la lb' : Nat} {a b : List Line} (ha : H[la]? = some (Ls a)) (hb : H[lb']? = some (Ls b)) (hl : a.length + b.length ≤ 900)
    (ret : ∀ H', Ext H H' → Q (.int ((longS a b : Nat) : Int)) H') : WPF B (d + 1) (.con (.ref 366)) [.ref la, .ref lb'] H Q := by
  have l2 : b.length ≤ 1000 := Nat.le_trans (Nat.le_trans (Nat.le_add_left _ _) hl) (by decide)
  have l3 : b.length + 1 ≤ 1000 := Nat.le_trans (Nat.succ_le_succ (Nat.le_trans (Nat.le_add_left _ _) hl)) (by decide)
  refine WPF.go fn366 (ie366 _ _) rfl ?_
  repeat array_get_dec
  refine forMap lb (fun as K => ∀ row jr a1 a2 a3 a4 a5 a6 a7 H2, longOut b as row = longOut b a (List.replicate (b.length + 1) 0) → row.length = b.length + 1 → Ext H H2 → H2[jr]? = some (Ns row) → K [.ref la, .ref lb', .ref jr, a1, a2, a3, a4, a5, a6, a7] H2)
    (fun as C p row jr a1 a2 a3 a4 a5 a6 a7 H2 b1 b2 b3 b4 => p _ _ fun K k => k row jr a1 a2 a3 a4 a5 a6 a7 H2 b1 b2 b3 b4) ?_ ?_
    (fun K k => k (List.replicate (b.length + 1) 0) _ _ _ _ _ _ _ _ _ rfl List.length_replicate (by sizeOf_list_dec) (at_eq (by decreasing_trivial_pre_omega) (by rw [Ns, List.map_replicate]; rfl)))
  · intro row jr a1 a2 a3 a4 a5 a6 a7 H2 e2 e3 x2 hr
    repeat array_get_dec
    refine sub_neg hr (by rw [List.length_map, e3]; exact le_k l3) (m := .int ((longS a b : Nat) : Int)) ?_ ?_
    · rw [List.length_map, List.getElem?_map, e3, Nat.add_sub_cancel, List.getElem?_eq_getElem (by rw [e3]; exact Nat.lt_succ_self _)]
      unfold longS
      rw [← e2, List.getD_eq_getElem?_getD]
      show some (MV.int _) = some (.int ((row[b.length]?.getD 0 : Nat) : Int))
      rw [List.getElem?_eq_getElem (by rw [e3]; exact Nat.lt_succ_self _)]; rfl
    · repeat array_get_dec
      exact ret _ x2
  · intro x rest C cc row jr a1 a2 a3 a4 a5 a6 a7 H2 e2 e3 x2 hr
    have g1 := x2 _ _ ha
    have g2 := x2 _ _ hb
    have r1 : row.length ≤ 1000 := e3 ▸ l3
    repeat array_get_dec
    refine enu lb 0 ?_ (by decreasing_trivial_pre_omega)
    refine forUp _ (fun i K => ∀ f a2 a3 a4 a5 a6 H3, longIn x row (b.drop i) f = longIn x row b [0] → f.length = i + 1 → Ext H2 H3 → H3[H2.length]? = some (Ns f) → K [.ref la, .ref lb', .ref jr, lb x, .ref H2.length, a2, a3, a4, a5, a6] H3)
      (fun i C p f a2 a3 a4 a5 a6 H3 b1 b2 b3 b4 => p _ _ fun K k => k f a2 a3 a4 a5 a6 H3 b1 b2 b3 b4) ?_ ?_ (fun K k => k [0] _ _ _ _ _ _ (by rw [List.drop_zero]) rfl (by sizeOf_list_dec) (at_eq (by decreasing_trivial_pre_omega) (by rfl)))
    · intro f a2 a3 a4 a5 a6 H3 f2 f3 x3 hf
      rw [List.drop_of_length_le (Nat.le_refl _)] at f2
      have g1' := x3 _ _ g1
      repeat array_get_dec
      exact ⟨(by decreasing_trivial_pre_omega), cc f _ _ _ _ _ _ _ _ _ (by rw [← e2]; show longOut b rest f = longOut b rest (longIn x row b [0]); rw [← f2]; rfl) f3 (x2.trans x3) hf⟩
    · intro i C hi cc f a2 a3 a4 a5 a6 H3 f2 f3 x3 hf
      have g2' := x3 _ _ g2
      have hr' := x3 _ _ hr
      have i1 : i < row.length := by rw [e3]; exact Nat.lt_succ_of_lt hi
      have i2 : i + 1 < row.length := by rw [e3]; exact Nat.succ_lt_succ hi
      have i3 : i < f.length := by rw [f3]; exact Nat.lt_succ_self i
      have f4 : f.length ≤ 1000 := by rw [f3]; exact Nat.le_trans (Nat.succ_le_of_lt hi) l2
      rw [drop_getD (z := 0) hi, longIn_cons, f3, Nat.add_sub_cancel] at f2
      repeat array_get_dec
      refine go_br (fun h => ?_) (fun h => ?_)
      · rw [if_pos h] at f2
        repeat array_get_dec
        exact ⟨(by decreasing_trivial_pre_omega), cc _ _ _ _ _ _ _ f2 (by rw [List.length_append, f3]; rfl) (by sizeOf_list_dec) (at_eq (by decreasing_trivial_pre_omega) (by rw [Ns, List.map_append]; rfl))⟩
      · rw [if_neg h] at f2
        repeat array_get_dec
        exact ⟨(by decreasing_trivial_pre_omega), cc _ _ _ _ _ _ _ f2 (by rw [List.length_append, f3]; rfl) (by sizeOf_list_dec) (at_eq (by decreasing_trivial_pre_omega) (by rw [Ns, List.map_append]; rfl))⟩
end
section
variable {B : Bs} {d : Nat} {H : List MObj} {Q : KE}
theorem told_comp {fi' : FI} {x : Str} {p1 p2 p3 p4 : Pos} {i : Nat} {ev0 : List MV} {ks : List Ck} {vs : List MV} {H0 : List MObj} {chk : List MObj → Prop} {Qn : KS}
    (hx : slot fi'.ns x = some (i, .local)) (hl : i < ev0.length) (hg : fi'.ns.lookup (Str.ofString "_law_told") = some .globalImplicit) (hdb : ((x == ("__debug__" : Str)) || (x == ("__classdict__" : Str))) = false)
    (hv : All2 (RCk H0) vs ks) (hs : ∀ k ∈ ks, k.small 1000) (hlen : ks.length ≤ 1000) (hc : ∀ H', Ext H0 H' → chk H')
    (hQ : ∀ ev' H' us, Ext H0 H' → H0.length < H'.length → H'[H0.length]? = some (.list us) → All2 (RTm (H0.length + 1) H') us ks → Qn ev' H') :
    CompS B fi' (d + 1) (.Name x p1) none (emitI B fi' (d + 1) H0.length (.Call (.Name (Str.ofString "_law_told") p2) [.Name x p3] [] p4)) chk Qn vs ev0 (H0 ++ [.list []]) := by
  refine compAll (fun as K => ∀ (done : List Ck) (ev us : List MV) (H1 : List MObj), ks = done ++ as → ev.length = ev0.length → Ext H0 H1 → H0.length < H1.length → H1[H0.length]? = some (.list us) → All2 (RTm (H0.length + 1) H1) us done → K ev H1)
    (fun as C p done ev us H1 b1 b2 b3 b4 b5 b6 => p _ _ fun K k => k done ev us H1 b1 b2 b3 b4 b5 b6) ?_ ?_ hv (fun K k => k [] _ [] _ rfl rfl (Ext.app _ _) ltS (at_last _ _) .nil)
  · intro done ev us H1 e0 e1 x1 l1 h1 r2
    rw [List.append_nil] at e0
    exact hQ _ _ us x1 l1 h1 (e0 ▸ r2)
  · intro m k rest C hm cc done ev us H1 e0 e1 x1 l1 h1 r2
    have le : us.length ≤ 1000 := by rw [r2.length]; rw [e0, List.length_append] at hlen; exact Nat.le_trans (Nat.le_add_right _ _) hlen
    have hk : k.small 1000 := hs k (by rw [e0]; simp)
    have hu : m ≠ .undef := by obtain ⟨c, b, o, t, rfl, -⟩ := hm; intro q; cases q
    refine WPG.name hx (.inl rfl) (gNone (gEmit (WPE.call (fun _ => rfl) (fun _ => rfl) (gl_law_told hg ⟨kp_ok _ rfl, WPEs.cons (fun _ => rfl) (WPE.name (m := m) hx (.inl rfl) (List.getElem?_set_self (by rw [e1]; exact hl)) hu hdb (WPEs.nil (WPF.vc (told_ok (hm.ext x1) hk fun H2 r x2 r3 => ?_))))⟩))))
    have z := Nat.lt_of_lt_of_le l1 x2.len
    refine ⟨emA ?_ (x2 _ _ h1) (le_k le)⟩
    exact ⟨hc _ ((x1.trans x2).set_new (Nat.le_refl _)), cc (done ++ [k]) _ _ _ (by rw [e0, List.append_assoc]; rfl) (by rw [List.length_set]; exact e1) ((x1.trans x2).set_new (Nat.le_refl _)) (by rw [List.length_set]; exact z) (at_set z) (All2.app (r2.mono fun m a h => (h.ext x2).set (Nat.lt_succ_self _)) (.cons ((r3.le l1).set (Nat.lt_succ_self _)) .nil))⟩
noncomputable def fIdx : Nat → Ck → List Line
  | 1 => (·.base)
  | 2 => (·.ours)
  | _ => (·.theirs)
theorem flat_comp {fi' : FI} {x y : Str} {p1 p2 p3 p4 p5 : Pos} {i1 i2 n : Nat} {ie : Expr} {ev0 : List MV} {ks : List Ck} {vs : List MV} {H0 : List MObj} {chk : List MObj → Prop} {Qn : KS}
    (hx : slot fi'.ns x = some (i1, .local)) (hy : slot fi'.ns y = some (i2, .local)) (hl1 : i1 < ev0.length) (hl2 : i2 < ev0.length) (hn : n = 1 ∨ n = 2 ∨ n = 3)
    (hdx : ((x == ("__debug__" : Str)) || (x == ("__classdict__" : Str))) = false) (hdy : ((y == ("__debug__" : Str)) || (y == ("__classdict__" : Str))) = false)
    (hsub : ∀ o v, subscripted ie false o v = operate [o, v] (getItem o v))
    (hie : ∀ (ev' : List MV) (H' : List MObj) (Q : MV → List MObj → Prop), (∀ n, n ≠ i1 → n ≠ i2 → ev'[n]? = ev0[n]?) → Q (.int (n : Int)) H' → WPE B fi' d ie ev' H' Q)
    (hv : All2 (RTd H0) vs ks) (hlen : (cat (fIdx n) ks).length ≤ 10000) (hc : ∀ H', Ext H0 H' → chk H')
    (hQ : ∀ ev' H', Ext H0 H' → H0.length < H'.length → H'[H0.length]? = some (Ls (cat (fIdx n) ks)) → Qn ev' H') :
    CompS B fi' d (.Name x p1) none (genI B fi' d H0.length (.Name y p2) (.Subscript (.Name x p3) ie p4) (.Name y p5)) chk Qn vs ev0 (H0 ++ [.list []]) := by
  refine compAll (fun as K => ∀ (done : List Ck) (ev : List MV) (H1 : List MObj), ks = done ++ as → ev.length = ev0.length → (∀ n, n ≠ i1 → n ≠ i2 → ev[n]? = ev0[n]?) → Ext H0 H1 → H0.length < H1.length → H1[H0.length]? = some (Ls (cat (fIdx n) done)) → K ev H1)
    (fun as C p done ev H1 b1 b2 b3 b4 b5 b6 => p _ _ fun K k => k done ev H1 b1 b2 b3 b4 b5 b6) ?_ ?_ hv (fun K k => k [] _ _ rfl rfl (fun _ _ _ => rfl) (Ext.app _ _) ltS (at_last _ _))
  · intro done ev H1 e0 e1 _ x1 l1 h1
    rw [List.append_nil] at e0
    exact hQ _ _ x1 l1 (e0 ▸ h1)
  · intro m k rest C hm cc done ev H1 e0 e1 f1 x1 l1 h1
    obtain ⟨b, o, t, rfl, hb, ho, ht⟩ := hm
    obtain ⟨j, hj, hjm⟩ : ∃ j, H0[j]? = some (Ls (fIdx n k)) ∧ ([.str (wS k.word), .ref b, .ref o, .ref t] : List MV)[n]? = some (.ref j) := by
      rcases hn with rfl | rfl | rfl
      · exact ⟨b, hb, rfl⟩
      · exact ⟨o, ho, rfl⟩
      · exact ⟨t, ht, rfl⟩
    have nj := Nat.ne_of_gt (lt_of_at hj)
    have hcat : ∀ ls : List Line, (cat (fIdx n) done ++ fIdx n k).length ≤ 10000 := fun _ => by
      rw [e0, cat_app, List.length_append] at hlen
      rw [List.length_append]
      refine Nat.le_trans (Nat.add_le_add_left ?_ _) hlen
      show _ ≤ (fIdx n k ++ cat (fIdx n) rest).length
      rw [List.length_append]; exact Nat.le_add_right _ _
    have fe : ∀ (ev : List MV) (i : Nat) (m : MV), (i = i1 ∨ i = i2) → (∀ n, n ≠ i1 → n ≠ i2 → ev[n]? = ev0[n]?) → ∀ n, n ≠ i1 → n ≠ i2 → (ev.set i m)[n]? = ev0[n]? := fun ev i m hi f n a b => by
      rw [List.getElem?_set_ne (by rcases hi with rfl | rfl; exact a.symm; exact b.symm)]; exact f n a b
    refine WPG.name hx (.inl rfl) (gNone (gGen (iSeq (WPE.sub hsub (WPE.name hx (.inl rfl) (List.getElem?_set_self (by rw [e1]; exact hl1)) (by intro q; cases q) hdx (hie _ _ _ (fe _ _ _ (.inl rfl) f1) (sub_tup n rfl (Nat.le_of_ble_eq_true rfl) hjm ⟨qList ?_ (x1 _ _ hj)⟩)))))))
    refine compMap lb (fun as K => ∀ (d2 : List Line) (ev2 : List MV) (H2 : List MObj), fIdx n k = d2 ++ as → ev2.length = ev0.length → (∀ n, n ≠ i1 → n ≠ i2 → ev2[n]? = ev0[n]?) → Ext H0 H2 → H0.length < H2.length → H2[H0.length]? = some (Ls (cat (fIdx n) done ++ d2)) → K ev2 H2)
      (fun as C p d2 ev2 H2 b1 b2 b3 b4 b5 b6 => p _ _ fun K k => k d2 ev2 H2 b1 b2 b3 b4 b5 b6) ?_ ?_ (fun K k => k [] _ _ rfl (by rw [List.length_set]; exact e1) (fe _ _ _ (.inl rfl) f1) x1 l1 (by rw [List.append_nil]; exact h1))
    · intro d2 ev2 H2 g1 g3 g4 g5 g6 g7
      rw [List.append_nil] at g1
      exact ⟨hc _ g5, cc (done ++ [k]) _ _ (by rw [e0, List.append_assoc]; rfl) g3 g4 g5 g6 (at_eq g7 (by rw [← g1, cat_app]; simp [cat]))⟩
    · intro u r2 C2 c2 d2 ev2 H2 g1 g3 g4 g5 g6 g7
      have lz : (cat (fIdx n) done ++ d2).length ≤ 100000 := by
        refine Nat.le_trans ?_ (Nat.le_trans (hcat []) (by decide))
        rw [List.length_append, List.length_append, g1, List.length_append]; exact Nat.add_le_add_left (Nat.le_add_right _ _) _
      refine WPG.name hy (.inl rfl) (gNone (gEmit (WPE.name hy (.inl rfl) (List.getElem?_set_self (by rw [g3]; exact hl2)) (by intro q; cases q) hdy ⟨emL ?_ g7 lz⟩)))
      exact ⟨at_set_ne (g5 _ _ hj) nj, c2 (d2 ++ [u]) _ _ (by rw [g1, List.append_assoc]; rfl) (by rw [List.length_set]; exact g3) (fe _ _ _ (.inr rfl) g4) (g5.set_new (Nat.le_refl _)) (by rw [List.length_set]; exact g6) (at_eq (at_set g6) (by rw [List.append_assoc]))⟩
end
/-! what the law asks of a parted conflict -/
noncomputable def ck0 : Ck := ⟨.both, [], [], []⟩
theorem piecesOk_at : ∀ {ps : List Ck} {w : Option Wd} {i : Nat}, piecesOk w ps = true → i < ps.length → pieceOk (if i = 0 then w else some (ps.getD (i - 1) ck0).word) (ps.getD i ck0) = true
  | [], _, _, _, h => absurd h (Nat.not_lt_zero _)
  | k :: r, w, 0, e, _ => (Bool.and_eq_true_iff.mp e).1
  | k :: r, w, i + 1, e, h => by
    have := piecesOk_at (i := i) (Bool.and_eq_true_iff.mp e).2 (Nat.lt_of_succ_lt_succ h)
    rw [if_neg (Nat.succ_ne_zero i)]
    cases i with
    | zero => exact this
    | succ i => rw [if_neg (Nat.succ_ne_zero i)] at this; exact this
structure PieceP (prev : Option Wd) (k : Ck) : Prop where
  base : k.base = []
  word : k.word = .both ∨ k.word = .conflict
  prev : prev ≠ some k.word
  both : k.word = .both → k.ours = k.theirs ∧ k.ours ≠ []
  conf : k.word = .conflict → k.ours ≠ [] ∨ k.theirs ≠ []
theorem pieceP {prev : Option Wd} {k : Ck} (h : pieceOk prev k = true) : PieceP prev k := by
  unfold pieceOk at h
  simp only [Bool.and_eq_true, Bool.or_eq_true, decide_eq_true_eq] at h
  obtain ⟨⟨⟨⟨h1, h2⟩, h3⟩, h4⟩, h5⟩ := h
  exact ⟨h1, h2, h3, fun e => h4.resolve_left (fun q => q e), fun e => h5.elim (fun q => q.elim (fun q => absurd e q) .inl) .inr⟩
theorem bsum_drop {ps : List Ck} {i : Nat} (h : i < ps.length) : bsum (ps.drop i) = (if (ps.getD i ck0).word = .both then (ps.getD i ck0).ours.length else 0) + bsum (ps.drop (i + 1)) := by rw [drop_getD (z := ck0) h]; rfl
theorem go_f {b : Bool} {X Y : Prop} (h : b = false) (k : Y) : br b X Y := by subst h; exact go_brF k
theorem go_t {b : Bool} {X Y : Prop} (h : b = true) (k : X) : br b X Y := by subst h; exact go_brT k
theorem enuA {vs : List MV} {j : Nat} {H : List MObj} {Q : (List MObj → Prop) → List MV → List MObj → Prop} (h : Q (fun H => H[j]? = some (.list vs)) ((List.range vs.length).map fun (i : Nat) => .tup [.int (i : Int), vs.getD i .undef]) H) (h1 : H[j]? = some (.list vs)) : EnuM [.ref j] H Q := by
  have x := enu (H := H) (Q := Q) id .undef (j := j) (as := vs)
  rw [List.map_id] at x
  exact x h h1
section
variable {B : Bs} {fi : FI} {d : Nat} {ev : List MV} {H : List MObj} {Q : KE}
theorem WPT.midK {e : Expr} {Q : KB} (M : KB → Prop) (h : ∀ K, M K → WPT B fi d e ev H K) (k : M Q) : WPT B fi d e ev H Q := h _ k
theorem isparted_ok {m : MV} {k : Ck} {j : Nat} {vs : List MV} {ps : List Ck} (hk : RCk H m k) (hks : k.small 300) (hj : H[j]? = some (.list vs)) (hv : All2 (RCk H) vs ps) (hs : ∀ p ∈ ps, p.small 300) (hlp : ps.length ≤ 1000) (hp : piecesOk none ps = true ∧ cat (·.ours) ps = k.ours ∧ cat (·.theirs) ps = k.theirs ∧ bsum ps = longS k.ours k.theirs)
    (ret : ∀ H', Ext H H' → Q (.bool true) H') : WPF B (d + 2) (.con (.ref 371)) [m, .ref j] H Q := by
  obtain ⟨c, b, o, t, rfl, hc, hb, ho, ht⟩ := hk
  obtain ⟨s1, s2, s3⟩ := hks
  have l2 : k.ours.length ≤ 1000 := Nat.le_trans s2 (by decide)
  have l3 : k.theirs.length ≤ 1000 := Nat.le_trans s3 (by decide)
  obtain ⟨hp1, hp2, hp3, hp4⟩ := hp
  refine WPF.go fn371 (ie371 _ _) rfl ?_
  repeat array_get_dec
  refine ⟨(by decreasing_trivial_pre_omega), told_comp rfl (by simp [evC]) rfl rfl hv (fun p hp => ⟨Nat.le_trans (hs p hp).1 (by decide), Nat.le_trans (hs p hp).2.1 (by decide), Nat.le_trans (hs p hp).2.2 (by decide)⟩) hlp (fun H' x => x _ _ hj) fun ev' H1 us x1 l1 h1 r1 => ?_⟩
  have lus : us.length ≤ 1000 := by rw [r1.length]; exact hlp
  repeat array_get_dec
  refine enuA ?_ h1
  refine forUp _ (fun i K => ∀ (many : Nat) a1 a2 a3 a4 a5 a6 a7 a8 H2, many + bsum (ps.drop i) = bsum ps → Ext H1 H2 → K [.ref c, .ref j, .ref H.length, .int (many : Nat), a1, a2, a3, a4, a5, a6, a7, a8] H2)
    (fun i C p many a1 a2 a3 a4 a5 a6 a7 a8 H2 b1 b2 => p _ _ fun K k => k many a1 a2 a3 a4 a5 a6 a7 a8 H2 b1 b2) ?_ ?_ (fun K k => k 0 _ _ _ _ _ _ _ _ _ (Nat.zero_add _) (.refl _))
  · intro many a1 a2 a3 a4 a5 a6 a7 a8 H2 e6 x2
    rw [List.drop_of_length_le (Nat.le_of_eq r1.length.symm)] at e6
    have x02 := x1.trans x2
    have g1 := x02 _ _ hc
    have g2 := x02 _ _ hb
    have g3 := x02 _ _ ho
    have g4 := x02 _ _ ht
    have g5 := x2 _ _ h1
    have rr : All2 (RTd H2) us ps := r1.mono fun m a h => (h.ext x2).n.td
    repeat array_get_dec
    refine lIte ?_
    repeat array_get_dec
    refine ⟨(by decreasing_trivial_pre_omega), flat_comp (n := 2) rfl rfl (by simp [evC]) (by simp [evC]) (by decide) rfl rfl (fun _ _ => rfl) (fun _ _ _ _ h => WPE.cInt h) rr (by rw [show fIdx 2 = (·.ours) from rfl, hp2]; exact Nat.le_trans l2 (by decide)) (fun H' x => x _ _ g5) fun ev3 H3 x3 l3' h3 => ?_⟩
    rw [show fIdx 2 = (·.ours) from rfl, hp2] at h3
    have f1 := x3 _ _ g1
    have f2 := x3 _ _ g2
    have f3 := x3 _ _ g3
    have f4 := x3 _ _ g4
    have f5 := x3 _ _ g5
    have zo := lt_of_at g3
    have zt := lt_of_at f4
    repeat array_get_dec
    refine go_br (fun h => absurd rfl h) (fun _ => ?_)
    repeat array_get_dec
    refine ⟨(by decreasing_trivial_pre_omega), flat_comp (n := 3) rfl rfl (by simp [evC]) (by simp [evC]) (by decide) rfl rfl (fun _ _ => rfl) (fun _ _ _ _ h => WPE.cInt h) (rr.mono fun m a h => h.ext x3) (by rw [show fIdx 3 = (·.theirs) from rfl, hp3]; exact Nat.le_trans l3 (by decide)) (fun H' x => x _ _ f5) fun ev4 H4 x4 l4 h4 => ?_⟩
    rw [show fIdx 3 = (·.theirs) from rfl, hp3] at h4
    have d1 := x4 _ _ f1
    have d3 := x4 _ _ f3
    have d4 := x4 _ _ f4
    repeat array_get_dec
    refine go_br (fun h => absurd rfl h) (fun _ => ?_)
    repeat array_get_dec
    refine WPF.vc (longest_ok d3 d4 (Nat.le_trans (Nat.add_le_add s2 s3) (by decide)) fun H5 x5 => ?_)
    repeat array_get_dec
    rw [dc_t (show ((many : Nat) : Int) = ((longS k.ours k.theirs : Nat) : Int) by rw [← hp4, ← e6]; rfl)]
    repeat array_get_dec
    exact ret _ ((x02.trans x3).trans (x4.trans x5))
  · intro i C hi cc many a1 a2 a3 a4 a5 a6 a7 a8 H2 e6 x2
    have hi' : i < ps.length := by rw [← r1.length]; exact hi
    obtain ⟨hm, q1, q2⟩ : ∃ hm, us.getD i .undef = hm ∧ RTm (H.length + 1) H1 hm (ps.getD i ck0) := by
      obtain ⟨m, hm, r⟩ := r1.get (i := i) (a := ps.getD i ck0) (by rw [List.getD_eq_getElem?_getD, List.getElem?_eq_getElem hi']; rfl)
      exact ⟨m, by rw [List.getD_eq_getElem?_getD, hm]; rfl, r⟩
    have P := pieceP (piecesOk_at hp1 hi')
    rw [bsum_drop hi'] at e6
    have hsm : (ps.getD i ck0).small 300 := hs _ (by rw [List.getD_eq_getElem?_getD, List.getElem?_eq_getElem hi']; exact List.getElem_mem _)
    have hprev : i ≠ 0 → ∃ w' x y z, us[i - 1]? = some (.tup [.str (wS w'), .ref x, .ref y, .ref z]) ∧ w' ≠ (ps.getD i ck0).word := fun h0 => by
      obtain ⟨m, hm, _, _, _, rfl, -⟩ := r1.get (i := i - 1) (a := ps.getD (i - 1) ck0) (by rw [List.getD_eq_getElem?_getD, List.getElem?_eq_getElem (Nat.lt_of_le_of_lt (Nat.sub_le _ _) hi')]; rfl)
      exact ⟨_, _, _, _, hm, fun q => P.prev (by rw [if_neg h0, q])⟩
    rw [q1]
    generalize ps.getD i ck0 = p at q2 P e6 hsm hprev
    obtain ⟨w, pb, po, pt⟩ := p
    obtain ⟨P1, P2, -, P4, P5⟩ := P
    dsimp only at P1 P2 P4 P5 e6 hprev
    subst P1
    obtain ⟨tb, to, tt, rfl, ⟨n1, n2, n3, ne⟩, k1, k2, k3⟩ := q2
    obtain ⟨b1, b2, b3⟩ := hsm
    dsimp only at k1 k2 k3 b1 b2 b3
    have c2 : po.length ≤ 1000 := Nat.le_trans b2 (by decide)
    have j1 := x2 _ _ k1
    have j2 := x2 _ _ k2
    have j3 := x2 _ _ k3
    have g5 := x2 _ _ h1
    repeat array_get_dec
    refine lIte ?_
    refine WPT.midK (fun K => ∀ H3, Ext H2 H3 → K false H3) (fun K k => ?_) ?_
    · repeat array_get_dec
      refine go_br (fun h => absurd rfl h) (fun _ => ?_)
      repeat array_get_dec
      refine go_f (by rcases P2 with rfl | rfl <;> rfl) ?_
      repeat array_get_dec
      refine go_br (fun h => ?_) (fun h => ?_)
      · obtain ⟨w', tx, ty, tz, hm, hw⟩ := hprev (Nat.ne_of_gt (Int.ofNat_lt.mp h))
        repeat array_get_dec
        refine sub_at (i - 1) (by lia) (at_app g5) (le_k lus) hm ?_
        repeat array_get_dec
        refine sub_tup 0 rfl (Nat.le_of_ble_eq_true rfl) rfl ?_
        repeat array_get_dec
        refine go_br (fun q => absurd q hw) (fun _ => ?_)
        repeat array_get_dec
        exact k _ (by sizeOf_list_dec)
      · repeat array_get_dec
        exact k _ (by sizeOf_list_dec)
    intro H3 x3
    refine go_brF ?_
    replace j1 := x3 _ _ j1
    replace j2 := x3 _ _ j2
    replace j3 := x3 _ _ j3
    replace g5 := x3 _ _ g5
    repeat array_get_dec
    refine lIte ?_
    refine WPT.midK (fun K => ∀ H4, Ext H3 H4 → K false H4) (fun K k => ?_) ?_
    · have ne' := ne
      rcases P2 with rfl | rfl
      · obtain ⟨e1, e2⟩ := P4 rfl
        repeat array_get_dec
        refine go_br (fun _ => ?_) (fun h => absurd rfl h)
        repeat array_get_dec
        refine go_br (fun h => absurd e1 h) (fun _ => ?_)
        repeat array_get_dec
        refine go_br (fun h => absurd h e2) (fun _ => ?_)
        repeat array_get_dec
        refine go_br (fun h => nomatch h) (fun _ => ?_)
        repeat array_get_dec
        exact k _ (by sizeOf_list_dec)
      · repeat array_get_dec
        refine go_br (fun h => nomatch h) (fun _ => ?_)
        repeat array_get_dec
        refine go_br (fun _ => ?_) (fun h => absurd rfl h)
        repeat array_get_dec
        refine go_br (fun hz => ?_) (fun hz => ?_)
        · repeat array_get_dec
          refine go_br (fun h => absurd h ((P5 rfl).resolve_left (fun q => q hz))) (fun _ => ?_)
          repeat array_get_dec
          exact k _ (by sizeOf_list_dec)
        · repeat array_get_dec
          exact k _ (by sizeOf_list_dec)
    intro H4 x4
    refine go_brF ?_
    replace j2 := x4 _ _ j2
    replace g5 := x4 _ _ g5
    repeat array_get_dec
    refine go_br (fun hz => ?_) (fun hz => ?_)
    · rw [if_pos hz] at e6
      repeat array_get_dec
      exact ⟨(by decreasing_trivial_pre_omega), cc (many + po.length) _ _ _ _ _ _ _ _ _ (by rw [← e6, Nat.add_assoc]) (x2.trans (x3.trans x4))⟩
    · rw [if_neg hz, Nat.zero_add] at e6
      repeat array_get_dec
      rw [Int.add_zero]
      exact ⟨(by decreasing_trivial_pre_omega), cc many _ _ _ _ _ _ _ _ _ e6 (x2.trans (x3.trans x4))⟩
end
section
variable {B : Bs} {d : Nat} {H : List MObj} {Q : KE}
theorem joined_ok {m m2 : MV} {k k2 : Ck} (hk : RCk H m k) (hf : RCk H m2 k2) (h1 : k.base.length + k2.base.length ≤ 100000) (h2 : k.ours.length + k2.ours.length ≤ 100000) (h3 : k.theirs.length + k2.theirs.length ≤ 100000)
    (ret : ∀ H' r, Ext H H' → RC (fun i => H.length ≤ i) H' r ⟨.conflict, k.base ++ k2.base, k.ours ++ k2.ours, k.theirs ++ k2.theirs⟩ → Q r H') : WPF B (d + 3) (.con (.ref 291)) [m, m2] H Q := by
  obtain ⟨c, b, o, t, rfl, hc, hb, ho, ht⟩ := hk
  obtain ⟨c2, b2, o2, t2, rfl, hc2, hb2, ho2, ht2⟩ := hf
  refine WPF.go fn291 (ie291 _ _) rfl ?_
  repeat array_get_dec
  exact ret _ _ (by sizeOf_list_dec) (by sizeOf_list_dec)
end
theorem goC_out {st : Option (Ck × List Ck)} {p : Ck} {r : List Ck} (h1 : isC p = false) (h2 : isSB p = false) : goC st (p :: r) = flatS st ++ p :: goC none r := by
  cases st with
  | none => rw [goC, h1]; rfl
  | some cb => rw [goC, h1, h2]; rfl
theorem goC_sb0 {p : Ck} {r : List Ck} (h1 : isC p = false) : goC none (p :: r) = p :: goC none r := by rw [goC, h1]; rfl
theorem goC_sb1 {p c : Ck} {bs r : List Ck} (h1 : isC p = false) (h2 : isSB p = true) : goC (some (c, bs)) (p :: r) = goC (some (c, bs ++ [p])) r := by rw [goC, h1, h2]; rfl
theorem goC_c0 {p : Ck} {r : List Ck} (h1 : isC p = true) : goC none (p :: r) = goC (some (p, [])) r := by rw [goC, h1]; rfl
theorem goC_c1 {p c : Ck} {bs r : List Ck} (h1 : isC p = true) (h : osum bs ≤ 3) : goC (some (c, bs)) (p :: r) = goC (some (joinC (c :: bs ++ [p]), [])) r := by rw [goC, h1, if_pos rfl, if_pos h]
theorem goC_c2 {p c : Ck} {bs r : List Ck} (h1 : isC p = true) (h : ¬ osum bs ≤ 3) : goC (some (c, bs)) (p :: r) = c :: bs ++ goC (some (p, [])) r := by rw [goC, h1, if_pos rfl, if_neg h]
theorem joinC_one {c : Ck} (h : isC c = true) : joinC [c] = c := by
  obtain ⟨w, a, b, e⟩ := c
  have : w = .conflict := of_decide_eq_true h
  subst this
  simp [joinC, cat]
theorem joinC_snoc (l : List Ck) (k : Ck) : joinC (l ++ [k]) = ⟨.conflict, (joinC l).base ++ k.base, (joinC l).ours ++ k.ours, (joinC l).theirs ++ k.theirs⟩ := by
  simp [joinC, cat_app, cat]
theorem cat_mid {f : Ck → List Line} {l a x b : List Ck} {n : Nat} (h : cat f (a ++ x ++ b) = cat f l) (hl : (cat f l).length ≤ n) : (cat f x).length ≤ n := by
  rw [← h, cat_app, cat_app] at hl; simp only [List.length_append] at hl; lia
noncomputable def lastV (n : Nat) : Option (Ck × List Ck) → MV
  | none => .none
  | some _ => .int (n : Int)
theorem fIdx_join (n : Nat) (l : List Ck) : fIdx n (joinC l) = cat (fIdx n) l := by
  unfold fIdx; split <;> rfl
/-- what is kept while the pieces are closed up -/
structure ClI (ps pre : List Ck) (st : Option (Ck × List Ck)) (rest : List Ck) (many : Nat) : Prop where
  e1 : closS ps = pre ++ goC st rest
  e2 : stOk st
  e3 : pre.length + (flatS st).length + rest.length ≤ ps.length
  e4 : ∀ n, cat (fIdx n) (pre ++ flatS st ++ rest) = cat (fIdx n) ps
  e5 : ∀ c bs, st = some (c, bs) → many = osum bs
section
variable {ps pre rest bs : List Ck} {p c0 : Ck} {st : Option (Ck × List Ck)} {many : Nat}
theorem ClI.start (ps : List Ck) : ClI ps [] none ps 0 := ⟨rfl, trivial, Nat.le_of_eq (by simp [flatS]), fun _ => rfl, fun _ _ h => nomatch h⟩
theorem ClI.out (h : ClI ps pre st (p :: rest) many) (nC : isC p = false) (nS : isSB p = false) (m : Nat) : ClI ps (pre ++ flatS st ++ [p]) none rest m :=
  ⟨by rw [h.e1, goC_out nC nS]; simp, trivial, by have := h.e3; simp only [List.length_append, List.length_cons, List.length_nil, show flatS none = [] from rfl] at this ⊢; lia, fun n => by rw [← h.e4 n]; simp [flatS], fun _ _ h => nomatch h⟩
theorem ClI.sb0 (h : ClI ps pre none (p :: rest) many) (nC : isC p = false) (m : Nat) : ClI ps (pre ++ [p]) none rest m :=
  ⟨by rw [h.e1, goC_sb0 nC]; simp, trivial, by have := h.e3; simp only [List.length_append, List.length_cons, List.length_nil, show flatS none = [] from rfl] at this ⊢; lia, fun n => by rw [← h.e4 n]; simp [flatS], fun _ _ h => nomatch h⟩
theorem ClI.sb1 (h : ClI ps pre (some (c0, bs)) (p :: rest) many) (nC : isC p = false) (yS : isSB p = true) : ClI ps pre (some (c0, bs ++ [p])) rest (many + p.ours.length) :=
  ⟨by rw [h.e1, goC_sb1 nC yS], ⟨h.e2.1, fun x hx => (List.mem_append.mp hx).elim (h.e2.2 x) fun q => List.mem_singleton.mp q ▸ yS⟩, by have := h.e3; simp only [flatS, List.length_append, List.length_cons, List.length_nil] at this ⊢; lia, fun n => by rw [← h.e4 n]; simp [flatS], fun c b q => by cases q; rw [h.e5 c0 bs rfl, osum_app]; rfl⟩
theorem ClI.cN (h : ClI ps pre none (p :: rest) many) (yC : isC p = true) : ClI ps pre (some (p, [])) rest 0 :=
  ⟨by rw [h.e1, goC_c0 yC], ⟨yC, fun _ h => nomatch h⟩, by have := h.e3; simp only [flatS, List.length_cons, List.length_nil] at this ⊢; lia, fun n => by rw [← h.e4 n]; simp [flatS], fun c b q => by cases q; rfl⟩
theorem ClI.c1 (h : ClI ps pre (some (c0, bs)) (p :: rest) many) (yC : isC p = true) (ho : osum bs ≤ 3) : ClI ps pre (some (joinC (c0 :: bs ++ [p]), [])) rest 0 :=
  ⟨by rw [h.e1, goC_c1 yC ho], ⟨rfl, fun _ h => nomatch h⟩, by have := h.e3; simp only [flatS, List.length_cons, List.length_nil] at this ⊢; lia, fun n => by
    rw [← h.e4 n]; simp only [flatS, cat_app, cat, fIdx_join, List.append_assoc, List.append_nil, List.nil_append, List.cons_append], fun c b q => by cases q; rfl⟩
theorem ClI.c2 (h : ClI ps pre (some (c0, bs)) (p :: rest) many) (yC : isC p = true) (ho : ¬osum bs ≤ 3) : ClI ps (pre ++ c0 :: bs) (some (p, [])) rest 0 :=
  ⟨by rw [h.e1, goC_c2 yC ho]; simp, ⟨yC, fun _ h => nomatch h⟩, by have := h.e3; simp only [flatS, List.length_append, List.length_cons, List.length_nil] at this ⊢; lia, fun n => by rw [← h.e4 n]; simp [flatS], fun c b q => by cases q; rfl⟩
theorem ClI.bnd {bd br : List Ck} (h : ClI ps pre (some (c0, bd ++ br)) (p :: rest) many) (hs : ∀ n, (cat (fIdx n) ps).length ≤ 10000) (n : Nat) : (cat (fIdx n) (c0 :: bd)).length ≤ 10000 :=
  cat_mid (a := pre) (b := br ++ p :: rest) (by rw [← h.e4 n]; simp [flatS]) (hs n)
theorem ClI.bndB {bd br : List Ck} {k : Ck} (h : ClI ps pre (some (c0, bd ++ k :: br)) (p :: rest) many) (hs : ∀ n, (cat (fIdx n) ps).length ≤ 10000) (n : Nat) : (fIdx n k).length ≤ 10000 := by
  have := cat_mid (a := pre ++ c0 :: bd) (x := [k]) (b := br ++ p :: rest) (by rw [← h.e4 n]; simp [flatS]) (hs n)
  simpa [cat] using this
theorem ClI.bndP (h : ClI ps pre st (p :: rest) many) (hs : ∀ n, (cat (fIdx n) ps).length ≤ 10000) (n : Nat) : (fIdx n p).length ≤ 10000 := by
  have := cat_mid (a := pre ++ flatS st) (x := [p]) (b := rest) (by rw [← h.e4 n]; simp) (hs n)
  simpa [cat] using this
end
section
variable {B : Bs} {d : Nat} {H : List MObj} {Q : KE}
theorem closeup_ok {j : Nat} {vs : List MV} {ps : List Ck} (hj : H[j]? = some (.list vs)) (hv : All2 (RCk H) vs ps) (hl : ps.length ≤ 1000) (hs : ∀ n, (cat (fIdx n) ps).length ≤ 10000)
    (ret : ∀ H' j' vs', Ext H H' → H.length ≤ j' → H'[j']? = some (.list vs') → All2 (RC (· ≠ j') H') vs' (closS ps) → Q (.ref j') H') : WPF B (d + 5) (.con (.ref 326)) [.ref j] H Q := by
  refine WPF.go fn326 (ie326 _) rfl ?_
  repeat array_get_dec
  refine forAll (fun rest K => ∀ (pre : List Ck) (st : Option (Ck × List Ck)) (jf : Nat) (us : List MV) (many : Nat) a1 a2 a3 a4 a5 a6 a7 a8 H2, ClI ps pre st rest many → Ext H H2 → H.length ≤ jf → H2[jf]? = some (.list us) → All2 (RC (· ≠ jf) H2) us (pre ++ flatS st) →
      K [.ref j, .ref jf, lastV pre.length st, .int (many : Nat), a1, a2, a3, a4, a5, a6, a7, a8] H2)
    (fun as C q pre st jf us many a1 a2 a3 a4 a5 a6 a7 a8 H2 b1 b2 b3 b4 b5 => q _ _ fun K k => k pre st jf us many a1 a2 a3 a4 a5 a6 a7 a8 H2 b1 b2 b3 b4 b5) ?_ ?_ hv (fun K k => k [] none _ [] 0 _ _ _ _ _ _ _ _ _ (ClI.start ps) (by sizeOf_list_dec) (Nat.le_refl _) (at_last _ _) .nil)
  · intro pre st jf us many a1 a2 a3 a4 a5 a6 a7 a8 H2 I x2 l2 h2 r2
    repeat array_get_dec
    refine ret _ jf us x2 l2 h2 ?_
    rw [I.e1]
    cases st with
    | none => exact r2
    | some cb => exact r2
  · intro m p rest C hm cc pre st jf us many a1 a2 a3 a4 a5 a6 a7 a8 H2 I x2 l2 h2 r2
    obtain ⟨c, b, o, t, rfl, hc, hb, ho, ht⟩ := hm
    have g1 := x2 _ _ hc
    have g3 := x2 _ _ ho
    have gj := x2 _ _ hj
    have z1 := lt_of_at h2
    have rp : RC (· ≠ jf) H2 (.ref c) p := ⟨c, b, o, t, rfl, ⟨Nat.ne_of_lt (Nat.lt_of_lt_of_le (lt_of_at hc) l2), Nat.ne_of_lt (Nat.lt_of_lt_of_le (lt_of_at hb) l2), Nat.ne_of_lt (Nat.lt_of_lt_of_le (lt_of_at ho) l2), Nat.ne_of_lt (Nat.lt_of_lt_of_le (lt_of_at ht) l2)⟩, g1, x2 _ _ hb, g3, x2 _ _ ht⟩
    have lus : us.length ≤ 1000 := by rw [r2.length, List.length_append]; exact Nat.le_trans (Nat.le_trans (Nat.le_add_right _ _) I.e3) hl
    have lpo : p.ours.length ≤ 100000 := Nat.le_trans (I.bndP hs 2) (by decide)
    have nj : jf ≠ j := Nat.ne_of_gt (Nat.lt_of_lt_of_le (lt_of_at hj) l2)
    repeat array_get_dec
    refine lIte ?_
    repeat array_get_dec
    refine go_br (fun hw => ?_) (fun hw => ?_)
    · have nC : isC p = false := decide_eq_false hw
      have r2' : All2 (RC (· ≠ jf) (H2.set jf (MObj.list (us ++ [MV.ref c])))) (us ++ [MV.ref c]) ((pre ++ flatS st) ++ [p]) := All2.app (r2.mono fun m a h => h.set) (.cons rp.set .nil)
      have x2' : Ext H (H2.set jf (MObj.list (us ++ [MV.ref c]))) := x2.set_new l2
      repeat array_get_dec
      refine lIte ?_
      repeat array_get_dec
      refine go_brB (fun hz => ?_) (fun hz => ?_)
      · have nS : isSB p = false := by
          unfold isSB
          revert hw hz
          cases p.word <;> decide
        repeat array_get_dec
        exact ⟨(by decreasing_trivial_pre_omega), cc _ none jf _ (many + p.ours.length) _ _ _ _ _ _ _ _ _ (I.out nC nS _) x2' l2 (by decreasing_trivial_pre_omega) (by rw [show flatS none = [] from rfl, List.append_nil]; exact r2')⟩
      · have yS : isSB p = true := by
          unfold isSB
          revert hw hz
          cases p.word <;> decide
        repeat array_get_dec
        cases st with
        | none => exact ⟨(by decreasing_trivial_pre_omega), cc (pre ++ [p]) none jf _ (many + p.ours.length) _ _ _ _ _ _ _ _ _ (I.sb0 nC _) x2' l2 (by decreasing_trivial_pre_omega) (by simpa [flatS] using r2')⟩
        | some cb =>
          obtain ⟨c0, bs⟩ := cb
          exact ⟨(by decreasing_trivial_pre_omega), cc pre (some (c0, bs ++ [p])) jf _ (many + p.ours.length) _ _ _ _ _ _ _ _ _ (I.sb1 nC yS) x2' l2 (by decreasing_trivial_pre_omega) (by simpa [flatS] using r2')⟩
    · have yC : isC p = true := decide_eq_true (Classical.not_not.mp hw)
      cases st with
      | none =>
        rw [show lastV pre.length none = MV.none from rfl]
        rw [show flatS none = [] from rfl, List.append_nil] at r2
        repeat array_get_dec
        refine lIte ?_
        repeat array_get_dec
        refine cmp_isnNN ?_
        repeat array_get_dec
        rw [r2.length]
        exact ⟨(by decreasing_trivial_pre_omega), cc pre (some (p, [])) jf _ 0 _ _ _ _ _ _ _ _ _ (I.cN yC) (x2.set_new l2) l2 (by decreasing_trivial_pre_omega) (All2.app (r2.mono fun m a h => h.set) (.cons rp.set .nil))⟩
      | some cb =>
        obtain ⟨c0, bs⟩ := cb
        rw [show lastV pre.length (some (c0, bs)) = MV.int (pre.length : Nat) from rfl]
        have em := I.e5 c0 bs rfl
        repeat array_get_dec
        refine lIte ?_
        repeat array_get_dec
        refine cmp_isnIN ?_
        repeat array_get_dec
        refine go_br (fun hz => ?_) (fun hz => ?_)
        · have ho3 : osum bs ≤ 3 := em ▸ Int.ofNat_le.mp hz
          obtain ⟨m0, hm0, rm0⟩ := r2.get (show (pre ++ flatS (some (c0, bs)))[pre.length]? = some c0 by simp [flatS])
          obtain ⟨i0, ib0, io0, it0, rfl, -⟩ := id rm0
          have rdr : All2 (RC (· ≠ jf) H2) (sliceM us (some ((pre.length : Int) + 1)) none) bs := by
            have q := r2.drop (pre.length + 1)
            have e : (pre ++ flatS (some (c0, bs))).drop (pre.length + 1) = bs := by
              rw [List.drop_append]; simp [flatS]
            rw [e] at q
            rw [show sliceM us (some ((pre.length : Int) + 1)) none = us.drop (pre.length + 1) from List.take_of_length_le (by rw [List.length_drop]; exact Nat.le_refl _)]
            exact q
          have rtk : All2 (RC (· ≠ jf) H2) (sliceM us none (some (pre.length : Int))) pre := by
            have q := r2.take pre.length
            have e : (pre ++ flatS (some (c0, bs))).take pre.length = pre := by simp [flatS]
            rw [e] at q; exact q
          have ltk : (sliceM us none (some (pre.length : Int))).length ≤ 1000 := by rw [rtk.length]; exact Nat.le_trans (Nat.le_trans (Nat.le_add_right _ _) (Nat.le_trans (Nat.le_add_right _ _) I.e3)) hl
          repeat array_get_dec
          refine sub_at pre.length rfl h2 (le_k lus) hm0 ?_
          repeat array_get_dec
          refine forAll (fun as K => ∀ (bd : List Ck) (w : Nat) (a3 : MV) (H3 : List MObj), bs = bd ++ as → RC (fun i => i ≠ jf) H3 (.ref w) (joinC (c0 :: bd)) → Ext H2 H3 → H3[H2.length]? = some (.list (sliceM us (some ((pre.length : Int) + 1)) none)) →
              K [.ref j, .ref jf, .int (pre.length : Nat), .int (many : Nat), .ref c, .ref w, a3, a4, a5, a6, a7, a8] H3)
            (fun as C q bd w a3 H3 b1 b2 b3 b4 => q _ _ fun K k => k bd w a3 H3 b1 b2 b3 b4) ?_ ?_ rdr (fun K k => k [] i0 _ _ rfl (by rw [joinC_one I.e2.1]; exact rm0.ext (by sizeOf_list_dec)) (by sizeOf_list_dec) (at_last _ _))
          · intro bd w a3 H3 e6 q2 x3 h3
            rw [List.append_nil] at e6
            subst e6
            obtain ⟨iw, wb, wo, wt, ew, -, w1, w2, w3, w4⟩ := id q2
            cases ew
            have k1 := x3 _ _ h2
            have k2 := rp.ext x3
            have I' : ClI ps pre (some (c0, bs ++ [])) (p :: rest) many := by rw [List.append_nil]; exact I
            have y3 := Nat.lt_of_lt_of_le z1 x3.len
            repeat array_get_dec
            refine WPF.vc (joined_ok (q2.ext (Ext.app _ _)).rck (k2.ext (Ext.app _ _)).rck (Nat.le_trans (Nat.add_le_add (I'.bnd hs 1) (I.bndP hs 1)) (by decide)) (Nat.le_trans (Nat.add_le_add (I'.bnd hs 2) (I.bndP hs 2)) (by decide)) (Nat.le_trans (Nat.add_le_add (I'.bnd hs 3) (I.bndP hs 3)) (by decide)) fun H5 r x5 q5 => ?_)
            have hsl := x5 _ _ (at_last H3 (.list (sliceM us none (some (pre.length : Int)))))
            obtain ⟨ir, rb, ro, rt, rfl, -⟩ := id q5
            repeat array_get_dec
            have x25 : Ext H2 H5 := (x3.trans (Ext.app _ _)).trans x5
            refine ⟨(by decreasing_trivial_pre_omega), cc pre (some (joinC (c0 :: bs ++ [p]), [])) _ _ 0 _ _ _ _ _ _ _ _ _ (I.c1 yC ho3) (x2.trans (x25.trans (by sizeOf_list_dec))) ?_ (at_last _ _) (All2.app (rtk.mono fun m a h => ?_) (.cons ?_ .nil))⟩
            · exact Nat.le_trans x2.len (Nat.le_trans x25.len (Nat.le_of_lt (by decreasing_trivial)))
            · exact ((h.mono (P' := (· < H2.length)) (fun i a b => a)).ext (x25.trans (by sizeOf_list_dec))).mono fun i a b => Nat.ne_of_lt (Nat.lt_of_lt_of_le b (Nat.le_trans x25.len (Nat.le_of_lt (by decreasing_trivial))))
            · rw [joinC_snoc]
              exact ((q5.mono (P' := (· < H5.length)) (fun i a b => a)).ext (by sizeOf_list_dec)).mono fun i a b => Nat.ne_of_lt (Nat.lt_trans b (by decreasing_trivial))
          · intro m3 kb br C2 hb3 cc2 bd w a3 H3 e6 q2 x3 h3
            obtain ⟨iw, wb, wo, wt, ew, -, w1, w2, w3, w4⟩ := id q2
            cases ew
            obtain ⟨ib, bb, bo, bt, rfl, -⟩ := id hb3
            have I' : ClI ps pre (some (c0, bd ++ kb :: br)) (p :: rest) many := e6 ▸ I
            repeat array_get_dec
            refine WPF.vc (joined_ok q2.rck (hb3.ext x3).rck (Nat.le_trans (Nat.add_le_add (I'.bnd hs 1) (I'.bndB hs 1)) (by decide)) (Nat.le_trans (Nat.add_le_add (I'.bnd hs 2) (I'.bndB hs 2)) (by decide)) (Nat.le_trans (Nat.add_le_add (I'.bnd hs 3) (I'.bndB hs 3)) (by decide)) fun H5 r x5 q5 => ?_)
            obtain ⟨ir, rb, ro, rt, rfl, -⟩ := id q5
            repeat array_get_dec
            exact ⟨x5 _ _ h3, cc2 (bd ++ [kb]) ir _ _ (by rw [e6, List.append_assoc]; rfl) ((joinC_snoc (c0 :: bd) kb).symm ▸ q5.mono fun i _ h => Nat.ne_of_gt (Nat.lt_of_lt_of_le (Nat.lt_of_lt_of_le z1 x3.len) h)) (x3.trans x5) (x5 _ _ h3)⟩
        · have ho3 : ¬ osum bs ≤ 3 := fun q => hz (by rw [em]; exact Int.ofNat_le.mpr q)
          repeat array_get_dec
          have e7 : us.length = (pre ++ c0 :: bs).length := r2.length
          rw [e7]
          exact ⟨(by decreasing_trivial_pre_omega), cc (pre ++ c0 :: bs) (some (p, [])) jf _ 0 _ _ _ _ _ _ _ _ _ (I.c2 yC ho3) (x2.set_new l2) l2 (by decreasing_trivial_pre_omega) (All2.app (r2.mono fun m a h => h.set) (.cons rp.set .nil))⟩
end
noncomputable def NoM (ks : List Ck) (l : Nat) : Prop := ∀ (a : List Ck) (c c2 : Ck) (bs r : List Ck), ks = a ++ c :: bs ++ c2 :: r → a.length = l → isC c = true → isC c2 = true → (∀ x ∈ bs, isSB x = true) → ¬ osum bs ≤ 3
theorem closS_noM {ks : List Ck} (h : ∀ l, l < ks.length → NoM ks l) : closS ks = ks :=
  closS_still fun a c c2 bs r e h1 h2 h3 => h a.length (by rw [e]; simp only [List.length_append, List.length_cons]; lia) a c c2 bs r e rfl h1 h2 h3
theorem sb_unique : ∀ {bs bs' tail r : List Ck} {c2 : Ck}, bs ++ tail = bs' ++ c2 :: r → (∀ x ∈ bs, isSB x = true) → (∀ x ∈ bs', isSB x = true) → isSB c2 = false → (∀ x t, tail = x :: t → isSB x = false) → bs = bs' ∧ tail = c2 :: r
  | [], [], tail, r, c2, e, _, _, _, _ => ⟨rfl, e⟩
  | [], y :: ys, tail, r, c2, e, _, h2, _, h4 => by
    have := h4 y (ys ++ c2 :: r) e
    rw [h2 y (by simp)] at this; cases this
  | x :: xs, [], tail, r, c2, e, h1, _, h3, _ => by
    simp only [List.cons_append, List.nil_append, List.cons.injEq] at e
    rw [← e.1, h1 x (by simp)] at h3; cases h3
  | x :: xs, y :: ys, tail, r, c2, e, h1, h2, h3, h4 => by
    simp only [List.cons_append, List.cons.injEq] at e
    obtain ⟨a, b⟩ := sb_unique e.2 (fun z hz => h1 z (by simp [hz])) (fun z hz => h2 z (by simp [hz])) h3 h4
    exact ⟨by rw [e.1, a], b⟩
section
variable {B : Bs} {fi : FI} {d : Nat} {ev : List MV} {H : List MObj} {Q : KE} {Qn : KS} {Qr : KE}
noncomputable def kCqN (Qn : KS) (ev : List MV) (i n : Nat) (_ : List MV) (H : List MObj) : Prop := setE ev i (.ref n) (kH Qn H)
noncomputable def kCpN (B : Bs) (fi : FI) (d : Nat) (tg : Expr) (inner : Nat → Inner) (scope : Scope) (ev : List MV) (i : Nat) (Qn : KS) (chk : List MObj → Prop) (items : List MV) (H : List MObj) : Prop := chk (H ++ [.list []]) ∧ CompS B (fiC scope fi) d tg none (inner H.length) chk (kCqN Qn ev i H.length) items (evC scope fi ev) (H ++ [.list []])
theorem CompS.monoE {tg : Expr} {a : Nat} {elt : Expr} {chk : List MObj → Prop} {K K' : KS} {ms : List MV} (k : ∀ ev' H', K ev' H' → K' ev' H') (h : CompS B fi d tg none (emitI B fi d a elt) chk K ms ev H) : CompS B fi d tg none (emitI B fi d a elt) chk K' ms ev H := CompS.mono (fun ev H K K' k h => emitI_mono ev H K K' k h) k h
/-- a name takes a comprehension's list, the stores exchanged -/
theorem lComp {x : Str} {xp pos spos : Pos} {elt tg iter : Expr} {scope : Scope} {i : Nat} (h : WPI B fi d tg iter ev H (kCpN B fi d tg (fun a => emitI B (fiC scope fi) d a elt) scope ev i Qn)) (S : scope.kind = .function ∧ (scope.names.map (·.1)).Nodup ∧ compOk scope fi = true) (hs : ∀ env x, foldedSetIterable iter env x = pure x)
    (hsw : swapsWith (.ListComp elt [⟨tg, iter, [], 0⟩] scope pos) (some (.Name x xp)) spos.line (envN fi) = pure true) (hx : slot fi.ns x = some (i, .local)) : Leaf1 B fi d (.Assign [.Name x xp] (.ListComp elt [⟨tg, iter, [], 0⟩] scope pos) spos) ev H Qn Qr :=
  WP1.asgComp ⟨S.1, S.2.1, S.2.2⟩ hs (fun env hn hk => swapsWith_env hsw env hn hk) hx fun A env Φ g s ok I => wpAny_mono (h A env Φ g s ok I) (fun x s1 h1 => wpAny_mono h1 (fun r s2 ⟨it, g2, H2, Ψ, P, chk, items, a1, a2, a3, a4, a5, a6, a7, a8⟩ => ⟨it, g2, H2, Ψ, P, chk, items, a1, a2, a3, a4, a5, a6, a7, a8.1, CompS.monoE (fun ev' H' q => setE_ok q) a8.2⟩) (fun _ _ h => h)) (fun _ _ h => h)
theorem lens_comp {fi' : FI} {x : Str} {p1 p2 p3 p4 p5 p6 : Pos} {kk i1 : Nat} {ev0 : List MV} {ks : List Ck} {vs : List MV} {H0 : List MObj} {chk : List MObj → Prop}
    (hx : slot fi'.ns x = some (i1, .local)) (hl1 : i1 < ev0.length) (hg : fi'.ns.lookup (Str.ofString "len") = some .globalImplicit) (hdx : ((x == ("__debug__" : Str)) || (x == ("__classdict__" : Str))) = false)
    (hv : All2 (RTd H0) vs ks) (hlen : ks.length ≤ 1000) (hs : ∀ k ∈ ks, k.ours.length ≤ 1000) (hc : ∀ H', Ext H0 H' → chk H')
    (hQ : ∀ ev' H', Ext H0 H' → H0.length < H'.length → H'[H0.length]? = some (.list ((ks.map fun k => ((k.ours.length : Nat) : Int)).map .int)) → Qn ev' H') :
    CompS B fi' d (.Name x p1) none (emitI B fi' d H0.length (.Call (.Name (Str.ofString "len") p2) [.Subscript (.Name x p3) (.Constant (.int 2) kk p4) p5] [] p6)) chk Qn vs ev0 (H0 ++ [.list []]) := by
  refine compAll (fun as K => ∀ (done : List Ck) (ev : List MV) (H1 : List MObj), ks = done ++ as → ev.length = ev0.length → Ext H0 H1 → H0.length < H1.length → H1[H0.length]? = some (.list ((done.map fun k => ((k.ours.length : Nat) : Int)).map .int)) → K ev H1)
    (fun as C p done ev H1 b1 b2 b3 b4 b5 => p _ _ fun K k => k done ev H1 b1 b2 b3 b4 b5) ?_ ?_ hv (fun K k => k [] _ _ rfl rfl (Ext.app _ _) ltS (at_last _ _))
  · intro done ev H1 e0 e1 x1 l1 h1
    rw [List.append_nil] at e0
    exact hQ _ _ x1 l1 (e0 ▸ h1)
  · intro m k rest C hm cc done ev H1 e0 e1 x1 l1 h1
    obtain ⟨b, o, t, rfl, hb, ho, ht⟩ := hm
    have le : ((done.map fun k => ((k.ours.length : Nat) : Int)).map MV.int).length ≤ 1000 := by rw [List.length_map, List.length_map]; rw [e0, List.length_append] at hlen; exact Nat.le_trans (Nat.le_add_right _ _) hlen
    have hk : k.ours.length ≤ 1000 := hs k (by rw [e0]; simp)
    refine WPG.name hx (.inl rfl) (gNone (gEmit (WPE.call (fun _ => rfl) (fun _ => rfl) (gl_len hg ⟨rfl, WPEs.cons (fun _ => rfl) (WPE.sub (fun _ _ => rfl) (WPE.name hx (.inl rfl) (List.getElem?_set_self (by rw [e1]; exact hl1)) (by intro q; cases q) hdx (WPE.cInt (sub_tup 2 rfl (Nat.le_of_ble_eq_true rfl) rfl (WPEs.nil (vLenL ⟨emA ?_ h1 (le_k le)⟩ (x1 _ _ ho) (le_k hk)))))))⟩))))
    exact ⟨hc _ (x1.set_new (Nat.le_refl _)), cc (done ++ [k]) _ _ (by rw [e0, List.append_assoc]; rfl) (by rw [List.length_set]; exact e1) (x1.set_new (Nat.le_refl _)) (by rw [List.length_set]; exact l1) (at_eq (at_set l1) (by rw [List.map_append, List.map_append]; rfl))⟩
end
theorem sum_osum : ∀ (ks : List Ck), (ks.map fun k => ((k.ours.length : Nat) : Int)).sum = ((osum ks : Nat) : Int)
  | [] => rfl
  | k :: r => by
    rw [List.map_cons, List.sum_cons, sum_osum r]; show _ = ((k.ours.length + osum r : Nat) : Int); push_cast; rfl
theorem NoM_un {ks pre rest a r bs : List Ck} {c0 c c2 : Ck} (dec : ks = pre ++ c0 :: rest) (e : ks = a ++ c :: bs ++ c2 :: r) (ha : a.length = pre.length) : c = c0 ∧ rest = bs ++ c2 :: r := by
  rw [dec, List.append_assoc] at e
  obtain ⟨q1, q2⟩ := List.append_inj e ha.symm
  simp only [List.cons_append, List.cons.injEq] at q2
  exact ⟨q2.1.symm, q2.2⟩
theorem NoM_notC {ks pre rest : List Ck} {c0 : Ck} (dec : ks = pre ++ c0 :: rest) (h : isC c0 = false) : NoM ks pre.length := fun a c c2 bs r e h1 h2 _ _ => by
  obtain ⟨rfl, -⟩ := NoM_un dec e h1
  rw [h] at h2; cases h2
theorem NoM_of {ks pre bs tail : List Ck} {c0 : Ck} (dec : ks = pre ++ c0 :: (bs ++ tail)) (hb : ∀ x ∈ bs, isSB x = true) (ht : ∀ x t, tail = x :: t → isSB x = false) (h : ∀ c2 r, tail = c2 :: r → isC c2 = true → ¬osum bs ≤ 3) : NoM ks pre.length := fun a c c2 bs' r e h1 _ h3 h4 => by
  obtain ⟨rfl, e'⟩ := NoM_un dec e h1
  have nS : isSB c2 = false := by
    cases hh : isSB c2 with
    | false => rfl
    | true => rw [isSB_notC hh] at h3; cases h3
  obtain ⟨rfl, q⟩ := sb_unique e' hb h4 nS ht
  exact h _ _ q h3
theorem NoM_succ {ks : List Ck} {low : Nat} (h : ∀ l, l < low → NoM ks l) (h' : NoM ks low) : ∀ l, l < low + 1 → NoM ks l := fun l hl => (Nat.eq_or_lt_of_le (Nat.le_of_lt_succ hl)).elim (fun q => q ▸ h') (h l)
theorem at_mid {ks pre bs tail : List Ck} {c0 x : Ck} (dec : ks = pre ++ c0 :: (bs ++ x :: tail)) : ks[pre.length + 1 + bs.length]? = some x := by
  rw [dec, List.getElem?_append_right (by lia), show pre.length + 1 + bs.length - pre.length = bs.length + 1 from by lia, List.getElem?_cons_succ, List.getElem?_append_right (Nat.le_refl _), Nat.sub_self]; rfl
theorem len_mid {ks pre bs tail : List Ck} {c0 : Ck} (dec : ks = pre ++ c0 :: (bs ++ tail)) : ks.length = pre.length + 1 + bs.length + tail.length := by
  rw [dec]; simp only [List.length_append, List.length_cons]; lia
theorem split_at {ks : List Ck} {low : Nat} (h : low < ks.length) : ∃ pre c0 rest, ks = pre ++ c0 :: rest ∧ pre.length = low ∧ ks[low]? = some c0 :=
  ⟨ks.take low, ks[low], ks.drop (low + 1), by rw [List.getElem_cons_drop h, List.take_append_drop], by rw [List.length_take]; exact Nat.min_eq_left (Nat.le_of_lt h), List.getElem?_eq_getElem h⟩
theorem sliceM_nn {vs : List MV} {n m : Nat} : sliceM vs (some (n : Int)) (some (m : Int)) = (vs.drop n).take (m - n) := rfl
theorem sliceM_n {vs : List MV} {n : Nat} : sliceM vs (some (n : Int)) none = vs.drop n := List.take_of_length_le (by rw [List.length_drop]; exact Nat.le_refl _)
theorem sliceM_z {vs : List MV} {n : Nat} : sliceM vs none (some (n : Int)) = vs.take n := rfl
noncomputable def ClosedS (B : Bs) (n : Nat) : Prop := ∀ (d : Nat) (H : List MObj) (j : Nat) (vs : List MV) (ks : List Ck) (Q : KE), ks.length ≤ n → n ≤ 1000 → H[j]? = some (.list vs) → All2 (RTd H) vs ks → (∀ m, (cat (fIdx m) ks).length ≤ 1000) →
  (∀ H' j' vs', Ext H H' → H'[j']? = some (.list vs') → All2 (RTd H') vs' (closS ks) → Q (.ref j') H') → WPF B (d + n + 1) (.con (.ref 383)) [.ref j] H Q
theorem closed_step {B : Bs} {n : Nat} (ih : ∀ m, n = m + 1 → ClosedS B m) : ClosedS B n := by
  intro d H j vs ks Q hn hn1 hj hv hb ret
  have lvs : vs.length ≤ 1000 := by rw [hv.length]; exact Nat.le_trans hn hn1
  refine WPF.go fn383 (ie383 _) rfl ?_
  repeat array_get_dec
  refine rng1 ?_ (Nat.le_trans lvs (by decide))
  refine forUp _ (fun low K => ∀ a1 a2 a3 a4 H2, (∀ l, l < low → NoM ks l) → Ext H H2 → K [.ref j, a1, a2, a3, a4, .undef, .undef, .undef, .undef] H2)
    (fun i C p a1 a2 a3 a4 H2 b1 b2 => p _ _ fun K k => k a1 a2 a3 a4 H2 b1 b2) ?_ ?_ (fun K k => k _ _ _ _ _ (fun l h => absurd h (Nat.not_lt_zero l)) (.refl _))
  · intro a1 a2 a3 a4 H2 e3 x2
    repeat array_get_dec
    exact ret _ _ vs x2 (x2 _ _ hj) (by rw [closS_noM fun l hl => e3 l (by rw [hv.length]; exact hl)]; exact hv.mono fun m a h => h.ext x2)
  · intro low C hlow cc a1 a2 a3 a4 H2 e3 x2
    rw [hv.length] at hlow
    obtain ⟨pre, c0, rest, dec, rfl, hc0⟩ := split_at hlow
    obtain ⟨m0, hm0, rm0⟩ := hv.get hc0
    obtain ⟨b0, o0, t0, rfl, f1, f2, f3⟩ := id rm0
    have gj := x2 _ _ hj
    have next : NoM ks pre.length → ∀ b1 b2 b3 b4 H3, Ext H H3 → True ∧ C [.ref j, b1, b2, b3, b4, .undef, .undef, .undef, .undef] H3 := fun hno b1 b2 b3 b4 H3 x3 => ⟨trivial, cc _ _ _ _ _ (NoM_succ e3 hno) x3⟩
    repeat array_get_dec
    refine lIte ?_
    repeat array_get_dec
    refine sub_at pre.length rfl gj (le_k lvs) hm0 ?_
    repeat array_get_dec
    refine sub_tup 0 rfl (Nat.le_of_ble_eq_true rfl) rfl ?_
    repeat array_get_dec
    refine go_br (fun hw => ?_) (fun hw => ?_)
    rotate_left
    · repeat array_get_dec
      exact next (NoM_notC dec (decide_eq_false hw)) _ _ _ _ _ x2
    have yC0 : isC c0 = true := decide_eq_true hw
    repeat array_get_dec
    refine Leaf1.midK (fun K => ∀ bs tail, rest = bs ++ tail → (∀ x ∈ bs, isSB x = true) → (∀ x t, tail = x :: t → isSB x = false) → K [.ref j, .int (pre.length : Nat), .int ((pre.length + 1 + bs.length : Nat) : Int), a3, a4, .undef, .undef, .undef, .undef] H2) (fun K k => ?_) ?_
    · refine WP1.whl (fun n K => ∀ bs tail, rest = bs ++ tail → (∀ x ∈ bs, isSB x = true) → n = tail.length → K [.ref j, .int (pre.length : Nat), .int ((pre.length + 1 + bs.length : Nat) : Int), a3, a4, .undef, .undef, .undef, .undef] H2) rest.length
        (fun K k => k [] rest rfl (fun x h => nomatch h) rfl) (fun n C p bs tail b1 b2 b3 => p _ _ fun K k => k bs tail b1 b2 b3) fun n C cc bs tail e4 e5 e6 => ?_
      rw [e4] at dec
      have lks := len_mid dec
      repeat array_get_dec
      refine go_br (fun h => ?_) (fun h => ?_)
      · cases tail with
        | nil => exact absurd (Int.ofNat_lt.mp h) (by rw [hv.length, lks]; exact Nat.lt_irrefl _)
        | cons x tail =>
        obtain ⟨mx, hmx, rx⟩ := hv.get (at_mid dec)
        obtain ⟨xb, xo, xt, rfl, -⟩ := id rx
        repeat array_get_dec
        refine sub_at (pre.length + 1 + bs.length) rfl gj (le_k lvs) hmx ?_
        repeat array_get_dec
        refine sub_tup 0 rfl (Nat.le_of_ble_eq_true rfl) rfl ?_
        repeat array_get_dec
        refine go_brB (fun hz => ?_) (fun hz => ?_)
        · repeat array_get_dec
          rw [show ((pre.length + 1 + bs.length : Nat) : Int) + 1 = ((pre.length + 1 + (bs ++ [x]).length : Nat) : Int) by rw [List.length_append]; rfl]
          refine cc tail.length (by rw [e6]; exact Nat.lt_succ_self _) (bs ++ [x]) tail (by rw [e4, List.append_assoc]; rfl) ?_ rfl
          intro y hy
          rcases List.mem_append.mp hy with hy | hy
          · exact e5 y hy
          · rw [List.mem_singleton.mp hy]
            unfold isSB; revert hz; cases x.word <;> decide
        · repeat array_get_dec
          refine k bs (x :: tail) e4 e5 ?_
          rintro y t h
          injection h with h1 h2
          subst h1
          unfold isSB; revert hz; cases x.word <;> decide
      · repeat array_get_dec
        refine k bs tail e4 e5 ?_
        rintro y t rfl
        exact absurd (Int.ofNat_lt.mpr (by rw [hv.length, lks]; simp only [List.length_cons]; lia)) h
    intro bs tail e4 e5 e6
    rw [e4] at dec
    have noM := NoM_of dec e5 e6
    have lks := len_mid dec
    have rbs : All2 (RTd H) ((vs.drop (pre.length + 1)).take (pre.length + 1 + bs.length - (pre.length + 1))) bs := by
      have q := (hv.drop (pre.length + 1)).take bs.length
      rw [show (ks.drop (pre.length + 1)).take bs.length = bs by rw [dec, List.drop_append, List.drop_of_length_le (Nat.le_succ _), Nat.add_sub_cancel_left]; simp] at q
      rw [Nat.add_sub_cancel_left]; exact q
    have lbs : bs.length ≤ 1000 := Nat.le_trans (by lia) (Nat.le_trans hn hn1)
    have bb : ∀ k ∈ bs, k.ours.length ≤ 1000 := fun k hk => by
      obtain ⟨u, v, rfl⟩ := List.append_of_mem hk
      have := cat_mid (f := fIdx 2) (l := ks) (a := pre ++ c0 :: u) (x := [k]) (b := v ++ tail) (by rw [dec]; simp) (hb 2)
      simpa [cat, fIdx] using this
    repeat array_get_dec
    refine ⟨(by decreasing_trivial_pre_omega), lens_comp rfl (by simp [evC]) rfl rfl (rbs.mono fun m a h => h.ext (x2.trans (Ext.app _ _))) lbs bb (fun H' x => x _ _ (at_last _ _)) fun ev4 H4 x4 l4 h4 => ?_⟩
    have gj4 := x4 _ _ (at_app gj)
    have x04 : Ext H H4 := (x2.trans (Ext.app _ _)).trans x4
    repeat array_get_dec
    refine WPV.sum h4 ?_
    rw [sum_osum]
    repeat array_get_dec
    refine lIte ?_
    repeat array_get_dec
    refine go_br (fun h => ?_) (fun h => ?_)
    rotate_left
    · repeat array_get_dec
      refine next (noM fun c2 r q _ => ?_) _ _ _ _ _ x04
      subst q
      exact absurd (Int.ofNat_lt.mpr (by rw [hv.length, lks]; simp only [List.length_cons]; lia)) h
    cases tail with
    | nil => exact absurd (Int.ofNat_lt.mp h) (by rw [hv.length, lks]; exact Nat.lt_irrefl _)
    | cons x t =>
    obtain ⟨mx, hmx, rx⟩ := hv.get (at_mid dec)
    obtain ⟨xb, xo, xt, rfl, -⟩ := id rx
    repeat array_get_dec
    refine sub_at (pre.length + 1 + bs.length) rfl gj4 (le_k lvs) hmx ?_
    repeat array_get_dec
    refine sub_tup 0 rfl (Nat.le_of_ble_eq_true rfl) rfl ?_
    repeat array_get_dec
    refine go_br (fun hz => ?_) (fun hz => ?_)
    rotate_left
    · repeat array_get_dec
      refine next (noM fun c2 r q hc2 => ?_) _ _ _ _ _ x04
      injection q with q1 q2
      subst q1
      exact absurd (of_decide_eq_true hc2) hz
    repeat array_get_dec
    refine go_br (fun h3 => ?_) (fun h3 => ?_)
    rotate_left
    · repeat array_get_dec
      refine next (noM fun c2 r q hc2 => ?_) _ _ _ _ _ x04
      exact fun q => h3 (Int.ofNat_lt.mpr (Nat.lt_succ_of_le q))
    have yCx : isC x = true := decide_eq_true hz
    have o3 : osum bs ≤ 3 := Nat.le_of_lt_succ (Int.ofNat_lt.mp h3)
    clear next noM e3 e6 h3
    have eL : ks = pre ++ (c0 :: bs ++ [x]) ++ t := by rw [dec]; simp
    have bL : ∀ m, (cat (fIdx m) (c0 :: bs ++ [x])).length ≤ 1000 := fun m => cat_mid (by rw [← eL]) (hb m)
    have rL : All2 (RTd H) ((vs.drop pre.length).take (bs.length + 2)) (c0 :: bs ++ [x]) := by
      have q := (hv.drop pre.length).take (bs.length + 2)
      rw [show (ks.drop pre.length).take (bs.length + 2) = c0 :: bs ++ [x] by rw [eL, List.append_assoc, List.drop_left, List.take_left' (by simp)]] at q
      exact q
    have kS1 : closS ks = closS (pre ++ joinC (c0 :: bs ++ [x]) :: t) := by
      rw [← closS_step (a := pre) (r := t) yC0 yCx e5 o3, eL]; simp
    have lLL : (c0 :: bs ++ [x]).length = bs.length + 2 := by simp
    generalize c0 :: bs ++ [x] = LL at eL bL rL kS1 lLL
    repeat array_get_dec
    (focus ((with_reducible refine' lComp ?_ ?_ ?_ ?_ ?_); rotate_right 4; exact ⟨rfl, by decide, rfl⟩; exact fun _ _ => rfl; exact rfl; exact rfl))
    repeat array_get_dec
    refine ⟨trivial, compMap (fun i : Nat => MV.int (i : Int)) (as := [1, 2, 3]) (fun as K => ∀ (rs : List MV) (w : MV) (H5 : List MObj), as = [1, 2, 3].drop rs.length → rs.length ≤ 3 → Ext H4 H5 → H4.length < H5.length → H5[H4.length]? = some (.list rs) →
        (∀ q, q < rs.length → ∃ r, rs[q]? = some (.ref r) ∧ H4.length < r ∧ H5[r]? = some (Ls (cat (fIdx (q + 1)) LL))) → K [.undef, w, .int ((pre.length + 1 + bs.length : Nat) : Int), .int (pre.length : Nat), .ref j] H5)
      (fun as C p rs w H5 b1 b2 b3 b4 b5 b6 => p _ _ fun K k => k rs w H5 b1 b2 b3 b4 b5 b6) ?_ ?_ (fun K k => k [] _ _ rfl (Nat.zero_le _) (by sizeOf_list_dec) ltS (at_last _ _) (fun q h => absurd h (Nat.not_lt_zero q)))⟩
    · intro rs w H5 e7 e8 x5 l5 h5 e9
      have e3 : rs.length = 3 := by
        rcases Nat.lt_or_ge rs.length 3 with h | h
        · have q := congrArg List.length e7; rw [List.length_drop] at q; exact absurd q.symm (Nat.ne_of_gt (Nat.sub_pos_of_lt h))
        · exact Nat.le_antisymm e8 h
      rw [e3] at e9
      obtain ⟨r1, hr1, lr1, k1⟩ := e9 0 (by decide)
      obtain ⟨r2, hr2, lr2, k2⟩ := e9 1 (by decide)
      obtain ⟨r3, hr3, lr3, k3⟩ := e9 2 (by decide)
      have gj5 := x5 _ _ gj4
      have le3 : rs.length ≤ 100000 := by rw [e3]; decide
      have lk' : pre.length + 1 + bs.length + 1 ≤ ks.length := by rw [lks]; simp only [List.length_cons]; lia
      have lk : (pre.length + 1 + bs.length + 1) ≤ 1000 := by rw [← hv.length] at lks; simp only [List.length_cons] at lks; lia
      repeat array_get_dec
      rw [sliceM_z]
      refine sub_at 0 rfl (at_app h5) le3 hr1 ?_
      repeat array_get_dec
      refine sub_at 1 rfl (at_app h5) le3 hr2 ?_
      repeat array_get_dec
      refine sub_at 2 rfl (at_app h5) le3 hr3 ?_
      have lt1 : (vs.take pre.length).length ≤ 1000 := by rw [List.length_take]; lia
      have lt2 : (vs.drop (pre.length + 1 + bs.length + 1)).length ≤ 1000 := by rw [List.length_drop]; lia
      repeat array_get_dec
      rw [show ((pre.length + 1 + bs.length : Nat) : Int) + 1 = ((pre.length + 1 + bs.length + 1 : Nat) : Int) from rfl, sliceM_n]
      repeat array_get_dec
      have rA := hv.take pre.length
      have rB := hv.drop (pre.length + 1 + bs.length + 1)
      rw [show ks.take pre.length = pre by rw [eL, List.append_assoc, List.take_left]] at rA
      rw [show ks.drop (pre.length + 1 + bs.length + 1) = t by rw [eL, List.drop_left' (by rw [List.length_append, lLL]; lia)]] at rB
      cases n with
      | zero => exact absurd (Nat.le_trans lk' hn) (Nat.not_succ_le_zero _)
      | succ m =>
      refine WPF.vc (ih m rfl d _ _ _ (pre ++ joinC LL :: t) _ ?_ (Nat.le_of_succ_le hn1) (at_last _ _) ?_ ?_ (fun H7 j7 vs7 x7 h7 r7 => ?_))
      · have q := hn
        rw [lks] at q; simp only [List.length_append, List.length_cons] at q ⊢; lia
      · rw [show pre ++ joinC LL :: t = pre ++ [joinC LL] ++ t by rw [List.append_assoc]; rfl]
        refine All2.app (All2.app (rA.mono ?_) (All2.cons ?_ .nil)) (rB.mono ?_)
        · exact fun m a h => h.ext (x04.trans (x5.trans (by sizeOf_list_dec)))
        rotate_left
        · exact fun m a h => h.ext (x04.trans (x5.trans (by sizeOf_list_dec)))
        exact ⟨r1, r2, r3, rfl, ((by sizeOf_list_dec) : Ext H5 _) _ _ k1, ((by sizeOf_list_dec) : Ext H5 _) _ _ k2, ((by sizeOf_list_dec) : Ext H5 _) _ _ k3⟩
      · intro m
        rw [show cat (fIdx m) (pre ++ joinC LL :: t) = cat (fIdx m) ks by rw [eL]; simp only [cat_app, cat, fIdx_join, List.append_assoc]]
        exact hb m
      · repeat array_get_dec
        exact ret _ _ _ ((x04.trans x5).trans (Ext.trans (by sizeOf_list_dec) x7)) h7 (kS1 ▸ r7)
    · intro i rest' C2 cc2 rs w H5 e7 e8 x5 l5 h5 e9
      have ei : rs.length < 3 ∧ i = rs.length + 1 ∧ rest' = [1, 2, 3].drop (rs.length + 1) := by
        revert e7
        rcases rs with _ | ⟨_, _ | ⟨_, _ | ⟨_, rs⟩⟩⟩
        · intro q; cases q; exact ⟨by simp, rfl, rfl⟩
        · intro q; cases q; exact ⟨by simp, rfl, rfl⟩
        · intro q; cases q; exact ⟨by simp, rfl, rfl⟩
        · intro q; rw [List.drop_of_length_le (by simp)] at q; cases q
      obtain ⟨i3, rfl, rfl⟩ := ei
      have gj5 := x5 _ _ gj4
      repeat array_get_dec
      rw [show ((pre.length + 1 + bs.length : Nat) : Int) + 1 = ((pre.length + 1 + bs.length + 1 : Nat) : Int) from rfl, sliceM_nn, show pre.length + 1 + bs.length + 1 - pre.length = bs.length + 2 by lia]
      refine ⟨(by decreasing_trivial_pre_omega), flat_comp (n := rs.length + 1) rfl rfl (Nat.le_of_ble_eq_true rfl) (Nat.le_of_ble_eq_true rfl) (by lia) rfl rfl ?_ ?_ (rL.mono fun m a h => h.ext ((x04.trans x5).trans (Ext.app _ _))) (Nat.le_trans (bL _) (by decide)) (fun H' x => x _ _ (at_last _ _)) ?_⟩
      · exact fun _ _ => rfl
      · intro ev' H' Q he h
        exact WPE.name (i := 3) (k := .cell) rfl (.inr (.inl rfl)) (by rw [he 3 (by decide) (by decide)]; rfl) (by intro q; cases q) rfl h
      · intro ev6 H6 x6 l6 h6
        have h56 := x6 _ _ (at_app h5)
        repeat array_get_dec
        have z6 := lt_of_at h56
        have x56 : Ext H5 H6 := (Ext.app _ _).trans x6
        rw [show (H5 ++ [MObj.list (List.take (bs.length + 2) (List.drop pre.length vs))]).length = H5.length + 1 from List.length_append] at h6 ⊢
        refine ⟨trivial, cc2 (rs ++ [.ref (H5.length + 1)]) _ _ (by rw [List.length_append]; rfl) (by rw [List.length_append]; exact i3) ((x5.trans x56).set_new (Nat.le_refl _)) (by rw [List.length_set]; exact z6) (at_set z6) ?_⟩
        intro q hq
        rw [List.length_append] at hq
        rcases Nat.eq_or_lt_of_le (Nat.le_of_lt_succ hq) with rfl | h
        · exact ⟨_, by rw [List.getElem?_append_right (Nat.le_refl _), Nat.sub_self]; rfl, Nat.lt_succ_of_lt l5, at_set_ne h6 (Nat.ne_of_lt (Nat.lt_succ_of_lt l5))⟩
        · obtain ⟨r, k1, k2, k3⟩ := e9 q h
          exact ⟨r, by rw [List.getElem?_append_left h]; exact k1, k2, at_set_ne (x56 _ _ k3) (Nat.ne_of_lt k2)⟩
theorem closed_ok {B : Bs} : ∀ n, ClosedS B n
  | 0 => closed_step (fun m h => nomatch h)
  | n + 1 => closed_step (fun m h => by cases h; exact closed_ok n)
noncomputable def gS (g : Ck → List Ck) (ks : List Ck) : List Ck := ks.flatMap fun k => if k.word ≠ .conflict then [k] else g k
noncomputable def parD (k : Ck) : List Ck := (parS k).getD []
noncomputable def zdS : List Ck → List Ck := gS trimS
noncomputable def ptS : List Ck → List Ck := gS parD
theorem gS_app {g : Ck → List Ck} {a b : List Ck} : gS g (a ++ b) = gS g a ++ gS g b := List.flatMap_append
theorem gS_one {g : Ck → List Ck} {k : Ck} : gS g [k] = if k.word ≠ .conflict then [k] else g k := List.append_nil _
theorem All2.self {α : Type} {R : MV → α → Prop} {vs : List MV} {ks : List α} (h : All2 R vs ks) : All2 (fun m (a : MV) => m = a ∧ ∃ k, R m k) vs vs := by
  induction h with
  | nil => exact .nil
  | cons x _ ih => exact .cons ⟨rfl, _, x⟩ ih
section
variable {B : Bs} {d : Nat} {H : List MObj} {Q : KE}
theorem cmp_strin {a : Str} {vs : List MV} {ss : List Str} {r : Bool} {P : Bool → Prop} (h1 : vs = ss.map .str) (h2 : ss.any (· == a) = r) (h : P r) : cmpM .In (.str a) (.tup vs) H P := h1 ▸ cmp_inS (by rw [h2]; exact h)
theorem pieces_diff {j : Nat} {vs : List MV} {ks : List Ck} (hj : H[j]? = some (.list vs)) (hv : All2 (RCk H) vs ks) (hl : ks.length ≤ 1000)
    (ret : ∀ H' j', Ext H H' → H.length ≤ j' → H'[j']? = some (.list vs) → Q (.ref j') H') : WPF B (d + 1) (.con (.ref 333)) [.ref j, .str (Str.ofString "diff3"), .str (Str.ofString "myers")] H Q := by
  rw [← hv.length] at hl
  refine WPF.go fn333 (ie333 _ _ _) rfl ?_
  repeat array_get_dec
  refine forAll (fun rest K => ∀ (done : List MV) a1 a2 a3 a4 a5 H2, vs = done ++ rest → Ext H H2 → H2[H.length]? = some (.list done) → K [.ref j, .str (Str.ofString "diff3"), .str (Str.ofString "myers"), .ref H.length, a1, a2, a3, a4, a5] H2)
    (fun as C p done a1 a2 a3 a4 a5 H2 b1 b2 b3 => p _ _ fun K k => k done a1 a2 a3 a4 a5 H2 b1 b2 b3) ?_ ?_ hv.self (fun K k => k [] _ _ _ _ _ _ rfl (by sizeOf_list_dec) (at_last _ _))
  · intro done a1 a2 a3 a4 a5 H2 e1 x2 h2
    rw [List.append_nil] at e1
    repeat array_get_dec
    refine cmp_strin (ss := [Str.ofString "diff3", Str.ofString "zdiff3"]) (r := true) rfl rfl ?_
    repeat array_get_dec
    exact ret _ _ x2 (Nat.le_refl _) (e1 ▸ h2)
  · rintro m k rest C ⟨rfl, k, c, b, o, t, rfl, hc, -⟩ cc done a1 a2 a3 a4 a5 H2 e1 x2 h2
    have g1 := x2 _ _ hc
    have gj := x2 _ _ hj
    have zj := lt_of_at hj
    have ld : done.length ≤ 1000 := by rw [e1, List.length_append] at hl; exact Nat.le_trans (Nat.le_add_right _ _) hl
    repeat array_get_dec
    refine lIte ?_
    refine WPT.midK (fun K => K true H2) (fun K k => ?_) ?_
    · repeat array_get_dec
      refine go_br (fun h => ?_) (fun h => ?_)
      · repeat array_get_dec
        exact k
      · repeat array_get_dec
        refine cmp_streq (r := true) rfl ?_
        repeat array_get_dec
        exact k
    repeat array_get_dec
    exact ⟨(by decreasing_trivial_pre_omega), cc (done ++ [.ref c]) _ _ _ _ _ _ (by rw [e1, List.append_assoc]; rfl) (by sizeOf_list_dec) (by decreasing_trivial_pre_omega)⟩
theorem RCk.rc {H H' : List MObj} {m : MV} {k : Ck} (h : RCk H m k) (x : Ext H H') : RC (· < H.length) H' m k := by
  obtain ⟨c, b, o, t, e, h1, h2, h3, h4⟩ := h
  exact ⟨c, b, o, t, e, ⟨lt_of_at h1, lt_of_at h2, lt_of_at h3, lt_of_at h4⟩, x _ _ h1, x _ _ h2, x _ _ h3, x _ _ h4⟩
theorem gS_step {g : Ck → List Ck} {ks done rest : List Ck} {p : Ck} {n : Nat} (e : ks = done ++ p :: rest) (h : (gS g ks).length ≤ n) : (gS g done).length + (gS g [p]).length ≤ n := by
  rw [e, show done ++ p :: rest = done ++ [p] ++ rest by rw [List.append_assoc]; rfl, gS_app, gS_app, List.length_append, List.length_append] at h
  exact Nat.le_trans (Nat.le_add_right _ _) h
theorem pieces_g {j : Nat} {st : Str} {g : Ck → List Ck} {vs : List MV} {ks : List Ck} (hst : (st = Str.ofString "zdiff3" ∧ g = trimS) ∨ (st = Str.ofString "merge" ∧ g = parD ∧ ∀ k ∈ ks, k.word = .conflict → parS k = some (parD k)))
    (hj : H[j]? = some (.list vs)) (hv : All2 (RCk H) vs ks) (hs : ∀ k ∈ ks, k.small 300) (hl : (gS g ks).length ≤ 200) (hcat : st = Str.ofString "merge" → ∀ n, (cat (fIdx n) (gS g ks)).length ≤ 10000)
    (ret : ∀ H' j' vs', Ext H H' → H.length ≤ j' → H'[j']? = some (.list vs') → All2 (RC (· ≠ j') H') vs' (if st = Str.ofString "merge" then closS (gS g ks) else gS g ks) → Q (.ref j') H') : WPF B (d + 8) (.con (.ref 333)) [.ref j, .str st, .str (Str.ofString "myers")] H Q := by
  refine WPF.go fn333 (ie333 _ _ _) rfl ?_
  repeat array_get_dec
  refine forAll (fun rest K => ∀ (done : List Ck) (us : List MV) a1 a2 a3 a4 a5 H2, ks = done ++ rest → Ext H H2 → H2[H.length]? = some (.list us) → All2 (RC (· ≠ H.length) H2) us (gS g done) → K [.ref j, .str st, .str (Str.ofString "myers"), .ref H.length, a1, a2, a3, a4, a5] H2)
    (fun as C p done us a1 a2 a3 a4 a5 H2 b1 b2 b3 b4 => p _ _ fun K k => k done us a1 a2 a3 a4 a5 H2 b1 b2 b3 b4) ?_ ?_ hv (fun K k => k [] [] _ _ _ _ _ _ rfl (by sizeOf_list_dec) (at_last _ _) .nil)
  · intro done us a1 a2 a3 a4 a5 H2 e1 x2 h2 r2
    rw [List.append_nil] at e1
    subst e1
    repeat array_get_dec
    rcases hst with ⟨rfl, rfl⟩ | ⟨rfl, rfl, -⟩
    · refine cmp_strin (ss := [Str.ofString "diff3", Str.ofString "zdiff3"]) (r := true) rfl rfl ?_
      repeat array_get_dec
      exact ret _ _ _ x2 (Nat.le_refl _) h2 r2
    · refine cmp_strin (ss := [Str.ofString "diff3", Str.ofString "zdiff3"]) (r := false) rfl rfl ?_
      repeat array_get_dec
      refine WPF.vc (closeup_ok h2 (r2.mono fun m a h => h.rck) (Nat.le_trans hl (by decide)) (hcat rfl) fun H3 j3 vs3 x3 l3 h3 r3 => ?_)
      repeat array_get_dec
      exact ret _ _ _ (x2.trans x3) (Nat.le_trans x2.len l3) h3 r3
  · intro m p rest C hm cc done us a1 a2 a3 a4 a5 H2 e1 x2 h2 r2
    have rp : RC (· < H.length) H2 m p := hm.rc x2
    obtain ⟨c, b, o, t, rfl, hc, hb, ho, ht⟩ := id hm
    have g1 := x2 _ _ hc
    have gj := x2 _ _ hj
    have zj := lt_of_at hj
    have lus : us.length ≤ 200 := by rw [r2.length]; exact Nat.le_trans (Nat.le_add_right _ _) (gS_step e1 hl)
    have rp2 : RC (· ≠ H.length) H2 (.ref c) p := rp.mono fun i _ h => Nat.ne_of_lt h
    repeat array_get_dec
    refine lIte ?_
    refine WPT.dec (p.word ≠ .conflict) (fun K k => ?_) ?_
    · repeat array_get_dec
      refine go_br (fun h => ?_) (fun h => ?_)
      · repeat array_get_dec
        exact kT k h
      · repeat array_get_dec
        refine cmp_streq (r := false) (by rcases hst with ⟨rfl, -⟩ | ⟨rfl, -⟩ <;> rfl) ?_
        repeat array_get_dec
        exact kF k h
    repeat array_get_dec
    refine go_br (fun h => ?_) (fun h => ?_)
    · repeat array_get_dec
      exact ⟨(by decreasing_trivial_pre_omega), cc (done ++ [p]) _ _ _ _ _ _ _ (by rw [e1, List.append_assoc]; rfl) (by sizeOf_list_dec) (by decreasing_trivial_pre_omega) (by rw [gS_app, gS_one, if_pos h]; exact All2.app (r2.mono fun m a h => h.set) (.cons rp2.set .nil))⟩
    have eg : gS g [p] = g p := by rw [gS_one, if_neg h]
    have ll := gS_step e1 hl
    rw [eg] at ll
    have hp : p ∈ ks := by rw [e1]; simp
    have fin : ∀ (H3 : List MObj) (j3 : Nat) (vs3 : List MV) (w : MV), Ext H2 H3 → H3[j3]? = some (.list vs3) → All2 (RC (· ≠ H.length) H3) vs3 (g p) → us.length + vs3.length ≤ 100000 ∧ (H3.set H.length (.list (us ++ vs3)))[j]? = some (.list vs) ∧ C [.ref j, .str st, .str (Str.ofString "myers"), .ref H.length, w, a2, a3, a4, a5] (H3.set H.length (.list (us ++ vs3))) := fun H3 j3 vs3 w x3 h3 r3 =>
      have h23 := x3 _ _ h2
      have gj3 := x3 _ _ gj
      ⟨by rw [r2.length, r3.length]; exact Nat.le_trans ll (by decide), (by decreasing_trivial_pre_omega), cc (done ++ [p]) _ _ _ _ _ _ _ (by rw [e1, List.append_assoc]; rfl) ((x2.trans x3).set_new (Nat.le_refl _)) (by decreasing_trivial_pre_omega) (by rw [gS_app, eg]; exact All2.app (r2.mono fun m a h => (h.ext x3).set) (r3.mono fun m a h => h.set))⟩
    rcases hst with ⟨rfl, rfl⟩ | ⟨rfl, rfl, hpar⟩
    · repeat array_get_dec
      refine lIte ?_
      repeat array_get_dec
      refine cmp_streq (r := true) rfl ?_
      repeat array_get_dec
      have sp := hs p hp
      refine WPF.vc (trim_ok (q := H.length) rp2 (by decreasing_trivial) ⟨Nat.le_trans sp.1 (by decide), Nat.le_trans sp.2.1 (by decide), Nat.le_trans sp.2.2 (by decide)⟩ fun H3 j3 vs3 x3 l3 h3 r3 => ?_)
      have h23 := x3 _ _ h2
      obtain ⟨le, f1, f2⟩ := fin _ j3 _ (.ref c) x3 h3 r3
      repeat array_get_dec
      exact ⟨f1, f2⟩
    · repeat array_get_dec
      refine lIte ?_
      repeat array_get_dec
      refine cmp_streq (r := false) rfl ?_
      repeat array_get_dec
      refine WPF.vc (parted_ok rp.rck (hs p hp) (hpar p hp (Classical.not_not.mp h)) (Nat.le_trans (Nat.le_add_left _ _) ll) fun H3 j3 vs3 x3 l3 h3 r3 => ?_)
      have h23 := x3 _ _ h2
      obtain ⟨le, f1, f2⟩ := fin _ j3 _ (.ref c) x3 h3 (r3.mono fun m a h => h.mono fun i a b => Nat.ne_of_gt (Nat.lt_of_le_of_lt x2.len b))
      repeat array_get_dec
      exact ⟨f1, f2⟩
end
theorem RC.extMP {P : Nat → Prop} {M : List Nat} {H H' : List MObj} {m : MV} {k : Ck} (h : RC P H m k) (x : ExtM M H H') (hP : ∀ i, P i → i ∉ M) : RC P H' m k := by
  obtain ⟨c, b, o, t, e, p, h1, h2, h3, h4⟩ := h
  exact ⟨c, b, o, t, e, p, x _ _ (hP _ p.1) h1, x _ _ (hP _ p.2.1) h2, x _ _ (hP _ p.2.2.1) h3, x _ _ (hP _ p.2.2.2) h4⟩
noncomputable def lawT (n : Nat) : List Stmt := sb388.1.drop n
section
variable {B : Bs} {d : Nat} {H : List MObj} {Q : KE} {Qn : KS}
noncomputable def LawB (B : Bs) (d : Nat) : Prop := ∀ (H : List MObj) (jf : Nat) (vs : List MV) (ks : List Ck) (a0 a1 : MV) (Qn : KS) (Q : KE), H[jf]? = some (.list vs) → All2 (RCk H) vs ks → ks.length ≤ 4 → (∀ k ∈ ks, k.small 3) → (∀ H', Q (.bool true) H') →
  vS B fi388 d 40 (lawT 2) [a0, a1, .ref jf, .undef, .undef, .undef, .undef, .undef, .undef, .undef, .undef, .undef, .undef, .undef, .undef, .undef, .undef, .undef, .undef, .undef, .undef, .undef, .undef] H Qn Q
noncomputable def SliceF (a1 : Addr) (vs : List MV) (Q : KE) (o : MV) (a b : Option Int) (H : List MObj) : Prop := o = .con (.ref a1) ∧ Q (.ref H.length) (H ++ [.list (sliceM vs a b)])
noncomputable def SliceH (B : Bs) (fi : FI) (d : Nat) (ev : List MV) (hi : Option Expr) (S : MV → Option Int → Option Int → List MObj → Prop) (o : MV) (a : Option Int) (H : List MObj) : Prop := WPO B fi d hi ev H (S o a)
noncomputable def SliceL (B : Bs) (fi : FI) (d : Nat) (ev : List MV) (lo hi : Option Expr) (S : MV → Option Int → Option Int → List MObj → Prop) (o : MV) (H : List MObj) : Prop := WPO B fi d lo ev H (SliceH B fi d ev hi S o)
/-- a slice of a list that was there before the call -/
theorem WPE.sliceF {fi : FI} {ev : List MV} {e : Expr} {lo hi : Option Expr} {p pos : Pos} {a1 : Addr} {it1 : Array Value} {vs : List MV} (hl1 : B.hb.IsList a1 it1) (hr : ∀ g, VRs g vs it1.toList) (hsz : vs.length ≤ 100000)
    (h : WPE B fi d e ev H (SliceL B fi d ev lo hi (SliceF a1 vs Q))) :
    WPE B fi d (.Subscript e (.Slice lo hi none p) pos) ev H Q := fun A env Φ g s ok I => by
  refine Subscript_ ((h A env Φ g s ok I).to fun g1 ev1 H1 v s1 l1 I1 h => ?_)
  obtain ⟨rfl, o, ro, h1⟩ := h
  refine wpAny_Slice ((W_part ok I1 h1).to fun g2 ev2 H2 va s2 l2 I2 h => ?_)
  obtain ⟨rfl, pa, ia, na, h2⟩ := h
  refine (W_part ok I2 h2).to fun g3 ev3 H3 vb s3 l3 I3 h => ?_
  obtain ⟨rfl, pb, ib, nb, rfl, hq⟩ := h
  rw [evalPart_none]
  refine wpAny_pure ?_
  have ev' := ro.inv_con
  subst ev'
  have hl3 : s3.heap.IsList a1 it1 := let ⟨o, ho, r⟩ := hl1; ⟨o, I3.keepB _ _ ho, r⟩
  have I4 := I3.push { cls := .type "slice", data := .fields #[va, vb, .none] }
  have hl := hl3.push { cls := .type "slice", data := .fields #[va, vb, .none] }
  have r1 := hr g3
  refine tail_any (ops := [.ref s3.heap.objs.size, .ref a1]) hl.typeIs slot_list_getitem.lookup (wpAny_getItem_list_slice hl (Heap.IsSliceOf.new ..) ia ib .none (by simp) ?_ (by rw [r1.size]; exact Nat.le_trans hsz (by decide))) rfl
  obtain ⟨g5, l5, I5, hσ⟩ := I4.newList (items := slicePick it1 pa pb none) (n := 0) (vs := sliceM vs pa pb) (pick_rel r1 na nb)
  exact ⟨g5, _, _, ((l1.trans l2).trans l3).trans l5, I5, rfl, _, .ref' hσ, hq⟩
theorem WPE.sliceK {fi : FI} {ev : List MV} {x : Str} {i k kk : Nat} {p1 p2 p pos : Pos} {a1 : Addr} {it1 : Array Value} {vs : List MV} (hl1 : B.hb.IsList a1 it1) (hr : ∀ g, VRs g vs it1.toList) (hsz : vs.length ≤ 100000)
    (hx : slot fi.ns x = some (i, .local)) (hi : ev[i]? = some (.con (.ref a1))) (hdb : ((x == ("__debug__" : Str)) || (x == ("__classdict__" : Str))) = false) (h : Q (.ref H.length) (H ++ [.list (vs.take k)])) :
    WPE B fi d (.Subscript (.Name x p1) (.Slice none (some (.Constant (.int (k : Int)) kk p2)) none p) pos) ev H Q :=
  WPE.sliceF hl1 hr hsz (WPE.name hx (.inl rfl) hi (by intro q; cases q) hdb (WPE.cInt ⟨(k : Int), rfl, Int.natCast_nonneg k, rfl, h⟩))
theorem law_ok {a1 : Addr} {it1 : Array Value} {sc : List Int} (hl1 : B.hb.IsList a1 it1) (hr : ∀ g, VRs g (sc.map .int) it1.toList) (hl : sc.length ≤ 100) (hB : LawB B (d + 4)) (ret : ∀ H', Q (.bool true) H') :
    WPS B fi388 (d + 4) sb388.1 (initEv fi388.ns [Str.ofString "script"] [.con (.ref a1)]) H Qn Q := by
  rw [ie388]
  have lsc : (sc.map MV.int).length ≤ 100 := by rw [List.length_map]; exact hl
  repeat array_get_dec
  refine WPE.dictS (by decide) (by decide) (by decide) (eComp (iSeq (WPE.sliceK (k := 48) hl1 hr (Nat.le_trans lsc (by decide)) rfl rfl rfl ?_)) ⟨rfl, by decide, rfl⟩ (fun _ _ => rfl))
  rw [← List.map_take]
  have lck : (sc.take 48).length ≤ 1000 := by rw [List.length_take]; exact Nat.le_trans (Nat.min_le_left _ _) (by decide)
  generalize sc.take 48 = ck at lck
  repeat array_get_dec
  have h0 := at_last H (MObj.list (ck.map .int))
  generalize H ++ [MObj.list (ck.map .int)] = H0 at h0 ⊢
  generalize H.length = j0 at h0 ⊢
  refine ⟨(by decreasing_trivial_pre_omega), compMap MV.int (fun as K => ∀ t (cs : List Int) H2, cs.length + as.length ≤ 1000 → Ext H0 H2 → H0.length < H2.length → H2[H0.length]? = some (.list (cs.map .int)) → K [.undef, t] H2)
    (fun as C p t cs H2 a b c e => p _ _ fun K k => k t cs H2 a b c e) ?_ ?_ (fun K k => k _ [] _ (by rw [List.length_nil, Nat.zero_add]; exact lck) (by sizeOf_list_dec) (by decreasing_trivial) (at_last _ _))⟩
  rotate_left
  · intro x as C cc t cs H2 e2 x2 l2 h2
    have h20 := x2 _ _ h0
    have nj : j0 ≠ H0.length := Nat.ne_of_lt (lt_of_at h0)
    have ld : (cs.map MV.int).length ≤ 1000 := by rw [List.length_map]; exact Nat.le_trans (Nat.le_add_right _ _) e2
    repeat array_get_dec
    exact ⟨(by decreasing_trivial_pre_omega), cc _ (cs ++ [x.fmod 1000003]) _ (by rw [List.length_append]; rw [List.length_cons] at e2; simp only [List.length_cons, List.length_nil]; lia) (by sizeOf_list_dec) (by decreasing_trivial) (at_eq (by decreasing_trivial_pre_omega) (by rw [List.map_append]; rfl))⟩
  intro t cs H2 e2 x2 l2 h2
  have lc : cs.length ≤ 1000 := e2
  generalize H0.length = jc at h2 ⊢
  clear x2 l2 e2 h0
  show WPE B fi388 (d + 4) _ _ _ _
  repeat array_get_dec
  have hk : Deck H2.length jc (H2 ++ [MObj.dS [(Str.ofString "cells", MV.ref jc), (Str.ofString "at", MV.int 0), (Str.ofString "stir", MV.int 155)]]) :=
    ⟨cs, 0, 155, Nat.ne_of_gt (lt_of_at h2), at_last _ _, at_app h2, lc, Int.le_refl _⟩
  generalize H2 ++ [MObj.dS [(Str.ofString "cells", MV.ref jc), (Str.ofString "at", MV.int 0), (Str.ofString "stir", MV.int 155)]] = H3 at hk ⊢
  generalize H2.length = jd at hk ⊢
  clear h2 lc
  (focus ((with_reducible refine' lComp ?_ ?_ ?_ ?_ ?_); rotate_right 4; exact ⟨rfl, by decide, rfl⟩; exact fun _ _ => rfl; exact rfl; exact rfl))
  repeat array_get_dec
  refine WPF.vc (draw_ok hk (by decide) fun H4 v x4 e4 hk4 hv0 hv4 => ?_)
  obtain ⟨w, rfl⟩ := Int.eq_ofNat_of_zero_le hv0
  have hw : 1 + w ≤ 4 := Nat.add_comm 1 _ ▸ Int.ofNat_lt.mp hv4
  repeat array_get_dec
  rw [show (1 : Int) + ((w : Nat) : Int) = ((1 + w : Nat) : Int) from rfl]
  refine rng1 ?_ (Nat.le_trans hw (by decide))
  have y4 := hk4.lt
  refine ⟨trivial, compMap (fun i : Nat => MV.int i) (fun as K => ∀ t (ks : List Ck) (us : List MV) H5, ks.length + as.length ≤ 4 → H4.length < H5.length → Deck jd jc H5 → H5[H4.length]? = some (.list us) → All2 (RC (H4.length < ·) H5) us ks → (∀ k ∈ ks, k.small 3) → K [.undef, t, .undef, .ref jd] H5)
    (fun as C p t ks us H5 a b c e f g => p _ _ fun K k => k t ks us H5 a b c e f g) ?_ ?_ (fun K k => k _ [] [] _ (by rw [List.length_nil, Nat.zero_add, List.length_range]; exact hw) (by decreasing_trivial) (hk4.ext (by sizeOf_list_dec)) (at_last _ _) .nil (fun k h => nomatch h))⟩
  rotate_left
  · intro i as C cc t ks us H5 e5 l5 hk5 h5 r5 s5
    repeat array_get_dec
    refine WPF.vc (lchunk_ok hk5 fun H6 r k x6 hk6 rk sk => ?_)
    have h6 := x6.keep h5 (Nat.ne_of_gt y4.1)
    have lu : us.length ≤ 1000 := by rw [r5.length]; exact Nat.le_trans (Nat.le_trans (Nat.le_add_right _ _) e5) (by decide)
    repeat array_get_dec
    have z6 := lt_of_at h6
    exact ⟨trivial, cc _ (ks ++ [k]) _ _ (by rw [List.length_append, Nat.add_assoc, Nat.add_comm [k].length]; exact e5) (by rw [List.length_set]; exact z6) (hk6.set (Nat.ne_of_gt y4.1) (Nat.ne_of_gt y4.2)) (at_set z6)
      (All2.app (r5.mono fun m a h => (h.extMP x6 fun i hi q => Nat.ne_of_lt (Nat.lt_trans y4.1 hi) (List.mem_singleton.mp q).symm).setP (fun i hi => Nat.ne_of_lt hi)) (.cons ((rk.mono fun i a b => Nat.lt_of_lt_of_le l5 b).setP (fun i hi => Nat.ne_of_lt hi)) .nil))
      fun k' hk' => (List.mem_append.mp hk').elim (s5 k') fun q => List.mem_singleton.mp q ▸ sk⟩
  · intro t ks us H5 e5 l5 hk5 h5 r5 s5
    exact hB H5 H4.length us ks _ _ _ (goE Q) h5 (r5.mono fun m a h => h.rck) e5 s5 fun H' => ⟨ret H'⟩
end
noncomputable def AllOk : Prop := ∀ a b : List Line, a.length ≤ 3 → b.length ≤ 3 → okPair a b = true
theorem pieces_base : ∀ {ps : List Ck} {w : Option Wd}, piecesOk w ps = true → ∀ k ∈ ps, k.base = []
  | [], _, _, k, h => nomatch h
  | p :: r, w, e, k, h => by
    have e := Bool.and_eq_true_iff.mp e
    rcases List.mem_cons.mp h with rfl | h
    · exact (pieceP e.1).base
    · exact pieces_base e.2 k h
theorem cat_mem_le {f : Ck → List Line} {k : Ck} {l : List Ck} (h : k ∈ l) : (f k).length ≤ (cat f l).length := by
  obtain ⟨a, b, rfl⟩ := List.append_of_mem h
  have := cat_mid (f := f) (a := a) (x := [k]) (b := b) (n := _) (by rw [List.append_assoc]; rfl) (Nat.le_refl (cat f (a ++ k :: b)).length)
  rw [show cat f [k] = f k from List.append_nil _] at this
  exact this
structure ParF (k : Ck) : Prop where
  par : parS k = some (parD k)
  ok : piecesOk none (parD k) = true ∧ cat (·.ours) (parD k) = k.ours ∧ cat (·.theirs) (parD k) = k.theirs ∧ bsum (parD k) = longS k.ours k.theirs
  len : (parD k).length ≤ 7
  small : ∀ p ∈ parD k, p.small 3
theorem par_facts (hall : AllOk) {k : Ck} (hk : k.small 3) : ParF k := by
  have h := hall k.ours k.theirs hk.2.1 hk.2.2
  unfold okPair at h
  cases e : myersS k.ours k.theirs with
  | none => rw [e] at h; cases h
  | some L =>
    rw [e] at h
    have e2 : parS k = some (parGo k.ours k.theirs 0 L) := by unfold parS; rw [e]; rfl
    have e3 : parD k = parGo k.ours k.theirs 0 L := by unfold parD; rw [e2]; rfl
    have h : isParted k.ours k.theirs (parD k) = true := by rw [e3]; exact h
    rw [← e3] at e2
    unfold isParted at h
    simp only [Bool.and_eq_true, decide_eq_true_eq] at h
    obtain ⟨⟨⟨⟨h1, h2⟩, h3⟩, h4⟩, h5⟩ := h
    refine ⟨e2, ⟨h1, h2, h3, h4⟩, h5, fun p hp => ⟨?_, ?_, ?_⟩⟩
    · rw [pieces_base h1 p hp]; exact Nat.zero_le _
    · exact Nat.le_trans (h2 ▸ cat_mem_le (f := (·.ours)) hp) hk.2.1
    · exact Nat.le_trans (h3 ▸ cat_mem_le (f := (·.theirs)) hp) hk.2.2
theorem Ck.small.up {k : Ck} {n m : Nat} (h : k.small n) (l : Nat.ble n m = true) : k.small m :=
  have l := Nat.le_of_ble_eq_true l
  ⟨Nat.le_trans h.1 l, Nat.le_trans h.2.1 l, Nat.le_trans h.2.2 l⟩
theorem gS_mem {g : Ck → List Ck} {ks : List Ck} {p : Ck} (h : p ∈ gS g ks) : p ∈ ks ∨ ∃ k ∈ ks, p ∈ g k := by
  obtain ⟨k, hk, hp⟩ := List.mem_flatMap.mp h
  split at hp
  · exact .inl (List.mem_singleton.mp hp ▸ hk)
  · exact .inr ⟨k, hk, hp⟩
theorem gS_len {g : Ck → List Ck} {n : Nat} (hn : 1 ≤ n) : ∀ {ks : List Ck}, (∀ k ∈ ks, (g k).length ≤ n) → (gS g ks).length ≤ n * ks.length
  | [], _ => Nat.zero_le _
  | k :: r, h => by
    have e : gS g (k :: r) = gS g [k] ++ gS g r := gS_app (a := [k])
    rw [e, List.length_append, List.length_cons, Nat.mul_succ, Nat.add_comm]
    refine Nat.add_le_add (gS_len hn fun k hk => h k (List.mem_cons_of_mem _ hk)) ?_
    rw [gS_one]
    split
    · exact hn
    · exact h k List.mem_cons_self
theorem trim_len (k : Ck) : (trimS k).length ≤ 3 := by
  unfold trimS trimP
  split <;> split <;> exact Nat.le_of_ble_eq_true rfl
theorem trim_small {k p : Ck} {n : Nat} (hk : k.small n) (hp : p ∈ trimS k) : p.small n := by
  obtain ⟨h1, h2, h3⟩ := hk
  have t : ∀ (a : Nat) {l : List Line}, l.length ≤ n → (l.take a).length ≤ n := fun a l h => by rw [List.length_take]; exact Nat.le_trans (Nat.min_le_right _ _) h
  have u : ∀ (a : Nat) {l : List Line}, l.length ≤ n → (l.drop a).length ≤ n := fun a l h => by rw [List.length_drop]; exact Nat.le_trans (Nat.sub_le _ _) h
  rcases List.mem_append.mp hp with hp | hp
  · split at hp
    · exact List.mem_singleton.mp hp ▸ ⟨Nat.zero_le _, t _ h2, t _ h2⟩
    · cases hp
  rcases List.mem_cons.mp hp with rfl | hp
  · exact ⟨h1, t _ (u _ h2), t _ (u _ h3)⟩
  · split at hp
    · exact List.mem_singleton.mp hp ▸ ⟨Nat.zero_le _, u _ h2, u _ h2⟩
    · cases hp
/-! told lists compared -/
theorem eq_tup {H : List MObj} {n : Nat} {m m' : MV} {k : Ck} (h : RTd H m k) (h' : RTd H m' k) : EqM H (n + 2) m m' true := by
  obtain ⟨b, o, t, rfl, h1, h2, h3⟩ := h
  obtain ⟨b', o', t', rfl, h1', h2', h3'⟩ := h'
  have l : ∀ {i j : Nat} {x : List Line}, H[i]? = some (Ls x) → H[j]? = some (Ls x) → EqM H (n + 1) (.ref i) (.ref j) true := fun a b => by have := eq_Ls (n := n) a b; rwa [decide_eq_true rfl] at this
  have s : EqM H (n + 1) (.str (wS k.word)) (.str (wS k.word)) true := by have : EqM H (n + 1) (.str (wS k.word)) (.str (wS k.word)) (wS k.word == wS k.word) := .str; rwa [beq_self_eq_true] at this
  exact .tups (xs := [.str (wS k.word), .ref b, .ref o, .ref t]) (fun _ => true) rfl fun i x y hx hy => match i, hx, hy with
    | 0, rfl, rfl => s
    | 1, rfl, rfl => l h1 h1'
    | 2, rfl, rfl => l h2 h2'
    | 3, rfl, rfl => l h3 h3'
theorem eq_told {H : List MObj} {n i j : Nat} {xs ys : List MV} {ks : List Ck} (h1 : H[i]? = some (.list xs)) (h2 : H[j]? = some (.list ys)) (hne : i ≠ j) (r1 : All2 (RTd H) xs ks) (r2 : All2 (RTd H) ys ks) : EqM H (n + 3) (.ref i) (.ref j) true := by
  rw [show true = (List.range xs.length).all (fun _ => true) by simp]
  refine .lists _ hne h1 h2 (by rw [r1.length, r2.length]) fun k x y hx hy => ?_
  have hk : k < ks.length := r1.length ▸ (List.getElem?_eq_some_iff.mp hx).1
  obtain ⟨m1, e1, q1⟩ := r1.get (List.getElem?_eq_getElem hk)
  obtain ⟨m2, e2, q2⟩ := r2.get (List.getElem?_eq_getElem hk)
  cases hx.symm.trans e1; cases hy.symm.trans e2
  exact eq_tup q1 q2
theorem cmp_toldN {H : List MObj} {i j : Nat} {xs ys : List MV} {ks : List Ck} {P : Bool → Prop} (h1 : H[i]? = some (.list xs)) (h2 : H[j]? = some (.list ys)) (hne : i ≠ j) (r1 : All2 (RTd H) xs ks) (r2 : All2 (RTd H) ys ks) (h : P false) : cmpM .NotEq (.ref i) (.ref j) H P := cmp_neR hne (eq_told h1 h2 hne r1 r2) h
theorem cmp_toldE {H : List MObj} {i j : Nat} {xs ys : List MV} {ks : List Ck} {P : Bool → Prop} (h1 : H[i]? = some (.list xs)) (h2 : H[j]? = some (.list ys)) (hne : i ≠ j) (r1 : All2 (RTd H) xs ks) (r2 : All2 (RTd H) ys ks) (h : P true) : cmpM .Eq (.ref i) (.ref j) H P := cmp_eqR hne (eq_told h1 h2 hne r1 r2) h
section
variable {B : Bs} {d : Nat} {H : List MObj} {Q : KE}
noncomputable def LawC (B : Bs) (d : Nat) : Prop := ∀ (H : List MObj) (jf jw jt jp : Nat) (vs ws ts qs : List MV) (ks : List Ck) (a0 a1 a3 a7 : MV) (Qn : KS) (Q : KE), H[jf]? = some (.list vs) → All2 (RCk H) vs ks → H[jw]? = some (.list ws) → All2 (RTd H) ws ks →
  H[jt]? = some (.list ts) → All2 (RTd H) ts (zdS ks) → H[jp]? = some (.list qs) → All2 (RCk H) qs (ptS ks) → ks.length ≤ 4 → (∀ k ∈ ks, k.small 3) → (∀ H', Q (.bool true) H') →
  vS B fi388 d 40 (lawT 4) [a0, a1, .ref jf, a3, .ref jw, .ref jt, .ref jp, a7, .undef, .undef, .undef, .undef, .undef, .undef, .undef, .undef, .undef, .undef, .undef, .undef, .undef, .undef, .undef] H Qn Q
theorem kS_of {F : List MV → List MObj → KS → KE → Prop} {Qn : KS} {Qr : KE} {ev : List MV} (h : F ev H Qn Qr) : kS F Qn Qr ev H := h
theorem lawB_ok (hall : AllOk) (hC : LawC B (d + 7)) : LawB B (d + 7) := by
  intro H jf vs ks a0 a1 Qn Q hj hv hl hs ret
  repeat array_get_dec
  refine ⟨(by decreasing_trivial_pre_omega), told_comp rfl (by simp [evC]) rfl rfl hv (fun k hk => (hs k hk).up rfl) (Nat.le_trans hl (by decide)) (fun H' x => x _ _ hj) fun ev1 H1 ws x1 l1 h1 r1 => ?_⟩
  repeat array_get_dec
  have x1' : Ext H1 ((H1 ++ [MObj.list []]) ++ [MObj.list []]) := (by sizeOf_list_dec)
  have ht0 : ((H1 ++ [MObj.list []]) ++ [MObj.list []])[H1.length]? = some (.list []) := (by decreasing_trivial_pre_omega)
  have hp0 : ((H1 ++ [MObj.list []]) ++ [MObj.list []])[(H1 ++ [MObj.list []]).length]? = some (.list []) := (by decreasing_trivial_pre_omega)
  have hjj : H1.length ≠ (H1 ++ [MObj.list []]).length := neL (by decreasing_trivial)
  have lj : H1.length ≤ (H1 ++ [MObj.list []]).length := (by decreasing_trivial)
  generalize (H1 ++ [MObj.list []]) ++ [MObj.list []] = H1' at x1' ht0 hp0 ⊢
  generalize (H1 ++ [MObj.list []]).length = jp at hp0 hjj lj ⊢
  have hw0 := x1' _ _ h1
  have hj0 := x1' _ _ (x1 _ _ hj)
  refine forAll (fun rest K => ∀ (done : List Ck) (ut up : List MV) a3 a7 H2, ks = done ++ rest → Ext H1 H2 → H2[H1.length]? = some (.list ut) → H2[jp]? = some (.list up) → All2 (RTp (fun i => i ≠ H1.length ∧ i ≠ jp) H2) ut (zdS done) → All2 (RC (fun i => i ≠ H1.length ∧ i ≠ jp) H2) up (ptS done) →
      K [a0, a1, .ref jf, a3, .ref H.length, .ref H1.length, .ref jp, a7, .undef, .undef, .undef, .undef, .undef, .undef, .undef, .undef, .undef, .undef, .undef, .undef, .undef, .undef, .undef] H2)
    (fun as C p done ut up a3 a7 H2 b1 b2 b3 b4 b5 b6 => p _ _ fun K k => k done ut up a3 a7 H2 b1 b2 b3 b4 b5 b6) ?_ ?_ (hv.mono fun m a h => h.ext x1) (fun K k => k [] [] [] _ _ _ rfl x1' ht0 hp0 .nil .nil)
  · intro done ut up a3 a7 H2 e1 x2 h2 h3 r3 r4
    rw [List.append_nil] at e1
    subst e1
    have x02 := x1.trans x2
    have q := hC H2 jf H.length H1.length jp vs ws ut up ks a0 a1 a3 a7 Qn Q (x02 _ _ hj) (hv.mono fun m a h => h.ext x02) (x2 _ _ h1) (r1.mono fun m a h => (h.ext x2).n.td) h2 (r3.mono fun m a h => h.td) h3 (r4.mono fun m a h => h.rck) hl hs ret
    exact kS_of q
  · intro m p rest C hm cc done ut up a3 a7 H2 e1 x2 h2 h3 r3 r4
    have rlt : RC (· < H1.length) H2 m p := hm.rc x2
    obtain ⟨c, b, o, t, rfl, hc, hb, ho, ht⟩ := id hm
    have g1 := x2 _ _ hc
    have gj := x2 _ _ (x1 _ _ hj)
    have hp : p ∈ ks := by rw [e1]; simp
    have hdl : done.length ≤ 4 := by rw [e1, List.length_append] at hl; exact Nat.le_trans (Nat.le_add_right _ _) hl
    have lt1 : ut.length ≤ 50 := by rw [r3.length]; exact Nat.le_trans (gS_len (Nat.le_of_ble_eq_true rfl) fun k _ => trim_len k) (Nat.le_trans (Nat.mul_le_mul_left 3 hdl) (Nat.le_of_ble_eq_true rfl))
    have lp1 : up.length ≤ 50 := by rw [r4.length]; exact Nat.le_trans (gS_len (Nat.le_of_ble_eq_true rfl) fun k hk => (par_facts hall (hs k (by rw [e1]; exact List.mem_append_left _ hk))).len) (Nat.le_trans (Nat.mul_le_mul_left 7 hdl) (Nat.le_of_ble_eq_true rfl))
    have sp := hs p hp
    have F := par_facts hall sp
    have fin : ∀ (H3 : List MObj) (us qs : List MV) (a3 a7 : MV), Ext H2 H3 → All2 (RTp (fun i => i ≠ H1.length ∧ i ≠ jp) H3) us (gS trimS [p]) → All2 (RC (fun i => i ≠ H1.length ∧ i ≠ jp) H3) qs (gS parD [p]) →
        ((H3.set H1.length (.list (ut ++ us))).set jp (.list (up ++ qs)))[jf]? = some (.list vs) ∧ C [a0, a1, .ref jf, a3, .ref H.length, .ref H1.length, .ref jp, a7, .undef, .undef, .undef, .undef, .undef, .undef, .undef, .undef, .undef, .undef, .undef, .undef, .undef, .undef, .undef] ((H3.set H1.length (.list (ut ++ us))).set jp (.list (up ++ qs))) := by
      intro H3 us qs a3 a7 x3 r5 r6
      have h23 := x3 _ _ h2
      have h33 := x3 _ _ h3
      have zj := Nat.lt_of_lt_of_le (lt_of_at hj) x1.len
      have gj3 := x3 _ _ gj
      refine ⟨at_set_ne (at_set_ne gj3 (Nat.ne_of_gt zj)) (Nat.ne_of_gt (Nat.lt_of_lt_of_le zj lj)), cc (done ++ [p]) _ _ _ _ _ (by rw [e1, List.append_assoc]; rfl) (((x2.trans x3).set_new (Nat.le_refl _)).set_new lj) (at_set_ne (at_set (lt_of_at h23)) hjj.symm) (at_set (by rw [List.length_set]; exact lt_of_at h33)) ?_ ?_⟩
      · rw [show zdS (done ++ [p]) = zdS done ++ gS trimS [p] from gS_app]
        exact All2.app (r3.mono fun m a h => ((h.ext x3).setP fun i hi => hi.1.symm).setP fun i hi => hi.2.symm) (r5.mono fun m a h => (h.setP fun i hi => hi.1.symm).setP fun i hi => hi.2.symm)
      · rw [show ptS (done ++ [p]) = ptS done ++ gS parD [p] from gS_app]
        exact All2.app (r4.mono fun m a h => ((h.ext x3).setP fun i hi => hi.1.symm).setP fun i hi => hi.2.symm) (r6.mono fun m a h => (h.setP fun i hi => hi.1.symm).setP fun i hi => hi.2.symm)
    repeat array_get_dec
    refine lIte ?_
    repeat array_get_dec
    refine go_br (fun h => ?_) (fun h => ?_)
    · have eg : ∀ g, gS g [p] = g p := fun g => by rw [gS_one, if_neg (fun q => q h)]
      repeat array_get_dec
      refine lIte ?_
      refine WPT.midK (fun K => ∀ H3, Ext H2 H3 → K false H3) (fun K k => ?_) ?_
      · repeat array_get_dec
        refine WPF.vc (trim_ok (q := H1.length) (rlt.mono fun i _ h => Nat.ne_of_lt h) (lt_of_at h2) (sp.up rfl) fun H3 j3 vs3 x3 l3 h4 r5 => ?_)
        repeat array_get_dec
        refine ⟨(by decreasing_trivial_pre_omega), told_comp rfl (by simp [evC]) rfl rfl (r5.mono fun m a h => h.rck) (fun k hk => trim_small (sp.up rfl) hk) (Nat.le_trans (trim_len p) (by decide)) (fun H' x => x _ _ h4) fun ev4 H4 us4 x4 l4 h5 r6 => ?_⟩
        have x24 := x3.trans x4
        repeat array_get_dec
        refine WPF.vc (ltrim_ok (rlt.rck.ext x24) (sp.up rfl) fun H5 j5 vs5 x5 l5 h6 r7 => ?_)
        repeat array_get_dec
        refine cmp_toldN (x5 _ _ h5) h6 (Nat.ne_of_lt (Nat.lt_of_lt_of_le l4 l5)) (r6.mono fun m a h => (h.ext x5).n.td) (r7.mono fun m a h => h.td) ?_
        repeat array_get_dec
        exact k _ (x24.trans x5)
      intro H3 x3
      refine go_brF ?_
      have g13 := x3 _ _ g1
      repeat array_get_dec
      refine WPF.vc (parted_ok (rlt.ext x3).rck (sp.up rfl) F.par (Nat.le_trans F.len (by decide)) fun H4 j4 vs4 x4 l4 h4 r5 => ?_)
      have lv4 : vs4.length ≤ 7 := by rw [r5.length]; exact F.len
      have lv4' : vs4.length ≤ 1000 := Nat.le_trans lv4 (by decide)
      repeat array_get_dec
      refine lIte ?_
      refine WPT.midK (fun K => ∀ H6, Ext (H4 ++ [MObj.list vs4]) H6 → K false H6) (fun K k => ?_) ?_
      · repeat array_get_dec
        have x34 : Ext H3 (H4 ++ [MObj.list vs4]) := x4.trans (Ext.app _ _)
        refine WPF.vc (isparted_ok ((rlt.ext x3).rck.ext x34) (sp.up rfl) (at_last _ _) (r5.mono fun m a h => (h.ext (Ext.app _ _)).rck) (fun q hq => (F.small q hq).up rfl) (Nat.le_trans F.len (by decide)) F.ok fun H6 x6 => ?_)
        repeat array_get_dec
        exact k _ x6
      intro H6 x6
      refine go_brF ?_
      have x36 := (x4.trans (Ext.app _ _)).trans x6
      have x26 := x3.trans x36
      repeat array_get_dec
      refine WPF.vc (ltrim_ok (rlt.ext x26).rck (sp.up rfl) fun H7 j7 vs7 x7 l7 h7 r7 => ?_)
      have h27 := (x26.trans x7) _ _ h2
      have h37 := (x26.trans x7) _ _ h3
      have hp7 := x7 _ _ (x6 _ _ (at_last H4 (MObj.list vs4)))
      have lv7 : vs7.length ≤ 3 := by rw [r7.length]; exact trim_len p
      repeat array_get_dec
      exact fin H7 vs7 vs4 _ _ (x26.trans x7) (by rw [eg]; exact r7.mono fun m a h => h.mono fun i _ b => ⟨Nat.ne_of_gt (Nat.lt_of_lt_of_le (lt_of_at (x26 _ _ h2)) b), Nat.ne_of_gt (Nat.lt_of_lt_of_le (lt_of_at (x26 _ _ h3)) b)⟩)
        (by rw [eg]; exact r5.mono fun m a h => (h.ext (((Ext.app _ _).trans x6).trans x7)).mono fun i _ b => ⟨Nat.ne_of_gt (Nat.lt_trans (lt_of_at (x3 _ _ h2)) b), Nat.ne_of_gt (Nat.lt_trans (lt_of_at (x3 _ _ h3)) b)⟩)
    · have eg : ∀ g, gS g [p] = [p] := fun g => by rw [gS_one, if_pos h]
      repeat array_get_dec
      refine WPF.vc (told_ok rlt.rck (sp.up rfl) fun H3 r x3 r5 => ?_)
      have h23 := x3 _ _ h2
      have h33 := x3 _ _ h3
      have hjj' := hjj.symm
      repeat array_get_dec
      exact fin H3 [r] [.ref c] _ _ x3 (by rw [eg]; exact .cons (r5.p.mono fun i a b => ⟨Nat.ne_of_gt (Nat.lt_of_lt_of_le (lt_of_at h2) b), Nat.ne_of_gt (Nat.lt_of_lt_of_le (lt_of_at h3) b)⟩) .nil) (by rw [eg]; exact .cons ((rlt.ext x3).mono fun i a b => ⟨Nat.ne_of_lt b, Nat.ne_of_lt (Nat.lt_of_lt_of_le b lj)⟩) .nil)
end
theorem goC_len : ∀ (l : List Ck) (s : Option (Ck × List Ck)), (goC s l).length ≤ (flatS s).length + l.length
  | [], none => Nat.le_refl _
  | [], some (c, bs) => Nat.le_refl _
  | p :: r, s => by
    have h1 := goC_len r none
    have h2 := goC_len r (some (p, []))
    cases hC : isC p with
    | false =>
      cases hS : isSB p with
      | false => rw [goC_out hC hS, List.length_append, List.length_cons, List.length_cons]; exact Nat.add_le_add_left (Nat.succ_le_succ (Nat.le_trans h1 (Nat.le_of_eq (Nat.zero_add _)))) _
      | true =>
        cases s with
        | none => rw [goC_sb0 hC, List.length_cons, List.length_cons]; exact Nat.succ_le_succ h1
        | some cb =>
          obtain ⟨c, bs⟩ := cb
          rw [goC_sb1 hC hS]
          exact Nat.le_trans (goC_len r (some (c, bs ++ [p]))) (Nat.le_of_eq (by simp only [flatS, List.length_append, List.length_cons, List.length_nil]; lia))
    | true =>
      cases s with
      | none => rw [goC_c0 hC]; exact Nat.le_trans h2 (Nat.le_of_eq (by simp only [flatS, List.length_cons, List.length_nil]; lia))
      | some cb =>
        obtain ⟨c, bs⟩ := cb
        by_cases ho : osum bs ≤ 3
        · rw [goC_c1 hC ho]
          exact Nat.le_trans (goC_len r _) (by simp only [flatS, List.length_cons, List.length_nil]; lia)
        · rw [goC_c2 hC ho, List.length_append]
          exact Nat.le_trans (Nat.add_le_add_left h2 _) (by simp only [flatS, List.length_cons, List.length_nil]; lia)
theorem closS_len (l : List Ck) : (closS l).length ≤ l.length := Nat.le_trans (goC_len l none) (Nat.le_of_eq (Nat.zero_add _))
theorem goC_cat {n : Nat} : ∀ (l : List Ck) (s : Option (Ck × List Ck)), cat (fIdx n) (goC s l) = cat (fIdx n) (flatS s ++ l)
  | [], none => rfl
  | [], some (c, bs) => by rw [List.append_nil]; rfl
  | p :: r, s => by
    have h1 := goC_cat (n := n) r none
    have h2 := goC_cat (n := n) r (some (p, []))
    have e1 : cat (fIdx n) (p :: goC none r) = cat (fIdx n) (p :: r) := congrArg (fIdx n p ++ ·) h1
    cases hC : isC p with
    | false =>
      cases hS : isSB p with
      | false => rw [goC_out hC hS, cat_app, e1, ← cat_app]
      | true =>
        cases s with
        | none => rw [goC_sb0 hC]; exact e1
        | some cb =>
          obtain ⟨c, bs⟩ := cb
          rw [goC_sb1 hC hS, goC_cat r (some (c, bs ++ [p]))]
          exact congrArg (cat (fIdx n)) (by simp [flatS])
    | true =>
      cases s with
      | none => rw [goC_c0 hC]; exact h2
      | some cb =>
        obtain ⟨c, bs⟩ := cb
        by_cases ho : osum bs ≤ 3
        · rw [goC_c1 hC ho, goC_cat r _]
          simp only [flatS, cat_app, cat, fIdx_join, List.append_assoc, List.append_nil, List.nil_append, List.cons_append]
        · rw [goC_c2 hC ho, cat_app, h2]
          simp only [flatS, cat_app, cat, List.append_assoc, List.append_nil, List.nil_append, List.cons_append]
theorem closS_cat {n : Nat} (l : List Ck) : cat (fIdx n) (closS l) = cat (fIdx n) l := goC_cat l none
theorem cat_len_le {f : Ck → List Line} {n : Nat} : ∀ {l : List Ck}, (∀ k ∈ l, (f k).length ≤ n) → (cat f l).length ≤ n * l.length
  | [], _ => Nat.zero_le _
  | p :: r, h => by
    show (f p ++ cat f r).length ≤ _
    rw [List.length_append, List.length_cons, Nat.mul_succ, Nat.add_comm]
    exact Nat.add_le_add (cat_len_le fun k hk => h k (List.mem_cons_of_mem _ hk)) (h p List.mem_cons_self)
theorem zip_self {H : List MObj} {vs : List MV} {ks : List Ck} (h : All2 (RCk H) vs ks) : All2 (fun m (_ : Ck) => ∃ c f, m = .tup [.ref c, .ref c] ∧ H[c]? = some (.inst 301 f)) (zipL vs vs) ks := by
  induction h with
  | nil => exact .nil
  | cons x _ ih =>
    obtain ⟨c, b, o, t, rfl, hc, -⟩ := x
    exact .cons ⟨c, _, rfl, hc⟩ ih
section
variable {B : Bs} {d : Nat} {H : List MObj} {Q : KE}
theorem lawC_ok (hall : AllOk) : LawC B (d + 29) := by
  intro H jf jw jt jp vs ws ts qs ks a0 a1 a3 a7 Qn Q hf rf hw rw' ht rt hp rp hl hs ret
  have hs1 : ∀ k ∈ ks, k.small 1000 := fun k hk => (hs k hk).up rfl
  have lz : (zdS ks).length ≤ 12 := Nat.le_trans (gS_len (n := 3) (by decide) fun k _ => trim_len k) (Nat.mul_le_mul_left 3 hl)
  have lp : (ptS ks).length ≤ 28 := Nat.le_trans (gS_len (n := 7) (by decide) fun k hk => (par_facts hall (hs k hk)).len) (Nat.mul_le_mul_left 7 hl)
  have lv : vs.length ≤ 1000 := by rw [rf.length]; exact Nat.le_trans hl (by decide)
  have sz : ∀ k ∈ zdS ks, k.small 1000 := fun p hp => (gS_mem hp).elim (hs1 p) fun q => let ⟨k, hk, h⟩ := q; trim_small (hs1 k hk) h
  have sp : ∀ k ∈ ptS ks, k.small 3 := fun p hp => (gS_mem hp).elim (hs p) fun q => let ⟨k, hk, h⟩ := q; (par_facts hall (hs k hk)).small p h
  have cb : ∀ n, (cat (fIdx n) (ptS ks)).length ≤ 84 := fun n => Nat.le_trans (cat_len_le (n := 3) fun k hk => by
    obtain ⟨a, b, c⟩ := sp k hk
    unfold fIdx; split <;> assumption) (Nat.mul_le_mul_left 3 lp)
  have cl : (closS (ptS ks)).length ≤ 1000 := Nat.le_trans (closS_len _) (Nat.le_trans lp (by decide))
  have cs : ∀ k ∈ closS (ptS ks), k.small 1000 := fun k hk => by
    have q : ∀ n, (fIdx n k).length ≤ 1000 := fun n => Nat.le_trans (cat_mem_le hk) (by rw [closS_cat]; exact Nat.le_trans (cb n) (by decide))
    exact ⟨q 1, q 2, q 3⟩
  repeat array_get_dec
  refine WPF.vc (pieces_diff hf rf (Nat.le_trans hl (by decide)) fun H1 j1 x1 l1 h1 => ?_)
  repeat array_get_dec
  have hpl : (H1 ++ [MObj.list vs])[H1.length]? = some (.list vs) := at_last _ _
  have x1' : Ext H (H1 ++ [MObj.list vs]) := x1.trans (Ext.app _ _)
  generalize H1.length = jl at hpl ⊢
  generalize H1 ++ [MObj.list vs] = H2 at hpl x1' ⊢
  clear h1 x1 l1
  have f2 := x1' _ _ hf
  have rf2 := rf.mono fun m a h => h.ext x1'
  refine lIte ?_
  refine WPT.midK (fun K => ∀ H3, Ext H2 H3 → K false H3) (fun K k => ?_) ?_
  · repeat array_get_dec
    refine go_br (fun h => absurd rfl h) (fun _ => ?_)
    repeat array_get_dec
    refine ⟨⟨(by decreasing_trivial_pre_omega), (by decreasing_trivial_pre_omega)⟩, compAll (fun as K => ∀ t1 t2 H3, Ext H2 H3 → H3[H2.length]? = some (.list []) → K [.undef, t1, t2] H3)
      (fun as C p t1 t2 H3 a b => p _ _ fun K k => k t1 t2 H3 a b) ?_ ?_ (zip_self rf2) (fun K k => k _ _ _ (by sizeOf_list_dec) (at_last _ _))⟩
    · intro t1 t2 H3 x3 h3
      repeat array_get_dec
      refine go_br (fun h => absurd rfl h) (fun _ => ?_)
      repeat array_get_dec
      exact k _ (by sizeOf_list_dec)
    · intro m p rest C hm cc t1 t2 H3 x3 h3
      obtain ⟨c, f, rfl, hc⟩ := hm
      have g1 := x3 _ _ hc
      repeat array_get_dec
      refine cmp_isnR g1 g1 ?_
      rw [show (c != c) = false from bne_self_eq_false c]
      refine ⟨go_brF ?_⟩
      exact ⟨⟨x3 _ _ hpl, x3 _ _ f2⟩, cc _ _ _ x3 h3⟩
  intro H3 x3
  refine go_brF ?_
  have x03 := x1'.trans x3
  clear x1' hpl f2 rf2 x3
  repeat array_get_dec
  refine lIte ?_
  refine WPT.midK (fun K => ∀ H4, Ext H3 H4 → K false H4) (fun K k => ?_) ?_
  · have f3 := x03 _ _ hf
    repeat array_get_dec
    refine WPF.vc (pieces_g (.inl ⟨rfl, rfl⟩) f3 (rf.mono fun m a h => h.ext x03) (fun k hk => (hs k hk).up rfl) (Nat.le_trans lz (by decide)) (fun h => nomatch h) fun H4 j4 vs4 x4 l4 h4 r4 => ?_)
    repeat array_get_dec
    refine ⟨(by decreasing_trivial_pre_omega), told_comp rfl (by simp [evC]) rfl rfl (r4.mono fun m a h => h.rck) sz (Nat.le_trans lz (by decide)) (fun H' x => x _ _ h4) fun ev5 H5 us5 x5 l5 h5 r5 => ?_⟩
    have x35 := x4.trans x5
    have t5 := (x03.trans x35) _ _ ht
    repeat array_get_dec
    refine cmp_toldN h5 t5 (Nat.ne_of_gt (Nat.lt_of_lt_of_le (lt_of_at (x03 _ _ ht)) x4.len)) (r5.mono fun m a h => h.n.td) (rt.mono fun m a h => h.ext (x03.trans x35)) ?_
    repeat array_get_dec
    exact k _ x35
  intro H4 x4
  refine go_brF ?_
  have x04 := x03.trans x4
  clear x03 x4
  have p4 := x04 _ _ hp
  repeat array_get_dec
  refine ⟨(by decreasing_trivial_pre_omega), told_comp rfl (by simp [evC]) rfl rfl (rp.mono fun m a h => h.ext x04) (fun k hk => (sp k hk).up rfl) (Nat.le_trans lp (by decide)) (fun H' x => x _ _ p4) fun ev5 H5 us5 x5 l5 h5 r5 => ?_⟩
  repeat array_get_dec
  refine WPF.vc (closed_ok 28 d _ _ _ _ _ lp (by decide) h5 (r5.mono fun m a h => h.n.td) (fun m => Nat.le_trans (cb m) (by decide)) fun H6 jd ds x6 h6 r6 => ?_)
  have x06 := (x04.trans x5).trans x6
  clear x04 x5 x6 p4 h5 r5
  repeat array_get_dec
  refine lIte ?_
  refine WPT.midK (fun K => ∀ H7, Ext H6 H7 → K false H7) (fun K k => ?_) ?_
  · have p6 := x06 _ _ hp
    repeat array_get_dec
    refine WPF.vc (closeup_ok p6 (rp.mono fun m a h => h.ext x06) (Nat.le_trans lp (by decide)) (fun m => Nat.le_trans (cb m) (by decide)) fun H7 j7 vs7 x7 l7 h7 r7 => ?_)
    repeat array_get_dec
    refine ⟨(by decreasing_trivial_pre_omega), told_comp rfl (by simp [evC]) rfl rfl (r7.mono fun m a h => h.rck) cs cl (fun H' x => x _ _ h7) fun ev8 H8 us8 x8 l8 h8 r8 => ?_⟩
    have x68 := x7.trans x8
    have d8 := x68 _ _ h6
    repeat array_get_dec
    refine cmp_toldN h8 d8 (Nat.ne_of_gt (Nat.lt_of_lt_of_le (lt_of_at h6) x7.len)) (r8.mono fun m a h => h.n.td) (r6.mono fun m a h => h.ext x68) ?_
    repeat array_get_dec
    exact k _ x68
  intro H7 x7
  refine go_brF ?_
  have x07 := x06.trans x7
  have h67 := x7 _ _ h6
  replace r6 := r6.mono fun m a h => h.ext x7
  clear x06 x7 h6
  repeat array_get_dec
  refine lIte ?_
  refine WPT.midK (fun K => ∀ H8, Ext H7 H8 → K false H8) (fun K k => ?_) ?_
  · have f7 := x07 _ _ hf
    repeat array_get_dec
    refine WPF.vc (pieces_g (.inr ⟨rfl, rfl, fun k hk _ => (par_facts hall (hs k hk)).par⟩) f7 (rf.mono fun m a h => h.ext x07) (fun k hk => (hs k hk).up rfl) (Nat.le_trans lp (by decide)) (fun _ m => Nat.le_trans (cb m) (by decide)) fun H8 j8 vs8 x8 l8 h8 r8 => ?_)
    rw [if_pos rfl] at r8
    repeat array_get_dec
    refine ⟨(by decreasing_trivial_pre_omega), told_comp rfl (by simp [evC]) rfl rfl (r8.mono fun m a h => h.rck) cs cl (fun H' x => x _ _ h8) fun ev9 H9 us9 x9 l9 h9 r9 => ?_⟩
    have x79 := x8.trans x9
    have d9 := x79 _ _ h67
    repeat array_get_dec
    refine cmp_toldN h9 d9 (Nat.ne_of_gt (Nat.lt_of_lt_of_le (lt_of_at h67) x8.len)) (r9.mono fun m a h => h.n.td) (r6.mono fun m a h => h.ext x79) ?_
    repeat array_get_dec
    exact k _ x79
  intro H8 x8
  refine go_brF ?_
  have x08 := x07.trans x8
  have f8 := x08 _ _ hf
  have w8 := x08 _ _ hw
  repeat array_get_dec
  refine ⟨(by decreasing_trivial_pre_omega), told_comp rfl (by simp [evC]) rfl rfl (rf.mono fun m a h => h.ext x08) hs1 (Nat.le_trans hl (by decide)) (fun H' x => x _ _ f8) fun ev9 H9 us9 x9 l9 h9 r9 => ?_⟩
  have w9 := x9 _ _ w8
  repeat array_get_dec
  refine cmp_toldE h9 w9 (Nat.ne_of_gt (lt_of_at w8)) (r9.mono fun m a h => h.n.td) (rw'.mono fun m a h => h.ext (x08.trans x9)) ?_
  repeat array_get_dec
  exact ret _
end
end
theorem ints_rel {g : G} : ∀ {vs : List Value} {ns : List Int}, IntsAre vs ns → VRs g (ns.map .int) vs
  | _, _, .nil => by simp [VRs]
  | _, _, .cons n t h => by
    simp only [List.map_cons, VRs]
    exact ⟨_, _, rfl, .int', ints_rel h⟩
theorem ev388 (a1 : Addr) : ∀ (i : Nat) (m : MV), (initEv fi388.ns [Str.ofString "script"] [.con (.ref a1)])[i]? = some m → (i = 0 ∧ m = .con (.ref a1)) ∨ m = .undef := by
  intro i m h
  rw [ie388] at h
  match i with
  | 0 => exact .inl ⟨rfl, (Option.some.inj h).symm⟩
  | i + 1 =>
    refine .inr ?_
    have h' : (List.replicate 22 MV.undef)[i]? = some m := h
    rw [List.getElem?_replicate] at h'
    split at h'
    · exact (Option.some.inj h').symm
    · cases h'
theorem top_run (B : Bs) {body : List Stmt} {A : Around} {s₁ : Shared} {env : Env} {a1 L c : Addr} {h₁ : Heap} {tk : Nat} {m : Str → Option Value} {oc : Obj} {vc : Option Value}
    (hA : OkA 40 A) (hg : s₁.gens = #[]) (hBh : B.hb = s₁.heap) (hBo : B.os = s₁.os) (hrun : WPS B fi388 40 body (initEv fi388.ns [Str.ofString "script"] [.con (.ref a1)]) [] (fun _ _ => False) (fun r _ => r = .bool true))
    (e1 : env.scope.names = fi388.ns) (e2 : env.scope.kind = .function) (e3 : env.globals = mainGlobals) (e4 : env.builtins = builtinsNs) (eL : env.locals = L)
    (F : Fr s₁.heap L h₁ m) (hm : m (Str.ofString "script") = some (.ref a1)) (hc : env.cells.lookup (Str.ofString "deck") = some c) (N : News s₁.heap L h₁ [(c, oc)]) (hdc : oc.data = .cell vc) :
    wpAny (model Prg B.w) A (execs body env) (fun f s' => f = .ret (.bool true) ∧ (∀ b o, s₁.heap.get? b = some o → s'.heap.get? b = some o) ∧ s'.os = s₁.os ∧ s'.gens = #[]) (fun _ _ => False) ⟨h₁, s₁.gens, s₁.drawn, tk, s₁.os⟩ := by
  obtain ⟨g, hgd⟩ : ∃ g : G, g = ⟨s₁.heap.get?, [], fun a => if a = L then .fr none else if a = c then .fr (some (Str.ofString "deck")) else if (s₁.heap.get? a).isSome then .fz else .no⟩ := ⟨_, rfl⟩
  have ow_eq : ∀ a, g.ow a = (if a = L then Ow.fr none else if a = c then .fr (some (Str.ofString "deck")) else if (s₁.heap.get? a).isSome then .fz else .no) := fun a => by rw [hgd]
  have F_eq : ∀ a, g.F a = s₁.heap.get? a := fun a => by rw [hgd]
  have σ_eq : g.σ = [] := by rw [hgd]
  clear hgd
  have Nc := N (c, oc) (by simp)
  have hold : ∀ a o, s₁.heap.get? a = some o → a ≠ L ∧ a ≠ c := fun a o e => ⟨Nat.ne_of_lt (Nat.lt_of_lt_of_le (Heap.lt_size e) F.above), fun q => by subst q; rw [Nc.2.2] at e; cases e⟩
  have owL : g.ow L = .fr none := by rw [ow_eq, if_pos rfl]
  have owc : g.ow c = .fr (some (Str.ofString "deck")) := by rw [ow_eq, if_neg Nc.2.1, if_pos rfl]
  have I : Inv B fi388 env (fun _ => none) g (initEv fi388.ns [Str.ofString "script"] [.con (.ref a1)]) [] ⟨h₁, s₁.gens, s₁.drawn, tk, s₁.os⟩ := {
    gens := hg
    os := hBo.symm
    F := fun a o e => by
      rw [F_eq] at e
      have q := hold a o e
      exact ⟨F.keep a o e, by rw [ow_eq, if_neg q.1, if_neg q.2, if_pos (by rw [e]; rfl)]⟩
    hb := fun a o e => by rw [F_eq, ← hBh]; exact e
    pk := fun a e => by
      rw [ow_eq] at e
      split at e
      · cases e
      · split at e
        · cases e
        · split at e <;> cases e
    Φ := fun a o e => by cases e
    sz := fun a e => by
      rw [ow_eq]
      have e : h₁.get? a = none := e
      split
      · rename_i q; subst q
        obtain ⟨o, es, ep, q1, q2⟩ := F.ns
        rw [q1] at e; cases e
      · split
        · rename_i q; subst q; rw [Nc.1] at e; cases e
        · split
          · rename_i q
            obtain ⟨o, ho⟩ := Option.isSome_iff_exists.mp q
            rw [F.keep a o ho] at e; cases e
          · rfl
    lo := fun a i e => by
      rw [ow_eq] at e
      split at e
      · cases e
      · split at e
        · cases e
        · split at e <;> cases e
    len := by rw [σ_eq]; rfl
    live := fun i a o h1 h2 => by cases h2
    fr := by
      have hmem : ∀ p ∈ fi388.ns, p.2 ≠ .free ∧ (p.2 = .cell → p.1 = Str.ofString "deck") := by decide
      have hs0 : slot fi388.ns (Str.ofString "script") = some (0, .local) := rfl
      have hd1 : ∃ k, slot fi388.ns (Str.ofString "deck") = some (1, k) := ⟨_, rfl⟩
      refine ⟨e1, e2, e3, e4, ⟨by rw [eL]; exact owL, m, by rw [eL]; exact F.ns, fun x i e y hy => ?_⟩, fun x i k e hk => ?_⟩
      · rcases ev388 a1 i y hy with ⟨rfl, rfl⟩ | rfl
        · have : x = Str.ofString "script" := slot_inj e hs0
          subst this
          exact ⟨_, hm, .con'⟩
        · trivial
      · have hx := hmem _ (mem_of_lookup (slot_lookup e))
        have hkc : k = .cell := by
          rcases hk with hk | hk
          · exact hk
          · exact absurd hk hx.1
        have hxd : x = Str.ofString "deck" := hx.2 hkc
        subst hxd
        refine ⟨c, vc, hc, ⟨oc, Nc.1, hdc⟩, fun y hy => ?_, .inl owc⟩
        obtain ⟨k', hd1⟩ := hd1
        rw [hd1] at e
        cases e
        rcases ev388 a1 1 y hy with ⟨q, _⟩ | rfl
        · cases q
        · trivial }
  have hW := hrun A env (fun _ => none) g ⟨h₁, s₁.gens, s₁.drawn, tk, s₁.os⟩ hA I
  refine W.to hW fun g' ev' H' f s' l I' q => ?_
  refine ⟨?_, fun b o e => I'.keepB b o (by rw [hBh]; exact e), I'.os.trans hBo, I'.gens⟩
  cases f with
  | next => exact q.elim
  | ret v =>
    obtain ⟨m, r, rfl⟩ := q
    rw [r.inv_bool]
  | brk => exact q.elim
  | cont => exact q.elim
theorem law_all (B : Bs) {a1 : Addr} {it : List Value} {sc : List Int} (hL : B.hb.IsList a1 it.toArray) (hI : IntsAre it sc) (hl : sc.length ≤ 63) (hall : AllOk) : WPS B fi388 40 sb388.1 (initEv fi388.ns [Str.ofString "script"] [.con (.ref a1)]) [] (fun _ _ => False) (fun r _ => r = .bool true) :=
  law_ok (d := 36) hL (fun g => by simpa using ints_rel hI) (Nat.le_trans hl (by decide)) (lawB_ok (d := 33) hall (lawC_ok (d := 11) hall)) fun _ => rfl
theorem okTop (env : Env) : OkA 40 (callerA.deeper env) := by
  refine ⟨rfl, ?_, ?_⟩
  · show 1 + claimMargin + 1 + 2 * 40 + 2 < 1000
    decide
  · show 4 + 3 + 30 * 40 + 30 < cLine
    decide
/-! the table, up to other names for the lines -/
section
variable {σ : Line → Line}
theorem mem_mapI (hσ : ∀ x y, σ x = σ y → x = y) {x : Line} {l : List Line} : σ x ∈ l.map σ ↔ x ∈ l := by
  rw [List.mem_map]
  constructor
  · rintro ⟨y, hy, e⟩; rw [← hσ _ _ e]; exact hy
  · intro h; exact ⟨x, h, rfl⟩
theorem idx_map (hσ : ∀ x y, σ x = σ y → x = y) {x : Line} : ∀ l : List Line, (l.map σ).idxOf (σ x) = l.idxOf x
  | [] => rfl
  | y :: ys => by
    rw [List.map_cons, List.idxOf_cons, List.idxOf_cons, idx_map hσ ys]
    by_cases h : y = x
    · subst h; simp
    · have h1 : (y == x) = false := by simpa using h
      have h2 : (σ y == σ x) = false := by
        have : σ y ≠ σ x := fun q => h (hσ _ _ q)
        simpa using this
      rw [h1, h2]
theorem num_map (hσ : ∀ x y, σ x = σ y → x = y) (kn : List Line) (x : Line) : num (kn.map σ) (σ x) = ((num kn x).1.map σ, (num kn x).2) := by
  unfold num
  by_cases h : x ∈ kn
  · rw [if_pos h, if_pos ((mem_mapI hσ).mpr h), idx_map hσ]
  · rw [if_neg h, if_neg (fun q => h ((mem_mapI hσ).mp q))]; simp
theorem nums_map (hσ : ∀ x y, σ x = σ y → x = y) : ∀ (ls kn : List Line), nums (kn.map σ) (ls.map σ) = ((nums kn ls).1.map σ, (nums kn ls).2)
  | [], kn => rfl
  | x :: xs, kn => by
    show ((nums (num (kn.map σ) (σ x)).1 (xs.map σ)).1, (num (kn.map σ) (σ x)).2 :: (nums (num (kn.map σ) (σ x)).1 (xs.map σ)).2) = _
    rw [num_map hσ, nums_map hσ xs]
    rfl
theorem myersS_map (hσ : ∀ x y, σ x = σ y → x = y) (a b : List Line) : myersS (a.map σ) (b.map σ) = myersS a b := by
  have h1 := nums_map hσ a []
  have h2 := nums_map hσ b (nums [] a).1
  rw [List.map_nil] at h1
  unfold myersS
  rw [h1, h2, List.length_map, List.length_map]
noncomputable def ckMap (σ : Line → Line) (k : Ck) : Ck := ⟨k.word, k.base.map σ, k.ours.map σ, k.theirs.map σ⟩
theorem parGo_map (o t : List Line) : ∀ (L : List Pt) (p : Nat), parGo (o.map σ) (t.map σ) p L = (parGo o t p L).map (ckMap σ)
  | [], p => by
    unfold parGo
    rw [List.length_map]
    split
    · simp [ckMap]
    · rfl
  | q :: r, p => by
    unfold parGo
    rw [parGo_map o t r]
    split <;> simp [ckMap]
theorem map_nilI {l : List Line} : l.map σ = [] ↔ l = [] := by simp
theorem map_eqI (hσ : ∀ x y, σ x = σ y → x = y) {a b : List Line} : a.map σ = b.map σ ↔ a = b := List.map_inj_right (fun x y h => hσ x y h)
theorem piecesOk_map (hσ : ∀ x y, σ x = σ y → x = y) : ∀ (ps : List Ck) (w : Option Wd), piecesOk w (ps.map (ckMap σ)) = piecesOk w ps
  | [], _ => rfl
  | k :: r, w => by
    show (pieceOk w (ckMap σ k) && piecesOk (some (ckMap σ k).word) (r.map (ckMap σ))) = _
    rw [piecesOk_map hσ r]
    have : pieceOk w (ckMap σ k) = pieceOk w k := by
      unfold pieceOk ckMap
      simp only [map_nilI, map_eqI hσ, ne_eq]
    rw [this]; rfl
theorem cat_mapC (f : Ck → List Line) (hf : ∀ k, f (ckMap σ k) = (f k).map σ) : ∀ ps : List Ck, cat f (ps.map (ckMap σ)) = (cat f ps).map σ
  | [] => rfl
  | k :: r => by
    show f (ckMap σ k) ++ cat f (r.map (ckMap σ)) = (f k ++ cat f r).map σ
    rw [hf, cat_mapC f hf r, List.map_append]
theorem bsum_map : ∀ ps : List Ck, bsum (ps.map (ckMap σ)) = bsum ps
  | [] => rfl
  | k :: r => by
    show (if k.word = .both then (k.ours.map σ).length else 0) + bsum (r.map (ckMap σ)) = _
    rw [bsum_map r, List.length_map]; rfl
theorem longIn_map (hσ : ∀ x y, σ x = σ y → x = y) (x : Line) (row : List Nat) : ∀ (ys : List Line) (f : List Nat), longIn (σ x) row (ys.map σ) f = longIn x row ys f
  | [], f => rfl
  | y :: ys, f => by
    have e : (σ x = σ y) = (x = y) := propext ⟨hσ x y, congrArg σ⟩
    rw [List.map_cons]
    show longIn (σ x) row (ys.map σ) (f ++ [if σ x = σ y then _ else _]) = longIn x row ys (f ++ [if x = y then _ else _])
    rw [longIn_map hσ x row ys]
    congr 3
    simp only [e]
theorem longOut_map (hσ : ∀ x y, σ x = σ y → x = y) (b : List Line) : ∀ (a : List Line) (row : List Nat), longOut (b.map σ) (a.map σ) row = longOut b a row
  | [], row => rfl
  | x :: xs, row => by
    show longOut (b.map σ) (xs.map σ) (longIn (σ x) row (b.map σ) [0]) = _
    rw [longIn_map hσ, longOut_map hσ b xs]; rfl
theorem longS_map (hσ : ∀ x y, σ x = σ y → x = y) (a b : List Line) : longS (a.map σ) (b.map σ) = longS a b := by
  unfold longS
  rw [longOut_map hσ, List.length_map]
theorem okPair_map (hσ : ∀ x y, σ x = σ y → x = y) (a b : List Line) : okPair (a.map σ) (b.map σ) = okPair a b := by
  unfold okPair
  rw [myersS_map hσ]
  cases myersS a b with
  | none => rfl
  | some L =>
    show isParted (a.map σ) (b.map σ) (parGo (a.map σ) (b.map σ) 0 L) = isParted a b (parGo a b 0 L)
    unfold isParted
    rw [parGo_map, piecesOk_map hσ, cat_mapC (·.ours) (fun _ => rfl), cat_mapC (·.theirs) (fun _ => rfl), bsum_map, longS_map hσ, List.length_map]
    simp only [map_eqI hσ]
end
noncomputable def sw (i : Fin 6) (x : Line) : Line := match i, x with
  | 0, x => x
  | 1, 0 => 0 | 1, 1 => 2 | 1, 2 => 1
  | 2, 0 => 1 | 2, 1 => 0 | 2, 2 => 2
  | 3, 0 => 1 | 3, 1 => 2 | 3, 2 => 0
  | 4, 0 => 2 | 4, 1 => 0 | 4, 2 => 1
  | 5, 0 => 2 | 5, 1 => 1 | 5, 2 => 0
noncomputable def canon : List (List Line) := [[], [0], [0, 0], [0, 1], [0, 0, 0], [0, 0, 1], [0, 1, 0], [0, 1, 1], [0, 1, 2]]
theorem sw_inj (i : Fin 6) : ∀ x y, sw i x = sw i y → x = y := by revert i; decide
theorem to_canon : ∀ a ∈ allL, ∃ i : Fin 6, a.map (sw i) ∈ canon := by decide +kernel
theorem okC0 : (allL.all fun b => okPair [] b) = true := by decide +kernel
theorem okC1 : (allL.all fun b => okPair [0] b) = true := by decide +kernel
theorem okC2 : (allL.all fun b => okPair [0, 0] b) = true := by decide +kernel
theorem okC3 : (allL.all fun b => okPair [0, 1] b) = true := by decide +kernel
theorem okC4 : (allL.all fun b => okPair [0, 0, 0] b) = true := by decide +kernel
theorem okC5 : (allL.all fun b => okPair [0, 0, 1] b) = true := by decide +kernel
theorem okC6 : (allL.all fun b => okPair [0, 1, 0] b) = true := by decide +kernel
theorem okC7 : (allL.all fun b => okPair [0, 1, 1] b) = true := by decide +kernel
theorem okC8 : (allL.all fun b => okPair [0, 1, 2] b) = true := by decide +kernel
theorem okC : ∀ a ∈ canon, ∀ b ∈ allL, okPair a b = true := by
  intro a ha b hb
  unfold canon at ha
  simp only [List.mem_cons, List.not_mem_nil, or_false] at ha
  rcases ha with rfl | rfl | rfl | rfl | rfl | rfl | rfl | rfl | rfl
  · exact List.all_eq_true.mp okC0 b hb
  · exact List.all_eq_true.mp okC1 b hb
  · exact List.all_eq_true.mp okC2 b hb
  · exact List.all_eq_true.mp okC3 b hb
  · exact List.all_eq_true.mp okC4 b hb
  · exact List.all_eq_true.mp okC5 b hb
  · exact List.all_eq_true.mp okC6 b hb
  · exact List.all_eq_true.mp okC7 b hb
  · exact List.all_eq_true.mp okC8 b hb
theorem all_ok : AllOk := by
  intro a b ha hb
  obtain ⟨i, hi⟩ := to_canon a (mem_allL a ha)
  rw [← okPair_map (sw_inj i) a b]
  exact okC _ hi _ (mem_allL _ (by rw [List.length_map]; exact hb))
end
set_option Elab.async true
theorem top.tw9601329371697537090 : True := trivial
theorem top.tw16541100652227675460 : True := trivial
theorem top.tw5155950481276406077 : True := trivial
theorem top.tw16749740999139993844 : True := trivial
theorem top.tw5667650583090716360 : True := trivial
theorem top.tw1139600151236580504 : True := trivial
theorem top.tw6756868429301003459 : True := trivial
theorem top.tw9378254376102152143 : True := trivial
theorem top.tw15169761463676818070 : True := trivial
theorem top.tw16204670001084760307 : True := trivial
theorem top.tw8143265674769528471 : True := trivial
theorem top.tw8640399195822439974 : True := trivial
theorem top.tw5303079699428457377 : True := trivial
theorem top.tw13091174067606910046 : True := trivial
theorem top.tw5105846836358774362 : True := trivial
theorem top.tw2835187731363253809 : True := trivial
theorem top.tw864819663365544661 : True := trivial
theorem top.tw8689318265317240412 : True := trivial
theorem top.tw14987219478266130788 : True := trivial
theorem top.tw14861896470697024400 : True := trivial
theorem top.tw13359135706311490777 : True := trivial
theorem top.tw17177869089781658578 : True := trivial
theorem top.tw9063741608606530840 : True := trivial
theorem top.tw14917401599646851644 : True := trivial
theorem top.tw15860264024139754761 : True := trivial
theorem top.tw10773188271377071773 : True := trivial
theorem top.tw788273225186049534 : True := trivial
theorem top.tw14349089067433371257 : True := trivial
theorem top.tw1732150942055357024 : True := trivial
theorem top.tw2731995056826638727 : True := trivial
theorem top.tw10404823597219466188 : True := trivial
theorem top.tw9229161468869434483 : True := trivial
theorem top.tw15240379268576122478 : True := trivial
theorem top.tw1886144042066472794 : True := trivial
theorem top.tw12819366960792805191 : True := trivial
theorem top.tw5088376156974544275 : True := trivial
theorem top.tw13160728816969591200 : True := trivial
theorem top.tw13303987763403120937 : True := trivial
theorem top.tw1149218181149386328 : True := trivial
theorem top.tw2985252069258134486 : True := trivial
theorem top.tw1814787853859245837 : True := trivial
theorem top.tw10617020205504526918 : True := trivial
theorem top.tw1492452104121835379 : True := trivial
theorem top.tw4551080515912023512 : True := trivial
theorem top.tw6898770573198911631 : True := trivial
theorem top.tw7847650389618582240 : True := trivial
theorem top.tw11858546649754279707 : True := trivial
theorem top.tw6187478851450931391 : True := trivial
theorem top.tw15177526630643400193 : True := trivial
theorem top.tw2822501910515967889 : True := trivial
theorem top.tw5868845118606482295 : True := trivial
theorem top.tw16273406610938067001 : True := trivial
theorem top.tw6286779285267259847 : True := trivial
theorem top.tw4213018616267185653 : True := trivial
theorem top.tw12540527436937284434 : True := trivial
theorem top.tw3969286963782609292 : True := trivial
theorem top.tw7297446738713254254 : True := trivial
theorem top.tw14502225709538309166 : True := trivial
theorem top.tw4671429814451907529 : True := trivial
theorem top.tw8363718466572441477 : True := trivial
theorem top.tw5523086135645875356 : True := trivial
theorem top.tw17555251805378815213 : True := trivial
theorem top.tw18164388396756303480 : True := trivial
theorem top.tw427269002284569659 : True := trivial
theorem top.tw15878805988109762761 : True := trivial
theorem top.tw575894324575664597 : True := trivial
theorem top.tw4498253355057717688 : True := trivial
theorem top.tw705360758644809490 : True := trivial
theorem top.tw4186445540838780016 : True := trivial
theorem top.tw2249405535684624136 : True := trivial
theorem top.tw11279390925490393535 : True := trivial
theorem top.tw342308947776675178 : True := trivial
theorem top.tw2514443458684651071 : True := trivial
theorem top.tw12342655685612074800 : True := trivial
theorem top.tw517144808224063464 : True := trivial
theorem top.tw3730354652608582461 : True := trivial
theorem top.tw9059672392935016618 : True := trivial
theorem top.tw3195968871104189447 : True := trivial
theorem top.tw14459580976405569124 : True := trivial
theorem top.tw18186074749648716422 : True := trivial
theorem top.tw9759319705405543751 : True := trivial
theorem top.tw8538268897159353584 : True := trivial
theorem top.tw1195175773429642966 : True := trivial
theorem top.tw1284575025550258836 : True := trivial
theorem top.tw13928562000808390012 : True := trivial
theorem top.tw105208000716104510 : True := trivial
theorem top.tw14826035006057030972 : True := trivial
theorem top.tw16155163154822807229 : True := trivial
theorem top.tw453181688931711583 : True := trivial
theorem top.tw11133666699803404755 : True := trivial
theorem top.tw2741389259953327712 : True := trivial
theorem top.tw5058314954733539658 : True := trivial
theorem top.tw775762912060472103 : True := trivial
theorem top.tw8345894832289464959 : True := trivial
theorem top.tw16352630495959832749 : True := trivial
theorem top.tw8443935842833279946 : True := trivial
theorem top.tw6749217079512962374 : True := trivial
theorem top.tw2812155379371279736 : True := trivial
theorem top.tw12643491718579748851 : True := trivial
theorem top.tw17470836177267949868 : True := trivial
theorem top.tw4656485037274611717 : True := trivial
theorem top.tw13272337422414781067 : True := trivial
theorem top.tw14796646475526232899 : True := trivial
theorem top.tw1275901062530889299 : True := trivial
theorem top.tw795583310449317561 : True := trivial
theorem top.tw12385144161495827662 : True := trivial
theorem top.tw16885616592811714743 : True := trivial
theorem top.tw6883741973766446791 : True := trivial
theorem top.tw5225153198818245361 : True := trivial
theorem top.tw16174758807025615021 : True := trivial
theorem top.tw987869383939708018 : True := trivial
theorem top.tw15299407806266782574 : True := trivial
theorem top.tw10648311167861321448 : True := trivial
theorem top.tw14372152842798730730 : True := trivial
theorem top.tw14402358008270493973 : True := trivial
theorem top.tw16123964013534891561 : True := trivial
theorem top.tw1516213087968936877 : True := trivial
theorem top.tw7527032243904285869 : True := trivial
theorem top.tw6370870915552960936 : True := trivial
theorem top.tw2462062305354472974 : True := trivial
theorem top.tw16196420915677631385 : True := trivial
theorem top.tw15569959144833144457 : True := trivial
theorem top.tw5244899138074338376 : True := trivial
theorem top.tw10936122117785486979 : True := trivial
theorem top.tw6333448901615975916 : True := trivial
theorem top.tw6859976401760118174 : True := trivial
theorem top.tw12318557346453588183 : True := trivial
theorem top.tw11423202765487971197 : True := trivial
theorem top.tw12392516345856041104 : True := trivial
theorem top.tw7414872774492366064 : True := trivial
theorem top.tw216529984938456764 : True := trivial
theorem top.tw11960245374511038805 : True := trivial
theorem top.tw6664487174759623829 : True := trivial
theorem top.tw4205137553216949640 : True := trivial
theorem top.tw7673058066778466091 : True := trivial
theorem top.tw2555065506035805374 : True := trivial
theorem top.tw10006222313960134694 : True := trivial
theorem top.tw1483126911874232274 : True := trivial
theorem top.tw370947364307004932 : True := trivial
theorem top.tw14390669486469195807 : True := trivial
theorem top.tw5581607755468803823 : True := trivial
theorem top.tw4321519831107876412 : True := trivial
theorem top.tw12425085872883035938 : True := trivial
theorem top.tw12094960947251128927 : True := trivial
theorem top.tw15058813355848621054 : True := trivial
theorem top.tw17323899518341599180 : True := trivial
theorem top.tw9059832203979395877 : True := trivial
theorem top.tw708234853630380328 : True := trivial
theorem top.tw2126296398998916975 : True := trivial
theorem top.tw6127594578889010139 : True := trivial
theorem top.tw10448899703829047738 : True := trivial
theorem top.tw7008692893051332821 : True := trivial
theorem top.tw8184561461823581802 : True := trivial
theorem top.tw8435561252592420358 : True := trivial
theorem top.tw6919701780365589675 : True := trivial
theorem top.tw9108098604805947806 : True := trivial
theorem top.tw3561193834555079511 : True := trivial
theorem top.tw13345470168829271861 : True := trivial
theorem top.tw390997316461189296 : True := trivial
theorem top.tw728428047077509346 : True := trivial
theorem top.tw15503665604740900718 : True := trivial
theorem top.tw11334350811105764591 : True := trivial
theorem top.tw12958502747184954254 : True := trivial
theorem top.tw1400011881503588481 : True := trivial
theorem top.tw1212798325632107971 : True := trivial
theorem top.tw1676862907878916244 : True := trivial
theorem top.tw15985961358823992270 : True := trivial
theorem top.tw16325430554902658873 : True := trivial
theorem top.tw6240723676877644813 : True := trivial
theorem top.tw14282377253939248939 : True := trivial
theorem top.tw4713442408853163898 : True := trivial
theorem top.tw9614876229902214918 : True := trivial
theorem top.tw11762496359356365647 : True := trivial
theorem top.tw9503340733035011235 : True := trivial
theorem top.tw12376051458212225564 : True := trivial
theorem top.tw13370750898655102155 : True := trivial
theorem top.tw9259421805112917234 : True := trivial
theorem top.tw9382581127745807760 : True := trivial
theorem top.tw5889316905344633881 : True := trivial
theorem top.tw16795567611416646642 : True := trivial
theorem top.tw7830913209206220567 : True := trivial
theorem top.tw8321918168302905379 : True := trivial
theorem top.tw2007660962349395123 : True := trivial
theorem top.tw620129878449983639 : True := trivial
theorem top.tw6438537300738474071 : True := trivial
theorem top.tw11922380849998532372 : True := trivial
theorem top.tw339143206060000330 : True := trivial
theorem top.tw4047667213573674445 : True := trivial
theorem top.tw6885214360128481674 : True := trivial
theorem top.tw12317137736924338119 : True := trivial
theorem top.tw14168018189251442112 : True := trivial
theorem top.tw13177472732611162249 : True := trivial
theorem top.tw2443449257678562572 : True := trivial
theorem top.tw7429413206186439793 : True := trivial
theorem top.tw9335426496214029073 : True := trivial
theorem top.tw4859757453598101857 : True := trivial
theorem top.tw13889484949932952446 : True := trivial
theorem top.tw2145171640123136144 : True := trivial
theorem top.tw14371913498598963198 : True := trivial
theorem top.tw15092371282622821202 : True := trivial
theorem top.tw12787338502077490372 : True := trivial
theorem top.tw13889309363888878346 : True := trivial
theorem top.tw10915162052029792233 : True := trivial
theorem top.tw18085771088847121727 : True := trivial
theorem top.tw17428532607074087071 : True := trivial
theorem top.tw13822267516522204269 : True := trivial
theorem top.tw5278709424875269971 : True := trivial
theorem top.tw17565814175750979855 : True := trivial
theorem top.tw1088946173253831356 : True := trivial
theorem top.tw13896958669275611876 : True := trivial
theorem top.tw6761616313442571491 : True := trivial
theorem top.tw17355269125676882429 : True := trivial
theorem top.tw14263998999751124003 : True := trivial
theorem top.tw3855276242980373810 : True := trivial
theorem top.tw1585457916280141200 : True := trivial
theorem top.tw15361541807878343388 : True := trivial
theorem top.tw10956490626425055710 : True := trivial
theorem top.tw8523463495250067690 : True := trivial
theorem top.tw877433047237710547 : True := trivial
theorem top.tw8679839319945467846 : True := trivial
theorem top.tw1142415686869020238 : True := trivial
theorem top.tw1617357707322924660 : True := trivial
theorem top.tw5225916559131626549 : True := trivial
theorem top.tw887695700811335699 : True := trivial
theorem top.tw7198060816514059695 : True := trivial
theorem top.tw17046948494117081484 : True := trivial
theorem top.tw3422688185749166683 : True := trivial
theorem top.tw12166907935582030026 : True := trivial
theorem top.tw8410488445778877200 : True := trivial
theorem top.tw8694864300669457046 : True := trivial
theorem top.tw3474246075231452896 : True := trivial
theorem top.tw7743179893348639699 : True := trivial
theorem top.tw7444641836354208208 : True := trivial
theorem top.tw18063644159110109576 : True := trivial
theorem top.tw18371284783138465269 : True := trivial
theorem top.tw6505410396798821541 : True := trivial
theorem top.tw2665807947273092163 : True := trivial
theorem top.tw11203750815551599093 : True := trivial
theorem top.tw10008474027749305400 : True := trivial
theorem top.tw13044034144603486326 : True := trivial
theorem top.tw381845443943030031 : True := trivial
theorem top.tw4784893810139332661 : True := trivial
theorem top.tw2847958352784047137 : True := trivial
theorem top.tw17620759639134147866 : True := trivial
theorem top.tw18237780215024852062 : True := trivial
theorem top.tw5915399644114372684 : True := trivial
theorem top.tw13802547742096326172 : True := trivial
theorem top.tw8973803690348224638 : True := trivial
theorem top.tw8729362747519067210 : True := trivial
theorem top.tw4076138812419527698 : True := trivial
theorem top.tw501154541418245514 : True := trivial
theorem top.tw8622502720953521162 : True := trivial
theorem top.tw11845233108574324481 : True := trivial
theorem top.tw12105128591322288922 : True := trivial
theorem top.tw9951221954081769418 : True := trivial
theorem top.tw13090165191389475591 : True := trivial
theorem top.tw8140125068956082859 : True := trivial
theorem top.tw6930518751129746686 : True := trivial
theorem top.tw15877122091014420850 : True := trivial
theorem top.tw16821654228018055803 : True := trivial
theorem top.tw7715697345341360870 : True := trivial
theorem top.tw1706793611546318481 : True := trivial
theorem top.tw8237333600419904120 : True := trivial
theorem top.tw9962302188120564619 : True := trivial
theorem top.tw10548783162686979305 : True := trivial
theorem top.tw14632489290957082403 : True := trivial
theorem top.tw1638113669730673903 : True := trivial
theorem top.tw146815374380898660 : True := trivial
theorem top.tw16104615914030681952 : True := trivial
theorem top.tw6624316729101989866 : True := trivial
theorem top.tw15918733279669447828 : True := trivial
theorem top.tw6189502492464219833 : True := trivial
theorem top.tw14399976873020721970 : True := trivial
theorem top.tw9953747333497923681 : True := trivial
theorem top.tw16550210197400561554 : True := trivial
theorem top.tw5860347150701562758 : True := trivial
theorem top.tw8645369167282567922 : True := trivial
theorem top.tw6211089042160764376 : True := trivial
theorem top.tw13420762306968818387 : True := trivial
theorem top.tw11520865232209809239 : True := trivial
theorem top.tw13068111086705522682 : True := trivial
theorem top.tw10987319290404115282 : True := trivial
theorem top.tw8212240652046128837 : True := trivial
theorem top.tw14762295962024373759 : True := trivial
theorem top.tw14697636140705633519 : True := trivial
theorem top.tw12415523145999629524 : True := trivial
theorem top.tw4597200072644226624 : True := trivial
theorem top.tw6042063481754889096 : True := trivial
theorem top.tw6572447435987645144 : True := trivial
theorem top.tw10195997230039290492 : True := trivial
theorem top.tw10864713392326063847 : True := trivial
theorem top.tw15740088241188596515 : True := trivial
theorem top.tw7600245330811189008 : True := trivial
theorem top.tw13326734554550294991 : True := trivial
theorem top.tw16878204669230926818 : True := trivial
theorem top.tw2464713573024523455 : True := trivial
theorem top.tw10797620697341660853 : True := trivial
theorem top.tw53344730913325255 : True := trivial
theorem top.tw8657480035899644758 : True := trivial
theorem top.tw76412952228603488 : True := trivial
theorem top.tw16415559393655328363 : True := trivial
theorem top.tw7313339093194340965 : True := trivial
theorem top.tw12427389293880184781 : True := trivial
theorem top.tw6430265229019958763 : True := trivial
theorem top.tw13134186033006778460 : True := trivial
theorem top.tw18086089286151905521 : True := trivial
theorem top.tw16054190913257422852 : True := trivial
theorem top.tw10783980745131425670 : True := trivial
theorem top.tw594810645892935528 : True := trivial
theorem top.tw15254643099363442306 : True := trivial
theorem top.tw5938664839603501006 : True := trivial
theorem top.tw6176384092110617959 : True := trivial
theorem top.tw11199710921928265848 : True := trivial
theorem top.tw2907113945770861938 : True := trivial
theorem top.tw11240886729373846589 : True := trivial
theorem top.tw18289109515434150305 : True := trivial
theorem top.tw14747140909534839006 : True := trivial
theorem top.tw17342085116792181814 : True := trivial
theorem top.tw2377541652452675900 : True := trivial
theorem top.tw9227057690007400460 : True := trivial
theorem top.tw3261557481417251176 : True := trivial
theorem top.tw3195522803047326042 : True := trivial
theorem top.tw16719718919923625709 : True := trivial
theorem top.tw10801874191123338550 : True := trivial
theorem top.tw15095372191486117680 : True := trivial
theorem top.tw13307591127769906961 : True := trivial
theorem top.tw1843344800811705456 : True := trivial
theorem top.tw18367679650794681301 : True := trivial
theorem top.tw9442318146202087700 : True := trivial
theorem top.tw9366391650621772374 : True := trivial
theorem top.tw1291508964198565346 : True := trivial
theorem top.tw9233335307524088747 : True := trivial
theorem top.tw17795014544551873601 : True := trivial
theorem top.tw10657950659306570408 : True := trivial
theorem top.tw3976154599441133093 : True := trivial
theorem top.tw1754339480302792767 : True := trivial
theorem top.tw17542608870123051758 : True := trivial
theorem top.tw17219337458794519322 : True := trivial
theorem top.tw3712731000106771831 : True := trivial
theorem top.tw16597617366809209970 : True := trivial
theorem top.tw16453443671601555132 : True := trivial
theorem top.tw7386116660499605909 : True := trivial
theorem top.tw16800595933775061595 : True := trivial
theorem top.tw4828031223510198475 : True := trivial
theorem top.tw4526881389914513428 : True := trivial
theorem top.tw1108800333578037850 : True := trivial
theorem top.tw1068965626710143233 : True := trivial
theorem top.tw18177719399980262173 : True := trivial
theorem top.tw6487610083215253720 : True := trivial
theorem top.tw1294077662247117797 : True := trivial
theorem top.tw14724332232928298890 : True := trivial
theorem top.tw13290321428070320777 : True := trivial
theorem top.tw9195894827357321740 : True := trivial
theorem top.tw16900427199656544559 : True := trivial
theorem top.tw8472579005086612782 : True := trivial
theorem top.tw2220570432770164149 : True := trivial
theorem top.tw11334203419191126389 : True := trivial
theorem top.tw7671549972530922468 : True := trivial
theorem top.tw13001836021917841797 : True := trivial
theorem top.tw9919435345466941130 : True := trivial
theorem top.tw11443710868159068359 : True := trivial
theorem top.tw1601500998369573665 : True := trivial
theorem top.tw9166809390415177425 : True := trivial
theorem top.tw10187264123177260123 : True := trivial
theorem top.tw17953984050398360512 : True := trivial
theorem top.tw15286249088069653756 : True := trivial
theorem top.tw15245507539482535896 : True := trivial
theorem top.tw16058212318047004132 : True := trivial
theorem top.tw11459358961799972967 : True := trivial
theorem top.tw11430207588045935325 : True := trivial
theorem top.tw15646934709686841381 : True := trivial
theorem top.tw9800703332001039478 : True := trivial
theorem top.tw17492772389151264855 : True := trivial
theorem top.tw5766051744304087583 : True := trivial
theorem top.tw4166218997396506358 : True := trivial
theorem top.tw10567129059001840431 : True := trivial
theorem top.tw8507776931139520737 : True := trivial
theorem top.tw10996937224433265937 : True := trivial
theorem top.tw16439428074185983240 : True := trivial
theorem top.tw1245559373397905713 : True := trivial
theorem top.tw14597223018079223185 : True := trivial
theorem top.tw5476889619067714990 : True := trivial
theorem top.tw13369591340354186047 : True := trivial
theorem top.tw11334415319851112604 : True := trivial
theorem top.tw15976228082101565994 : True := trivial
theorem top.tw352232786441526191 : True := trivial
theorem top.tw6906291655842520137 : True := trivial
theorem top.tw1736530178072539846 : True := trivial
theorem top.tw4571971715460732019 : True := trivial
theorem top.tw8813761850579938390 : True := trivial
theorem top.tw814325599930780420 : True := trivial
theorem top.tw14611434983143301774 : True := trivial
theorem top.tw8598144960395782539 : True := trivial
theorem top.tw7458633546980236471 : True := trivial
theorem top.tw14901070454687303710 : True := trivial
theorem top.tw8735323631387419056 : True := trivial
theorem top.tw17810072253543177317 : True := trivial
theorem top.tw1047907039808853306 : True := trivial
theorem top.tw72247145696351765 : True := trivial
theorem top.tw6491118196486620199 : True := trivial
theorem top.tw11613256710310857696 : True := trivial
theorem top.tw9631074621892390191 : True := trivial
theorem top.tw14823308797102314842 : True := trivial
theorem top.tw1529220927943923096 : True := trivial
theorem top.tw1131139625674242341 : True := trivial
theorem top.tw6058780594550047802 : True := trivial
theorem top.tw14983295669656543371 : True := trivial
theorem top.tw1788138344755669473 : True := trivial
theorem top.tw4873603975901500873 : True := trivial
theorem top.tw9779110368921367113 : True := trivial
theorem top.tw10900551605799900844 : True := trivial
theorem top.tw11546936639936008217 : True := trivial
theorem top.tw13310400573052568472 : True := trivial
theorem top.tw10226039269515513512 : True := trivial
theorem top.tw5187300753348411500 : True := trivial
theorem top.tw7115824082346440616 : True := trivial
theorem top.tw3888000255316426991 : True := trivial
theorem top.tw16359887908644392378 : True := trivial
theorem top.tw8061784049497598715 : True := trivial
theorem top.tw11948995353047267269 : True := trivial
theorem top.tw5597187220613765494 : True := trivial
theorem top.tw5977478716191010641 : True := trivial
theorem top.tw8833053369097974544 : True := trivial
theorem top.tw18064794426631996164 : True := trivial
theorem topR_of {p : Program} {loose : List Str} {mean : ExcName → Option Value} {mg mb : Str → Option Value} {h : Heap} (T : Top p loose mean mg mb h) : TopR mg mb h := ⟨T.g, T.b, T.nolimit, T.builtins⟩
section
variable {P : List Value → Prop}
theorem len1 (h : ∀ a, P [a]) : ∀ vs : List Value, vs.length = 1 → P vs
  | [a], _ => h a
theorem len2 (h : ∀ a b, P [a, b]) : ∀ vs : List Value, vs.length = 2 → P vs
  | [a, b], _ => h a b
theorem len3 (h : ∀ a b c, P [a, b, c]) : ∀ vs : List Value, vs.length = 3 → P vs
  | [a, b, c], _ => h a b c
theorem len5 (h : ∀ a b c d e, P [a, b, c, d, e]) : ∀ vs : List Value, vs.length = 5 → P vs
  | [a, b, c, d, e], _ => h a b c d e
end

set_option maxHeartbeats 80000000 in
theorem top : PySem.Challenge.rw_pb0120_01.Holds := by
  w_on; o_law; k_head; (case hw => w_witness2)
  k_go0
  have kf : ∀ w : World, KF (Mine.top.heap_1_39 w.params) := fun w =>
    ⟨by kernel_rfl, by kernel_rfl, by kernel_rfl, by kernel_rfl, by kernel_rfl, List.forall_mem_cons.mpr ⟨⟨_, _, rfl, rfl, ⟨rfl, rfl, rfl, rfl, rfl, rfl, rfl, rfl, by kernel_rfl, len5 fun _ _ _ _ _ => rfl⟩⟩, List.forall_mem_cons.mpr ⟨⟨_, _, rfl, rfl, ⟨rfl, rfl, rfl, rfl, rfl, rfl, rfl, rfl, by kernel_rfl, len1 fun _ => rfl⟩⟩, List.forall_mem_cons.mpr ⟨⟨_, _, rfl, rfl, ⟨rfl, rfl, rfl, rfl, rfl, rfl, rfl, rfl, by kernel_rfl, len2 fun _ _ => rfl⟩⟩, List.forall_mem_cons.mpr ⟨⟨_, _, rfl, rfl, ⟨rfl, rfl, rfl, rfl, rfl, rfl, rfl, rfl, by kernel_rfl, len2 fun _ _ => rfl⟩⟩, List.forall_mem_cons.mpr ⟨⟨_, _, rfl, rfl, ⟨rfl, rfl, rfl, rfl, rfl, rfl, rfl, rfl, by kernel_rfl, len3 fun _ _ _ => rfl⟩⟩, List.forall_mem_cons.mpr ⟨⟨_, _, rfl, rfl, ⟨rfl, rfl, rfl, rfl, rfl, rfl, rfl, rfl, by kernel_rfl, len1 fun _ => rfl⟩⟩, List.forall_mem_cons.mpr ⟨⟨_, _, rfl, rfl, ⟨rfl, rfl, rfl, rfl, rfl, rfl, rfl, rfl, by kernel_rfl, len2 fun _ _ => rfl⟩⟩, List.forall_mem_cons.mpr ⟨⟨_, _, rfl, rfl, ⟨rfl, rfl, rfl, rfl, rfl, rfl, rfl, rfl, by kernel_rfl, len2 fun _ _ => rfl⟩⟩, List.forall_mem_cons.mpr ⟨⟨_, _, rfl, rfl, ⟨rfl, rfl, rfl, rfl, rfl, rfl, rfl, rfl, by kernel_rfl, len1 fun _ => rfl⟩⟩, List.forall_mem_cons.mpr ⟨⟨_, _, rfl, rfl, ⟨rfl, rfl, rfl, rfl, rfl, rfl, rfl, rfl, by kernel_rfl, len2 fun _ _ => rfl⟩⟩, List.forall_mem_cons.mpr ⟨⟨_, _, rfl, rfl, ⟨rfl, rfl, rfl, rfl, rfl, rfl, rfl, rfl, by kernel_rfl, len2 fun _ _ => rfl⟩⟩, List.forall_mem_cons.mpr ⟨⟨_, _, rfl, rfl, ⟨rfl, rfl, rfl, rfl, rfl, rfl, rfl, rfl, by kernel_rfl, len2 fun _ _ => rfl⟩⟩, List.forall_mem_cons.mpr ⟨⟨_, _, rfl, rfl, ⟨rfl, rfl, rfl, rfl, rfl, rfl, rfl, rfl, by kernel_rfl, len2 fun _ _ => rfl⟩⟩, List.forall_mem_cons.mpr ⟨⟨_, _, rfl, rfl, ⟨rfl, rfl, rfl, rfl, rfl, rfl, rfl, rfl, by kernel_rfl, len3 fun _ _ _ => rfl⟩⟩, List.forall_mem_cons.mpr ⟨⟨_, _, rfl, rfl, ⟨rfl, rfl, rfl, rfl, rfl, rfl, rfl, rfl, by kernel_rfl, len5 fun _ _ _ _ _ => rfl⟩⟩, List.forall_mem_cons.mpr ⟨⟨_, _, rfl, rfl, ⟨rfl, rfl, rfl, rfl, rfl, rfl, rfl, rfl, by kernel_rfl, len2 fun _ _ => rfl⟩⟩, List.forall_mem_cons.mpr ⟨⟨_, _, rfl, rfl, ⟨rfl, rfl, rfl, rfl, rfl, rfl, rfl, rfl, by kernel_rfl, len2 fun _ _ => rfl⟩⟩, List.forall_mem_cons.mpr ⟨⟨_, _, rfl, rfl, ⟨rfl, rfl, rfl, rfl, rfl, rfl, rfl, rfl, by kernel_rfl, len1 fun _ => rfl⟩⟩, List.forall_mem_cons.mpr ⟨⟨_, _, rfl, rfl, ⟨rfl, rfl, rfl, rfl, rfl, rfl, rfl, rfl, by kernel_rfl, len1 fun _ => rfl⟩⟩, List.forall_mem_cons.mpr ⟨⟨_, _, rfl, rfl, ⟨rfl, rfl, rfl, rfl, rfl, rfl, rfl, rfl, by kernel_rfl, len3 fun _ _ _ => rfl⟩⟩, List.forall_mem_cons.mpr ⟨⟨_, _, rfl, rfl, ⟨rfl, rfl, rfl, rfl, rfl, rfl, rfl, rfl, by kernel_rfl, len2 fun _ _ => rfl⟩⟩, List.forall_mem_cons.mpr ⟨⟨_, _, rfl, rfl, ⟨rfl, rfl, rfl, rfl, rfl, rfl, rfl, rfl, by kernel_rfl, len1 fun _ => rfl⟩⟩, List.forall_mem_cons.mpr ⟨⟨_, _, rfl, rfl, ⟨rfl, rfl, rfl, rfl, rfl, rfl, rfl, rfl, by kernel_rfl, len1 fun _ => rfl⟩⟩, List.forall_mem_cons.mpr ⟨⟨_, _, rfl, rfl, ⟨rfl, rfl, rfl, rfl, rfl, rfl, rfl, rfl, by kernel_rfl, len1 fun _ => rfl⟩⟩, List.forall_mem_cons.mpr ⟨⟨_, _, rfl, rfl, ⟨rfl, rfl, rfl, rfl, rfl, rfl, rfl, rfl, by kernel_rfl, len2 fun _ _ => rfl⟩⟩, List.forall_mem_cons.mpr ⟨⟨_, _, rfl, rfl, ⟨rfl, rfl, rfl, rfl, rfl, rfl, rfl, rfl, by kernel_rfl, len2 fun _ _ => rfl⟩⟩, List.forall_mem_cons.mpr ⟨⟨_, _, rfl, rfl, ⟨rfl, rfl, rfl, rfl, rfl, rfl, rfl, rfl, by kernel_rfl, len1 fun _ => rfl⟩⟩, List.forall_mem_cons.mpr ⟨⟨_, _, rfl, rfl, ⟨rfl, rfl, rfl, rfl, rfl, rfl, rfl, rfl, by kernel_rfl, len1 fun _ => rfl⟩⟩, fun _ hm => nomatch hm⟩⟩⟩⟩⟩⟩⟩⟩⟩⟩⟩⟩⟩⟩⟩⟩⟩⟩⟩⟩⟩⟩⟩⟩⟩⟩⟩⟩⟩
  refine wpAny_mono (top_run ⟨_, _, kf _, _, _, by assumption, _, _, topR_of (by assumption)⟩ (okTop _) (by assumption) rfl rfl (law_all _ (by assumption) (by assumption) (by omega) all_ok) rfl rfl rfl rfl rfl (by assumption) rfl rfl (by assumption) (by assumption)) ?_ (fun _ _ h => h.elim)
  rintro f s' ⟨rfl, h1, h2, h3⟩
  exact ⟨.inl ⟨_, _, [], rfl, fun _ => rfl, ReadsW.bool true, (by wrow_post), fun _ => ⟨List.nodup_nil, fun _ hm => (nomatch hm)⟩⟩, h1, h2, h3⟩
end Mine
theorem PySem.Challenge.cw_pb0120_01_holds : PySem.Challenge.rw_pb0120_01.Holds :=
  Mine.top
