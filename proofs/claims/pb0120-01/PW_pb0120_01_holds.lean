import PyProof.Rows.All
import Wide.All
import OpenK.AllK
import Wide.FinOn
import PySem.Challenge.RW_pb0120_01
open PySem PySem.W PyProof.Rows
set_option Elab.async false
set_option maxRecDepth 100000
set_option maxHeartbeats 8000000
set_option linter.unusedVariables false
namespace Mine
open_top hd for PySem.Challenge.rw_pb0120_01
noncomputable section
theorem slot_bytes_eq_refl : Slot "bytes" (cmpInfo .Eq).2.2 "bytes.__eq__" :=
  Slot.of (owner := "bytes") (n := "__eq__") (by rw [typeLookup_type, builtinLookup_eq_fast]; kernel_rfl) (by decide +kernel) (by decide +kernel) (by decide +kernel) (.inl (by decide +kernel)) (by rw [isSubtype_type]; kernel_rfl)
theorem sub_bytes_bool' : isSubtype (.type "bytes") (.type "bool") = pure false := by rw [isSubtype_type]; kernel_rfl
theorem sub_bool_bytes' : isSubtype (.type "bool") (.type "bytes") = pure false := by rw [isSubtype_type]; kernel_rfl
theorem int_eq_bool_bytes (a : Bool) (b : Array UInt8) (u : Tok) : Gives (Builtin.«int.__eq__» ⟨[.bool a, .bytes b u], []⟩) (.val (Value.notImplemented)) :=
  .of_wp fun M A E s Q h => by obtain ⟨hp, g, d, tk, os⟩ := s; wp_walk; exact ⟨_, rfl, h⟩
theorem bytes_eq_bytes_bool (a : Bool) (b : Array UInt8) (u : Tok) : Gives (Builtin.«bytes.__eq__» ⟨[.bytes b u, .bool a], []⟩) (.val (Value.notImplemented)) :=
  .of_wp fun M A E s Q h => by
    obtain ⟨hp, g, d, tk, os⟩ := s
    wp_walk
    refine wpAny_of_eq sub_bool_bytes' ?_
    rw [if_pos (by rfl)]
    exact wpAny_bind (wpAny_rule (wpAny_pure ⟨_, rfl, h⟩))
section
variable {prog : Program} {w : World} {A : Around} {E : Value → Shared → Prop} {s : Shared}
theorem rc_bool_bytes {a : Bool} {b : Array UInt8} {u : Tok} {Q : Value → Shared → Prop} (h : Q (.bool false) s) : wpAny (model prog w) A (richCompare .Eq (.bool a) (.bytes b u)) Q E s :=
  EqNone.wpAny_richCompare_eq_decline (k := false) (fun _ => rfl) (fun s' => typeIs_bytes s' b u) (by decide) sub_bytes_bool' F.slot_bool_eq slot_bytes_eq_refl rfl
    (call_gives F.slot_bool_eq (rfl) F.entry_int_eq (F.args_int_eq_2 _ _) (int_eq_bool_bytes a b u)
      ⟨rfl, call_gives slot_bytes_eq_refl (typeIs_bytes s b u) FB.entry_bytes_eq (FB.args_bytes_eq_2 _ _) (bytes_eq_bytes_bool a b u) ⟨rfl, h⟩⟩)
theorem rc_bytes_bool {a : Bool} {b : Array UInt8} {u : Tok} {Q : Value → Shared → Prop} (h : Q (.bool false) s) : wpAny (model prog w) A (richCompare .Eq (.bytes b u) (.bool a)) Q E s :=
  EqNone.wpAny_richCompare_eq_decline (k := false) (fun s' => typeIs_bytes s' b u) (fun _ => rfl) (by decide) sub_bool_bytes' FB.slot_bytes_eq F.slot_bool_eq_refl rfl
    (call_gives FB.slot_bytes_eq (typeIs_bytes s b u) FB.entry_bytes_eq (FB.args_bytes_eq_2 _ _) (bytes_eq_bytes_bool a b u)
      ⟨rfl, call_gives F.slot_bool_eq_refl (rfl) F.entry_int_eq (F.args_int_eq_2 _ _) (int_eq_bool_bytes a b u) ⟨rfl, h⟩⟩)
theorem eqB_bool_bytes {a : Bool} {b : Array UInt8} {u : Tok} {Q : Bool → Shared → Prop} (h : Q false s) : wpAny (model prog w) A (eqBool (.bool a) (.bytes b u)) Q E s := by
  unfold eqBool
  try with_reducible refine wpAny_holding ?_
  rw [if_neg (by intro h; cases eq_of_beq h)]
  exact wpAny_bind (rc_bool_bytes (wpAny_truthy_bool h))
theorem eqB_bytes_bool {a : Bool} {b : Array UInt8} {u : Tok} {Q : Bool → Shared → Prop} (h : Q false s) : wpAny (model prog w) A (eqBool (.bytes b u) (.bool a)) Q E s := by
  unfold eqBool
  try with_reducible refine wpAny_holding ?_
  rw [if_neg (by intro h; cases eq_of_beq h)]
  exact wpAny_bind (rc_bytes_bool (wpAny_truthy_bool h))
end
def isKK : Option (List UInt8) → Value → Bool
  | none, .bool b => !b
  | some k, v => isBytes k v
  | _, _ => false
theorem isKK_none {v : Value} (h : isKK none v = true) : v = .bool false := by
  cases v <;> simp [isKK] at h
  subst h; rfl
def kkind (prog : Program) (w : World) : KeyKind prog w (Option (List UInt8)) where
  is := isKK
  hash k := match k with | none => reduceHash 0 | some b => (bytesKind prog w).hash b
  inj v a b ha hb := by
    cases a <;> cases b
    · rfl
    · have := isKK_none ha; subst this; simp [isKK, isBytes] at hb
    · have := isKK_none hb; subst this; simp [isKK, isBytes] at ha
    · exact congrArg some ((bytesKind prog w).inj v _ _ ha hb)
  byValue k v h := by
    cases k
    · rw [isKK_none h]; rfl
    · exact (bytesKind prog w).byValue _ v h
  pyHash := fun {A E s k v Q} hv h => by
    cases k with
    | none =>
      rw [isKK_none hv]
      refine pyHash_slot (T := "bool") rfl F.slot_bool_hash entry_int_hash (args_int_hash _) (beq_builtin_none _) (.inl rfl) ?_
      show wpAny _ _ (do ret (← mkInt (rawHash 0))) _ _ s
      exact wpAny_bind (wpAny_mkInt (wpAny_pure ⟨_, _, rfl, h⟩))
    | some b => exact (bytesKind prog w).pyHash hv h
  eqBool := fun {A E s a b u v Q} hu hv h => by
    cases a <;> cases b
    · rw [isKK_none hu, isKK_none hv]
      unfold eqBool
      try with_reducible refine wpAny_holding ?_
      rw [if_pos (by rfl)]
      exact wpAny_bind (wpAny_rule (wpAny_pure h))
    · rw [isKK_none hu]; obtain ⟨t, rfl⟩ := isBytes_shape hv; exact eqB_bool_bytes h
    · rw [isKK_none hv]; obtain ⟨t, rfl⟩ := isBytes_shape hu; exact eqB_bytes_bool h
    · rename_i x y; refine (bytesKind prog w).eqBool (a := x) (b := y) hu hv ?_; simpa using h
  «strs» k x t v h := by cases k <;> cases h
inductive MV where
  | undef | none | bool (b : Bool) | int (i : Int) | str (s : Str) | bytes (b : List UInt8)
  | tup (vs : List MV) | con (v : Value) | ref (i : Nat)
inductive MObj where
  | list (vs : List MV) | inst (C : Addr) (fs : List (Str × MV))
  | dI (es : List (Int × MV)) | dS (es : List (Str × MV)) | dB (es : List (List UInt8 × MV))

inductive Ow where
  | no | fz | pk | fr (x : Option Str) | lv (i : Nat)

structure G where
  F : Addr → Option Obj
  σ : List Addr
  ow : Addr → Ow

structure G.le (g g' : G) : Prop where
  F : ∀ a o, g.F a = some o → g'.F a = some o
  σ : ∀ (i : Nat) (a : Addr), g.σ[i]? = some a → g'.σ[i]? = some a
theorem G.le.refl (g : G) : g.le g := ⟨fun _ _ h => h, fun _ _ h => h⟩
theorem G.le.trans {a b c : G} (x : a.le b) (y : b.le c) : a.le c := ⟨fun _ _ h => y.F _ _ (x.F _ _ h), fun _ _ h => y.σ _ _ (x.σ _ _ h)⟩

abbrev tupObj (items : Array Value) (_n : Nat) : Obj := { cls := .type "tuple", data := .seq items 0 }
abbrev listObj (items : Array Value) (n : Nat) : Obj := { cls := .type "list", data := .seq items n }

mutual
def VR (g : G) : MV → Value → Prop
  | .undef, _ => False
  | .none, v => v = .none
  | .bool b, v => v = .bool b
  | .int i, v => ∃ t, v = .int i t
  | .str s, v => ∃ t, v = .str s t
  | .bytes b, v => ∃ t, v = .bytes b.toArray t
  | .tup vs, v => ∃ a items n, v = .ref a ∧ g.F a = some (tupObj items n) ∧ VRs g vs items.toList
  | .con x, v => v = x
  | .ref i, v => ∃ a, g.σ[i]? = some a ∧ v = .ref a
def VRs (g : G) : List MV → List Value → Prop
  | [], vs => vs = []
  | x :: xs, vs => ∃ v r, vs = v :: r ∧ VR g x v ∧ VRs g xs r
end
mutual
theorem VR.mono {g g' : G} (l : g.le g') : ∀ {m : MV} {v : Value}, VR g m v → VR g' m v
  | .undef, _ => fun h => by simp only [VR] at h
  | .none, _ => fun h => by simp only [VR] at h ⊢; exact h
  | .bool _, _ => fun h => by simp only [VR] at h ⊢; exact h
  | .int _, _ => fun h => by simp only [VR] at h ⊢; exact h
  | .str _, _ => fun h => by simp only [VR] at h ⊢; exact h
  | .bytes _, _ => fun h => by simp only [VR] at h ⊢; exact h
  | .con _, _ => fun h => by simp only [VR] at h ⊢; exact h
  | .tup vs, _ => fun h => by
    simp only [VR] at h ⊢
    obtain ⟨a, items, n, e, hF, hs⟩ := h
    exact ⟨a, items, n, e, l.F _ _ hF, VRs.mono l hs⟩
  | .ref i, _ => fun h => by
    simp only [VR] at h ⊢
    obtain ⟨a, h1, h2⟩ := h
    exact ⟨a, l.σ _ _ h1, h2⟩
theorem VRs.mono {g g' : G} (l : g.le g') : ∀ {ms : List MV} {vs : List Value}, VRs g ms vs → VRs g' ms vs
  | [], _ => fun h => by simp only [VRs] at h ⊢; exact h
  | x :: xs, _ => fun h => by
    simp only [VRs] at h ⊢
    obtain ⟨v, r, e, h1, h2⟩ := h
    exact ⟨v, r, e, VR.mono l h1, VRs.mono l h2⟩
end
theorem VRs.length {g : G} : ∀ {ms : List MV} {vs : List Value}, VRs g ms vs → vs.length = ms.length
  | [], _ => fun h => by simp only [VRs] at h; rw [h]; rfl
  | x :: xs, _ => fun h => by
    simp only [VRs] at h
    obtain ⟨v, r, e, _, h2⟩ := h
    rw [e, List.length_cons, List.length_cons, VRs.length h2]
theorem VRs.get {g : G} : ∀ {ms : List MV} {vs : List Value} {i : Nat} {m : MV}, VRs g ms vs → ms[i]? = some m → ∃ v, vs[i]? = some v ∧ VR g m v
  | [], _, _, _ => fun _ e => by simp at e
  | x :: xs, _, i, m => fun h e => by
    simp only [VRs] at h
    obtain ⟨v, r, rfl, h1, h2⟩ := h
    cases i with
    | zero => simp at e; subst e; exact ⟨v, rfl, h1⟩
    | succ i => simp at e; obtain ⟨v', a, b⟩ := VRs.get h2 e; exact ⟨v', by simpa using a, b⟩
theorem VRs.append {g : G} : ∀ {ms : List MV} {vs : List Value} {ms' : List MV} {vs' : List Value}, VRs g ms vs → VRs g ms' vs' → VRs g (ms ++ ms') (vs ++ vs')
  | [], _, _, _ => fun h h' => by simp only [VRs] at h; subst h; exact h'
  | x :: xs, _, _, _ => fun h h' => by
    simp only [VRs] at h
    obtain ⟨v, r, rfl, h1, h2⟩ := h
    show VRs g (x :: (xs ++ _)) (v :: (r ++ _))
    simp only [VRs]
    exact ⟨v, _, rfl, h1, VRs.append h2 h'⟩
theorem VRs.set {g : G} : ∀ {ms : List MV} {vs : List Value} {i : Nat} {m : MV} {v : Value}, VRs g ms vs → VR g m v → VRs g (ms.set i m) (vs.set i v)
  | [], _, _, _, _ => fun h _ => by simp only [VRs] at h; subst h; simp [VRs]
  | x :: xs, _, i, m, v => fun h hm => by
    simp only [VRs] at h
    obtain ⟨v', r, rfl, h1, h2⟩ := h
    cases i with
    | zero => simp only [List.set, VRs]; exact ⟨_, _, rfl, hm, h2⟩
    | succ i => simp only [List.set, VRs]; exact ⟨_, _, rfl, h1, VRs.set h2 hm⟩
theorem VRs.take {g : G} : ∀ {ms : List MV} {vs : List Value} (n : Nat), VRs g ms vs → VRs g (ms.take n) (vs.take n)
  | [], _, n => fun h => by simp only [VRs] at h; subst h; simp [VRs]
  | x :: xs, _, n => fun h => by
    simp only [VRs] at h
    obtain ⟨v', r, rfl, h1, h2⟩ := h
    cases n with
    | zero => simp [VRs]
    | succ n => simp only [List.take_succ_cons, VRs]; exact ⟨_, _, rfl, h1, VRs.take n h2⟩
theorem VRs.drop {g : G} : ∀ {ms : List MV} {vs : List Value} (n : Nat), VRs g ms vs → VRs g (ms.drop n) (vs.drop n)
  | [], _, n => fun h => by simp only [VRs] at h; subst h; simp [VRs]
  | x :: xs, _, n => fun h => by
    simp only [VRs] at h
    obtain ⟨v', r, rfl, h1, h2⟩ := h
    cases n with
    | zero => simp only [List.drop_zero, VRs]; exact ⟨_, _, rfl, h1, h2⟩
    | succ n => simp only [List.drop_succ_cons]; exact VRs.drop n h2

/-- fields of an instance against its dict's entries -/
def VRf (P : Params) (g : G) : List (Str × MV) → List DictEntry → Prop
  | [], es => es = []
  | (x, m) :: fs, es => ∃ t v r, es = ⟨PyData.keyHash P x, .str x t, v⟩ :: r ∧ VR g m v ∧ VRf P g fs r
theorem VRf.mono {P : Params} {g g' : G} (l : g.le g') : ∀ {fs : List (Str × MV)} {es : List DictEntry}, VRf P g fs es → VRf P g' fs es
  | [], _ => fun h => h
  | (x, m) :: fs, _ => fun h => by
    obtain ⟨t, v, r, e, h1, h2⟩ := h
    exact ⟨t, v, r, e, h1.mono l, VRf.mono l h2⟩

structure FI where
  ns : List (Str × NameKind)
  own : List Str

def slotGo (x : Str) : List (Str × NameKind) → Nat → Option (Nat × NameKind)
  | [], _ => none
  | (y, k) :: r, n => if x == y then some (n, k) else slotGo x r (n + 1)
def slot (ns : List (Str × NameKind)) (x : Str) : Option (Nat × NameKind) := slotGo x ns 0
theorem slotGo_lookup {x : Str} : ∀ {ns : List (Str × NameKind)} {n i : Nat} {k : NameKind}, slotGo x ns n = some (i, k) → ns.lookup x = some k
  | [], _, _, _, h => by cases h
  | (y, k') :: r, n, i, k, h => by
    unfold slotGo at h
    rw [List.lookup_cons]
    cases hb : x == y with
    | true => rw [hb, if_pos rfl] at h; cases h; rfl
    | false => rw [hb, if_neg Bool.false_ne_true] at h; exact slotGo_lookup h
theorem slotGo_ge {x : Str} : ∀ {ns : List (Str × NameKind)} {n i : Nat} {k : NameKind}, slotGo x ns n = some (i, k) → n ≤ i
  | [], _, _, _, h => by cases h
  | (y, k') :: r, n, i, k, h => by
    unfold slotGo at h
    split at h
    · cases h; exact Nat.le_refl _
    · exact Nat.le_of_succ_le (slotGo_ge h)
theorem slotGo_inj {x y : Str} : ∀ {ns : List (Str × NameKind)} {n i : Nat} {k k' : NameKind}, slotGo x ns n = some (i, k) → slotGo y ns n = some (i, k') → x = y
  | [], _, _, _, _, h, _ => by cases h
  | (z, kz) :: r, n, i, k, k', h, h' => by
    unfold slotGo at h h'
    split at h <;> split at h'
    · rename_i a b; rw [beq_iff_eq.mp a, beq_iff_eq.mp b]
    · cases h; have := slotGo_ge h'; omega
    · cases h'; have := slotGo_ge h; omega
    · exact slotGo_inj h h'
theorem slot_lookup {ns : List (Str × NameKind)} {x : Str} {i : Nat} {k : NameKind} (h : slot ns x = some (i, k)) : ns.lookup x = some k := slotGo_lookup h
theorem slot_inj {ns : List (Str × NameKind)} {x y : Str} {i : Nat} {k k' : NameKind} (h : slot ns x = some (i, k)) (h' : slot ns y = some (i, k')) : x = y := slotGo_inj h h'

/-- a slot against what the frame holds -/
def VRo (g : G) (m : Option MV) (v : Option Value) : Prop := ∀ x, m = some x → (match x with | .undef => True | x => ∃ u, v = some u ∧ VR g x u)
theorem VRo.mono {g g' : G} (l : g.le g') {m : Option MV} {v : Option Value} (h : VRo g m v) : VRo g' m v := fun x e => by
  have := h x e
  cases x <;> first | trivial | (obtain ⟨u, a, b⟩ := this; exact ⟨u, a, b.mono l⟩)
theorem VRo.ofVR {g : G} {m : MV} {v : Value} (h : VR g m v) : VRo g (some m) (some v) := fun x e => by
  cases e
  cases m <;> first | trivial | exact ⟨v, rfl, h⟩

noncomputable abbrev Kw (w : World) : Frag := hd.heap_39 w.params
abbrev Prg : Program := PySem.Challenge.rw_pb0120_01.row.prog
noncomputable abbrev Loose : List Str := looseW hd.view_39 [Str.ofString "GitError", Str.ofString "histogram"]

structure Bs where
  w : World
  hb : Heap
  os : OsState
  kx : (Kw w).In hb
  tr : ∃ mg mb, TopRead hd.view_39 Loose mg mb hb

abbrev Bs.M (B : Bs) : Model := model Prg B.w

structure FrameOk (fi : FI) (g : G) (env : Env) (ev : List MV) (h : Heap) : Prop where
  names : env.scope.names = fi.ns
  kind : env.scope.kind = .function
  glob : env.globals = mainGlobals
  blt : env.builtins = builtinsNs
  loc : g.ow env.locals = .fr none ∧ ∃ m, h.Ns env.locals m ∧ ∀ x i, slot fi.ns x = some (i, .local) → VRo g ev[i]? (m x)
  cel : ∀ x i k, slot fi.ns x = some (i, k) → (k = .cell ∨ k = .free) → ∃ c v, env.cells.lookup x = some c ∧ h.IsCell c v ∧ VRo g ev[i]? v ∧ (g.ow c = .fr (some x) ∨ (g.ow c = .pk ∧ x ∉ fi.own))

/-- relation of int-keyed (str-keyed) entries -/
def relK {α : Type} (g : G) : List (α × MV) → List (α × Value) → Prop
  | [], kvs => kvs = []
  | (k, m) :: es, kvs => ∃ v r, kvs = (k, v) :: r ∧ VR g m v ∧ relK g es r
theorem relK.mono {α : Type} {g g' : G} (l : g.le g') : ∀ {es : List (α × MV)} {kvs : List (α × Value)}, relK g es kvs → relK g' es kvs
  | [], _ => fun h => h
  | (x, m) :: fs, _ => fun h => by
    obtain ⟨v, r, e, h1, h2⟩ := h
    exact ⟨v, r, e, h1.mono l, relK.mono l h2⟩

def relB (g : G) : List (List UInt8 × MV) → List (List (Option (List UInt8)) × Addr × Value) → Prop
  | [], xs => xs = []
  | (b, m) :: es, xs => ∃ ka v r, xs = ([Option.none, some b], ka, v) :: r ∧ VR g m v ∧ relB g es r
theorem relB.mono {g g' : G} (l : g.le g') : ∀ {es : List (List UInt8 × MV)} {xs : List (List (Option (List UInt8)) × Addr × Value)}, relB g es xs → relB g' es xs
  | [], _ => fun h => h
  | (x, m) :: fs, _ => fun h => by
    obtain ⟨ka, v, r, e, h1, h2⟩ := h
    exact ⟨ka, v, r, e, h1.mono l, relB.mono l h2⟩

def LiveOk (B : Bs) (g : G) (h : Heap) (i : Nat) (a : Addr) : MObj → Prop
  | .list vs => ∃ items n, h.get? a = some (listObj items n) ∧ VRs g vs items.toList
  | .inst C fs => ∃ d es n, h.get? a = some (instObj C d) ∧ h.get? d = some (dictOf es n) ∧ g.ow d = .lv i ∧ a ≠ d ∧ VRf B.w.params g fs es
  | .dI es => ∃ kvs, h.DictOf (intKind Prg B.w) a kvs ∧ relK g es kvs
  | .dS es => ∃ kvs, h.DictOf (PySem.strKind Prg B.w) a kvs ∧ relK g es kvs
  | .dB es => ∃ xs, h.DictOfH (tupleKind (kkind Prg B.w)) a xs ∧ (∀ x ∈ xs, ∃ items n, g.F x.2.1 = some (tupObj items n)) ∧ relB g es xs

structure G.leo (g g' : G) : Prop where
  le : g.le g'
  ow : ∀ a, g.ow a ≠ .no → g'.ow a = g.ow a
theorem G.leo.refl (g : G) : g.leo g := ⟨.refl g, fun _ _ => rfl⟩

theorem LiveOk.keep {B : Bs} {g g' : G} {h h' : Heap} {i : Nat} {a : Addr} {o : MObj} (l : g.leo g') (ha : g.ow a = .lv i) (hF : ∀ a o, g.F a = some o → g.ow a = .fz)
    (hk : ∀ b o, g.ow b = .lv i ∨ g.ow b = .fz → h.get? b = some o → h'.get? b = some o) (x : LiveOk B g h i a o) : LiveOk B g' h' i a o := by
  cases o with
  | list vs => obtain ⟨items, n, h1, h2⟩ := x; exact ⟨items, n, hk _ _ (.inl ha) h1, h2.mono l.le⟩
  | inst C fs =>
    obtain ⟨d, es, n, h1, h2, h3, h4, h5⟩ := x
    exact ⟨d, es, n, hk _ _ (.inl ha) h1, hk _ _ (.inl h3) h2, (l.ow d (by rw [h3]; intro e; cases e)).trans h3, h4, h5.mono l.le⟩
  | dI es => obtain ⟨kvs, ⟨o, es', ep, h1, h2⟩, h3⟩ := x; exact ⟨kvs, ⟨o, es', ep, hk _ _ (.inl ha) h1, h2⟩, h3.mono l.le⟩
  | dS es => obtain ⟨kvs, ⟨o, es', ep, h1, h2⟩, h3⟩ := x; exact ⟨kvs, ⟨o, es', ep, hk _ _ (.inl ha) h1, h2⟩, h3.mono l.le⟩
  | dB es =>
    obtain ⟨xs, ⟨o, es', ep, h1, h2, h3, h4, h5, h6⟩, h7, h8⟩ := x
    refine ⟨xs, ⟨o, es', ep, hk _ _ (.inl ha) h1, h2, h3, h4, fun y hy => ?_, h6⟩, fun y hy => ?_, h8.mono l.le⟩
    · obtain ⟨items, n, e⟩ := h7 y hy
      obtain ⟨o', it, n', e1, e2⟩ := h5 y hy
      exact ⟨o', it, n', hk _ _ (.inr (hF _ _ e)) e1, e2⟩
    · obtain ⟨items, n, e⟩ := h7 y hy
      exact ⟨items, n, l.le.F _ _ e⟩

theorem FrameOk.keep {fi : FI} {g g' : G} {env : Env} {ev : List MV} {h h' : Heap} (l : g.leo g') (x : FrameOk fi g env ev h)
    (hk : ∀ b o, (∃ x, g.ow b = .fr x) ∨ g.ow b = .pk → h.get? b = some o → h'.get? b = some o) : FrameOk fi g' env ev h' := by
  obtain ⟨h1, h2, h3, h4, ⟨h5, m, ⟨o, es, ep, e1, e2⟩, h6⟩, h7⟩ := x
  refine ⟨h1, h2, h3, h4, ⟨(l.ow _ (by rw [h5]; intro e; cases e)).trans h5, m, ⟨o, es, ep, hk _ _ (.inl ⟨_, h5⟩) e1, e2⟩, fun x i e => (h6 x i e).mono l.le⟩, fun x i k e hkk => ?_⟩
  obtain ⟨c, v, a1, ⟨oc, a2, a2'⟩, a3, a4⟩ := h7 x i k e hkk
  refine ⟨c, v, a1, ⟨oc, hk _ _ ?_ a2, a2'⟩, a3.mono l.le, ?_⟩
  · rcases a4 with a4 | a4
    · exact .inl ⟨_, a4⟩
    · exact .inr a4.1
  · rcases a4 with a4 | ⟨a4, a5⟩
    · exact .inl ((l.ow _ (by rw [a4]; intro e; cases e)).trans a4)
    · exact .inr ⟨(l.ow _ (by rw [a4]; intro e; cases e)).trans a4, a5⟩

structure Inv (B : Bs) (fi : FI) (env : Env) (Φ : Addr → Option Obj) (g : G) (ev : List MV) (H : List MObj) (s : Shared) : Prop where
  gens : s.gens = #[]
  os : s.os = B.os
  F : ∀ a o, g.F a = some o → s.heap.get? a = some o ∧ g.ow a = .fz
  hb : ∀ a o, B.hb.get? a = some o → g.F a = some o
  pk : ∀ a, g.ow a = .pk → (Φ a).isSome = true
  Φ : ∀ a o, Φ a = some o → s.heap.get? a = some o ∧ g.ow a = .pk
  sz : ∀ a, s.heap.get? a = none → g.ow a = .no
  lo : ∀ a i, g.ow a = .lv i → 1 < a
  len : g.σ.length = H.length
  live : ∀ i a o, g.σ[i]? = some a → H[i]? = some o → g.ow a = .lv i ∧ LiveOk B g s.heap i a o
  fr : FrameOk fi g env ev s.heap

section
variable {B : Bs} {fi : FI} {env : Env} {Φ : Addr → Option Obj} {g : G} {ev : List MV} {H : List MObj} {s s' : Shared}

theorem Inv.keepB (I : Inv B fi env Φ g ev H s) : ∀ a o, B.hb.get? a = some o → s.heap.get? a = some o := fun a o e => (I.F a o (I.hb a o e)).1
theorem Inv.kx (I : Inv B fi env Φ g ev H s) : (Kw B.w).In s.heap := B.kx.keeps I.keepB
theorem Inv.tr (I : Inv B fi env Φ g ev H s) : ∃ mg mb, TopRead hd.view_39 Loose mg mb s.heap := let ⟨mg, mb, t⟩ := B.tr; ⟨mg, mb, t.keeps I.keepB⟩
theorem Inv.nolim (I : Inv B fi env Φ g ev H s) : s.heap.NoLimit := let ⟨_, _, t⟩ := I.tr; t.nolimit

theorem Inv.getObj (I : Inv B fi env Φ g ev H s) {i : Nat} {a : Addr} (hi : g.σ[i]? = some a) : ∃ o, H[i]? = some o := by
  have h1 := (List.getElem?_eq_some_iff.mp hi).1
  rw [I.len] at h1
  exact ⟨H[i], List.getElem?_eq_getElem h1⟩
theorem Inv.getAdr (I : Inv B fi env Φ g ev H s) {i : Nat} {o : MObj} (hi : H[i]? = some o) : ∃ a, g.σ[i]? = some a ∧ g.ow a = .lv i ∧ LiveOk B g s.heap i a o := by
  have h1 := (List.getElem?_eq_some_iff.mp hi).1
  rw [← I.len] at h1
  exact ⟨g.σ[i], List.getElem?_eq_getElem h1, I.live i _ o (List.getElem?_eq_getElem h1) hi⟩

/-- all that is owned stays -/
theorem Inv.step (I : Inv B fi env Φ g ev H s) (hg : s'.gens = s.gens) (ho : s'.os = s.os) (hk : ∀ a o, g.ow a ≠ .no → s.heap.get? a = some o → s'.heap.get? a = some o) :
    Inv B fi env Φ g ev H s' where
  gens := hg.trans I.gens
  os := ho.trans I.os
  F := fun a o e => ⟨hk _ _ (by rw [(I.F a o e).2]; intro e; cases e) (I.F a o e).1, (I.F a o e).2⟩
  hb := I.hb
  Φ := fun a o e => ⟨hk _ _ (by rw [(I.Φ a o e).2]; intro e; cases e) (I.Φ a o e).1, (I.Φ a o e).2⟩
  sz := fun a e => by
    refine Classical.byContradiction fun hn => ?_
    cases hq : s.heap.get? a with
    | none => exact hn (I.sz a hq)
    | some o => rw [hk a o hn hq] at e; cases e
  lo := I.lo
  pk := I.pk
  len := I.len
  live := fun i a o h1 h2 => ⟨(I.live i a o h1 h2).1, (I.live i a o h1 h2).2.keep (.refl g) (I.live i a o h1 h2).1 (fun a o e => (I.F a o e).2)
    fun b o hb => hk b o (by rcases hb with e | e <;> rw [e] <;> intro e <;> cases e)⟩
  fr := I.fr.keep (.refl g) fun b o hb => hk b o (by rcases hb with ⟨_, e⟩ | e <;> rw [e] <;> intro e <;> cases e)

theorem Inv.toks (I : Inv B fi env Φ g ev H s) (t : Nat) : Inv B fi env Φ g ev H { s with toks := t } := I.step rfl rfl (fun _ _ _ e => e)
theorem Inv.push (I : Inv B fi env Φ g ev H s) (o : Obj) : Inv B fi env Φ g ev H { s with heap := s.heap.push o } :=
  I.step rfl rfl (fun _ _ _ e => Heap.get?_push_of_some o e)
theorem Inv.szn (I : Inv B fi env Φ g ev H s) : g.ow s.heap.objs.size = .no := I.sz _ (Heap.get?_none_of_le (Nat.le_refl _))

/-- a new owner for an address that had none -/
def G.own (g : G) (a : Addr) (w : Ow) : G := { g with ow := fun b => if b = a then w else g.ow b }
theorem G.own_leo {g : G} {a : Addr} {w : Ow} (h : g.ow a = .no) : g.leo (g.own a w) :=
  ⟨⟨fun _ _ e => e, fun _ _ e => e⟩, fun b hb => by show (if b = a then w else g.ow b) = _; rw [if_neg (by intro e; subst e; exact hb h)]⟩
def G.freeze (g : G) (a : Addr) (o : Obj) : G := { g with F := fun b => if b = a then some o else g.F b, ow := fun b => if b = a then .fz else g.ow b }
def G.more (g : G) (a : Addr) : G := { g with σ := g.σ ++ [a], ow := fun b => if b = a then .lv g.σ.length else g.ow b }

/-- what stands at an address that nobody owns is frozen -/
theorem Inv.freezeAt (I : Inv B fi env Φ g ev H s) {a : Addr} {o : Obj} (ha : g.ow a = .no) (ho : s.heap.get? a = some o) :
    g.le (g.freeze a o) ∧ Inv B fi env Φ (g.freeze a o) ev H s ∧ (g.freeze a o).F a = some o := by
  have hF : ∀ b p, g.F b = some p → b ≠ a := fun b p e q => by have := (I.F b p e).2; rw [q, ha] at this; cases this
  have l : g.leo (g.freeze a o) := ⟨⟨fun b p e => by show (if b = a then _ else _) = _; rw [if_neg (hF b p e)]; exact e, fun _ _ e => e⟩,
    fun b hb => by show (if b = a then _ else _) = _; rw [if_neg (by intro e; subst e; exact hb ha)]⟩
  refine ⟨l.le, ?_, by show (if a = a then _ else _) = _; rw [if_pos rfl]⟩
  exact {
    gens := I.gens, os := I.os
    F := fun b p e => by
      by_cases q : b = a
      · subst q
        have e' : (if b = b then some o else g.F b) = some p := e
        rw [if_pos rfl] at e'; cases e'
        exact ⟨ho, by show (if b = b then _ else _) = _; rw [if_pos rfl]⟩
      · have e' : (if b = a then some o else g.F b) = some p := e
        rw [if_neg q] at e'
        exact ⟨(I.F b p e').1, by show (if b = a then _ else _) = _; rw [if_neg q]; exact (I.F b p e').2⟩
    hb := fun b p e => l.le.F _ _ (I.hb b p e)
    Φ := fun b p e => ⟨(I.Φ b p e).1, (l.ow b (by rw [(I.Φ b p e).2]; intro e; cases e)).trans (I.Φ b p e).2⟩
    sz := fun b hb => by
      show (if b = a then _ else _) = _
      rw [if_neg (by intro e; subst e; rw [ho] at hb; cases hb)]; exact I.sz b hb
    lo := fun b i e => by
      have e' : (if b = a then Ow.fz else g.ow b) = .lv i := e
      by_cases q : b = a
      · rw [if_pos q] at e'; cases e'
      · rw [if_neg q] at e'; exact I.lo b i e'
    pk := fun b e => by
      have e' : (if b = a then Ow.fz else g.ow b) = .pk := e
      by_cases q : b = a
      · rw [if_pos q] at e'; cases e'
      · rw [if_neg q] at e'; exact I.pk b e'
    len := I.len
    live := fun i b p h1 h2 => by
      obtain ⟨x, y⟩ := I.live i b p h1 h2
      exact ⟨(l.ow b (by rw [x]; intro e; cases e)).trans x, y.keep l x (fun a o e => (I.F a o e).2) fun _ _ _ e => e⟩
    fr := I.fr.keep l fun _ _ _ e => e }

theorem Inv.fz (I : Inv B fi env Φ g ev H s) (o : Obj) (ho : o.isFreed = false := by rfl) :
    ∃ g', g.le g' ∧ Inv B fi env Φ g' ev H { s with heap := s.heap.push o } ∧ g'.F s.heap.objs.size = some o :=
  ⟨_, (I.push o).freezeAt I.szn (Heap.get?_push_size _ ho)⟩

/-- a new live object at an address that nobody owns; what it needs beside it is owned by it already -/
theorem Inv.live1 (I : Inv B fi env Φ g ev H s) {a : Addr} {o : MObj} {p : Obj} (h1a : 1 < a) (ha : g.ow a = .no) (hp : s.heap.get? a = some p)
    (hl : LiveOk B (g.more a) s.heap H.length a o) : g.le (g.more a) ∧ Inv B fi env Φ (g.more a) ev (H ++ [o]) s ∧ (g.more a).σ[H.length]? = some a := by
  have l : g.leo (g.more a) := ⟨⟨fun _ _ e => e, fun i b e => by
      show (g.σ ++ [a])[i]? = some b
      rw [List.getElem?_append_left (List.getElem?_eq_some_iff.mp e).1]; exact e⟩,
    fun b hb => by show (if b = a then _ else _) = _; rw [if_neg (by intro e; subst e; exact hb ha)]⟩
  have hσ : (g.more a).σ[H.length]? = some a := by show (g.σ ++ [a])[H.length]? = some a; rw [← I.len]; simp
  refine ⟨l.le, ?_, hσ⟩
  exact {
    gens := I.gens, os := I.os
    F := fun b p e => ⟨(I.F b p e).1, (l.ow b (by rw [(I.F b p e).2]; intro e; cases e)).trans (I.F b p e).2⟩
    hb := I.hb
    Φ := fun b p e => ⟨(I.Φ b p e).1, (l.ow b (by rw [(I.Φ b p e).2]; intro e; cases e)).trans (I.Φ b p e).2⟩
    sz := fun b hb => by
      show (if b = a then _ else _) = _
      rw [if_neg (by intro e; subst e; rw [hp] at hb; cases hb)]; exact I.sz b hb
    lo := fun b i e => by
      have e' : (if b = a then Ow.lv g.σ.length else g.ow b) = .lv i := e
      by_cases q : b = a
      · rw [q]; exact h1a
      · rw [if_neg q] at e'; exact I.lo b i e'
    pk := fun b e => by
      have e' : (if b = a then Ow.lv g.σ.length else g.ow b) = .pk := e
      by_cases q : b = a
      · rw [if_pos q] at e'; cases e'
      · rw [if_neg q] at e'; exact I.pk b e'
    len := by show (g.σ ++ [a]).length = (H ++ [o]).length; simp [I.len]
    live := fun i b q h1 h2 => by
      by_cases hi : i < H.length
      · have h1' : g.σ[i]? = some b := by
          have h1 : (g.σ ++ [a])[i]? = some b := h1
          rwa [List.getElem?_append_left (by rw [I.len]; exact hi)] at h1
        rw [List.getElem?_append_left hi] at h2
        obtain ⟨x, y⟩ := I.live i b q h1' h2
        exact ⟨(l.ow b (by rw [x]; intro e; cases e)).trans x, y.keep l x (fun a o e => (I.F a o e).2) fun _ _ _ e => e⟩
      · have : i = H.length := by
          have := (List.getElem?_eq_some_iff.mp h2).1
          simp at this; omega
        subst this
        rw [hσ] at h1; cases h1
        simp at h2; subst h2
        exact ⟨by show (if a = a then _ else _) = _; rw [if_pos rfl, I.len], hl⟩
    fr := I.fr.keep l fun _ _ _ e => e }

theorem Inv.big (I : Inv B fi env Φ g ev H s) : 1 < s.heap.objs.size := by
  obtain ⟨_, _, T⟩ := I.tr
  exact Nat.lt_trans (by decide) T.g.lt
theorem Inv.notSys (I : Inv B fi env Φ g ev H s) {a : Addr} {i : Nat} (h : g.ow a = .lv i) : (a == sysModules) = false := by
  have := I.lo a i h
  simp only [beq_eq_false_iff_ne, ne_eq]; intro e; rw [e] at this; exact absurd this (by decide)
/-- an address that nobody owned is owned by a live object to come -/
theorem Inv.own (I : Inv B fi env Φ g ev H s) {a : Addr} {p : Obj} {n : Nat} (h1a : 1 < a) (ha : g.ow a = .no) (hp : s.heap.get? a = some p) :
    g.leo (g.own a (.lv n)) ∧ Inv B fi env Φ (g.own a (.lv n)) ev H s := by
  have l : g.leo (g.own a (.lv n)) := G.own_leo ha
  refine ⟨l, ?_⟩
  exact {
    gens := I.gens, os := I.os
    F := fun b p e => ⟨(I.F b p e).1, (l.ow b (by rw [(I.F b p e).2]; intro e; cases e)).trans (I.F b p e).2⟩
    hb := I.hb
    Φ := fun b p e => ⟨(I.Φ b p e).1, (l.ow b (by rw [(I.Φ b p e).2]; intro e; cases e)).trans (I.Φ b p e).2⟩
    sz := fun b hb => by
      show (if b = a then _ else _) = _
      rw [if_neg (by intro e; subst e; rw [hp] at hb; cases hb)]; exact I.sz b hb
    lo := fun b i e => by
      have e' : (if b = a then Ow.lv n else g.ow b) = .lv i := e
      by_cases q : b = a
      · rw [q]; exact h1a
      · rw [if_neg q] at e'; exact I.lo b i e'
    pk := fun b e => by
      have e' : (if b = a then Ow.lv n else g.ow b) = .pk := e
      by_cases q : b = a
      · rw [if_pos q] at e'; cases e'
      · rw [if_neg q] at e'; exact I.pk b e'
    len := I.len
    live := fun i b q h1 h2 => by
      obtain ⟨x, y⟩ := I.live i b q h1 h2
      exact ⟨(l.ow b (by rw [x]; intro e; cases e)).trans x, y.keep l x (fun a o e => (I.F a o e).2) fun _ _ _ e => e⟩
    fr := I.fr.keep l fun _ _ _ e => e }

/-- a list is made -/
theorem Inv.newList (I : Inv B fi env Φ g ev H s) {items : Array Value} {n : Nat} {vs : List MV} (h : VRs g vs items.toList) :
    ∃ g', g.le g' ∧ Inv B fi env Φ g' ev (H ++ [.list vs]) { s with heap := s.heap.push (listObj items n) } ∧ g'.σ[H.length]? = some s.heap.objs.size := by
  have hp : (s.heap.push (listObj items n)).get? s.heap.objs.size = some (listObj items n) := Heap.get?_push_size _ rfl
  have hl : g.le (g.more s.heap.objs.size) := ⟨fun _ _ e => e, fun i b e => by
      show (g.σ ++ [s.heap.objs.size])[i]? = some b
      rw [List.getElem?_append_left (List.getElem?_eq_some_iff.mp e).1]; exact e⟩
  exact ⟨_, (I.push _).live1 I.big I.szn hp ⟨items, n, hp, h.mono hl⟩⟩

/-- a live object changes -/
theorem Inv.upd (I : Inv B fi env Φ g ev H s) {i : Nat} {a : Addr} {o : MObj} (hi : g.σ[i]? = some a) (hg : s'.gens = s.gens) (ho : s'.os = s.os)
    (hk : ∀ b p, g.ow b ≠ .no → g.ow b ≠ .lv i → s.heap.get? b = some p → s'.heap.get? b = some p) (hs : ∀ b, s'.heap.get? b = none → s.heap.get? b = none)
    (hl : LiveOk B g s'.heap i a o) : Inv B fi env Φ g ev (H.set i o) s' where
  gens := hg.trans I.gens
  os := ho.trans I.os
  F := fun a o e => ⟨hk _ _ (by rw [(I.F a o e).2]; intro e; cases e) (by rw [(I.F a o e).2]; intro e; cases e) (I.F a o e).1, (I.F a o e).2⟩
  hb := I.hb
  Φ := fun a o e => ⟨hk _ _ (by rw [(I.Φ a o e).2]; intro e; cases e) (by rw [(I.Φ a o e).2]; intro e; cases e) (I.Φ a o e).1, (I.Φ a o e).2⟩
  sz := fun a e => I.sz a (hs a e)
  lo := I.lo
  pk := I.pk
  len := by rw [List.length_set]; exact I.len
  live := fun j b q h1 h2 => by
    by_cases hij : j = i
    · subst hij
      rw [hi] at h1; cases h1
      obtain ⟨p, hp⟩ := I.getObj hi
      rw [List.getElem?_set_self (List.getElem?_eq_some_iff.mp hp).1] at h2
      cases h2
      exact ⟨(I.live j a p hi hp).1, hl⟩
    · rw [List.getElem?_set_ne (fun e => hij e.symm)] at h2
      obtain ⟨x, y⟩ := I.live j b q h1 h2
      exact ⟨x, y.keep (.refl g) x (fun a o e => (I.F a o e).2) fun c p hc => hk c p
        (by rcases hc with e | e <;> rw [e] <;> intro e <;> cases e) (by rcases hc with e | e <;> rw [e] <;> intro e <;> first | (injection e with e; exact hij e) | cases e)⟩
  fr := I.fr.keep (.refl g) fun b o hb => hk b o (by rcases hb with ⟨_, e⟩ | e <;> rw [e] <;> intro e <;> cases e) (by rcases hb with ⟨_, e⟩ | e <;> rw [e] <;> intro e <;> cases e)

/-- the frame changes -/
theorem Inv.frame (I : Inv B fi env Φ g ev H s) {ev' : List MV} (hg : s'.gens = s.gens) (ho : s'.os = s.os)
    (hk : ∀ b p, g.ow b ≠ .no → (∀ x, g.ow b ≠ .fr x) → s.heap.get? b = some p → s'.heap.get? b = some p) (hs : ∀ b, s'.heap.get? b = none → s.heap.get? b = none)
    (hf : FrameOk fi g env ev' s'.heap) : Inv B fi env Φ g ev' H s' where
  gens := hg.trans I.gens
  os := ho.trans I.os
  F := fun a o e => ⟨hk _ _ (by rw [(I.F a o e).2]; intro e; cases e) (by rw [(I.F a o e).2]; intro x e; cases e) (I.F a o e).1, (I.F a o e).2⟩
  hb := I.hb
  Φ := fun a o e => ⟨hk _ _ (by rw [(I.Φ a o e).2]; intro e; cases e) (by rw [(I.Φ a o e).2]; intro x e; cases e) (I.Φ a o e).1, (I.Φ a o e).2⟩
  sz := fun a e => I.sz a (hs a e)
  lo := I.lo
  pk := I.pk
  len := I.len
  live := fun j b q h1 h2 => by
    obtain ⟨x, y⟩ := I.live j b q h1 h2
    exact ⟨x, y.keep (.refl g) x (fun a o e => (I.F a o e).2) fun c p hc => hk c p
      (by rcases hc with e | e <;> rw [e] <;> intro e <;> cases e) (by rcases hc with e | e <;> rw [e] <;> intro x e <;> cases e)⟩
  fr := hf
end
theorem VR.int' {g : G} {i : Int} {t : Tok} : VR g (.int i) (.int i t) := by simp [VR]
theorem VR.str' {g : G} {i : Str} {t : Tok} : VR g (.str i) (.str i t) := by simp [VR]
theorem VR.bytes' {g : G} {i : List UInt8} {t : Tok} : VR g (.bytes i) (.bytes i.toArray t) := by simp [VR]
theorem VR.bool' {g : G} {b : Bool} : VR g (.bool b) (.bool b) := by simp [VR]
theorem VR.none' {g : G} : VR g .none .none := by simp [VR]
theorem VR.con' {g : G} {v : Value} : VR g (.con v) v := by simp [VR]
theorem VR.ref' {g : G} {i : Nat} {a : Addr} (h : g.σ[i]? = some a) : VR g (.ref i) (.ref a) := by simp only [VR]; exact ⟨a, h, rfl⟩
theorem VR.inv_int {g : G} {i : Int} {v : Value} (h : VR g (.int i) v) : ∃ t, v = .int i t := by simpa only [VR] using h
theorem VR.inv_str {g : G} {i : Str} {v : Value} (h : VR g (.str i) v) : ∃ t, v = .str i t := by simpa only [VR] using h
theorem VR.inv_bytes {g : G} {i : List UInt8} {v : Value} (h : VR g (.bytes i) v) : ∃ t, v = .bytes i.toArray t := by simpa only [VR] using h
theorem VR.inv_bool {g : G} {b : Bool} {v : Value} (h : VR g (.bool b) v) : v = .bool b := by simpa only [VR] using h
theorem VR.inv_none {g : G} {v : Value} (h : VR g .none v) : v = .none := by simpa only [VR] using h
theorem VR.inv_con {g : G} {x v : Value} (h : VR g (.con x) v) : v = x := by simpa only [VR] using h
theorem VR.inv_ref {g : G} {i : Nat} {v : Value} (h : VR g (.ref i) v) : ∃ a, g.σ[i]? = some a ∧ v = .ref a := by simpa only [VR] using h
theorem VR.inv_tup {g : G} {vs : List MV} {v : Value} (h : VR g (.tup vs) v) : ∃ a items n, v = .ref a ∧ g.F a = some (tupObj items n) ∧ VRs g vs items.toList := by simpa only [VR] using h

def OkA (d : Nat) (A : Around) : Prop := A.handled = none ∧ A.depth + 2 * d + 2 < 1000 ∧ A.units + 30 * d + 30 < cLine
theorem OkA.cl {d : Nat} {A : Around} (h : OkA d A) : A.units < cLine := by have := h.2.2; omega
theorem OkA.rec {d : Nat} {A : Around} (h : OkA d A) : A.depth < recursionLimit := by have := h.2.1; show A.depth < 1000; omega
theorem OkA.le {d d' : Nat} {A : Around} (h : OkA d A) (l : d' ≤ d) : OkA d' A := ⟨h.1, by have := h.2.1; omega, by have := h.2.2; omega⟩

section
variable {α β : Type} {B : Bs} {fi : FI} {env : Env} {Φ : Addr → Option Obj} {A : Around}

def W (B : Bs) (fi : FI) (env : Env) (Φ : Addr → Option Obj) (A : Around) (t : Sem α) (g : G) (s : Shared) (Q : G → List MV → List MObj → α → Prop) : Prop :=
  wpAny B.M A t (fun v s' => ∃ g' ev' H', g.le g' ∧ Inv B fi env Φ g' ev' H' s' ∧ Q g' ev' H' v) (fun _ _ => False) s

variable {g : G} {s : Shared} {ev : List MV} {H : List MObj}
theorem W.mono {t : Sem α} {Q Q' : G → List MV → List MObj → α → Prop} (h : W B fi env Φ A t g s Q) (hq : ∀ g' ev' H' v, g.le g' → Q g' ev' H' v → Q' g' ev' H' v) : W B fi env Φ A t g s Q' :=
  wpAny_mono h (fun v s' ⟨g', ev', H', l, I, q⟩ => ⟨g', ev', H', l, I, hq g' ev' H' v l q⟩) fun _ _ x => x
theorem W.pure {a : α} {Q : G → List MV → List MObj → α → Prop} (I : Inv B fi env Φ g ev H s) (h : Q g ev H a) : W B fi env Φ A (Pure.pure a) g s Q :=
  wpAny_pure ⟨g, ev, H, .refl g, I, h⟩
/-- from a rule of the library: what a step leaves -/
theorem W.to {t : Sem α} {E : Value → Shared → Prop} {Q : α → Shared → Prop} {P : G → List MV → List MObj → α → Prop} (h : W B fi env Φ A t g s P)
    (k : ∀ g' ev' H' v s', g.le g' → Inv B fi env Φ g' ev' H' s' → P g' ev' H' v → Q v s') : wpAny B.M A t Q E s :=
  wpAny_mono h (fun v s' ⟨g', ev', H', l, I, q⟩ => k g' ev' H' v s' l I q) fun _ _ x => x.elim
/-- the end of a chain -/
theorem W.back {t : Sem α} {g' : G} {s' : Shared} {Q : G → List MV → List MObj → α → Prop} (l : g.le g') (h : W B fi env Φ A t g' s' Q) :
    wpAny B.M A t (fun v s' => ∃ g' ev' H', g.le g' ∧ Inv B fi env Φ g' ev' H' s' ∧ Q g' ev' H' v) (fun _ _ => False) s' :=
  wpAny_mono h (fun v s' ⟨g', ev', H', l', I, q⟩ => ⟨g', ev', H', l.trans l', I, q⟩) fun _ _ x => x
end

/-- an expression -/
def WPE (B : Bs) (fi : FI) (d : Nat) (e : Expr) (ev : List MV) (H : List MObj) (Q : MV → List MObj → Prop) : Prop :=
  ∀ A env Φ g s, OkA d A → Inv B fi env Φ g ev H s → W B fi env Φ A (eval e env) g s (fun g' ev' H' v => ev' = ev ∧ ∃ m, VR g' m v ∧ Q m H')
/-- a test -/
def WPT (B : Bs) (fi : FI) (d : Nat) (e : Expr) (ev : List MV) (H : List MObj) (Q : Bool → List MObj → Prop) : Prop :=
  ∀ A env Φ g s, OkA d A → Inv B fi env Φ g ev H s → W B fi env Φ A (isTrue e env (eval e env)) g s (fun _ ev' H' b => ev' = ev ∧ Q b H')
/-- several expressions, left to right -/
def WPEs (B : Bs) (fi : FI) (d : Nat) (es : List Expr) (ev : List MV) (H : List MObj) (Q : List MV → List MObj → Prop) : Prop :=
  ∀ A env Φ g s pos, OkA d A → Inv B fi env Φ g ev H s → W B fi env Φ A (spliced (backTo pos (starEach es env))) g s (fun g' ev' H' vs => ev' = ev ∧ ∃ ms, VRs g' ms vs ∧ Q ms H')
def FlowOk (Qn : List MV → List MObj → Prop) (Qr : MV → List MObj → Prop) (g : G) (ev : List MV) (H : List MObj) (f : Flow) : Prop := match f with
  | .next => Qn ev H
  | .ret v => ∃ m, VR g m v ∧ Qr m H
  | _ => False
/-- statements -/
def WPS (B : Bs) (fi : FI) (d : Nat) (ss : List Stmt) (ev : List MV) (H : List MObj) (Qn : List MV → List MObj → Prop) (Qr : MV → List MObj → Prop) : Prop :=
  ∀ A env Φ g s, OkA d A → Inv B fi env Φ g ev H s → W B fi env Φ A (execs ss env) g s (FlowOk Qn Qr)
def WP1 (B : Bs) (fi : FI) (d : Nat) (st : Stmt) (ev : List MV) (H : List MObj) (Qn : List MV → List MObj → Prop) (Qr : MV → List MObj → Prop) : Prop :=
  ∀ A env Φ g s, OkA d A → Inv B fi env Φ g ev H s → W B fi env Φ A (exec st env) g s (FlowOk Qn Qr)

section
variable {B : Bs} {fi : FI} {d : Nat} {ev : List MV} {H : List MObj}

theorem WPE.mono {e : Expr} {Q Q' : MV → List MObj → Prop} (h : WPE B fi d e ev H Q) (k : ∀ m H', Q m H' → Q' m H') : WPE B fi d e ev H Q' :=
  fun A env Φ g s ok I => (h A env Φ g s ok I).mono fun _ _ H' _ _ ⟨a, m, b, c⟩ => ⟨a, m, b, k m H' c⟩
theorem WPS.mono {ss : List Stmt} {Qn Qn' : List MV → List MObj → Prop} {Qr Qr' : MV → List MObj → Prop} (h : WPS B fi d ss ev H Qn Qr) (k : ∀ ev' H', Qn ev' H' → Qn' ev' H') (kr : ∀ m H', Qr m H' → Qr' m H') :
    WPS B fi d ss ev H Qn' Qr' :=
  fun A env Φ g s ok I => (h A env Φ g s ok I).mono fun g' ev' H' f _ q => by
    cases f <;> first | exact k _ _ q | exact q | exact (let ⟨m, a, b⟩ := q; ⟨m, a, kr _ _ b⟩)

theorem kindOf_slot {env : Env} {g : G} {h : Heap} (F : FrameOk fi g env ev h) {x : Str} {i : Nat} {k : NameKind} (hs : slot fi.ns x = some (i, k)) : env.kindOf x = some k := by
  show env.scope.names.lookup x = some k
  rw [F.names]; exact slot_lookup hs

theorem W_loadName {A : Around} {env : Env} {Φ : Addr → Option Obj} {g : G} {s : Shared} {x : Str} {i : Nat} {k : NameKind} {m : MV} (I : Inv B fi env Φ g ev H s)
    (hs : slot fi.ns x = some (i, k)) (hk : k = .local ∨ k = .cell ∨ k = .free) (hm : ev[i]? = some m) (hu : m ≠ .undef) (hd : (x == ("__classdict__" : Str)) = false) :
    W B fi env Φ A (loadName env x) g s (fun g' ev' H' v => (ev' = ev ∧ H' = H ∧ g' = g) ∧ VR g' m v) := by
  have get : ∀ v : Option Value, VRo g ev[i]? v → ∃ u, v = some u ∧ VR g m u := fun v h => by
    have := h m hm
    cases m <;> first | exact (hu rfl).elim | exact this
  rcases hk with rfl | rfl | rfl
  · obtain ⟨_, mm, hn, hl⟩ := I.fr.loc
    obtain ⟨u, e, r⟩ := get _ (hl x i hs)
    exact wpAny_loadName_local I.fr.kind (kindOf_slot I.fr hs) hn e ⟨g, ev, H, .refl g, I, ⟨rfl, rfl, rfl⟩, r⟩
  · obtain ⟨c, v, h1, h2, h3, _⟩ := I.fr.cel x i _ hs (.inl rfl)
    obtain ⟨u, rfl, r⟩ := get _ h3
    exact wpAny_loadName_cell I.fr.kind (kindOf_slot I.fr hs) h1 h2 ⟨g, ev, H, .refl g, I, ⟨rfl, rfl, rfl⟩, r⟩
  · obtain ⟨c, v, h1, h2, h3, _⟩ := I.fr.cel x i _ hs (.inr rfl)
    obtain ⟨u, rfl, r⟩ := get _ h3
    exact wpAny_loadName_free I.fr.kind (kindOf_slot I.fr hs) h1 h2 ⟨g, ev, H, .refl g, I, ⟨rfl, rfl, rfl⟩, r⟩ hd

/-- a local name, a cell's or a free one -/
theorem WPE.name {x : Str} {pos : Pos} {i : Nat} {k : NameKind} {m : MV} {Q : MV → List MObj → Prop} (hs : slot fi.ns x = some (i, k)) (hk : k = .local ∨ k = .cell ∨ k = .free)
    (hm : ev[i]? = some m) (hu : m ≠ .undef) (hd : ((x == ("__debug__" : Str)) || (x == ("__classdict__" : Str))) = false) (h : Q m H) : WPE B fi d (.Name x pos) ev H Q := by
  obtain ⟨hd1, hd2⟩ := Bool.or_eq_false_iff.mp hd
  exact fun A env Φ g s ok I => wpAny_Name (W.mono (W_loadName I hs hk hm hu hd2) (fun g' ev' H' v _ ⟨⟨a, b, c⟩, r⟩ => ⟨a, m, r, b ▸ h⟩)) hd1

theorem WPE.cInt {i : Int} {k : Nat} {pos : Pos} {Q : MV → List MObj → Prop} (h : Q (.int i) H) : WPE B fi d (.Constant (.int i) k pos) ev H Q :=
  fun A env Φ g s ok I => wpAny_Constant_int ⟨g, ev, H, .refl g, I.toks _, rfl, _, .int', h⟩
theorem WPE.cBool {b : Bool} {k : Nat} {pos : Pos} {Q : MV → List MObj → Prop} (h : Q (.bool b) H) : WPE B fi d (.Constant (.bool b) k pos) ev H Q :=
  fun A env Φ g s ok I => wpAny_Constant_bool ⟨g, ev, H, .refl g, I, rfl, .bool b, by simp [VR], h⟩
theorem WPE.cNone {k : Nat} {pos : Pos} {Q : MV → List MObj → Prop} (h : Q .none H) : WPE B fi d (.Constant .none k pos) ev H Q :=
  fun A env Φ g s ok I => wpAny_Constant_none ⟨g, ev, H, .refl g, I, rfl, .none, by simp [VR], h⟩
theorem WPE.cStr {x : Str} {k : Nat} {pos : Pos} {Q : MV → List MObj → Prop} (h : Q (.str x) H) : WPE B fi d (.Constant (.str x) k pos) ev H Q :=
  fun A env Φ g s ok I => wpAny_Constant_str ⟨g, ev, H, .refl g, I.toks _, rfl, .str x, by simp [VR], h⟩
theorem WPE.cBytes {x : List UInt8} {k : Nat} {pos : Pos} {Q : MV → List MObj → Prop} (h : Q (.bytes x) H) : WPE B fi d (.Constant (.bytes x) k pos) ev H Q :=
  fun A env Φ g s ok I => Constant_bytes ⟨g, ev, H, .refl g, I.toks _, rfl, .bytes x, by simp [VR], h⟩

/-- a global name: what the module's dict holds -/
theorem WPE.glob {x : Str} {pos : Pos} {v : Value} {m : MV} {Q : MV → List MObj → Prop} (hs : fi.ns.lookup x = some .globalImplicit)
    (hg : nsIn (Kw B.w) mainGlobals x = some (some v)) (hm : ∀ g, VR g m v) (hd : (x == ("__debug__" : Str)) = false) (h : Q m H) : WPE B fi d (.Name x pos) ev H Q :=
  fun A env Φ g s ok I => by
    obtain ⟨mg, mb, T⟩ := I.tr
    have hk : env.kindOf x = some .globalImplicit := by show env.scope.names.lookup x = _; rw [I.fr.names]; exact hs
    refine Calls.Name_function_global I.fr.kind hk (Calls.loadGlobal_global (by rw [I.fr.glob]; exact T.g) (mg_of I.kx T.g hg) ?_) hd
    exact ⟨g, ev, H, .refl g, I, rfl, m, hm g, h⟩
/-- a built-in name -/
theorem WPE.bi {x : Str} {pos : Pos} {v : Value} {Q : MV → List MObj → Prop} (hs : fi.ns.lookup x = some .globalImplicit)
    (hg : nsIn (Kw B.w) mainGlobals x = some none) (hv : bootBuiltins x = some v) (hn : x ≠ "__name__") (hd : (x == ("__debug__" : Str)) = false) (h : Q (.con v) H) : WPE B fi d (.Name x pos) ev H Q :=
  fun A env Φ g s ok I => by
    obtain ⟨mg, mb, T⟩ := I.tr
    have hk : env.kindOf x = some .globalImplicit := by show env.scope.names.lookup x = _; rw [I.fr.names]; exact hs
    refine Calls.Name_function_global I.fr.kind hk (Calls.loadGlobal_builtin (by rw [I.fr.glob]; exact T.g) (mg_none_of I.kx T.g hg) (by rw [I.fr.blt]; exact T.b) ((T.builtins x hn).trans hv) ?_) hd
    exact ⟨g, ev, H, .refl g, I, rfl, _, .con', h⟩
end
def binM : Operator → MV → MV → List MObj → (MV → List MObj → Prop) → Prop
  | .Add, .int a, .int b, H, Q => Q (.int (a + b)) H
  | .Sub, .int a, .int b, H, Q => Q (.int (a - b)) H
  | .Mult, .int a, .int b, H, Q => (-1000000 < b ∧ b < 1000000) ∧ Q (.int (a * b)) H
  | .Mod, .int a, .int b, H, Q => b ≠ 0 ∧ Q (.int (a.fmod b)) H
  | .FloorDiv, .int a, .int b, H, Q => (b ≠ 0 ∧ -1000000 < b ∧ b < 1000000) ∧ Q (.int (a.fdiv b)) H
  | .Add, .ref i, .ref j, H, Q => ∃ a b, H[i]? = some (.list a) ∧ H[j]? = some (.list b) ∧ a.length + b.length ≤ 100000 ∧ Q (.ref H.length) (H ++ [.list (a ++ b)])
  | .Mult, .ref i, .int n, H, Q => ∃ m, H[i]? = some (.list [m]) ∧ 0 ≤ n ∧ n ≤ 100000 ∧ Q (.ref H.length) (H ++ [.list (List.replicate n.toNat m)])
  | _, _, _, _, _ => False

section
variable {B : Bs} {fi : FI} {d : Nat} {ev : List MV} {H : List MObj} {A : Around} {env : Env} {Φ : Addr → Option Obj} {g : G} {s : Shared}

theorem Inv.list (I : Inv B fi env Φ g ev H s) {i : Nat} {vs : List MV} {v : Value} (hv : VR g (.ref i) v) (hi : H[i]? = some (.list vs)) :
    ∃ a items n, v = .ref a ∧ g.σ[i]? = some a ∧ g.ow a = .lv i ∧ s.heap.get? a = some (listObj items n) ∧ VRs g vs items.toList := by
  obtain ⟨a, h1, rfl⟩ := hv.inv_ref
  obtain ⟨h2, items, n, h3, h4⟩ := I.live i a _ h1 hi
  exact ⟨a, items, n, rfl, h1, h2, h3, h4⟩

theorem VRs.size {g : G} {ms : List MV} {items : Array Value} (h : VRs g ms items.toList) : items.size = ms.length := by
  have := h.length; simpa using this

theorem VRs.replicate {g : G} {m : MV} {v : Value} (h : VR g m v) : ∀ n : Nat, VRs g (List.replicate n m) (List.replicate n v)
  | 0 => by simp [VRs]
  | n + 1 => by simp only [List.replicate_succ, VRs]; exact ⟨_, _, rfl, h, VRs.replicate h n⟩

theorem rep_arr (v : Value) : ∀ (k : Nat) (acc : Array Value), (List.foldl (fun x1 x2 => x1 ++ x2) acc (List.replicate k #[v])).toList = acc.toList ++ List.replicate k v
  | 0, acc => by simp
  | k + 1, acc => by rw [List.replicate_succ, List.foldl_cons, rep_arr v k]; simp [List.replicate_succ]

theorem small_bits {b : Int} (h : -1000000 < b ∧ b < 1000000) : Builtin.Int.intBits b ≤ 64 := intBits_le_64 (by omega) (by omega)

theorem W_mulList {i : Nat} {x : Int} {v u : Value} {Q : MV → List MObj → Prop} (I : Inv B fi env Φ g ev H s) (ha : VR g (.ref i) v) (hb : VR g (.int x) u)
    (hq : ∃ m, H[i]? = some (.list [m]) ∧ 0 ≤ x ∧ x ≤ 100000 ∧ Q (.ref H.length) (H ++ [.list (List.replicate x.toNat m)])) :
    W B fi env Φ A (binaryOp .Mult v u) g s (fun g' ev' H' r => ev' = ev ∧ ∃ m, VR g' m r ∧ Q m H') := by
  obtain ⟨m, h1, h2, h3, h4⟩ := hq
  obtain ⟨a1, it1, n1, rfl, -, -, e1, r1⟩ := I.list ha h1
  obtain ⟨t', rfl⟩ := hb.inv_int
  obtain ⟨w0, r0, ew, hw, hr0⟩ : ∃ w0 r0, it1.toList = w0 :: r0 ∧ VR g m w0 ∧ VRs g [] r0 := by simpa only [VRs] using r1
  have hr0' : r0 = [] := by simpa only [VRs] using hr0
  subst hr0'
  have hit : it1 = #[w0] := by apply Array.ext'; simpa using ew
  subst hit
  have hx : x.toNat ≤ 100000 := by omega
  refine wpAny_binaryOp_repeat_ref (T := "list") (U := "int") (by decide) ⟨_, e1, rfl⟩ (fun s' => typeIs_int s' x t') noFill_list_mul F.fills_int_mul F.slot_int_rmul repeat_list F.slot_int_index.lookup
    (call_meets F.slot_int_rmul (typeIs_int s x t') F.entry_int_rmul (F.args_int_rmul_2 _ _) (int___rmul___int_list x t' a1 #[w0] n1)
      ⟨e1, rfl, ⟨_, e1, rfl⟩, call_meets F.slot_list_mul ⟨_, e1, rfl⟩ F.entry_list_mul (F.args_list_mul_2 _ _)
        (AutoListH.list___mul___list_int_3 a1 #[w0] n1 x t' (by simp [Builtin.List.listFitsIndex]; omega) (by have : (#[w0] : Array Value).size = 1 := rfl; rw [this]; omega) (by simp [Builtin.List.listTooLong, sizeLine]; omega))
        ⟨e1, ?_⟩⟩)
  have ee : (List.foldl (fun x1 x2 => x1 ++ x2) #[] (List.replicate (if (#[w0] : Array Value).isEmpty = true then 0 else x.toNat) #[w0])).toList = List.replicate x.toNat w0 := by
    rw [rep_arr]; simp
  obtain ⟨g', l, I', hσ⟩ := I.newList (items := List.foldl (fun x1 x2 => x1 ++ x2) #[] (List.replicate (if (#[w0] : Array Value).isEmpty = true then 0 else x.toNat) #[w0])) (n := 0) (vs := List.replicate x.toNat m)
    (by rw [ee]; exact VRs.replicate hw _)
  exact ⟨g', ev, _, l, I', rfl, _, .ref' hσ, h4⟩

theorem W_binop {op : Operator} {a b : MV} {v u : Value} {Q : MV → List MObj → Prop} (I : Inv B fi env Φ g ev H s) (ha : VR g a v) (hb : VR g b u) (hq : binM op a b H Q) :
    W B fi env Φ A (binaryOp op v u) g s (fun g' ev' H' r => ev' = ev ∧ ∃ m, VR g' m r ∧ Q m H') := by
  unfold binM at hq
  split at hq
  · obtain ⟨t, rfl⟩ := ha.inv_int; obtain ⟨t', rfl⟩ := hb.inv_int
    exact P.add_int ⟨g, ev, H, .refl g, I.toks _, rfl, _, .int', hq⟩
  · obtain ⟨t, rfl⟩ := ha.inv_int; obtain ⟨t', rfl⟩ := hb.inv_int
    exact P.sub_int ⟨g, ev, H, .refl g, I.toks _, rfl, _, .int', hq⟩
  · obtain ⟨t, rfl⟩ := ha.inv_int; obtain ⟨t', rfl⟩ := hb.inv_int
    exact P.mul_int ⟨g, ev, H, .refl g, I.toks _, rfl, _, .int', hq.2⟩ (.of_right (small_bits hq.1))
  · obtain ⟨t, rfl⟩ := ha.inv_int; obtain ⟨t', rfl⟩ := hb.inv_int
    exact mod_int' hq.1 ⟨g, ev, H, .refl g, I.toks _, rfl, _, .int', hq.2⟩
  · obtain ⟨t, rfl⟩ := ha.inv_int; obtain ⟨t', rfl⟩ := hb.inv_int
    exact floordiv_int hq.1.1 ⟨g, ev, H, .refl g, I.toks _, rfl, _, .int', hq.2⟩ (.inl (PyProof.noPylong_small (by omega)))
  · obtain ⟨x, y, h1, h2, h3, h4⟩ := hq
    obtain ⟨a1, it1, n1, rfl, -, -, e1, r1⟩ := I.list ha h1
    obtain ⟨a2, it2, n2, rfl, -, -, e2, r2⟩ := I.list hb h2
    refine P.add_list e1 e2 ?_ (by rw [r1.size, r2.size]; exact Nat.le_trans h3 (by decide))
    obtain ⟨g', l, I', hσ⟩ := I.newList (items := it1 ++ it2) (n := 0) (vs := x ++ y) (by rw [Array.toList_append]; exact r1.append r2)
    exact ⟨g', ev, _, l, I', rfl, _, .ref' hσ, h4⟩
  · exact W_mulList I ha hb hq
  · exact hq.elim

theorem WPE.bin {l r : Expr} {op : Operator} {pos : Pos} {Q : MV → List MObj → Prop}
    (h : WPE B fi d l ev H fun a H1 => WPE B fi d r ev H1 fun b H2 => binM op a b H2 Q) : WPE B fi d (.BinOp l op r pos) ev H Q := fun A env Φ g s ok I => by
  refine wpAny_BinOp ((h A env Φ g s ok I).to fun g1 ev1 H1 v s1 l1 I1 ⟨e1, a, ra, h1⟩ => ?_)
  subst e1
  refine (h1 A env Φ g1 s1 ok I1).to fun g2 ev2 H2 u s2 l2 I2 ⟨e2, b, rb, h2⟩ => ?_
  subst e2
  exact W.back (l1.trans l2) (W_binop I2 (ra.mono l2) rb h2)

/-- minus -/
theorem WPE.neg {e : Expr} {pos : Pos} {Q : MV → List MObj → Prop} (h : WPE B fi d e ev H fun a H1 => ∃ i, a = .int i ∧ Q (.int (-i)) H1) : WPE B fi d (.UnaryOp .USub e pos) ev H Q := fun A env Φ g s ok I => by
  refine wpAny_UnaryOp ((h A env Φ g s ok I).to fun g1 ev1 H1 v s1 l1 I1 ⟨e1, a, ra, i, e2, h1⟩ => ?_)
  subst e1 e2
  obtain ⟨t, rfl⟩ := ra.inv_int
  exact P.neg_int ⟨g1, _, H1, l1, I1.toks _, rfl, _, .int', h1⟩

inductive EqM (H : List MObj) : Nat → MV → MV → Bool → Prop
  | int {n a b} : EqM H n (.int a) (.int b) (a == b)
  | str {n a b} : EqM H n (.str a) (.str b) (a == b)
  | bytes {n a b} : EqM H n (.bytes a) (.bytes b) (a == b)
  | same {n i} : EqM H n (.ref i) (.ref i) true
  | lists {n i j xs ys} (e : Nat → Bool) : i ≠ j → H[i]? = some (.list xs) → H[j]? = some (.list ys) → xs.length = ys.length →
      (∀ k x y, xs[k]? = some x → ys[k]? = some y → EqM H n x y (e k)) → EqM H (n + 1) (.ref i) (.ref j) ((List.range xs.length).all e)
  | lens {n i j xs ys} : H[i]? = some (.list xs) → H[j]? = some (.list ys) → xs.length ≠ ys.length → EqM H (n + 1) (.ref i) (.ref j) false
  | tups {n xs ys} (e : Nat → Bool) : xs.length = ys.length → (∀ k x y, xs[k]? = some x → ys[k]? = some y → EqM H n x y (e k)) → EqM H (n + 1) (.tup xs) (.tup ys) ((List.range xs.length).all e)

theorem VRs.at {g : G} : ∀ {ms : List MV} {vs : List Value} {i : Nat} {v : Value}, VRs g ms vs → vs[i]? = some v → ∃ m, ms[i]? = some m ∧ VR g m v := by
  intro ms vs i v h e
  have hl := h.length
  have : i < ms.length := by rw [← hl]; exact (List.getElem?_eq_some_iff.mp e).1
  obtain ⟨v', e', r⟩ := h.get (List.getElem?_eq_getElem this)
  rw [e] at e'; cases e'
  exact ⟨_, List.getElem?_eq_getElem this, r⟩

theorem EqM.refl {n : Nat} {x y : MV} {b : Bool} (h : EqM H n x y b) (I : Inv B fi env Φ g ev H s) : ∀ v, VR g x v → VR g y v → b = true := by
  induction h with
  | int => intro v h1 h2; obtain ⟨t, rfl⟩ := h1.inv_int; obtain ⟨t', e⟩ := h2.inv_int; cases e; simp
  | str => intro v h1 h2; obtain ⟨t, rfl⟩ := h1.inv_str; obtain ⟨t', e⟩ := h2.inv_str; cases e; simp
  | bytes => intro v h1 h2; obtain ⟨t, rfl⟩ := h1.inv_bytes; obtain ⟨t', e⟩ := h2.inv_bytes; injection e with e _; have := congrArg Array.toList e; simp at this; simp [this]
  | same => intro _ _ _; rfl
  | lists e hne hi hj _ _ _ =>
    intro v h1 h2
    obtain ⟨a, e1, rfl⟩ := h1.inv_ref; obtain ⟨a', e2, e3⟩ := h2.inv_ref; cases e3
    have x := (I.live _ a _ e1 hi).1; rw [(I.live _ a _ e2 hj).1] at x
    injection x with x; exact absurd x.symm hne
  | lens hi hj hl =>
    intro v h1 h2
    obtain ⟨a, e1, rfl⟩ := h1.inv_ref; obtain ⟨a', e2, e3⟩ := h2.inv_ref; cases e3
    have x := (I.live _ a _ e1 hi).1; rw [(I.live _ a _ e2 hj).1] at x
    injection x with x; subst x
    rw [hi] at hj; cases hj; exact absurd rfl hl
  | tups e hl hk ih =>
    intro v h1 h2
    obtain ⟨a, items, n, rfl, f1, r1⟩ := h1.inv_tup
    obtain ⟨a', items', n', e', f2, r2⟩ := h2.inv_tup
    cases e'; rw [f1] at f2; cases f2
    rw [List.all_eq_true]
    intro k hk'
    rename_i xs ys
    have hx := List.mem_range.mp hk'
    have hy : k < ys.length := by rw [← hl]; exact hx
    obtain ⟨u, eu, ru⟩ := r1.get (List.getElem?_eq_getElem hx)
    obtain ⟨u', eu', ru'⟩ := r2.get (List.getElem?_eq_getElem hy)
    rw [eu] at eu'; cases eu'
    exact ih k _ _ (List.getElem?_eq_getElem hx) (List.getElem?_eq_getElem hy) u ru ru'

theorem isListOf {h : Heap} {a : Addr} {items : Array Value} {n : Nat} (e : h.get? a = some (listObj items n)) : h.IsList a items := ⟨_, e, rfl, n, rfl⟩
theorem isTupOf {h : Heap} {a : Addr} {items : Array Value} {n : Nat} (e : h.get? a = some (tupObj items n)) : h.IsTuple a items := ⟨_, e, rfl, _, rfl⟩
theorem all_range_size {items : Array Value} {ms : List MV} (h : VRs g ms items.toList) (e : Nat → Bool) : (List.range items.size).all e = (List.range ms.length).all e := by rw [h.size]

theorem EqM.at {n : Nat} {x y : MV} {b : Bool} (h : EqM H n x y b) (I : Inv B fi env Φ g ev H s) : ∀ A v u, A.units + n < cLine → VR g x v → VR g y u → SeqAt.EqAt A s v u b := by
  induction h with
  | int => intro A v u _ h1 h2; obtain ⟨t, rfl⟩ := h1.inv_int; obtain ⟨t', rfl⟩ := h2.inv_int; exact SeqAt.EqAt.int_int _ _ _ _
  | str => intro A v u _ h1 h2; obtain ⟨t, rfl⟩ := h1.inv_str; obtain ⟨t', rfl⟩ := h2.inv_str; exact SeqAt.EqAt.str_str _ _ _ _
  | @bytes n p q =>
    intro A v u _ h1 h2; obtain ⟨t, rfl⟩ := h1.inv_bytes; obtain ⟨t', rfl⟩ := h2.inv_bytes
    intro prog w E Q hq
    refine eqBool_bytes ?_
    have : (p == q) = decide (p = q) := by by_cases h : p = q <;> simp [h]
    rw [this] at hq; simpa using hq
  | same => intro A v u _ h1 h2; obtain ⟨a, e1, rfl⟩ := h1.inv_ref; obtain ⟨a', e2, rfl⟩ := h2.inv_ref; rw [e1] at e2; cases e2; exact SeqAt.EqAt.same _
  | lists e hne hi hj hl hk ih =>
    intro A v u hu h1 h2
    obtain ⟨a1, it1, n1, rfl, s1, o1, e1, r1⟩ := I.list h1 hi
    obtain ⟨a2, it2, n2, rfl, s2, o2, e2, r2⟩ := I.list h2 hj
    refine SeqAt.EqAt.of_refs (by intro q; subst q; rw [o1] at o2; injection o2 with q; exact hne q) ?_
    rw [← all_range_size r1]
    refine SeqAt.RcAt.lists (isListOf e1) (isListOf e2) (by rw [r1.size, r2.size]; exact hl) (by omega) fun k k1 k2 => ?_
    obtain ⟨x, ex, rx⟩ := r1.at (i := k) (v := it1[k]) (by simp)
    obtain ⟨y, ey, ry⟩ := r2.at (i := k) (v := it2[k]) (by simp)
    exact ih k x y ex ey _ _ _ (by show A.units + 1 + _ < cLine; omega) rx ry
  | lens hi hj hl =>
    intro A v u hu h1 h2
    obtain ⟨a1, it1, n1, rfl, s1, o1, e1, r1⟩ := I.list h1 hi
    obtain ⟨a2, it2, n2, rfl, s2, o2, e2, r2⟩ := I.list h2 hj
    refine SeqAt.EqAt.of_refs (by intro q; subst q; rw [o1] at o2; injection o2 with q; subst q; rw [hi] at hj; cases hj; exact hl rfl) ?_
    exact SeqAt.RcAt.lists_lengths (isListOf e1) (isListOf e2) (by rw [r1.size, r2.size]; simpa using hl) (by omega)
  | tups e hl hk ih =>
    intro A v u hu h1 h2
    have hrefl := (EqM.tups e hl hk).refl I
    obtain ⟨a1, it1, n1, rfl, e1, r1⟩ := h1.inv_tup
    obtain ⟨a2, it2, n2, rfl, e2, r2⟩ := h2.inv_tup
    by_cases hq : a1 = a2
    · subst hq
      rw [hrefl _ h1 h2]; exact SeqAt.EqAt.same _
    · refine SeqAt.EqAt.of_refs hq ?_
      rename_i xs ys
      have q : (List.range xs.length).all e = ((List.range (min it1.size it2.size)).all e && it1.size == it2.size) := by
        rw [r1.size, r2.size, ← hl]; simp
      rw [q]
      refine SeqAt.RcAt.tuples (isTupOf (I.F _ _ e1).1) (isTupOf (I.F _ _ e2).1) (by omega) fun k k1 k2 => ?_
      obtain ⟨x, ex, rx⟩ := r1.at (i := k) (v := it1[k]) (by simp)
      obtain ⟨y, ey, ry⟩ := r2.at (i := k) (v := it2[k]) (by simp)
      exact ih k x y ex ey _ _ _ (by show A.units + 1 + _ < cLine; omega) rx ry
end
def cmpM : CmpOp → MV → MV → List MObj → (Bool → Prop) → Prop
  | .Lt, .int a, .int b, _, Q => Q (decide (a < b))
  | .LtE, .int a, .int b, _, Q => Q (decide (a ≤ b))
  | .Gt, .int a, .int b, _, Q => Q (decide (a > b))
  | .GtE, .int a, .int b, _, Q => Q (decide (a ≥ b))
  | .Eq, .int a, .int b, _, Q => Q (a == b)
  | .NotEq, .int a, .int b, _, Q => Q (a != b)
  | .Eq, .str a, .str b, _, Q => Q (a == b)
  | .NotEq, .str a, .str b, _, Q => Q (a != b)
  | .Eq, .bytes a, .bytes b, _, Q => Q (a == b)
  | .NotEq, .bytes a, .bytes b, _, Q => Q (a != b)
  | .Eq, .ref i, .ref j, H, Q => i ≠ j ∧ ∃ b, EqM H 20 (.ref i) (.ref j) b ∧ Q b
  | .NotEq, .ref i, .ref j, H, Q => i ≠ j ∧ ∃ b, EqM H 20 (.ref i) (.ref j) b ∧ Q (!b)
  | .In, .str a, .tup vs, _, Q => ∃ ss : List Str, vs = ss.map .str ∧ Q (ss.any (· == a))
  | .NotIn, .str a, .tup vs, _, Q => ∃ ss : List Str, vs = ss.map .str ∧ Q (!ss.any (· == a))
  | .In, .int a, .ref j, H, Q => ∃ es, H[j]? = some (.dI es) ∧ Q (es.any fun e => decide (e.1 = a))
  | .NotIn, .int a, .ref j, H, Q => ∃ es, H[j]? = some (.dI es) ∧ Q (!es.any fun e => decide (e.1 = a))
  | .NotIn, .tup [.bool false, .bytes b], .ref j, H, Q => ∃ es, H[j]? = some (.dB es) ∧ Q (!es.any fun e => decide (e.1 = b))
  | .IsNot, .none, .none, _, Q => Q false
  | .IsNot, .int _, .none, _, Q => Q true
  | .IsNot, .ref i, .ref j, H, Q => (∃ C f, H[j]? = some (.inst C f)) ∧ (∃ o, H[i]? = some o) ∧ Q (i != j)
  | _, _, _, _, _ => False

section
variable {B : Bs} {fi : FI} {d : Nat} {ev : List MV} {H : List MObj} {A : Around} {env : Env} {Φ : Addr → Option Obj} {g : G} {s : Shared}

theorem valueAt_rel {α : Type} [DecidableEq α] {g : G} {k : α} : ∀ {es : List (α × MV)} {kvs : List (α × Value)}, relK g es kvs →
    (valueAt kvs k).isSome = es.any (fun e => decide (e.1 = k)) ∧ ∀ m, (es.find? (fun e => decide (e.1 = k))).map (·.2) = some m → ∃ v, valueAt kvs k = some v ∧ VR g m v
  | [], _ => fun h => by cases h; exact ⟨rfl, fun m e => by simp at e⟩
  | (x, m) :: es, _ => fun h => by
    obtain ⟨v, r, rfl, h1, h2⟩ := h
    obtain ⟨i1, i2⟩ := valueAt_rel (k := k) h2
    unfold valueAt at i1 i2 ⊢
    by_cases hx : x = k
    · subst hx
      refine ⟨by simp, fun m' e => ?_⟩
      simp at e; subst e; exact ⟨v, by simp, h1⟩
    · refine ⟨by simpa [List.find?_cons, hx] using i1, fun m' e => ?_⟩
      simp only [List.find?_cons, hx, decide_false] at e
      obtain ⟨v', a, b⟩ := i2 m' e
      exact ⟨v', by simpa [List.find?_cons, hx] using a, b⟩

theorem atKey_rel {g : G} {k : List UInt8} : ∀ {es : List (List UInt8 × MV)} {xs : List (List (Option (List UInt8)) × Addr × Value)}, relB g es xs →
    (atKey xs [none, some k]).isSome = es.any (fun e => decide (e.1 = k)) ∧ ∀ m, (es.find? (fun e => decide (e.1 = k))).map (·.2) = some m → ∃ p, atKey xs [none, some k] = some p ∧ VR g m p.2
  | [], _ => fun h => by cases h; exact ⟨rfl, fun m e => by simp at e⟩
  | (x, m) :: es, _ => fun h => by
    obtain ⟨ka, v, r, rfl, h1, h2⟩ := h
    obtain ⟨i1, i2⟩ := atKey_rel (k := k) h2
    unfold atKey at i1 i2 ⊢
    by_cases hx : x = k
    · subst hx
      refine ⟨by simp, fun m' e => ?_⟩
      simp at e; subst e; exact ⟨(ka, v), by simp, h1⟩
    · refine ⟨by simpa [List.find?_cons, hx] using i1, fun m' e => ?_⟩
      simp only [List.find?_cons, hx, decide_false] at e
      obtain ⟨p, a, b⟩ := i2 m' e
      exact ⟨p, by simpa [List.find?_cons, hx] using a, b⟩

theorem strs_any {g : G} {a : Str} : ∀ {ss : List Str} {vs : List Value}, VRs g (ss.map .str) vs → vs.any (fun v => match v with | .str x _ => x == a | _ => false) = ss.any (· == a)
  | [], _ => fun h => by simp only [List.map_nil, VRs] at h; subst h; rfl
  | x :: ss, _ => fun h => by
    simp only [List.map_cons, VRs] at h
    obtain ⟨v, r, rfl, h1, h2⟩ := h
    obtain ⟨t, rfl⟩ := h1.inv_str
    simp only [List.any_cons]; rw [strs_any h2]
theorem strs_mem {g : G} : ∀ {ss : List Str} {vs : List Value}, VRs g (ss.map .str) vs → ∀ v ∈ vs, ∃ x t, v = .str x t
  | [], _ => fun h v hv => by simp only [List.map_nil, VRs] at h; subst h; cases hv
  | x :: ss, _ => fun h v hv => by
    simp only [List.map_cons, VRs] at h
    obtain ⟨u, r, rfl, h1, h2⟩ := h
    rcases List.mem_cons.mp hv with rfl | hv
    · obtain ⟨t, rfl⟩ := h1.inv_str; exact ⟨_, _, rfl⟩
    · exact strs_mem h2 v hv

theorem beq_decide_str (a b : Str) : (a.cps.toList == b.cps.toList) = (a == b) := SeqAt.str_beq a b

theorem kkey {g : G} {b : List UInt8} {v : Value} (I : Inv B fi env Φ g ev H s) (h : VR g (.tup [.bool false, .bytes b]) v) :
    ∃ a items n, v = .ref a ∧ g.F a = some (tupObj items n) ∧ (tupleKind (kkind Prg B.w)).is s.heap [none, some b] a := by
  obtain ⟨a, items, n, rfl, e, r⟩ := h.inv_tup
  refine ⟨a, items, n, rfl, e, _, items, _, (I.F _ _ e).1, rfl, rfl, ?_⟩
  simp only [VRs] at r
  obtain ⟨v1, r1, e1, h1, v2, r2, e2, h2, e3⟩ := r
  subst e3 e2
  rw [e1]
  have h1 := h1.inv_bool; obtain ⟨t, h2⟩ := h2.inv_bytes
  subst h1 h2
  exact .cons rfl (.cons (by simp [kkind, isKK, isBytes]) .nil)

theorem W_inStr {x : Str} {vs : List MV} {v u : Value} {Q : Bool → Prop} (I : Inv B fi env Φ g ev H s) (ha : VR g (.str x) v) (hb : VR g (.tup vs) u)
    (hq : ∃ ss : List Str, vs = ss.map .str ∧ Q (ss.any (· == x))) :
    W B fi env Φ A (compareOp .In v u) g s (fun g' ev' H' r => (ev' = ev ∧ H' = H ∧ g' = g) ∧ ∃ b, r = .bool b ∧ Q b) := by
  obtain ⟨ss, rfl, hq⟩ := hq
  obtain ⟨t, rfl⟩ := ha.inv_str
  obtain ⟨a2, it2, n2, rfl, e2, r2⟩ := hb.inv_tup
  refine SeqAt.in_tupleAt (fun v => match v with | .str y _ => y == x | _ => false) (isTupOf (I.F _ _ e2).1) (fun y hy => ?_) ⟨g, ev, H, .refl g, I, ⟨rfl, rfl, rfl⟩, _, rfl, by rw [← Array.any_toList, strs_any r2]; exact hq⟩
  obtain ⟨z, t', rfl⟩ := strs_mem r2 y (by simpa using hy)
  exact SeqAt.EqAt.str_str _ _ _ _
theorem W_notInStr {x : Str} {vs : List MV} {v u : Value} {Q : Bool → Prop} (I : Inv B fi env Φ g ev H s) (ha : VR g (.str x) v) (hb : VR g (.tup vs) u)
    (hq : ∃ ss : List Str, vs = ss.map .str ∧ Q (!ss.any (· == x))) :
    W B fi env Φ A (compareOp .NotIn v u) g s (fun g' ev' H' r => (ev' = ev ∧ H' = H ∧ g' = g) ∧ ∃ b, r = .bool b ∧ Q b) := by
  obtain ⟨ss, rfl, hq⟩ := hq
  obtain ⟨t, rfl⟩ := ha.inv_str
  obtain ⟨a2, it2, n2, rfl, e2, r2⟩ := hb.inv_tup
  refine SeqAt.notIn_tupleAt (fun v => match v with | .str y _ => y == x | _ => false) (isTupOf (I.F _ _ e2).1) (fun y hy => ?_) ⟨g, ev, H, .refl g, I, ⟨rfl, rfl, rfl⟩, _, rfl, by rw [← Array.any_toList, strs_any r2]; exact hq⟩
  obtain ⟨z, t', rfl⟩ := strs_mem r2 y (by simpa using hy)
  exact SeqAt.EqAt.str_str _ _ _ _
theorem W_inInt {x : Int} {j : Nat} {v u : Value} {Q : Bool → Prop} (I : Inv B fi env Φ g ev H s) (ha : VR g (.int x) v) (hb : VR g (.ref j) u)
    (hq : ∃ es, H[j]? = some (.dI es) ∧ Q (es.any fun e => decide (e.1 = x))) :
    W B fi env Φ A (compareOp .In v u) g s (fun g' ev' H' r => (ev' = ev ∧ H' = H ∧ g' = g) ∧ ∃ b, r = .bool b ∧ Q b) := by
  obtain ⟨es, h1, h2⟩ := hq
  obtain ⟨t, rfl⟩ := ha.inv_int
  obtain ⟨a2, e2, rfl⟩ := hb.inv_ref
  obtain ⟨o2, kvs, h3, h4⟩ := I.live _ a2 _ e2 h1
  exact wpAny_in_of (knd := intKind Prg B.w) (k := x) (by simp [intKind, Value.isInt]) (I.notSys o2) h3.mapOf ⟨g, ev, H, .refl g, I.toks _, ⟨rfl, rfl, rfl⟩, _, rfl, by rw [(valueAt_rel h4).1]; exact h2⟩
theorem W_notInInt {x : Int} {j : Nat} {v u : Value} {Q : Bool → Prop} (I : Inv B fi env Φ g ev H s) (ha : VR g (.int x) v) (hb : VR g (.ref j) u)
    (hq : ∃ es, H[j]? = some (.dI es) ∧ Q (!es.any fun e => decide (e.1 = x))) :
    W B fi env Φ A (compareOp .NotIn v u) g s (fun g' ev' H' r => (ev' = ev ∧ H' = H ∧ g' = g) ∧ ∃ b, r = .bool b ∧ Q b) := by
  obtain ⟨es, h1, h2⟩ := hq
  obtain ⟨t, rfl⟩ := ha.inv_int
  obtain ⟨a2, e2, rfl⟩ := hb.inv_ref
  obtain ⟨o2, kvs, h3, h4⟩ := I.live _ a2 _ e2 h1
  exact wpAny_notIn_of (knd := intKind Prg B.w) (k := x) (by simp [intKind, Value.isInt]) (I.notSys o2) h3.mapOf ⟨g, ev, H, .refl g, I.toks _, ⟨rfl, rfl, rfl⟩, _, rfl, by rw [(valueAt_rel h4).1]; exact h2⟩

theorem wpAny_unbind {α β : Type} {M : Model} {A : Around} {E : Value → Shared → Prop} {s : Shared} {m : Sem α} {f : α → β} {Q : β → Shared → Prop} (h : wpAny M A (m >>= fun a => pure (f a)) Q E s) :
    wpAny M A m (fun a s' => Q (f a) s') E s := fun Γ p hΓ => by
  have := h Γ p hΓ
  rw [Sem.wp_bind'] at this
  simpa only [Sem.wp_pure'] using this

theorem W_notInB {x : List UInt8} {j : Nat} {v u : Value} {Q : Bool → Prop} (hu : A.units + 1 < cLine) (I : Inv B fi env Φ g ev H s) (ha : VR g (.tup [.bool false, .bytes x]) v) (hb : VR g (.ref j) u)
    (hq : ∃ es, H[j]? = some (.dB es) ∧ Q (!es.any fun e => decide (e.1 = x))) :
    W B fi env Φ A (compareOp .NotIn v u) g s (fun g' ev' H' r => (ev' = ev ∧ H' = H ∧ g' = g) ∧ ∃ b, r = .bool b ∧ Q b) := by
  obtain ⟨es, h1, h2⟩ := hq
  obtain ⟨ka, items, n, rfl, ke, kk⟩ := kkey I ha
  obtain ⟨a2, e2, rfl⟩ := hb.inv_ref
  obtain ⟨o2, xs, h3, h4, h5⟩ := I.live _ a2 _ e2 h1
  have x1 := wpAny_in_heap (A := A) (E := fun _ _ => False) (tupleKind_room_in1 hu) kk (I.notSys o2) h3
    (Q := fun v s' => ∃ b, v = .bool b ∧ ∃ g' ev' H', g.le g' ∧ Inv B fi env Φ g' ev' H' s' ∧ (ev' = ev ∧ H' = H ∧ g' = g) ∧ Q (!b))
    ⟨_, rfl, g, ev, H, .refl g, I.toks _, ⟨rfl, rfl, rfl⟩, by rw [(atKey_rel h5).1]; exact h2⟩
  have x2 := wpAny_unbind (m := contains (.ref a2) (.ref ka)) (f := fun b => Value.bool b) x1
  show wpAny _ _ (do return Value.bool (!(← contains (.ref a2) (.ref ka))) : Sem Value) _ _ _
  refine wpAny_bind (wpAny_mono x2 (fun b s' ⟨b', eb, g', ev', H', l, I', q1, q2⟩ => ?_) fun _ _ x => x)
  cases eb
  exact wpAny_pure ⟨g', ev', H', l, I', q1, _, rfl, q2⟩

theorem W_isNotRef {i j : Nat} {v u : Value} {Q : Bool → Prop} (I : Inv B fi env Φ g ev H s) (ha : VR g (.ref i) v) (hb : VR g (.ref j) u)
    (hq : (∃ C f, H[j]? = some (.inst C f)) ∧ (∃ o, H[i]? = some o) ∧ Q (i != j)) :
    W B fi env Φ A (compareOp .IsNot v u) g s (fun g' ev' H' r => (ev' = ev ∧ H' = H ∧ g' = g) ∧ ∃ b, r = .bool b ∧ Q b) := by
  obtain ⟨⟨C, f, h1⟩, ⟨o, h2⟩, h3⟩ := hq
  obtain ⟨a1, e1, rfl⟩ := ha.inv_ref
  obtain ⟨a2, e2, rfl⟩ := hb.inv_ref
  obtain ⟨o1, l1⟩ := I.live _ a1 _ e1 h2
  obtain ⟨o2, d, es, n, h4, h5, h6⟩ := I.live _ a2 _ e2 h1
  show wpAny _ _ (do return Value.bool (!(← isSame (.ref a1) (.ref a2))) : Sem Value) _ _ _
  by_cases hij : i = j
  · subst hij
    rw [e1] at e2; cases e2
    refine wpAny_bind ?_
    show wpAny _ _ (if (a1 == a1) = true then pure true else _) _ _ _
    rw [if_pos (by simp)]
    exact wpAny_pure (wpAny_pure ⟨g, ev, H, .refl g, I, ⟨rfl, rfl, rfl⟩, _, rfl, by simpa using h3⟩)
  · have hne : a1 ≠ a2 := by intro q; subst q; rw [o1] at o2; injection o2 with q; exact hij q
    obtain ⟨p, hp⟩ : ∃ p, s.heap.get? a1 = some p := by
      cases o with
      | list vs => obtain ⟨it, n, x, _⟩ := l1; exact ⟨_, x⟩
      | inst C fs => obtain ⟨d, es, n, x, _⟩ := l1; exact ⟨_, x⟩
      | dI es => obtain ⟨kvs, ⟨o, es', ep, x, _⟩, _⟩ := l1; exact ⟨_, x⟩
      | dS es => obtain ⟨kvs, ⟨o, es', ep, x, _⟩, _⟩ := l1; exact ⟨_, x⟩
      | dB es => obtain ⟨xs, ⟨o, es', ep, x, _⟩, _⟩ := l1; exact ⟨_, x⟩
    refine wpAny_bind (SeqAt.wpAny_isSame_ref_other' hne hp h4 (by intro q; cases q) (wpAny_pure ⟨g, ev, H, .refl g, I, ⟨rfl, rfl, rfl⟩, _, rfl, ?_⟩))
    have : (i != j) = true := by simpa using hij
    rw [this] at h3; exact h3

theorem W_cmp {op : CmpOp} {a b : MV} {v u : Value} {Q : Bool → Prop} (hd : OkA d A) (I : Inv B fi env Φ g ev H s) (ha : VR g a v) (hb : VR g b u) (hq : cmpM op a b H Q) :
    W B fi env Φ A (compareOp op v u) g s (fun g' ev' H' r => (ev' = ev ∧ H' = H ∧ g' = g) ∧ ∃ b, r = .bool b ∧ Q b) := by
  have hu := hd.cl
  have hu20 : A.units + 20 < cLine := by have := hd.2.2; omega
  unfold cmpM at hq
  split at hq
  · obtain ⟨t, rfl⟩ := ha.inv_int; obtain ⟨t', rfl⟩ := hb.inv_int
    exact P.lt_int ⟨g, ev, H, .refl g, I, ⟨rfl, rfl, rfl⟩, _, rfl, hq⟩
  · obtain ⟨t, rfl⟩ := ha.inv_int; obtain ⟨t', rfl⟩ := hb.inv_int
    exact P.le_int ⟨g, ev, H, .refl g, I, ⟨rfl, rfl, rfl⟩, _, rfl, hq⟩
  · obtain ⟨t, rfl⟩ := ha.inv_int; obtain ⟨t', rfl⟩ := hb.inv_int
    exact P.gt_int ⟨g, ev, H, .refl g, I, ⟨rfl, rfl, rfl⟩, _, rfl, hq⟩
  · obtain ⟨t, rfl⟩ := ha.inv_int; obtain ⟨t', rfl⟩ := hb.inv_int
    exact P.ge_int ⟨g, ev, H, .refl g, I, ⟨rfl, rfl, rfl⟩, _, rfl, hq⟩
  · obtain ⟨t, rfl⟩ := ha.inv_int; obtain ⟨t', rfl⟩ := hb.inv_int
    exact P.eq_int ⟨g, ev, H, .refl g, I, ⟨rfl, rfl, rfl⟩, _, rfl, hq⟩
  · obtain ⟨t, rfl⟩ := ha.inv_int; obtain ⟨t', rfl⟩ := hb.inv_int
    exact P.ne_int ⟨g, ev, H, .refl g, I, ⟨rfl, rfl, rfl⟩, _, rfl, hq⟩
  · obtain ⟨t, rfl⟩ := ha.inv_str; obtain ⟨t', rfl⟩ := hb.inv_str
    exact P.eq_str ⟨g, ev, H, .refl g, I, ⟨rfl, rfl, rfl⟩, _, rfl, by rw [beq_decide_str]; exact hq⟩
  · obtain ⟨t, rfl⟩ := ha.inv_str; obtain ⟨t', rfl⟩ := hb.inv_str
    exact P.ne_str ⟨g, ev, H, .refl g, I, ⟨rfl, rfl, rfl⟩, _, rfl, by show Q (!(_ == _)); rw [beq_decide_str]; exact hq⟩
  · obtain ⟨t, rfl⟩ := ha.inv_bytes; obtain ⟨t', rfl⟩ := hb.inv_bytes
    exact eq_bytes ⟨g, ev, H, .refl g, I, ⟨rfl, rfl, rfl⟩, _, rfl, by simpa using hq⟩
  · obtain ⟨t, rfl⟩ := ha.inv_bytes; obtain ⟨t', rfl⟩ := hb.inv_bytes
    exact ne_bytes ⟨g, ev, H, .refl g, I, ⟨rfl, rfl, rfl⟩, _, rfl, by simpa using hq⟩
  · obtain ⟨hne, b, he, hq⟩ := hq
    cases he with
    | same => exact absurd rfl hne
    | lists e hne hi hj hl hk =>
      obtain ⟨a1, it1, n1, rfl, s1, o1, e1, r1⟩ := I.list ha hi
      obtain ⟨a2, it2, n2, rfl, s2, o2, e2, r2⟩ := I.list hb hj
      refine SeqAt.eq_listAt (e := e) (isListOf e1) (isListOf e2) (by rw [r1.size, r2.size]; exact hl) hu (fun k k1 k2 => ?_) ⟨g, ev, H, .refl g, I, ⟨rfl, rfl, rfl⟩, _, rfl, by rw [all_range_size r1]; exact hq⟩
      obtain ⟨x, ex, rx⟩ := r1.at (i := k) (v := it1[k]) (by simp)
      obtain ⟨y, ey, ry⟩ := r2.at (i := k) (v := it2[k]) (by simp)
      exact (hk k x y ex ey).at I _ _ _ (by show A.units + 1 + _ < cLine; omega) rx ry
    | lens hi hj hl =>
      obtain ⟨a1, it1, n1, rfl, s1, o1, e1, r1⟩ := I.list ha hi
      obtain ⟨a2, it2, n2, rfl, s2, o2, e2, r2⟩ := I.list hb hj
      exact SeqAt.eq_list_lengthsAt (isListOf e1) (isListOf e2) (by rw [r1.size, r2.size]; simpa using hl) hu ⟨g, ev, H, .refl g, I, ⟨rfl, rfl, rfl⟩, _, rfl, hq⟩
  · obtain ⟨hne, b, he, hq⟩ := hq
    cases he with
    | same => exact absurd rfl hne
    | lists e hne hi hj hl hk =>
      obtain ⟨a1, it1, n1, rfl, s1, o1, e1, r1⟩ := I.list ha hi
      obtain ⟨a2, it2, n2, rfl, s2, o2, e2, r2⟩ := I.list hb hj
      refine SeqAt.RcNeAt.lists (e := e) (isListOf e1) (isListOf e2) (by rw [r1.size, r2.size]; exact hl) hu (fun k k1 k2 => ?_) _ _ _ _ ⟨g, ev, H, .refl g, I, ⟨rfl, rfl, rfl⟩, _, rfl, by rw [all_range_size r1]; exact hq⟩
      obtain ⟨x, ex, rx⟩ := r1.at (i := k) (v := it1[k]) (by simp)
      obtain ⟨y, ey, ry⟩ := r2.at (i := k) (v := it2[k]) (by simp)
      exact (hk k x y ex ey).at I _ _ _ (by show A.units + 1 + _ < cLine; omega) rx ry
    | lens hi hj hl =>
      obtain ⟨a1, it1, n1, rfl, s1, o1, e1, r1⟩ := I.list ha hi
      obtain ⟨a2, it2, n2, rfl, s2, o2, e2, r2⟩ := I.list hb hj
      exact SeqAt.RcNeAt.lists_lengths (isListOf e1) (isListOf e2) (by rw [r1.size, r2.size]; simpa using hl) hu _ _ _ _ ⟨g, ev, H, .refl g, I, ⟨rfl, rfl, rfl⟩, _, rfl, hq⟩
  · exact W_inStr I ha hb hq
  · exact W_notInStr I ha hb hq
  · exact W_inInt I ha hb hq
  · exact W_notInInt I ha hb hq
  · exact W_notInB (by omega) I ha hb hq
  · rw [ha.inv_none, hb.inv_none]
    exact isNot_none ⟨g, ev, H, .refl g, I, ⟨rfl, rfl, rfl⟩, _, rfl, hq⟩
  · obtain ⟨t, rfl⟩ := ha.inv_int; rw [hb.inv_none]
    exact isNot_none ⟨g, ev, H, .refl g, I, ⟨rfl, rfl, rfl⟩, _, rfl, hq⟩
  · exact W_isNotRef I ha hb hq
  · exact hq.elim
end
section
variable {B : Bs} {fi : FI} {d : Nat} {ev : List MV} {H : List MObj} {A : Around} {env : Env} {Φ : Addr → Option Obj} {g : G} {s : Shared}

theorem WPE.cmp {l r : Expr} {op : CmpOp} {pos : Pos} {Q : MV → List MObj → Prop} (hm : behindInMarks op r = false)
    (h : WPE B fi d l ev H fun a H1 => WPE B fi d r ev H1 fun b H2 => cmpM op a b H2 fun c => Q (.bool c) H2) : WPE B fi d (.Compare l [op] [r] pos) ev H Q := fun A env Φ g s ok I => by
  refine wpAny_Compare1 ((h A env Φ g s ok I).to fun g1 ev1 H1 v s1 l1 I1 ⟨e1, a, ra, h1⟩ => ?_) hm
  subst e1
  refine (h1 A env Φ g1 s1 ok I1).to fun g2 ev2 H2 u s2 l2 I2 ⟨e2, b, rb, h2⟩ => ?_
  subst e2
  exact W.back (l1.trans l2) ((W_cmp ok I2 (ra.mono l2) rb h2).mono fun g' ev' H' v l ⟨⟨q1, q2, q3⟩, b, e, q⟩ => ⟨q1, .bool b, by rw [e]; exact .bool', q2 ▸ q⟩)

theorem WPT.cmp {l r : Expr} {op : CmpOp} {pos : Pos} {Q : Bool → List MObj → Prop} (hm : behindInMarks op r = false)
    (h : WPE B fi d l ev H fun a H1 => WPE B fi d r ev H1 fun b H2 => cmpM op a b H2 fun c => Q c H2) : WPT B fi d (.Compare l [op] [r] pos) ev H Q := fun A env Φ g s ok I => by
  refine wpAny_isTrue_Compare1 ((h A env Φ g s ok I).to fun g1 ev1 H1 v s1 l1 I1 ⟨e1, a, ra, h1⟩ => ?_) hm
  subst e1
  refine (h1 A env Φ g1 s1 ok I1).to fun g2 ev2 H2 u s2 l2 I2 ⟨e2, b, rb, h2⟩ => ?_
  subst e2
  refine (W_cmp ok I2 (ra.mono l2) rb h2).to fun g' ev' H' v s3 l I3 ⟨⟨q1, q2, q3⟩, b, e, q⟩ => ?_
  subst e
  exact wpAny_truthy_bool ⟨g', ev', H', (l1.trans l2).trans l, I3, q1, q2 ▸ q⟩

theorem WPT.not {e : Expr} {pos : Pos} {Q : Bool → List MObj → Prop} (h : WPT B fi d e ev H fun b H1 => Q (!b) H1) : WPT B fi d (.UnaryOp .Not e pos) ev H Q := fun A env Φ g s ok I =>
  wpAny_isTrue_Not (W.mono (h A env Φ g s ok I) fun _ _ _ _ _ q => q)

/-- a test of what holds a bool -/
theorem WPT.val {e : Expr} {Q : Bool → List MObj → Prop} (he : ∀ env, isTrue e env (eval e env) = (do let v ← eval e env; standAt e.pos; holding [v] (truthy v)))
    (h : WPE B fi d e ev H fun m H1 => ∃ b, m = .bool b ∧ Q b H1) : WPT B fi d e ev H Q := fun A env Φ g s ok I => by
  refine wpAny_isTrue_value ((h A env Φ g s ok I).to fun g1 ev1 H1 v s1 l1 I1 ⟨e1, m, rm, b, e2, h1⟩ => ?_) (he env)
  subst e1 e2
  rw [rm.inv_bool]
  exact wpAny_truthy_bool ⟨g1, _, H1, l1, I1, rfl, h1⟩

/-- and, or -/
def WPA (B : Bs) (fi : FI) (d : Nat) (op : BoolOp) (es : List Expr) (ev : List MV) (H : List MObj) (Q : Bool → List MObj → Prop) : Prop :=
  ∀ A env Φ g s, OkA d A → Inv B fi env Φ g ev H s → W B fi env Φ A (allTrue op es env) g s (fun _ ev' H' b => ev' = ev ∧ Q b H')
theorem WPT.bop {op : BoolOp} {es : List Expr} {pos : Pos} {Q : Bool → List MObj → Prop} (h : WPA B fi d op es ev H Q) : WPT B fi d (.BoolOp op es pos) ev H Q := fun A env Φ g s ok I =>
  wpAny_isTrue_BoolOp (h A env Φ g s ok I)
theorem WPA.andNil {Q : Bool → List MObj → Prop} (h : Q true H) : WPA B fi d .And [] ev H Q := fun A env Φ g s ok I => wpAny_allTrue_And_nil ⟨g, ev, H, .refl g, I, rfl, h⟩
theorem WPA.orNil {Q : Bool → List MObj → Prop} (h : Q false H) : WPA B fi d .Or [] ev H Q := fun A env Φ g s ok I => wpAny_allTrue_Or_nil ⟨g, ev, H, .refl g, I, rfl, h⟩
theorem WPA.and {x : Expr} {rest : List Expr} {Q : Bool → List MObj → Prop} (h : WPT B fi d x ev H fun b H1 => (b = true → WPA B fi d .And rest ev H1 Q) ∧ (b = false → Q false H1)) : WPA B fi d .And (x :: rest) ev H Q := fun A env Φ g s ok I =>
  wpAny_allTrue_And_cons ((h A env Φ g s ok I).to fun g1 ev1 H1 b s1 l1 I1 ⟨e1, h1, h2⟩ => by
    subst e1
    cases b
    · exact ⟨g1, _, H1, l1, I1, rfl, h2 rfl⟩
    · exact W.back l1 (h1 rfl A env Φ g1 s1 ok I1))
theorem WPA.or {x : Expr} {rest : List Expr} {Q : Bool → List MObj → Prop} (h : WPT B fi d x ev H fun b H1 => (b = true → Q true H1) ∧ (b = false → WPA B fi d .Or rest ev H1 Q)) : WPA B fi d .Or (x :: rest) ev H Q := fun A env Φ g s ok I =>
  wpAny_allTrue_Or_cons ((h A env Φ g s ok I).to fun g1 ev1 H1 b s1 l1 I1 ⟨e1, h1, h2⟩ => by
    subst e1
    cases b
    · exact W.back l1 (h2 rfl A env Φ g1 s1 ok I1)
    · exact ⟨g1, _, H1, l1, I1, rfl, h1 rfl⟩)

theorem WPE.ifx {t a b : Expr} {pos : Pos} {Q : MV → List MObj → Prop} (h : WPT B fi d t ev H fun c H1 => (c = true → WPE B fi d a ev H1 Q) ∧ (c = false → WPE B fi d b ev H1 Q)) : WPE B fi d (.IfExp t a b pos) ev H Q := fun A env Φ g s ok I =>
  wpAny_IfExp ((h A env Φ g s ok I).to fun g1 ev1 H1 b s1 l1 I1 ⟨e1, h1, h2⟩ => by
    subst e1
    cases b
    · exact W.back l1 (h2 rfl A env Φ g1 s1 ok I1)
    · exact W.back l1 (h1 rfl A env Φ g1 s1 ok I1))

theorem WPEs.nil {Q : List MV → List MObj → Prop} (h : Q [] H) : WPEs B fi d [] ev H Q := fun A env Φ g s pos ok I => wpAny_items_nil ⟨g, ev, H, .refl g, I, rfl, [], by simp [VRs], h⟩
theorem WPEs.cons {e : Expr} {rest : List Expr} {Q : List MV → List MObj → Prop} (he : ∀ env, starEach (e :: rest) env = (false, eval e env) :: starEach rest env)
    (h : WPE B fi d e ev H fun m H1 => WPEs B fi d rest ev H1 fun ms H2 => Q (m :: ms) H2) : WPEs B fi d (e :: rest) ev H Q := fun A env Φ g s pos ok I => by
  refine wpAny_items_cons ((h A env Φ g s ok I).to fun g1 ev1 H1 v s1 l1 I1 ⟨e1, m, rm, h1⟩ => ?_) (he env)
  subst e1
  refine (h1 A env Φ g1 s1 pos ok I1).to fun g2 ev2 H2 vs s2 l2 I2 ⟨e2, ms, rms, h2⟩ => ?_
  exact ⟨g2, ev2, H2, l1.trans l2, I2, e2, m :: ms, by simp only [VRs]; exact ⟨_, _, rfl, rm.mono l2, rms⟩, h2⟩

theorem WPE.tup {es : List Expr} {k : Nat} {pos : Pos} {Q : MV → List MObj → Prop} (h : WPEs B fi d es ev H fun ms H1 => ms.length ≤ 100000 ∧ Q (.tup ms) H1) : WPE B fi d (.Tuple es k pos) ev H Q := fun A env Φ g s ok I => by
  refine wpAny_Tuple ((h A env Φ g s pos ok I).to fun g1 ev1 H1 vs s1 l1 I1 ⟨e1, ms, rms, hl, h1⟩ => ⟨by rw [rms.length]; exact Nat.le_trans hl (by decide), ?_⟩)
  obtain ⟨g2, l2, I2, hF⟩ := I1.fz (tupObj vs.toArray 0)
  exact ⟨g2, ev1, H1, l1.trans l2, I2, e1, .tup ms, by simp only [VR]; exact ⟨_, _, _, rfl, hF, rms.mono l2⟩, h1⟩

theorem WPE.list {es : List Expr} {pos : Pos} {Q : MV → List MObj → Prop} (h : WPEs B fi d es ev H fun ms H1 => ms.length ≤ 100000 ∧ Q (.ref H1.length) (H1 ++ [.list ms])) : WPE B fi d (.List es pos) ev H Q := fun A env Φ g s ok I => by
  refine wpAny_List ((h A env Φ g s pos ok I).to fun g1 ev1 H1 vs s1 l1 I1 ⟨e1, ms, rms, hl, h1⟩ => ⟨by rw [rms.length]; exact Nat.le_trans hl (by decide), ?_⟩)
  obtain ⟨g2, l2, I2, hσ⟩ := I1.newList (items := vs.toArray) (n := 0) (vs := ms) rms
  exact ⟨g2, ev1, _, l1.trans l2, I2, e1, _, .ref' hσ, h1⟩

/-! attributes -/
def plain : MV → Bool
  | .con _ | .undef => false
  | _ => true
theorem handed {g : G} {m : MV} {v : Value} (h : VR g m v) (hp : plain m = true) : handedIn v = true := by
  cases m <;> simp only [plain, Bool.false_eq_true] at hp
  · rw [h.inv_none]; rfl
  · rw [h.inv_bool]; rfl
  · obtain ⟨t, rfl⟩ := h.inv_int; rfl
  · obtain ⟨t, rfl⟩ := h.inv_str; rfl
  · obtain ⟨t, rfl⟩ := h.inv_bytes; rfl
  · obtain ⟨a, it, n, rfl, _⟩ := h.inv_tup; rfl
  · obtain ⟨a, _, rfl⟩ := h.inv_ref; rfl

def attrOk (w : World) (C : Addr) (x : Str) : Bool := plainGet (Kw w) C x && (hasDictIn (Kw w) C && (match findIn (Kw w) (.ref C) x with | some at_ => noGet (Kw w) at_ | none => false))

def getF (x : Str) : List (Str × MV) → Option MV
  | [] => none
  | (y, m) :: r => if y == x then some m else getF x r
theorem getF_L {P : Params} {g : G} {x : Str} {m : MV} : ∀ {fs : List (Str × MV)} {es : List DictEntry}, VRf P g fs es → getF x fs = some m → ∃ v, getL x es = some (some v) ∧ VR g m v
  | [], _, _, e => by cases e
  | (y, m') :: fs, _, h, e => by
    obtain ⟨t, v, r, rfl, h1, h2⟩ := h
    unfold getF at e
    unfold getL
    have hk : (Value.str y t).isStr x = (y == x) := rfl
    by_cases hx : (y == x) = true
    · rw [if_pos hx] at e; cases e
      exact ⟨v, by simp [List.find?_cons, hk, hx], h1⟩
    · rw [if_neg hx] at e
      obtain ⟨v', a, b⟩ := getF_L h2 e
      refine ⟨v', ?_, b⟩
      have hx' : (y == x) = false := by simpa using hx
      unfold getL at a
      simp only [List.find?_cons, hk, hx']
      cases hf : List.find? (fun x_1 => x_1.key.isStr x) r with
      | some e' => rw [hf] at a; exact a
      | none =>
        rw [hf] at a
        simp only at a ⊢
        split at a
        · cases a
        · cases a

theorem instOf {I : Inv B fi env Φ g ev H s} {i : Nat} {C : Addr} {fs : List (Str × MV)} {v : Value} (hv : VR g (.ref i) v) (hi : H[i]? = some (.inst C fs)) :
    ∃ a dx es n, v = .ref a ∧ g.σ[i]? = some a ∧ g.ow a = .lv i ∧ g.ow dx = .lv i ∧ a ≠ dx ∧ s.heap.get? a = some (instObj C dx) ∧ s.heap.get? dx = some (dictOf es n) ∧ VRf B.w.params g fs es ∧
      InstAt s.heap a (instObj C dx) C (some (dictOf es n)) := by
  obtain ⟨a, h1, rfl⟩ := hv.inv_ref
  obtain ⟨h2, dx, es, n, h3, h4, h5, h6, h7⟩ := I.live i a _ h1 hi
  exact ⟨a, dx, es, n, rfl, h1, h2, h5, h6, h3, h4, h7, h3, rfl, rfl, h4⟩

theorem W_attr {i : Nat} {C : Addr} {fs : List (Str × MV)} {v : Value} {x : Str} {m : MV} {b : Bool} (I : Inv B fi env Φ g ev H s) (hv : VR g (.ref i) v) (hi : H[i]? = some (.inst C fs))
    (hx : attrOk B.w C x = true) (hm : getF x fs = some m) (hp : plain m = true) : W B fi env Φ A (getAttr v x b) g s (fun g' ev' H' r => (ev' = ev ∧ H' = H ∧ g' = g) ∧ VR g m r) := by
  obtain ⟨a, dx, es, n, rfl, h1, h2, h3, h4, h5, h6, h7, IA⟩ := instOf (I := I) hv hi
  obtain ⟨u, hl, ru⟩ := getF_L h7 hm
  obtain ⟨q1, q2⟩ := Bool.and_eq_true_iff.mp hx
  obtain ⟨q2, q3⟩ := Bool.and_eq_true_iff.mp q2
  split at q3
  · rename_i at_ q4
    exact get_value I.kx IA (plainGet_of q1).1 (findObj_own q2 q4 q3 (by rw [lookIn_dict]; exact hl)) (handed ru hp) ⟨g, ev, H, .refl g, I.toks _, ⟨rfl, rfl, rfl⟩, ru⟩
  · cases q3

theorem WPE.attr {e : Expr} {x : Str} {pos : Pos} {Q : MV → List MObj → Prop} (hb : ∀ env, attributeBase e x env (eval e env) = eval e env)
    (h : WPE B fi d e ev H fun o H1 => ∃ i C fs m, o = .ref i ∧ H1[i]? = some (.inst C fs) ∧ attrOk B.w C x = true ∧ getF x fs = some m ∧ plain m = true ∧ Q m H1) : WPE B fi d (.Attribute e x pos) ev H Q := fun A env Φ g s ok I => by
  show wpAny _ _ _ _ _ _
  rw [arm_eval_Attribute, hb]
  refine wpAny_bind ((h A env Φ g s ok I).to fun g1 ev1 H1 v s1 l1 I1 ⟨e1, o, ro, i, C, fs, m, e2, hi, hx, hm, hp, h1⟩ => ?_)
  subst e1 e2
  refine wpAny_bind (wpAny_standAt (wpAny_bind (wpAny_holding ((W_attr I1 ro hi hx hm hp).to fun g2 ev2 H2 u s2 l2 I2 ⟨⟨q1, q2, q3⟩, q4⟩ => ?_))))
  subst q1 q2 q3
  exact wpAny_bind (wpAny_letTemporaryGo (wpAny_pure ⟨_, _, _, l1, I2, rfl, m, q4, h1⟩))

/-! subscripts -/
def idxM (k : Int) (n : Nat) : Option Nat := if k < 0 then (if -(n : Int) ≤ k then some (k + n).toNat else none) else (if k < n then some k.toNat else none)
theorem idxM_bounds {k : Int} {n j : Nat} (h : idxM k n = some j) : -(n : Int) ≤ k ∧ k < n ∧ seqIndex? k n = some j := by
  unfold idxM at h; unfold seqIndex?
  split at h
  · split at h
    · cases h; rename_i q1 q2; refine ⟨q2, by omega, ?_⟩; simp only [q1, if_true]; rw [if_pos (by simp; omega)]
    · cases h
  · split at h
    · cases h; rename_i q1 q2; refine ⟨by omega, q2, ?_⟩; simp only [q1, if_false]; rw [if_pos (by simp; omega)]
    · cases h
def subM : MV → MV → List MObj → (MV → List MObj → Prop) → Prop
  | .ref j, .int k, H, Q => (∃ vs n m, H[j]? = some (.list vs) ∧ vs.length ≤ 100000 ∧ idxM k vs.length = some n ∧ vs[n]? = some m ∧ Q m H) ∨
      (∃ es m, H[j]? = some (.dI es) ∧ (es.find? (fun e => decide (e.1 = k))).map (·.2) = some m ∧ Q m H)
  | .ref j, .str k, H, Q => ∃ es m, H[j]? = some (.dS es) ∧ (es.find? (fun e => decide (e.1 = k))).map (·.2) = some m ∧ Q m H
  | .ref j, .tup [.bool false, .bytes b], H, Q => ∃ es m, H[j]? = some (.dB es) ∧ (es.find? (fun e => decide (e.1 = b))).map (·.2) = some m ∧ Q m H
  | .tup vs, .int k, H, Q => ∃ n m, vs.length ≤ 100000 ∧ idxM k vs.length = some n ∧ vs[n]? = some m ∧ Q m H
  | _, _, _, _ => False

theorem W_tail {value slice : Expr} {o i : Value} {T id : String} {Q : G → List MV → List MObj → Value → Prop} (hT : s.TypeIs o T)
    (hl : typeLookup (.type T) "__getitem__" = pure (some (.builtin id))) (hg : W B fi env Φ A (getItem o i) g s Q) (hs : ∀ o i, subscripted slice false o i = operate [o, i] (getItem o i)) :
    W B fi env Φ A (subscriptTail value slice o i) g s Q := tail_any hT hl hg (hs o i)

theorem W_sub {value slice : Expr} {o i : MV} {v u : Value} {Q : MV → List MObj → Prop} (ok : OkA d A) (I : Inv B fi env Φ g ev H s) (ho : VR g o v) (hi : VR g i u)
    (hs : ∀ o i, subscripted slice false o i = operate [o, i] (getItem o i)) (hq : subM o i H Q) :
    W B fi env Φ A (subscriptTail value slice v u) g s (fun g' ev' H' r => ev' = ev ∧ ∃ m, VR g' m r ∧ Q m H') := by
  unfold subM at hq
  split at hq
  · obtain ⟨t, rfl⟩ := hi.inv_int
    rcases hq with ⟨vs, n, m, h1, hsz, h2, h3, h4⟩ | ⟨es, m, h1, h2, h3⟩
    · obtain ⟨a1, it1, n1, rfl, s1, o1, e1, r1⟩ := I.list ho h1
      obtain ⟨x, ex, rx⟩ := r1.get h3
      refine W_tail (isListOf e1).typeIs slot_list_getitem.lookup ?_ hs
      unfold idxM at h2
      split at h2
      · split at h2
        · cases h2
          exact wpAny_getItem_list_neg (isListOf e1) (by assumption) (by rw [r1.size]; assumption) (by omega) (by rw [r1.size]; simpa using ex) ⟨g, ev, H, .refl g, I, rfl, m, rx, h4⟩
        · cases h2
      · split at h2
        · cases h2
          exact wpAny_getItem_list (isListOf e1) (by omega) (by omega) (by simpa using ex) ⟨g, ev, H, .refl g, I, rfl, m, rx, h4⟩
        · cases h2
    · obtain ⟨a2, e2, rfl⟩ := ho.inv_ref
      obtain ⟨o2, kvs, h5, h6⟩ := I.live _ a2 _ e2 h1
      obtain ⟨x, ex, rx⟩ := (valueAt_rel h6).2 m h2
      refine W_tail h5.mapOf.typeIs slot_dict_getitem.lookup ?_ hs
      exact wpAny_getItem_of (knd := intKind Prg B.w) (k := _) (by exact (beq_self_eq_true _)) h5.mapOf ex ⟨g, ev, H, .refl g, I.toks _, rfl, m, rx, h3⟩
  · obtain ⟨es, m, h1, h2, h3⟩ := hq
    obtain ⟨t, rfl⟩ := hi.inv_str
    obtain ⟨a2, e2, rfl⟩ := ho.inv_ref
    obtain ⟨o2, kvs, h5, h6⟩ := I.live _ a2 _ e2 h1
    obtain ⟨x, ex, rx⟩ := (valueAt_rel h6).2 m h2
    refine W_tail h5.mapOf.typeIs slot_dict_getitem.lookup ?_ hs
    exact wpAny_getItem_of (knd := PySem.strKind Prg B.w) (by exact (beq_self_eq_true _)) h5.mapOf ex ⟨g, ev, H, .refl g, I.toks _, rfl, m, rx, h3⟩
  · obtain ⟨es, m, h1, h2, h3⟩ := hq
    obtain ⟨ka, items, n, rfl, ke, kk⟩ := kkey I hi
    obtain ⟨a2, e2, rfl⟩ := ho.inv_ref
    obtain ⟨o2, xs, h5, h6, h7⟩ := I.live _ a2 _ e2 h1
    obtain ⟨p, ep, rp⟩ := (atKey_rel h7).2 m h2
    refine W_tail h5.typeIs slot_dict_getitem.lookup ?_ hs
    exact wpAny_getItem_heap (tupleKind_room_in1 (by have := ok.2.2; omega)) kk h5 ep ⟨g, ev, H, .refl g, I.toks _, rfl, m, rp, h3⟩
  · obtain ⟨n, m, hsz, h2, h3, h4⟩ := hq
    obtain ⟨t, rfl⟩ := hi.inv_int
    obtain ⟨a, it, n', rfl, e, r⟩ := ho.inv_tup
    obtain ⟨x, ex, rx⟩ := r.get h3
    have ht : IsTup s.heap a it := ⟨_, (I.F _ _ e).1, rfl, _, rfl⟩
    refine W_tail (isTupOf (I.F _ _ e).1).typeIs slot_tuple_getitem.lookup ?_ hs
    obtain ⟨b1, b2, hj⟩ := idxM_bounds h2
    exact getItem_tuple ht (by omega) (by omega) (by rw [r.size]; exact hj) (by simpa using ex) ⟨g, ev, H, .refl g, I, rfl, m, rx, h4⟩
  · exact hq.elim

theorem WPE.sub {e i : Expr} {pos : Pos} {Q : MV → List MObj → Prop} (hs : ∀ o v, subscripted i false o v = operate [o, v] (getItem o v))
    (h : WPE B fi d e ev H fun o H1 => WPE B fi d i ev H1 fun k H2 => subM o k H2 Q) : WPE B fi d (.Subscript e i pos) ev H Q := fun A env Φ g s ok I => by
  refine Subscript_ ((h A env Φ g s ok I).to fun g1 ev1 H1 v s1 l1 I1 ⟨e1, a, ra, h1⟩ => ?_)
  subst e1
  refine (h1 A env Φ g1 s1 ok I1).to fun g2 ev2 H2 u s2 l2 I2 ⟨e2, b, rb, h2⟩ => ?_
  subst e2
  exact W.back (l1.trans l2) (W_sub ok I2 (ra.mono l2) rb hs h2)

/-! slices -/
def WPO (B : Bs) (fi : FI) (d : Nat) : Option Expr → List MV → List MObj → (Option Int → List MObj → Prop) → Prop
  | none, _, H, Q => Q none H
  | some e, ev, H, Q => WPE B fi d e ev H fun m H1 => ∃ i, m = .int i ∧ 0 ≤ i ∧ Q (some i) H1
def sliceM (vs : List MV) (lo hi : Option Int) : List MV := (vs.drop (lo.elim 0 Int.toNat)).take (hi.elim vs.length Int.toNat - lo.elim 0 Int.toNat)
def natPart (o : Option Int) : Prop := ∀ i, o = some i → 0 ≤ i

theorem W_part {o : Option Expr} {Q : Option Int → List MObj → Prop} (ok : OkA d A) (I : Inv B fi env Φ g ev H s) (h : WPO B fi d o ev H Q) :
    W B fi env Φ A (evalPart o env) g s (fun g' ev' H' v => ev' = ev ∧ ∃ p, IsPart v p ∧ natPart p ∧ Q p H') := by
  cases o with
  | none => exact wpAny_pure ⟨g, ev, H, .refl g, I, rfl, Option.none, .none, (fun _ e => by cases e), h⟩
  | some e =>
    refine W.mono (h A env Φ g s ok I) fun g' ev' H' v l ⟨e1, m, rm, i, e2, h0, hq⟩ => ?_
    subst e2
    obtain ⟨t, rfl⟩ := rm.inv_int
    exact ⟨e1, some i, .int i t, (fun _ e => by cases e; exact h0), hq⟩

theorem clip_nat' (n : Nat) {i : Int} (h : 0 ≤ i) : clipAt n i = min i.toNat n := by
  obtain ⟨k, rfl⟩ := Int.eq_ofNat_of_zero_le h
  rw [clipAt_nat]; rfl
theorem slice_list {α : Type} (l : List α) (a b : Nat) : (l.drop (min a l.length)).take (min b l.length - min a l.length) = (l.drop a).take (b - a) := by
  by_cases h : a ≤ l.length
  · rw [Nat.min_eq_left h]
    by_cases h' : b ≤ l.length
    · rw [Nat.min_eq_left h']
    · rw [Nat.min_eq_right (by omega), List.take_of_length_le (by rw [List.length_drop]; omega), List.take_of_length_le (by rw [List.length_drop]; omega)]
  · rw [Nat.min_eq_right (by omega : l.length ≤ a), List.drop_of_length_le (Nat.le_refl _), List.drop_of_length_le (by omega)]; simp
theorem pick_rel {g : G} {ms : List MV} {items : Array Value} {lo hi : Option Int} (h : VRs g ms items.toList) (hl : natPart lo) (hh : natPart hi) : VRs g (sliceM ms lo hi) (slicePick items lo hi none).toList := by
  have e : (slicePick items lo hi none).toList = (items.toList.drop (lo.elim 0 Int.toNat)).take (hi.elim items.toList.length Int.toNat - lo.elim 0 Int.toNat) := by
    rw [slicePick_plain]
    show (items.toList.drop (lo.elim 0 (clipAt items.size))).take (hi.elim items.size (clipAt items.size) - lo.elim 0 (clipAt items.size)) = _
    have hz : items.size = items.toList.length := by simp
    rw [hz]
    have e1 : lo.elim 0 (clipAt items.toList.length) = min (lo.elim 0 Int.toNat) items.toList.length := by
      cases lo with
      | none => simp
      | some i => exact clip_nat' _ (hl i rfl)
    have e2 : hi.elim items.toList.length (clipAt items.toList.length) = min (hi.elim items.toList.length Int.toNat) items.toList.length := by
      cases hi with
      | none => simp
      | some i => exact clip_nat' _ (hh i rfl)
    rw [e1, e2, slice_list]
  rw [e]
  unfold sliceM
  have : items.toList.length = ms.length := h.length
  rw [this]
  exact (h.drop _).take _

theorem WPE.slice {e : Expr} {lo hi : Option Expr} {p pos : Pos} {Q : MV → List MObj → Prop}
    (h : WPE B fi d e ev H fun o H1 => WPO B fi d lo ev H1 fun a H2 => WPO B fi d hi ev H2 fun b H3 => ∃ j vs, o = .ref j ∧ H3[j]? = some (.list vs) ∧ vs.length ≤ 100000 ∧ Q (.ref H3.length) (H3 ++ [.list (sliceM vs a b)])) :
    WPE B fi d (.Subscript e (.Slice lo hi none p) pos) ev H Q := fun A env Φ g s ok I => by
  refine Subscript_ ((h A env Φ g s ok I).to fun g1 ev1 H1 v s1 l1 I1 ⟨e1, o, ro, h1⟩ => ?_)
  subst e1
  refine wpAny_Slice ((W_part ok I1 h1).to fun g2 ev2 H2 va s2 l2 I2 ⟨e2, pa, ia, na, h2⟩ => ?_)
  subst e2
  refine (W_part ok I2 h2).to fun g3 ev3 H3 vb s3 l3 I3 ⟨e3, pb, ib, nb, j, vs, e4, hj, hsz, hq⟩ => ?_
  subst e3 e4
  rw [evalPart_none]
  refine wpAny_pure ?_
  obtain ⟨a1, it1, n1, rfl, s1', o1, e5, r1⟩ := I3.list (ro.mono (l2.trans l3)) hj
  have I4 := I3.push { cls := .type "slice", data := .fields #[va, vb, .none] }
  have hl := (isListOf e5).push { cls := .type "slice", data := .fields #[va, vb, .none] }
  refine tail_any (ops := [.ref s3.heap.objs.size, .ref a1]) hl.typeIs slot_list_getitem.lookup (wpAny_getItem_list_slice hl (Heap.IsSliceOf.new ..) ia ib .none (by simp) ?_ (by rw [r1.size]; exact Nat.le_trans hsz (by decide))) rfl
  obtain ⟨g5, l5, I5, hσ⟩ := I4.newList (items := slicePick it1 pa pb none) (n := 0) (vs := sliceM vs pa pb) (pick_rel r1 na nb)
  exact ⟨g5, _, _, ((l1.trans l2).trans l3).trans l5, I5, rfl, _, .ref' hσ, hq⟩
end
section
variable {B : Bs} {fi : FI} {d : Nat} {ev : List MV} {H : List MObj} {A : Around} {env : Env} {Φ : Addr → Option Obj} {g : G} {s s' : Shared}

theorem VRo.upd {g : G} {ev : List MV} {i : Nat} {m : MV} {v : Value} (h : VR g m v) : VRo g (ev.set i m)[i]? (some v) := by
  by_cases hi : i < ev.length
  · rw [List.getElem?_set_self hi]; exact .ofVR h
  · rw [List.getElem?_eq_none (by rw [List.length_set]; omega)]; intro x e; cases e

theorem W_store {x : Str} {i : Nat} {k : NameKind} {m : MV} {v : Value} (I : Inv B fi env Φ g ev H s) (hs : slot fi.ns x = some (i, k)) (hk : k = .local ∨ (k = .cell ∧ x ∈ fi.own)) (hv : VR g m v) :
    W B fi env Φ A (storeName env x v) g s (fun g' ev' H' _ => g' = g ∧ ev' = ev.set i m ∧ H' = H) := by
  have fr := I.fr
  obtain ⟨⟨hlo, mm, hn, hl⟩, hc⟩ := And.intro fr.loc fr.cel
  rcases hk with rfl | ⟨rfl, how⟩
  · refine wpAny_storeName_local (kindOf_slot fr hs) hn (fun h' hn' hs' => ?_) (by rw [fr.kind]; rfl)
    refine ⟨g, _, H, .refl g, I.frame rfl rfl (fun b p h1 h2 e => (hs'.2 b (fun q => by subst q; exact h2 _ hlo)).trans e) (fun b e => ?_) ?_, rfl, rfl, rfl⟩
    · by_cases q : b = env.locals
      · subst q; obtain ⟨o, _, _, ho, _⟩ := hn'; rw [show h'.get? env.locals = some o from ho] at e; cases e
      · rw [← hs'.2 b q]; exact e
    · refine ⟨fr.names, fr.kind, fr.glob, fr.blt, ⟨hlo, _, hn', fun y j e => ?_⟩, fun y j k e hk => ?_⟩
      · by_cases q : y = x
        · subst q; rw [hs] at e; cases e; simpa using VRo.upd hv
        · have hij : j ≠ i := fun q' => by subst q'; exact q (slot_inj e hs)
          rw [List.getElem?_set_ne (Ne.symm hij)]; simpa [q] using hl y j e
      · obtain ⟨c, u, a1, a2, a3, a4⟩ := hc y j k e hk
        have hne : c ≠ env.locals := fun q => by subst q; rcases a4 with a4 | ⟨a4, _⟩ <;> rw [hlo] at a4 <;> cases a4
        have hij : j ≠ i := fun q' => by
          subst q'
          have := slot_inj e hs; subst this; rw [hs] at e; cases e; rcases hk with h | h <;> cases h
        exact ⟨c, u, a1, a2.sameBut hs' hne, by rw [List.getElem?_set_ne (Ne.symm hij)]; exact a3, a4⟩
  · obtain ⟨c, u, a1, a2, a3, a4⟩ := hc x i _ hs (.inl rfl)
    have a4' : g.ow c = .fr (some x) := a4.elim id fun a => absurd how a.2
    refine wpAny_storeName_cell fr.kind (kindOf_slot fr hs) a1 a2 fun h' hc' hs' => ?_
    have hcl : env.locals ≠ c := fun q => by rw [← q, hlo] at a4'; cases a4'
    refine ⟨g, _, H, .refl g, I.frame rfl rfl (fun b p h1 h2 e => (hs'.2 b (fun q => by subst q; exact h2 _ a4')).trans e) (fun b e => ?_) ?_, rfl, rfl, rfl⟩
    · by_cases q : b = c
      · subst q; obtain ⟨o, ho, _⟩ := hc'; rw [show h'.get? b = some o from ho] at e; cases e
      · rw [← hs'.2 b q]; exact e
    · refine ⟨fr.names, fr.kind, fr.glob, fr.blt, ⟨hlo, mm, hn.sameBut hs' hcl, fun y j e => ?_⟩, fun y j k e hk => ?_⟩
      · have hij : j ≠ i := fun q' => by
          subst q'
          have := slot_inj e hs; subst this; rw [hs] at e; cases e
        rw [List.getElem?_set_ne (Ne.symm hij)]; exact hl y j e
      · by_cases q : y = x
        · subst q; rw [hs] at e; cases e
          exact ⟨c, some v, a1, hc', VRo.upd hv, a4⟩
        · obtain ⟨c', u', b1, b2, b3, b4⟩ := hc y j k e hk
          have hne : c' ≠ c := fun q' => by
            subst q'; rw [a4'] at b4
            rcases b4 with b4 | ⟨b4, _⟩
            · injection b4 with b4; injection b4 with b4; exact q b4.symm
            · cases b4
          have hij : j ≠ i := fun q' => by subst q'; exact q (slot_inj e hs)
          exact ⟨c', u', b1, b2.sameBut hs' hne, by rw [List.getElem?_set_ne (Ne.symm hij)]; exact b3, b4⟩

/-! setting an attribute -/
def putF (x : Str) (m : MV) : List (Str × MV) → List (Str × MV)
  | [] => [(x, m)]
  | (y, m') :: r => if y == x then (y, m) :: r else (y, m') :: putF x m r
theorem putF_rel {P : Params} {g : G} {x : Str} {m : MV} {v : Value} {t : Tok} (hv : VR g m v) : ∀ {fs : List (Str × MV)} {es : List DictEntry}, VRf P g fs es → VRf P g (putF x m fs) (putL x (PyData.keyHash P x) (.str x t) v es)
  | [], _, h => by cases h; exact ⟨t, v, [], rfl, hv, rfl⟩
  | (y, m') :: fs, _, h => by
    obtain ⟨t', v', r, rfl, h1, h2⟩ := h
    unfold putF putL
    show VRf P g _ (if (y == x) = true then _ else _)
    by_cases hx : (y == x) = true
    · rw [if_pos hx, if_pos hx]; exact ⟨t', v, r, rfl, hv, h2⟩
    · rw [if_neg hx, if_neg hx]; exact ⟨t', v', _, rfl, h1, putF_rel hv h2⟩
theorem VRf.noRef {P : Params} {g : G} : ∀ {fs : List (Str × MV)} {es : List DictEntry}, VRf P g fs es → es.any (·.refKey) = false
  | [], _, h => by cases h; rfl
  | (y, m') :: fs, _, h => by
    obtain ⟨t', v', r, rfl, h1, h2⟩ := h
    rw [List.any_cons, VRf.noRef h2]; rfl
theorem VRf.length {P : Params} {g : G} : ∀ {fs : List (Str × MV)} {es : List DictEntry}, VRf P g fs es → es.length = fs.length
  | [], _, h => by cases h; rfl
  | (y, m') :: fs, _, h => by
    obtain ⟨t', v', r, rfl, h1, h2⟩ := h
    rw [List.length_cons, List.length_cons, VRf.length h2]
theorem putL_len (x : Str) (hh : Int) (k v : Value) : ∀ es : List DictEntry, (putL x hh k v es).length ≤ es.length + 1
  | [] => by simp [putL]
  | e :: r => by
    unfold putL
    split
    · simp
    · have := putL_len x hh k v r; simp only [List.length_cons]; omega

def setOk (w : World) (C : Addr) (x : Str) : Bool := (findIn (Kw w) (.ref C) "__setattr__" == some (some (.builtin "object.__setattr__"))) && (plainOver (Kw w) C && ((takerIn (Kw w) C x == some none) && hasDictIn (Kw w) C))

theorem upd_none {h : Heap} {a : Addr} {f : Obj → Obj} {o : Obj} (e : (h.update a f).get? a = some o) : ∀ b, (h.update a f).get? b = none → h.get? b = none := fun b q => by
  by_cases r : b = a
  · subst r; rw [e] at q; cases q
  · rw [Heap.get?_update_other h f (Ne.symm r)] at q; exact q

theorem W_setAttr {i : Nat} {C : Addr} {fs : List (Str × MV)} {o v : Value} {x : Str} {m : MV} (I : Inv B fi env Φ g ev H s) (ho : VR g (.ref i) o) (hi : H[i]? = some (.inst C fs))
    (hx : setOk B.w C x = true) (hv : VR g m v) (hlen : fs.length ≤ 100) : W B fi env Φ A (setAttr o x v) g s (fun g' ev' H' _ => (ev' = ev ∧ g' = g) ∧ H' = H.set i (.inst C (putF x m fs))) := by
  obtain ⟨a, dx, es, n, rfl, h1, h2, h3, h4, h5, h6, h7, IA⟩ := instOf (I := I) ho hi
  obtain ⟨q1, q2⟩ := Bool.and_eq_true_iff.mp hx
  obtain ⟨q2, q3⟩ := Bool.and_eq_true_iff.mp q2
  obtain ⟨q3, q4⟩ := Bool.and_eq_true_iff.mp q3
  have hcl := any_some q4
  refine set_plain I.kx IA (beq_iff_eq.mp q1) ?_
  refine osa_open (s := { s with toks := s.toks + 1 }) I.kx IA q2 (beq_iff_eq.mp q3) fun b => ?_
  obtain ⟨cd, hc, hd'⟩ := hcl
  refine wpAny_bind (wpAny_pure (wpAny_bind (wpAny_bind (wpAny_loadPart h5 (wpAny_bind (Looks.here (s := { s with toks := s.toks + 1 }) (looks_clsIn (K := Kw B.w) I.kx hc) ?_))))))
  rw [hd']
  refine wpAny_pure (a := some dx) (wpAny_bind (wpAny_pure (wpAny_bind ?_)))
  unfold nsSet
  refine wpAny_bind (wpAny_bind (wpAny_askSetting (wpAny_pure (wpAny_bind (wpAny_mkText (wpAny_bind (wpAny_loadPart h6 ?_)))))))
  dsimp only
  have c : (!es.toArray.any (·.key.isStr x) && es.toArray.any (·.refKey)) = false := by
    rw [List.any_toArray, List.any_toArray, VRf.noRef h7, Bool.and_false]
  rw [aRefKeyMayBeTheName_at, c]
  refine wpAny_updatePart h6 ?_
  have hpd := fun t => putName_dict x (PyData.keyHash B.w.params x) (.str x t) v es n
  have D' : ∀ t, (s.heap.update dx (Obj.putName x (PyData.keyHash B.w.params x) (.str x t) v)).get? dx = some (dictOf (putL x (PyData.keyHash B.w.params x) (.str x t) v es) (putN x es n)) := fun t => by
    rw [← hpd t]; exact Heap.get?_update_self _ h6 (by rw [hpd]; rfl)
  refine wpAny_bind (wpAny_lookBehind (D' _) (pastItsLine_dict (by
    rw [List.size_toArray, sizeLine_eq]; have := putL_len x (PyData.keyHash B.w.params x) (.str x (s.toks + 1)) v es; have := h7.length; omega)) ?_)
  refine wpAny_pure ⟨g, ev, _, .refl g, I.upd h1 rfl rfl (fun b p e1 e2 e3 => ?_) (upd_none (D' _)) ?_, ⟨rfl, rfl⟩, rfl⟩
  · have : b ≠ dx := fun q => by subst q; exact e2 h3
    exact (Heap.get?_update_other _ _ (Ne.symm this)).trans e3
  · exact ⟨dx, _, _, (Heap.get?_update_other _ _ (Ne.symm h4)).trans h5, D' _, h3, h4, putF_rel hv h7⟩

/-! setting an item -/
def setD {α : Type} [DecidableEq α] (k : α) (m : MV) : List (α × MV) → List (α × MV)
  | [] => [(k, m)]
  | (x, m') :: r => if x = k then (x, m) :: r else (x, m') :: setD k m r

theorem relK.mem {α : Type} {g : G} : ∀ {es : List (α × MV)} {kvs : List (α × Value)}, relK g es kvs → kvs.map (·.1) = es.map (·.1)
  | [], _, h => by cases h; rfl
  | (x, m) :: es, _, h => by obtain ⟨v, r, rfl, h1, h2⟩ := h; rw [List.map_cons, List.map_cons, relK.mem h2]
theorem relK.setD {α : Type} [DecidableEq α] {g : G} {k : α} {m : MV} {v : Value} (hv : VR g m v) : ∀ {es : List (α × MV)} {kvs : List (α × Value)}, relK g es kvs → (kvs.map (·.1)).Nodup → relK g (setD k m es) (stored kvs k v)
  | [], _, h, _ => by cases h; exact ⟨v, [], rfl, hv, rfl⟩
  | (x, m') :: es, _, h, hn => by
    obtain ⟨v', r, rfl, h1, h2⟩ := h
    rw [List.map_cons, List.nodup_cons] at hn
    unfold Mine.setD
    by_cases hx : x = k
    · subst hx
      have : stored ((x, v') :: r) x v = (x, v) :: r := by
        unfold stored
        rw [if_pos (by simp), List.map_cons, if_pos rfl, map_store_of_not_mem r x v hn.1]
      rw [if_pos rfl, this]; exact ⟨v, r, rfl, hv, h2⟩
    · have ih := relK.setD (k := k) hv h2 hn.2
      have : stored ((x, v') :: r) k v = (x, v') :: stored r k v := by
        unfold stored
        by_cases ha : r.any (fun kv => kv.1 = k) = true
        · rw [if_pos ha, if_pos (by rw [List.any_cons, ha]; simp), List.map_cons, if_neg hx]
        · rw [if_neg ha, if_neg (by rw [List.any_cons]; simp [hx]; simpa using ha)]; rfl
      rw [if_neg hx, this]; exact ⟨v', _, rfl, h1, ih⟩

def setM : MV → MV → MV → List MObj → (List MObj → Prop) → Prop
  | .ref j, .int k, m, H, Q => (∃ vs, H[j]? = some (.list vs) ∧ 0 ≤ k ∧ k < vs.length ∧ vs.length ≤ 100000 ∧ Q (H.set j (.list (vs.set k.toNat m)))) ∨
      (∃ es, H[j]? = some (.dI es) ∧ es.length ≤ 100000 ∧ Q (H.set j (.dI (setD k m es))))
  | .ref j, .str k, m, H, Q => ∃ es, H[j]? = some (.dS es) ∧ es.length ≤ 100000 ∧ Q (H.set j (.dS (setD k m es)))
  | .ref j, .tup [.bool false, .bytes b], m, H, Q => ∃ es, H[j]? = some (.dB es) ∧ es.length ≤ 100000 ∧ (es.any fun e => decide (e.1 = b)) = false ∧ Q (H.set j (.dB (es ++ [(b, m)])))
  | _, _, _, _, _ => False

theorem sb_none {h h' : Heap} {a : Addr} {o : Obj} (hs : Heap.SameBut a h h') (e : h'.get? a = some o) : ∀ b, h'.get? b = none → h.get? b = none := fun b q => by
  by_cases r : b = a
  · subst r; rw [e] at q; cases q
  · rw [← hs.2 b r]; exact q

theorem W_setItemList {j : Nat} {vs : List MV} {k : Int} {t : Tok} {m : MV} {o v : Value} (I : Inv B fi env Φ g ev H s) (ho : VR g (.ref j) o) (hj : H[j]? = some (.list vs)) (hv : VR g m v) (h0 : 0 ≤ k) (hn : k < vs.length) (hsz : vs.length ≤ 100000) :
    W B fi env Φ A (setItem o (.int k t) v) g s (fun g' ev' H' _ => (ev' = ev ∧ g' = g) ∧ H' = H.set j (.list (vs.set k.toNat m))) := by
  obtain ⟨a, items, n, rfl, s1, o1, e1, r1⟩ := I.list ho hj
  have hl := isListOf e1
  show wpAny _ _ (setItem _ _ _) _ _ _
  unfold setItem
  try with_reducible refine wpAny_holding ?_
  refine wpAny_bind (wpAny_sequenceKey hl.typeIs (by decide) ?_)
  refine wpAny_bind (wpAny_callSpecial?_slot (name := Str.ofString "__setitem__") hl.typeIs slot_list_setitem
    (wpAny_call_entry slot_list_setitem hl.typeIs entry_list_setitem ?_ (args_list_setitem _ _ _)))
  show wpAny _ _ (Builtin.List.listSubscript? (.int k t) >>= _) _ _ s
  refine wpAny_bind (wpAny_listSubscript_int (fitsIndex_of h0 (by omega)) ?_)
  obtain ⟨i, rfl⟩ := Int.eq_ofNat_of_zero_le h0
  have hi : i < items.size := by rw [r1.size]; omega
  have hx' : items[i]? = some items[i] := Array.getElem?_eq_getElem hi
  show wpAny _ _ ((seqItemAt a i >>= fun r => pure (r.map (i, ·))) >>= _) _ _ s
  refine wpAny_bind (wpAny_bind (wpAny_seqItemAt e1 rfl (wpAny_pure ?_)))
  rw [hx']
  show wpAny _ _ (setSeqItemAt a i v >>= _) _ _ s
  have D' : (s.heap.update a (Obj.mapSeq (·.setIfInBounds i v))).get? a = some (listObj (items.setIfInBounds i v) n) := by
    have := IsL.update (h := s.heap) (l := a) (items := items) (n := n) e1 (·.setIfInBounds i v)
    simpa using this
  have fin : Inv B fi env Φ g ev (H.set j (.list (vs.set i m))) { s with heap := s.heap.update a (Obj.mapSeq (·.setIfInBounds i v)) } :=
    I.upd s1 rfl rfl (fun b p e1 e2 e3 => (Heap.get?_update_other _ _ (fun q => by subst q; exact e2 o1)).trans e3) (upd_none D') ⟨_, n, D', by rw [Array.toList_setIfInBounds]; exact r1.set hv⟩
  refine wpAny_bind (wpAny_setSeqItemAt e1 rfl ?_)
  first
    | exact wpAny_bind (wpAny_pure (wpAny_pure ⟨.none, rfl, wpAny_pure ⟨g, ev, _, .refl g, fin, ⟨rfl, rfl⟩, rfl⟩⟩))
    | exact wpAny_pure ⟨.none, rfl, wpAny_pure ⟨g, ev, _, .refl g, fin, ⟨rfl, rfl⟩, rfl⟩⟩

theorem relB.len {g : G} : ∀ {es : List (List UInt8 × MV)} {xs : List (List (Option (List UInt8)) × Addr × Value)}, relB g es xs → xs.length = es.length
  | [], _, h => by cases h; rfl
  | (b, m) :: es, _, h => by obtain ⟨ka, v, r, rfl, h1, h2⟩ := h; rw [List.length_cons, List.length_cons, relB.len h2]
theorem relB.snoc {g : G} {b : List UInt8} {m : MV} {ka : Addr} {v : Value} (hv : VR g m v) : ∀ {es : List (List UInt8 × MV)} {xs : List (List (Option (List UInt8)) × Addr × Value)}, relB g es xs → relB g (es ++ [(b, m)]) (xs ++ [([none, some b], ka, v)])
  | [], _, h => by cases h; exact ⟨ka, v, [], rfl, hv, rfl⟩
  | (b', m') :: es, _, h => by obtain ⟨ka', v', r, rfl, h1, h2⟩ := h; exact ⟨ka', v', _, rfl, h1, relB.snoc hv h2⟩

theorem atKey_none {g : G} {k : List UInt8} {es : List (List UInt8 × MV)} {xs : List (List (Option (List UInt8)) × Addr × Value)} (h : relB g es xs) (hn : (es.any fun e => decide (e.1 = k)) = false) : atKey xs [none, some k] = none := by
  have := (atKey_rel (k := k) h).1
  rw [hn] at this
  cases hq : atKey xs [none, some k] with
  | none => rfl
  | some p => rw [hq] at this; cases this
theorem W_setItem {ob k m : MV} {o kv v : Value} {Q : List MObj → Prop} (ok : OkA d A) (I : Inv B fi env Φ g ev H s) (ho : VR g ob o) (hk : VR g k kv) (hv : VR g m v) (hq : setM ob k m H Q) :
    W B fi env Φ A (setItem o kv v) g s (fun g' ev' H' _ => ev' = ev ∧ Q H') := by
  unfold setM at hq
  split at hq
  · obtain ⟨t, rfl⟩ := hk.inv_int
    rcases hq with ⟨vs, h1, h2, h3, h4, h5⟩ | ⟨es, h1, h2, h3⟩
    · exact (W_setItemList I ho h1 hv h2 h3 h4).mono fun g' ev' H' _ _ ⟨⟨q1, q2⟩, q3⟩ => ⟨q1, q3 ▸ h5⟩
    · obtain ⟨a2, e2, rfl⟩ := ho.inv_ref
      obtain ⟨o2, kvs, h5, h6⟩ := I.live _ a2 _ e2 h1
      refine wpAny_setItem_pairs (knd := intKind Prg B.w) (by exact (beq_self_eq_true _)) h5 (fun h' hd' hs' => ?_) (by have := congrArg List.length h6.mem; simp at this; exact Nat.le_trans (by omega : kvs.length ≤ 100000) (by decide))
      have hnd : (kvs.map (·.1)).Nodup := let ⟨_, _, _, _, _, _, _, _, x⟩ := h5; x
      refine ⟨g, ev, _, .refl g, I.upd (o := .dI (setD _ m es)) e2 rfl rfl (fun b p y1 y2 y3 => (hs'.2 b (fun q => by subst q; exact y2 o2)).trans y3) ?_ ⟨_, hd', h6.setD hv hnd⟩, rfl, h3⟩
      obtain ⟨o', es', ep', x1, x2⟩ := hd'
      exact sb_none hs' x1
  · obtain ⟨es, h1, h2, h3⟩ := hq
    obtain ⟨t, rfl⟩ := hk.inv_str
    obtain ⟨a2, e2, rfl⟩ := ho.inv_ref
    obtain ⟨o2, kvs, h5, h6⟩ := I.live _ a2 _ e2 h1
    refine wpAny_setItem_pairs (knd := PySem.strKind Prg B.w) (by exact (beq_self_eq_true _)) h5 (fun h' hd' hs' => ?_) (by have := congrArg List.length h6.mem; simp at this; exact Nat.le_trans (by omega : kvs.length ≤ 100000) (by decide))
    have hnd : (kvs.map (·.1)).Nodup := let ⟨_, _, _, _, _, _, _, _, x⟩ := h5; x
    refine ⟨g, ev, _, .refl g, I.upd (o := .dS (setD _ m es)) e2 rfl rfl (fun b p y1 y2 y3 => (hs'.2 b (fun q => by subst q; exact y2 o2)).trans y3) ?_ ⟨_, hd', h6.setD hv hnd⟩, rfl, h3⟩
    obtain ⟨o', es', ep', x1, x2⟩ := hd'
    exact sb_none hs' x1
  · obtain ⟨es, h1, h2, h3, h4⟩ := hq
    obtain ⟨ka, items, n, rfl, ke, kk⟩ := kkey I hk
    obtain ⟨a2, e2, rfl⟩ := ho.inv_ref
    obtain ⟨o2, xs, h5, h6, h7⟩ := I.live _ a2 _ e2 h1
    refine wpAny_setItem_heap (tupleKind_room_in1 (by have := ok.2.2; omega)) kk h5 (fun h' hd' hs' => ?_) (by rw [h7.len]; exact Nat.le_trans h2 (by decide))
    rw [storedH_new (atKey_none h7 h3)] at hd'
    refine ⟨g, ev, _, .refl g, I.upd (o := .dB (es ++ [(_, m)])) e2 rfl rfl (fun b p y1 y2 y3 => (hs'.2 b (fun q => by subst q; exact y2 o2)).trans y3) ?_ ⟨_, hd', fun y hy => ?_, h7.snoc hv⟩, rfl, h4⟩
    · obtain ⟨o', es', ep', x1, x2⟩ := hd'
      exact sb_none hs' x1
    · rcases List.mem_append.mp hy with hy | hy
      · exact h6 y hy
      · simp at hy; subst hy; exact ⟨items, n, ke⟩
  · exact hq.elim
end
/-- a target takes a value -/
def WPG (B : Bs) (fi : FI) (d : Nat) (t : Expr) (m : MV) (ev : List MV) (H : List MObj) (Q : List MV → List MObj → Prop) : Prop :=
  ∀ A env Φ g s v, OkA d A → Inv B fi env Φ g ev H s → VR g m v → W B fi env Φ A (assign t env v) g s (fun _ ev' H' _ => Q ev' H')
def WPGs (B : Bs) (fi : FI) (d : Nat) (ts : List Expr) (ms : List MV) (ev : List MV) (H : List MObj) (Q : List MV → List MObj → Prop) : Prop :=
  ∀ A env Φ g s vs, OkA d A → Inv B fi env Φ g ev H s → VRs g ms vs → W B fi env Φ A (assignInOrder ((assignEach ts env).map (·.2)) vs) g s (fun _ ev' H' _ => Q ev' H')

section
variable {B : Bs} {fi : FI} {d : Nat} {ev : List MV} {H : List MObj} {A : Around} {env : Env} {Φ : Addr → Option Obj} {g : G} {s s' : Shared}

theorem WPG.name {x : Str} {pos : Pos} {i : Nat} {k : NameKind} {m : MV} {Q : List MV → List MObj → Prop} (hs : slot fi.ns x = some (i, k)) (hk : k = .local ∨ (k = .cell ∧ x ∈ fi.own)) (h : Q (ev.set i m) H) :
    WPG B fi d (.Name x pos) m ev H Q := fun A env Φ g s v ok I hv => assign_Name ((W_store I hs hk hv).mono fun g' ev' H' _ _ ⟨q1, q2, q3⟩ => by rw [q2, q3]; exact h)

theorem WPG.attr {e : Expr} {x : Str} {pos : Pos} {m : MV} {Q : List MV → List MObj → Prop}
    (h : WPE B fi d e ev H fun o H1 => ∃ i C fs, o = .ref i ∧ H1[i]? = some (.inst C fs) ∧ setOk B.w C x = true ∧ fs.length ≤ 100 ∧ Q ev (H1.set i (.inst C (putF x m fs)))) : WPG B fi d (.Attribute e x pos) m ev H Q := fun A env Φ g s v ok I hv => by
  show wpAny _ _ _ _ _ _
  rw [arm_assign_Attribute]
  refine wpAny_bind (wpAny_holding ((h A env Φ g s ok I).to fun g1 ev1 H1 u s1 l1 I1 ⟨e1, o, ro, i, C, fs, e2, hi, hx, hl, h1⟩ => ?_))
  subst e1 e2
  refine wpAny_bind (wpAny_standAt (wpAny_bind (wpAny_holding ((W_setAttr I1 ro hi hx (hv.mono l1) hl).to fun g2 ev2 H2 u s2 l2 I2 ⟨⟨q1, q2⟩, q3⟩ => ?_))))
  subst q1 q2 q3
  exact wpAny_release ⟨_, _, _, l1, I2, h1⟩

theorem WPG.sub {e k : Expr} {pos : Pos} {m : MV} {Q : List MV → List MObj → Prop}
    (h : WPE B fi d e ev H fun o H1 => WPE B fi d k ev H1 fun i H2 => setM o i m H2 (Q ev)) : WPG B fi d (.Subscript e k pos) m ev H Q := fun A env Φ g s v ok I hv => by
  show wpAny _ _ _ _ _ _
  rw [arm_assign_Subscript]
  refine wpAny_bind (wpAny_holding ((h A env Φ g s ok I).to fun g1 ev1 H1 u s1 l1 I1 ⟨e1, o, ro, h1⟩ => ?_))
  subst e1
  refine wpAny_bind (wpAny_holding ((h1 A env Φ g1 s1 ok I1).to fun g2 ev2 H2 u s2 l2 I2 ⟨e2, i, ri, h2⟩ => ?_))
  subst e2
  refine wpAny_bind (wpAny_standAt (wpAny_bind (wpAny_holding ((W_setItem ok I2 (ro.mono l2) ri (hv.mono (l1.trans l2)) h2).to fun g3 ev3 H3 u s3 l3 I3 ⟨q1, q2⟩ => ?_))))
  subst q1
  exact wpAny_release ⟨_, _, _, (l1.trans l2).trans l3, I3, q2⟩

theorem WPGs.nil {Q : List MV → List MObj → Prop} (h : Q ev H) : WPGs B fi d [] [] ev H Q := fun A env Φ g s vs ok I hv => by
  simp only [VRs] at hv; subst hv
  exact wpAny_pure ⟨g, ev, H, .refl g, I, h⟩
theorem WPGs.cons {t : Expr} {ts : List Expr} {m : MV} {ms : List MV} {Q : List MV → List MObj → Prop} (ht : ∀ env, assignEach (t :: ts) env = (false, assign t env) :: assignEach ts env)
    (h : WPG B fi d t m ev H fun ev1 H1 => WPGs B fi d ts ms ev1 H1 Q) : WPGs B fi d (t :: ts) (m :: ms) ev H Q := fun A env Φ g s vs ok I hv => by
  simp only [VRs] at hv
  obtain ⟨v, r, rfl, h1, h2⟩ := hv
  show wpAny _ _ _ _ _ _
  rw [ht, List.map_cons, assignInOrder]
  refine wpAny_bind (wpAny_holding ((h A env Φ g s v ok I h1).to fun g1 ev1 H1 u s1 l1 I1 q => ?_))
  exact W.back l1 (q A env Φ g1 s1 r ok I1 (h2.mono l1))

theorem assignEach_len : ∀ (ts : List Expr) (env : Env), (assignEach ts env).length = ts.length
  | [], _ => rfl
  | t :: ts, env => by
    cases t <;> (show _ + 1 = _ + 1; rw [assignEach_len ts env])

theorem WPG.tup {ts : List Expr} {k : Nat} {pos : Pos} {ms : List MV} {Q : List MV → List MObj → Prop} (hlen : ts.length = ms.length) (hst : ∀ env, (assignEach ts env).findIdx? (·.1) = none)
    (h : WPGs B fi d ts ms ev H Q) : WPG B fi d (.Tuple ts k pos) (.tup ms) ev H Q := fun A env Φ g s v ok I hv => by
  obtain ⟨a, items, n, rfl, e, r⟩ := hv.inv_tup
  have ht : IsTup s.heap a items := ⟨_, (I.F _ _ e).1, rfl, _, rfl⟩
  refine assign_Tuple_tuple ok.1 ht (by rw [assignEach_len, r.size, hlen]) (hst env) fun h' hh => ?_
  have I' : Inv B fi env Φ g ev H { s with heap := h' } := I.step rfl rfl fun b o hb e => hh b o (fun q => by subst q; exact hb I.szn) e
  exact h A env Φ g _ _ ok I' r

/-! statements -/
theorem WPS.nil {Qn : List MV → List MObj → Prop} {Qr : MV → List MObj → Prop} (h : Qn ev H) : WPS B fi d [] ev H Qn Qr := fun A env Φ g s ok I => wpAny_execs_nil ⟨g, ev, H, .refl g, I, h⟩
theorem WPS.cons {st : Stmt} {rest : List Stmt} {Qn : List MV → List MObj → Prop} {Qr : MV → List MObj → Prop} (h : WP1 B fi d st ev H (fun ev1 H1 => WPS B fi d rest ev1 H1 Qn Qr) Qr) : WPS B fi d (st :: rest) ev H Qn Qr :=
  fun A env Φ g s ok I => wpAny_execs_cons ((h A env Φ g s ok I).to fun g1 ev1 H1 f s1 l1 I1 q => by
    cases f with
    | next => exact W.back l1 (q A env Φ g1 s1 ok I1)
    | ret v => exact ⟨g1, ev1, H1, l1, I1, q⟩
    | brk => exact q.elim
    | cont => exact q.elim)

theorem WP1.ret {e : Expr} {pos : Pos} {Qn : List MV → List MObj → Prop} {Qr : MV → List MObj → Prop} (h : WPE B fi d e ev H Qr) : WP1 B fi d (.Return (some e) pos) ev H Qn Qr := fun A env Φ g s ok I =>
  wpAny_Return_some (W.mono (h A env Φ g s ok I) fun _ _ _ _ _ ⟨_, m, r, q⟩ => ⟨m, r, q⟩)
theorem WP1.ifs {t : Expr} {a b : List Stmt} {pos : Pos} {Qn : List MV → List MObj → Prop} {Qr : MV → List MObj → Prop}
    (h : WPT B fi d t ev H fun c H1 => (c = true → WPS B fi d a ev H1 Qn Qr) ∧ (c = false → WPS B fi d b ev H1 Qn Qr)) : WP1 B fi d (.If t a b pos) ev H Qn Qr := fun A env Φ g s ok I =>
  wpAny_If ((h A env Φ g s ok I).to fun g1 ev1 H1 b s1 l1 I1 ⟨e1, h1, h2⟩ => by
    subst e1
    cases b
    · exact W.back l1 (h2 rfl A env Φ g1 s1 ok I1)
    · exact W.back l1 (h1 rfl A env Φ g1 s1 ok I1))

def notRef : MV → Bool
  | .none | .bool _ | .int _ | .str _ | .bytes _ => true
  | _ => false
theorem WP1.expr {e : Expr} {pos : Pos} {Qn : List MV → List MObj → Prop} {Qr : MV → List MObj → Prop} (hs : ∀ env, swapsWith e none pos.line env = pure false)
    (h : WPE B fi d e ev H fun m H1 => notRef m = true ∧ Qn ev H1) : WP1 B fi d (.Expr e pos) ev H Qn Qr := fun A env Φ g s ok I => by
  refine wpAny_Expr ((h A env Φ g s ok I).to fun g1 ev1 H1 v s1 l1 I1 ⟨e1, m, r, hn, q⟩ => ?_) (by unfold interactive; rw [I.fr.kind]; rfl) (hs env)
  subst e1
  have fin : ∃ g' ev' H', g.le g' ∧ Inv B fi env Φ g' ev' H' s1 ∧ FlowOk Qn Qr g' ev' H' Flow.next := ⟨g1, _, H1, l1, I1, q⟩
  cases m <;> simp only [notRef, Bool.false_eq_true] at hn
  · rw [r.inv_none]; exact fin
  · rw [r.inv_bool]; exact fin
  · obtain ⟨t, rfl⟩ := r.inv_int; exact fin
  · obtain ⟨t, rfl⟩ := r.inv_str; exact fin
  · obtain ⟨t, rfl⟩ := r.inv_bytes; exact fin

theorem WP1.asg {t value : Expr} {pos : Pos} {Qn : List MV → List MObj → Prop} {Qr : MV → List MObj → Prop} (ht : ∀ env, assignEach [t] env = [(false, assign t env)])
    (hs : ∀ env, env.scope.names = fi.ns → env.scope.kind = .function → swapsWith value (some t) pos.line env = pure false)
    (hw : ∀ env, env.scope.names = fi.ns → env.scope.kind = .function → swappedStores [t] value env = pure none)
    (h : WPE B fi d value ev H fun m H1 => WPG B fi d t m ev H1 Qn) : WP1 B fi d (.Assign [t] value pos) ev H Qn Qr := fun A env Φ g s ok I => by
  show wpAny _ _ _ _ _ _
  rw [exec_Assign, ht]
  refine wpAny_bind (wpAny_standAt (wpAny_bind (wpAny_of_eq (a := false) (hs env I.fr.names I.fr.kind) ?_)))
  rw [if_neg (by decide)]
  refine wpAny_bind ((h A env Φ g s ok I).to fun g1 ev1 H1 v s1 l1 I1 ⟨e1, m, r, q⟩ => ?_)
  subst e1
  refine wpAny_bind (wpAny_of_eq (hw env I.fr.names I.fr.kind) ?_)
  show wpAny _ _ (do assignAll v [assign t env]; pure Flow.next : Sem Flow) _ _ _
  exact wpAny_bind ((q A env Φ g1 s1 v ok I1 r).to fun g2 ev2 H2 u s2 l2 I2 q2 => wpAny_pure ⟨g2, ev2, H2, l1.trans l2, I2, q2⟩)

def storeN (fi : FI) : List Str → List MV → List MV → Option (List MV)
  | [], [], ev => some ev
  | x :: xs, m :: ms, ev => match slot fi.ns x with
    | some (i, .local) => storeN fi xs ms (ev.set i m)
    | _ => none
  | _, _, _ => none
theorem W_storeN {Φ : Addr → Option Obj} : ∀ {xs : List Str} {ms : List MV} {ev : List MV} {g : G} {s : Shared} {vs : List Value} {ev' : List MV}, Inv B fi env Φ g ev H s → storeN fi xs ms ev = some ev' → VRs g ms vs →
    W B fi env Φ A (assignInOrder (xs.map fun n => bindName env n) vs) g s (fun g1 ev1 H1 _ => g1 = g ∧ ev1 = ev' ∧ H1 = H) := by
  intro xs
  induction xs with
  | nil =>
    intro ms ev g s vs ev' I e r
    cases ms with
    | nil =>
      simp only [VRs] at r; subst r
      have e' : ev = ev' := by simpa [storeN] using e
      subst e'
      exact wpAny_pure ⟨g, ev, H, .refl g, I, rfl, rfl, rfl⟩
    | cons => simp [storeN] at e
  | cons x xs ih =>
    intro ms ev g s vs ev' I e r
    cases ms with
    | nil => simp [storeN] at e
    | cons m ms =>
      simp only [VRs] at r
      obtain ⟨v, w, rfl, h1, h2⟩ := r
      unfold storeN at e
      split at e
      · rename_i i hs
        show wpAny _ _ (do holding w (bindName env x v); assignInOrder (xs.map fun n => bindName env n) w : Sem Unit) _ _ _
        refine wpAny_bind (wpAny_holding (wpAny_bindName ((W_store I hs (.inl rfl) h1).to fun g1 ev1 H1 u s1 l1 I1 ⟨q1, q2, q3⟩ => ?_)))
        subst q1 q2 q3
        exact W.back l1 (ih I1 e h2)
      · cases e

theorem VRs.reverse {g : G} : ∀ {ms : List MV} {vs : List Value}, VRs g ms vs → VRs g ms.reverse vs.reverse
  | [], _, h => by simp only [VRs] at h; subst h; simp [VRs]
  | x :: xs, _, h => by
    simp only [VRs] at h
    obtain ⟨v, r, rfl, h1, h2⟩ := h
    rw [List.reverse_cons, List.reverse_cons]
    exact (VRs.reverse h2).append (by simp only [VRs]; exact ⟨_, _, rfl, h1, rfl⟩)

/-- several names at once whose stores the compiler turns round -/
theorem WP1.asgSwap {ts : List Expr} {k : Nat} {tp : Pos} {value : Expr} {pos : Pos} {xs : List Str} {Qn : List MV → List MObj → Prop} {Qr : MV → List MObj → Prop}
    (hs : ∀ env, env.scope.names = fi.ns → env.scope.kind = .function → swapsWith value (some (.Tuple ts k tp)) pos.line env = pure false)
    (hw : ∀ env, env.scope.names = fi.ns → env.scope.kind = .function → swappedStores [.Tuple ts k tp] value env = pure (some xs))
    (h : WPE B fi d value ev H fun m H1 => ∃ ms ev', m = .tup ms ∧ ms.length = xs.length ∧ storeN fi xs.reverse ms.reverse ev = some ev' ∧ Qn ev' H1) : WP1 B fi d (.Assign [.Tuple ts k tp] value pos) ev H Qn Qr := fun A env Φ g s ok I => by
  refine Assign_Tuple_swapped (names := xs) ((h A env Φ g s ok I).to fun g1 ev1 H1 v s1 l1 I1 ⟨e1, m, r, ms, ev', e2, hl, hst, q⟩ => ?_) (hs env I.fr.names I.fr.kind) (hw env I.fr.names I.fr.kind)
  subst e1 e2
  obtain ⟨a, items, n, rfl, e, r⟩ := r.inv_tup
  have ht : IsTup s1.heap a items := ⟨_, (I1.F _ _ e).1, rfl, _, rfl⟩
  rw [← hl, ← r.size]
  refine unpackItems_tuple ok.1 ht fun h' hh => ?_
  have I' : Inv B fi env Φ g1 _ H1 { s1 with heap := h' } := I1.step rfl rfl fun b o hb e => hh b o (fun q => by subst q; exact hb I1.szn) e
  exact (W_storeN I' hst r.reverse).to fun g2 ev2 H2 u s2 l2 I2 ⟨q1, q2, q3⟩ => ⟨g2, ev2, H2, l1.trans l2, I2, by subst q2 q3; exact q⟩

def augM : Operator → MV → MV → (MV → Prop) → Prop
  | .Add, .int a, .int b, Q => Q (.int (a + b))
  | .Sub, .int a, .int b, Q => Q (.int (a - b))
  | _, _, _, _ => False
theorem W_aug {op : Operator} {a b : MV} {v u : Value} {Q : MV → Prop} (I : Inv B fi env Φ g ev H s) (ha : VR g a v) (hb : VR g b u) (hq : augM op a b Q) :
    W B fi env Φ A (inplaceOp op v u) g s (fun g' ev' H' r => (ev' = ev ∧ H' = H ∧ g' = g) ∧ ∃ m, VR g' m r ∧ Q m) := by
  unfold augM at hq
  split at hq
  · obtain ⟨t, rfl⟩ := ha.inv_int; obtain ⟨t', rfl⟩ := hb.inv_int
    exact P.iadd_int ⟨g, ev, H, .refl g, I.toks _, ⟨rfl, rfl, rfl⟩, _, .int', hq⟩
  · obtain ⟨t, rfl⟩ := ha.inv_int; obtain ⟨t', rfl⟩ := hb.inv_int
    exact P.isub_int ⟨g, ev, H, .refl g, I.toks _, ⟨rfl, rfl, rfl⟩, _, .int', hq⟩
  · exact hq.elim

theorem WP1.augName {x : Str} {np pos : Pos} {op : Operator} {value : Expr} {i : Nat} {old : MV} {Qn : List MV → List MObj → Prop} {Qr : MV → List MObj → Prop} (hs : slot fi.ns x = some (i, .local)) (hm : ev[i]? = some old) (hu : old ≠ .undef) (hd : (x == ("__classdict__" : Str)) = false)
    (h : WPE B fi d value ev H fun v H1 => augM op old v fun r => Qn (ev.set i r) H1) : WP1 B fi d (.AugAssign (.Name x np) op value pos) ev H Qn Qr := fun A env Φ g s ok I => by
  refine wpAny_AugAssign_Name ((W_loadName I hs (.inl rfl) hm hu hd).to fun g0 ev0 H0 v0 s0 l0 I0 ⟨⟨q1, q2, q3⟩, r0⟩ => ?_)
  subst q1 q2 q3
  refine (h A env Φ _ s0 ok I0).to fun g1 ev1 H1 v s1 l1 I1 ⟨e1, m, r, q⟩ => ?_
  subst e1
  refine (W_aug I1 (r0.mono l1) r q).to fun g2 ev2 H2 u s2 l2 I2 ⟨⟨q1, q2, q3⟩, m2, r2, q4⟩ => ?_
  subst q1 q2 q3
  exact (W_store I2 hs (.inl rfl) r2).to fun g3 ev3 H3 u s3 l3 I3 ⟨q5, q6, q7⟩ => ⟨g3, ev3, H3, (l0.trans l1).trans (l2.trans l3), I3, by subst q6 q7; exact q4⟩

theorem WP1.augAttr {e value : Expr} {x : Str} {tp pos : Pos} {op : Operator} {Qn : List MV → List MObj → Prop} {Qr : MV → List MObj → Prop}
    (h : WPE B fi d e ev H fun o H1 => ∃ i C fs old, o = .ref i ∧ H1[i]? = some (.inst C fs) ∧ attrOk B.w C x = true ∧ setOk B.w C x = true ∧ getF x fs = some old ∧ plain old = true ∧
      WPE B fi d value ev H1 fun v H2 => augM op old v fun r => ∃ fs2, H2[i]? = some (.inst C fs2) ∧ fs2.length ≤ 100 ∧ Qn ev (H2.set i (.inst C (putF x r fs2)))) : WP1 B fi d (.AugAssign (.Attribute e x tp) op value pos) ev H Qn Qr := fun A env Φ g s ok I => by
  refine wpAny_AugAssign_AttributeAny ((h A env Φ g s ok I).to fun g1 ev1 H1 v s1 l1 I1 ⟨e1, o, ro, i, C, fs, old, e2, hi, ha, hst, hg, hp, q⟩ => ?_)
  subst e1 e2
  refine (W_attr I1 ro hi ha hg hp).to fun g2 ev2 H2 u s2 l2 I2 ⟨⟨q1, q2, q3⟩, r2⟩ => ?_
  subst q1 q2 q3
  refine (q A env Φ _ s2 ok I2).to fun g3 ev3 H3 u3 s3 l3 I3 ⟨e3, m3, r3, q4⟩ => ?_
  subst e3
  refine (W_aug I3 (r2.mono l3) r3 q4).to fun g4 ev4 H4 u4 s4 l4 I4 ⟨⟨q5, q6, q7⟩, m4, r4, fs2, hi2, hl2, q8⟩ => ?_
  subst q5 q6 q7
  refine (W_setAttr I4 (ro.mono l3) hi2 hst r4 hl2).to fun g5 ev5 H5 u5 s5 l5 I5 ⟨⟨q9, q10⟩, q11⟩ => ?_
  subst q9 q10 q11
  exact ⟨_, _, _, (l1.trans l2).trans ((l3.trans l4).trans l5), I5, q8⟩
end
/-- the state without a frame -/
structure Inv0 (B : Bs) (Φ : Addr → Option Obj) (g : G) (H : List MObj) (s : Shared) : Prop where
  gens : s.gens = #[]
  os : s.os = B.os
  F : ∀ a o, g.F a = some o → s.heap.get? a = some o ∧ g.ow a = .fz
  hb : ∀ a o, B.hb.get? a = some o → g.F a = some o
  pk : ∀ a, g.ow a = .pk → (Φ a).isSome = true
  Φ : ∀ a o, Φ a = some o → s.heap.get? a = some o ∧ g.ow a = .pk
  sz : ∀ a, s.heap.get? a = none → g.ow a = .no
  lo : ∀ a i, g.ow a = .lv i → 1 < a
  len : g.σ.length = H.length
  live : ∀ i a o, g.σ[i]? = some a → H[i]? = some o → g.ow a = .lv i ∧ LiveOk B g s.heap i a o

def InP (Ψ : Addr → Option Obj) (g : G) (s : Shared) : Prop := ∀ a o, Ψ a = some o → s.heap.get? a = some o ∧ g.ow a = .no
def addP (Φ Ψ : Addr → Option Obj) : Addr → Option Obj := fun a => match Ψ a with | some o => some o | none => Φ a
def noCell (Ψ : Addr → Option Obj) : Prop := ∀ a o v, Ψ a = some o → o.data ≠ .cell v

section
variable {B : Bs} {fi : FI} {d : Nat} {ev : List MV} {H : List MObj} {A : Around} {env : Env} {Φ : Addr → Option Obj} {g g' : G} {s s' : Shared}

theorem Inv.core (I : Inv B fi env Φ g ev H s) : Inv0 B Φ g H s := ⟨I.gens, I.os, I.F, I.hb, I.pk, I.Φ, I.sz, I.lo, I.len, I.live⟩
theorem Inv0.with (I : Inv0 B Φ g H s) (fr : FrameOk fi g env ev s.heap) : Inv B fi env Φ g ev H s := ⟨I.gens, I.os, I.F, I.hb, I.pk, I.Φ, I.sz, I.lo, I.len, I.live, fr⟩

theorem LiveOk.own {h : Heap} {i : Nat} {a : Addr} {o : MObj} {ow' : Addr → Ow} (hl : ∀ a, g.ow a = .lv i → ow' a = .lv i) (x : LiveOk B g h i a o) : LiveOk B { g with ow := ow' } h i a o := by
  have l : g.le { g with ow := ow' } := ⟨fun _ _ e => e, fun _ _ e => e⟩
  cases o with
  | list vs => obtain ⟨items, n, h1, h2⟩ := x; exact ⟨items, n, h1, h2.mono l⟩
  | inst C fs => obtain ⟨d, es, n, h1, h2, h3, h4, h5⟩ := x; exact ⟨d, es, n, h1, h2, hl _ h3, h4, h5.mono l⟩
  | dI es => obtain ⟨kvs, h1, h3⟩ := x; exact ⟨kvs, h1, h3.mono l⟩
  | dS es => obtain ⟨kvs, h1, h3⟩ := x; exact ⟨kvs, h1, h3.mono l⟩
  | dB es => obtain ⟨xs, h1, h7, h8⟩ := x; exact ⟨xs, h1, h7, h8.mono l⟩

theorem Inv0.reown (I : Inv0 B Φ g H s) {ow' : Addr → Ow} {Φ' : Addr → Option Obj} (hfz : ∀ a, g.ow a = .fz → ow' a = .fz) (hlv : ∀ a i, g.ow a = .lv i → ow' a = .lv i)
    (hΦ : ∀ a o, Φ' a = some o → s.heap.get? a = some o ∧ ow' a = .pk) (hsz : ∀ a, s.heap.get? a = none → ow' a = .no) (hlo : ∀ a i, ow' a = .lv i → g.ow a = .lv i) (hpk : ∀ a, ow' a = .pk → (Φ' a).isSome = true) :
    Inv0 B Φ' { g with ow := ow' } H s where
  gens := I.gens
  os := I.os
  F := fun a o e => ⟨(I.F a o e).1, hfz a (I.F a o e).2⟩
  hb := I.hb
  Φ := hΦ
  sz := hsz
  lo := fun a i e => I.lo a i (hlo a i e)
  pk := hpk
  len := I.len
  live := fun i a o h1 h2 => ⟨hlv a i (I.live i a o h1 h2).1, (I.live i a o h1 h2).2.own fun a e => hlv a i e⟩

theorem VRo.own {m : Option MV} {v : Option Value} {ow' : Addr → Ow} (h : VRo g m v) : VRo { g with ow := ow' } m v := VRo.mono (g := g) (g' := { g with ow := ow' }) ⟨fun _ _ e => e, fun _ _ e => e⟩ h
theorem FrameOk.own {h : Heap} {ow' : Addr → Ow} (x : FrameOk fi g env ev h) (h1 : ∀ c, (∃ y, g.ow c = .fr y) → ow' c = g.ow c) (h2 : ∀ c, g.ow c = .pk → (∃ v, h.IsCell c v) → ow' c = .pk) : FrameOk fi { g with ow := ow' } env ev h := by
  obtain ⟨a1, a2, a3, a4, ⟨a5, m, a6, a7⟩, a8⟩ := x
  refine ⟨a1, a2, a3, a4, ⟨(h1 _ ⟨_, a5⟩).trans a5, m, a6, fun x i e => (a7 x i e).own⟩, fun x i k e hk => ?_⟩
  obtain ⟨c, v, b1, b2, b3, b4⟩ := a8 x i k e hk
  refine ⟨c, v, b1, b2, b3.own, ?_⟩
  rcases b4 with b4 | ⟨b4, b5⟩
  · exact .inl ((h1 _ ⟨_, b4⟩).trans b4)
  · exact .inr ⟨h2 c b4 ⟨v, b2⟩, b5⟩

def G.pk (g : G) (Ψ : Addr → Option Obj) : G := { g with ow := fun a => if (Ψ a).isSome then .pk else g.ow a }
def G.unpk (g : G) (Ψ : Addr → Option Obj) : G := { g with ow := fun a => if (Ψ a).isSome then .no else g.ow a }
theorem Inv.park {Ψ : Addr → Option Obj} (I : Inv B fi env Φ g ev H s) (P : InP Ψ g s) : g.le (g.pk Ψ) ∧ Inv B fi env (addP Φ Ψ) (g.pk Ψ) ev H s ∧ (∀ a, (Ψ a).isSome = true → Φ a = none) := by
  have hno : ∀ a, (Ψ a).isSome = true → g.ow a = .no := fun a e => by obtain ⟨o, e⟩ := Option.isSome_iff_exists.mp e; exact (P a o e).2
  have keep : ∀ a, g.ow a ≠ .no → (if (Ψ a).isSome = true then Ow.pk else g.ow a) = g.ow a := fun a h => by rw [if_neg (fun e => h (hno a e))]
  refine ⟨⟨fun _ _ e => e, fun _ _ e => e⟩, (I.core.reown (fun a e => (keep a (by rw [e]; intro q; cases q)).trans e) (fun a i e => (keep a (by rw [e]; intro q; cases q)).trans e) (fun a o e => ?_) (fun a e => ?_) (fun a i e => ?_) (fun a e => ?_)).with
    (I.fr.own (fun c ⟨y, e⟩ => keep c (by rw [e]; intro q; cases q)) (fun c e _ => (keep c (by rw [e]; intro q; cases q)).trans e)), fun a e => ?_⟩
  · unfold addP at e
    cases hq : Ψ a with
    | some o' => rw [hq] at e; cases e; exact ⟨(P a _ hq).1, by simp⟩
    | none => rw [hq] at e; exact ⟨(I.Φ a o e).1, by simp [(I.Φ a o e).2]⟩
  · cases hq : Ψ a with
    | some o' => rw [(P a _ hq).1] at e; cases e
    | none => simp [I.sz a e]
  · by_cases hq : (Ψ a).isSome = true
    · rw [if_pos hq] at e; cases e
    · rw [if_neg hq] at e; exact e
  · unfold addP
    cases hq : Ψ a with
    | some o => rfl
    | none =>
      have e' : (if (Ψ a).isSome = true then Ow.pk else g.ow a) = .pk := e
      rw [hq] at e'; exact I.pk a e'
  · cases hq : Φ a with
    | none => rfl
    | some o => have := (I.Φ a o hq).2; rw [hno a e] at this; cases this

theorem Inv.unpark {Ψ : Addr → Option Obj} (I : Inv B fi env (addP Φ Ψ) g ev H s) (hc : noCell Ψ) (hΦ : ∀ a, (Ψ a).isSome = true → Φ a = none) : g.le (g.unpk Ψ) ∧ Inv B fi env Φ (g.unpk Ψ) ev H s ∧ InP Ψ (g.unpk Ψ) s := by
  have hpk : ∀ a o, Ψ a = some o → s.heap.get? a = some o ∧ g.ow a = .pk := fun a o e => I.Φ a o (by unfold addP; rw [e])
  have keep : ∀ a, g.ow a ≠ .pk → (if (Ψ a).isSome = true then Ow.no else g.ow a) = g.ow a := fun a h => by
    rw [if_neg (fun e => by obtain ⟨o, e⟩ := Option.isSome_iff_exists.mp e; exact h (hpk a o e).2)]
  refine ⟨⟨fun _ _ e => e, fun _ _ e => e⟩, (I.core.reown (fun a e => (keep a (by rw [e]; intro q; cases q)).trans e) (fun a i e => (keep a (by rw [e]; intro q; cases q)).trans e) (fun a o e => ?_) (fun a e => ?_) (fun a i e => ?_) (fun a e => ?_)).with
    (I.fr.own (fun c ⟨y, e⟩ => keep c (by rw [e]; intro q; cases q)) (fun c e ⟨v, oc, ho, hd⟩ => ?_)), fun a o e => ⟨(hpk a o e).1, by show (if _ then _ else _) = _; rw [if_pos (by rw [e]; rfl)]⟩⟩
  · have hn : ¬ (Ψ a).isSome = true := fun q => by rw [hΦ a q] at e; cases e
    have hn' : Ψ a = none := by cases hq : Ψ a with | none => rfl | some o => rw [hq] at hn; exact absurd rfl hn
    rw [if_neg hn]
    exact I.Φ a o (by unfold addP; rw [hn']; exact e)
  · show (if _ then _ else _) = _
    split
    · rfl
    · exact I.sz a e
  · by_cases hq : (Ψ a).isSome = true
    · rw [if_pos hq] at e; cases e
    · rw [if_neg hq] at e; exact e
  · have e' : (if (Ψ a).isSome = true then Ow.no else g.ow a) = .pk := e
    by_cases hq : (Ψ a).isSome = true
    · rw [if_pos hq] at e'; cases e'
    · rw [if_neg hq] at e'
      have := I.pk a e'
      unfold addP at this
      cases hq' : Ψ a with
      | some o => rw [hq'] at hq; exact absurd rfl hq
      | none => rw [hq'] at this; exact this
  · show (if _ then _ else _) = _
    rw [if_neg (fun q => by
      obtain ⟨o, q⟩ := Option.isSome_iff_exists.mp q
      have := (hpk c o q).1; rw [ho] at this; cases this
      exact hc c _ v q hd)]
    exact e

/-! while -/
theorem OkA.mark {d : Nat} {A : Around} (h : OkA d A) : OkA d (A.mark none) := by
  obtain ⟨h1, h2, h3⟩ := h
  exact ⟨by show (none : Option Value).or A.handled = none; rw [h1]; rfl, h2, h3⟩

theorem WP1.whileI {test : Expr} {body : List Stmt} {pos : Pos} {Qn : List MV → List MObj → Prop} {Qr : MV → List MObj → Prop} (P : Nat → List MV → List MObj → Prop) (n : Nat) (h : P n ev H)
    (step : ∀ n ev H, P n ev H → WPT B fi d test ev H fun b H1 => (b = true → WPS B fi d body ev H1 (fun ev' H' => ∃ m, m < n ∧ P m ev' H') Qr) ∧ (b = false → Qn ev H1)) :
    WP1 B fi d (.While test body [] pos) ev H Qn Qr := fun A env Φ g s ok I => by
  refine wpAny_While (codeAny_whileLoop (fun n s => ∃ g' ev' H', g.le g' ∧ Inv B fi env Φ g' ev' H' s ∧ P n ev' H') (fun n s ⟨g1, ev1, H1, l1, I1, p1⟩ => ?_) n ⟨g, ev, H, .refl g, I, h⟩)
  refine (step n ev1 H1 p1 _ env Φ g1 s ok.mark I1).to fun g2 ev2 H2 b s2 l2 I2 ⟨e2, h1, h2⟩ => ?_
  subst e2
  cases b with
  | true =>
    simp only [if_true]
    refine (h1 rfl _ env Φ g2 s2 ok.mark I2).to fun g3 ev3 H3 f s3 l3 I3 q => ?_
    cases f with
    | next => obtain ⟨m, hm, p⟩ := q; exact ⟨m, hm, g3, ev3, H3, (l1.trans l2).trans l3, I3, p⟩
    | ret v => exact ⟨g3, ev3, H3, (l1.trans l2).trans l3, I3, q⟩
    | brk => exact q.elim
    | cont => exact q.elim
  | false =>
    simp only [Bool.false_eq_true, if_false]
    exact wpAny_execs_nil ⟨g2, _, H2, l1.trans l2, I2, h2 rfl⟩

/-! iterators -/
structure IterOk (B : Bs) (tg : Expr) (it : Addr) (g0 : G) (chk : List MObj → Prop) (P : List MV → (Addr → Option Obj) → Prop) : Prop where
  cell : ∀ ms Ψ, P ms Ψ → noCell Ψ
  next : ∀ A fi env Φ g ev H s m ms Ψ, OkA 0 A → g0.le g → Inv B fi env Φ g ev H s → InP Ψ g s → chk H → P (m :: ms) Ψ →
    wpAny B.M A (pyNext (.ref it)) (fun r s1 => ∃ v, r = some v ∧ wpAny B.M A (letOwnedTupleGo tg (.ref it) v) (fun _ s2 => ∃ g' Ψ', g.le g' ∧ Inv B fi env Φ g' ev H s2 ∧ InP Ψ' g' s2 ∧ P ms Ψ' ∧ VR g' m v)
      (fun _ _ => False) s1) (fun _ _ => False) s
  self : ∀ A fi env Φ g ev H s ms Ψ (Q : Value → Shared → Prop) E, OkA 0 A → g0.le g → Inv B fi env Φ g ev H s → InP Ψ g s → P ms Ψ → Q (.ref it) s → wpAny B.M A (pyIter (.ref it)) Q E s
  stop : ∀ A fi env Φ g ev H s Ψ, OkA 0 A → g0.le g → Inv B fi env Φ g ev H s → InP Ψ g s → chk H → P [] Ψ →
    wpAny B.M A (pyNext (.ref it)) (fun r s1 => r = none ∧ Inv B fi env Φ g ev H s1) (fun _ _ => False) s

/-- what the body of a loop has to do, item for item -/
def ForS (B : Bs) (fi : FI) (d : Nat) (tg : Expr) (body : List Stmt) (chk : List MObj → Prop) (Qn : List MV → List MObj → Prop) (Qr : MV → List MObj → Prop) : List MV → List MV → List MObj → Prop
  | [], ev, H => Qn ev H
  | m :: ms, ev, H => WPG B fi d tg m ev H fun ev1 H1 => WPS B fi d body ev1 H1 (fun ev2 H2 => chk H2 ∧ ForS B fi d tg body chk Qn Qr ms ev2 H2) Qr

/-- an expression that is gone through: its iterator -/
def WPI (B : Bs) (fi : FI) (d : Nat) (tg e : Expr) (ev : List MV) (H : List MObj) (Q : (List MObj → Prop) → List MV → List MObj → Prop) : Prop :=
  ∀ A env Φ g s, OkA d A → Inv B fi env Φ g ev H s → wpAny B.M A (eval e env) (fun x s1 => wpAny B.M A (pyIter x) (fun r s2 => ∃ it g2 H2 Ψ P chk items, r = .ref it ∧ g.le g2 ∧ Inv B fi env Φ g2 ev H2 s2 ∧ InP Ψ g2 s2 ∧ P items Ψ ∧
    IterOk B tg it g2 chk P ∧ chk H2 ∧ Q chk items H2) (fun _ _ => False) s1) (fun _ _ => False) s

theorem For_loop {tg : Expr} {body : List Stmt} {it : Addr} {chk : List MObj → Prop} {P : List MV → (Addr → Option Obj) → Prop} {g0 : G} {Qn : List MV → List MObj → Prop} {Qr : MV → List MObj → Prop} {R : Result → Shared → Prop}
    (ok : OkA d A) (K : IterOk B tg it g0 chk P)
    (hR : ∀ g' ev' H' f s', g0.le g' → Inv B fi env Φ g' ev' H' s' → FlowOk Qn Qr g' ev' H' f → R (.ok f) s') {ms : List MV} {Ψ : Addr → Option Obj} {g : G} {ev : List MV} {H : List MObj} {s : Shared}
    (l : g0.le g) (I : Inv B fi env Φ g ev H s) (hp : InP Ψ g s) (hP : P ms Ψ) (hc : chk H) (hF : ForS B fi d tg body chk Qn Qr ms ev H) :
    codeAny B.M A (.forLoop tg (.ref it) body [] env) R s := by
  refine codeAny_forLoop_any (fun n s => ∃ ms Ψ g ev H, ms.length = n ∧ g0.le g ∧ Inv B fi env Φ g ev H s ∧ InP Ψ g s ∧ P ms Ψ ∧ chk H ∧ ForS B fi d tg body chk Qn Qr ms ev H) (fun n s ⟨ms, Ψ, g, ev, H, hn, l, I, hp, hP, hc, hF⟩ => ?_) ms.length ⟨ms, Ψ, g, ev, H, rfl, l, I, hp, hP, hc, hF⟩
  have ok0 : OkA 0 A := ok.le (Nat.zero_le _)
  cases ms with
  | nil =>
    refine wpAny_mono (K.stop A fi env Φ g ev H s Ψ ok0 l I hp hc hP) (fun r s1 ⟨e, I1⟩ => ?_) fun _ _ x => x.elim
    subst e
    exact wpAny_execs_nil (hR g ev H _ s1 l I1 hF)
  | cons m ms =>
    refine wpAny_mono (K.next A fi env Φ g ev H s m ms Ψ ok0 l I hp hc hP) (fun r s1 ⟨v, e, h1⟩ => ?_) fun _ _ x => x.elim
    subst e
    refine wpAny_mono h1 (fun _ s2 ⟨g2, Ψ2, l2, I2, p2, P2, r2⟩ => ?_) fun _ _ x => x.elim
    obtain ⟨l3, I3, hΦ⟩ := I2.park p2
    refine (hF A env _ _ s2 v ok I3 (r2.mono l3)).to fun g4 ev4 H4 _ s4 l4 I4 h4 => ?_
    refine (h4 A env _ g4 s4 ok I4).to fun g5 ev5 H5 f s5 l5 I5 q => ?_
    obtain ⟨l6, I6, p6⟩ := I5.unpark (K.cell _ _ P2) hΦ
    have lt : g0.le (g5.unpk Ψ2) := (((l.trans l2).trans l3).trans (l4.trans l5)).trans l6
    cases f with
    | next => exact ⟨ms.length, by rw [← hn]; simp, ms, Ψ2, _, ev5, H5, rfl, lt, I6, p6, P2, q.1, q.2⟩
    | ret v => exact hR _ ev5 H5 _ s5 lt I6 (by obtain ⟨m, r, q⟩ := q; exact ⟨m, r.mono l6, q⟩)
    | brk => exact q.elim
    | cont => exact q.elim

theorem WP1.forI {tg iter : Expr} {body : List Stmt} {pos : Pos} {Qn : List MV → List MObj → Prop} {Qr : MV → List MObj → Prop} (hs : ∀ env x, foldedSetIterable iter env x = pure x)
    (h : WPI B fi d tg iter ev H fun chk items H1 => ForS B fi d tg body chk Qn Qr items ev H1) : WP1 B fi d (.For tg iter body [] pos) ev H Qn Qr := fun A env Φ g s ok I => by
  refine wpAny_For (wpAny_mono (h A env Φ g s ok I) (fun x s1 h1 => wpAny_mono h1 (fun r s2 ⟨it, g2, H2, Ψ, P, chk, items, e2, l2, I2, p2, P2, K, hc, hF⟩ => ?_) fun _ _ x => x.elim) fun _ _ x => x.elim) (hs env)
  subst e2
  exact For_loop ok.mark K (fun g' ev' H' f s' l' I' q => ⟨g', ev', H', l2.trans l', I', q⟩) (.refl g2) I2 p2 P2 hc hF
end
def one (it : Addr) (o : Obj) : Addr → Option Obj := fun a => if a = it then some o else none
theorem one_self {it : Addr} {o : Obj} : one it o it = some o := by unfold one; rw [if_pos rfl]
theorem one_some {it a : Addr} {o p : Obj} (h : one it o a = some p) : a = it ∧ p = o := by
  unfold one at h
  split at h
  · exact ⟨by assumption, by cases h; rfl⟩
  · cases h

section
variable {B : Bs} {fi : FI} {d : Nat} {ev : List MV} {H : List MObj} {A : Around} {env : Env} {Φ : Addr → Option Obj} {g g' : G} {s s' : Shared}

theorem inP_one {it : Addr} {o : Obj} (h1 : s.heap.get? it = some o) (h2 : g.ow it = .no) : InP (one it o) g s := fun a p e => by obtain ⟨rfl, rfl⟩ := one_some e; exact ⟨h1, h2⟩
theorem Inv.stepBut (I : Inv B fi env Φ g ev H s) {it : Addr} {h' : Heap} (hn : g.ow it = .no) (hs : Heap.SameBut it s.heap h') : Inv B fi env Φ g ev H { s with heap := h' } :=
  I.step rfl rfl fun b o hb e => (hs.2 b (fun q => by subst q; exact hb hn)).trans e
theorem Inv.stepExt (I : Inv B fi env Φ g ev H s) {it : Addr} {h' : Heap} (hn : g.ow it = .no) (hs : Heap.ExtBut it s.heap h') : Inv B fi env Φ g ev H { s with heap := h' } :=
  I.step rfl rfl fun b o hb e => hs b o (fun q => by subst q; exact hb hn) e

theorem letOwned_plain {M : Model} {E : Value → Shared → Prop} {tg : Expr} {it : Addr} {v : Value} {Q : Unit → Shared → Prop} {o : Obj} {T : String} {vs : Array Value} (ho : s.heap.get? it = some o) (hc : o.cls = .type T) (hd : o.data = .fields vs)
    (hT : ["enumerate", "zip", "dict_itemiterator", "dict_reverseitemiterator", "odict_iterator", "itertools.zip_longest", "itertools.pairwise"].contains T = false) (h : Q () s) : wpAny M A (letOwnedTupleGo tg (.ref it) v) Q E s := by
  unfold letOwnedTupleGo
  have fin : wpAny M A (match (Value.ref it, v) with
      | (.ref r, .ref a) => do
        let o ← load r
        match o.cls, o.data with
        | .type n, .fields vs =>
          if ["enumerate", "zip", "dict_itemiterator", "dict_reverseitemiterator", "odict_iterator", "itertools.zip_longest", "itertools.pairwise"].contains n && vs[0]? == some (rawInt a) then
            rule "for.unpacks-the-owned-tuple"
            updateField r 0 .none
        | _, _ => pure ()
      | _ => pure () : Sem Unit) Q E s := by
    cases v <;> first
      | exact wpAny_pure h
      | (refine wpAny_bind (wpAny_load ho ?_)
         rw [hc, hd]
         dsimp only
         rw [hT]
         exact wpAny_pure h)
  split <;> first | exact fin | exact wpAny_pure h

def PL (it : Addr) (T : String) (l : Addr) (vs ms : List MV) (Ψ : Addr → Option Obj) : Prop := ∃ (o : Obj) (i : Nat), Ψ = one it o ∧ o.cls = .type T ∧ o.data = .fields #[.ref l, .int i 0] ∧ ms = vs.drop i
theorem PL.cell {it : Addr} {T : String} {l : Addr} {vs ms : List MV} {Ψ : Addr → Option Obj} (h : PL it T l vs ms Ψ) : noCell Ψ := fun a p v e => by
  obtain ⟨o, i, rfl, h1, h2, h3⟩ := h
  obtain ⟨rfl, rfl⟩ := one_some e
  rw [h2]; intro q; cases q
theorem drop_get {ms vs : List MV} {m : MV} {i : Nat} (h : m :: ms = vs.drop i) : vs[i]? = some m ∧ ms = vs.drop (i + 1) := by
  have : i < vs.length := by
    rcases Nat.lt_or_ge i vs.length with h' | h'
    · exact h'
    · rw [List.drop_of_length_le h'] at h; cases h
  rw [List.drop_eq_getElem_cons this] at h
  injection h with h1 h2
  exact ⟨by rw [List.getElem?_eq_getElem this, h1], h2⟩
theorem drop_end {vs : List MV} {i : Nat} (h : [] = vs.drop i) : vs[i]? = none := by
  have : vs.length ≤ i := by
    rcases Nat.lt_or_ge i vs.length with h' | h'
    · rw [List.drop_eq_getElem_cons h'] at h; cases h
    · exact h'
  exact List.getElem?_eq_none this

theorem listAt {j : Nat} {vs : List MV} {a : Addr} (I : Inv B fi env Φ g ev H s) (hσ : g.σ[j]? = some a) (hj : H[j]? = some (.list vs)) : ∃ items n, s.heap.get? a = some (listObj items n) ∧ VRs g vs items.toList := (I.live j a _ hσ hj).2

theorem iterOk_list {tg : Expr} {it a : Addr} {g0 : G} {j : Nat} {vs : List MV} (hσ : g0.σ[j]? = some a) : IterOk B tg it g0 (fun H => H[j]? = some (.list vs)) (PL it "list_iterator" a vs) where
  cell := fun ms Ψ h => h.cell
  self := fun A fi env Φ g ev H s ms Ψ Q E ok l I hp ⟨o, i, e, h1, h2, h3⟩ hq => by
    subst e
    exact wpAny_pyIter_listiter ⟨o, (hp _ _ one_self).1, h1, h2⟩ hq
  next := fun A fi env Φ g ev H s m ms Ψ ok l I hp hc ⟨o, i, e, h1, h2, h3⟩ => by
    subst e
    obtain ⟨e1, e2⟩ := hp _ _ one_self
    obtain ⟨items, n, h4, h5⟩ := listAt I (l.σ _ _ hσ) hc
    obtain ⟨hm, hms⟩ := drop_get h3
    obtain ⟨x, hx, rx⟩ := h5.get hm
    refine wpAny_pyNext_list_item (i := i) ⟨o, e1, h1, h2⟩ (isListOf h4) (by simpa using hx) fun h' ⟨o', y1, y2, y3⟩ hs => ⟨x, rfl, letOwned_plain y1 y2 y3 (by decide) ?_⟩
    exact ⟨g, one it o', .refl g, I.stepBut e2 hs, inP_one y1 e2, ⟨o', i + 1, rfl, y2, y3, hms⟩, rx⟩
  stop := fun A fi env Φ g ev H s Ψ ok l I hp hc ⟨o, i, e, h1, h2, h3⟩ => by
    subst e
    obtain ⟨e1, e2⟩ := hp _ _ one_self
    obtain ⟨items, n, h4, h5⟩ := listAt I (l.σ _ _ hσ) hc
    have hend := drop_end h3
    exact wpAny_pyNext_list_end (i := i) ok.1 ⟨o, e1, h1, h2⟩ (isListOf h4) (by
      have := h5.size
      rw [Array.getElem?_eq_none]; rw [this]; exact List.getElem?_eq_none_iff.mp hend) fun h' hs => ⟨rfl, I.stepExt e2 hs⟩

theorem iterOk_tup {tg : Expr} {it a : Addr} {g0 : G} {vs : List MV} {items : Array Value} {n : Nat} (hF : g0.F a = some (tupObj items n)) (hv : VRs g0 vs items.toList) : IterOk B tg it g0 (fun _ => True) (PL it "tuple_iterator" a vs) where
  cell := fun ms Ψ h => h.cell
  self := fun A fi env Φ g ev H s ms Ψ Q E ok l I hp ⟨o, i, e, h1, h2, h3⟩ hq => by
    subst e
    exact wpAny_pyIter_tupleiter (t := a) (i := i) ⟨o, (hp _ _ one_self).1, h1, h2⟩ hq
  next := fun A fi env Φ g ev H s m ms Ψ ok l I hp hc ⟨o, i, e, h1, h2, h3⟩ => by
    subst e
    obtain ⟨e1, e2⟩ := hp _ _ one_self
    have h4 := (I.F _ _ (l.F _ _ hF)).1
    obtain ⟨hm, hms⟩ := drop_get h3
    obtain ⟨x, hx, rx⟩ := (hv.mono l).get hm
    refine wpAny_pyNext_tuple_item (i := i) ⟨o, e1, h1, h2⟩ (isTupOf h4) (by simpa using hx) fun h' ⟨o', y1, y2, y3⟩ hs => ⟨x, rfl, letOwned_plain y1 y2 y3 (by decide) ?_⟩
    exact ⟨g, one it o', .refl g, I.stepBut e2 hs, inP_one y1 e2, ⟨o', i + 1, rfl, y2, y3, hms⟩, rx⟩
  stop := fun A fi env Φ g ev H s Ψ ok l I hp hc ⟨o, i, e, h1, h2, h3⟩ => by
    subst e
    obtain ⟨e1, e2⟩ := hp _ _ one_self
    have h4 := (I.F _ _ (l.F _ _ hF)).1
    have hend := drop_end h3
    exact wpAny_pyNext_tuple_end (i := i) ok.1 ⟨o, e1, h1, h2⟩ (isTupOf h4) (by
      rw [Array.getElem?_eq_none]; rw [hv.size]; exact List.getElem?_eq_none_iff.mp hend) fun h' hs => ⟨rfl, I.stepExt e2 hs⟩

/-- a list or a tuple gone through -/
def seqM : MV → List MObj → ((List MObj → Prop) → List MV → Prop) → Prop
  | .ref j, H, Q => ∃ vs, H[j]? = some (.list vs) ∧ Q (fun H => H[j]? = some (.list vs)) vs
  | .tup vs, H, Q => Q (fun _ => True) vs
  | _, _, _ => False
theorem WPI.seq {tg e : Expr} {Q : (List MObj → Prop) → List MV → List MObj → Prop} (h : WPE B fi d e ev H fun o H1 => seqM o H1 fun chk items => Q chk items H1) : WPI B fi d tg e ev H Q := fun A env Φ g s ok I => by
  refine (h A env Φ g s ok I).to fun g1 ev1 H1 v s1 l1 I1 ⟨e1, o, ro, hq⟩ => ?_
  subst e1
  replace hq : seqM o H1 fun chk items => Q chk items H1 := hq
  unfold seqM at hq
  split at hq
  · obtain ⟨vs, hj, hq⟩ := hq
    obtain ⟨a, items, n, rfl, hσ, -, e2, r⟩ := I1.list ro hj
    have I2 := I1.push { cls := .type "list_iterator", data := .fields #[.ref a, .int 0 0] }
    exact wpAny_pyIter_list (isListOf e2) ⟨_, g1, _, one s1.heap.objs.size _, PL s1.heap.objs.size "list_iterator" a vs, _, vs, rfl, l1, I2, inP_one (Heap.get?_push_size _ rfl) I1.szn, ⟨_, 0, rfl, rfl, rfl, rfl⟩, iterOk_list hσ, hj, hq⟩
  · obtain ⟨a, items, n, rfl, e2, r⟩ := ro.inv_tup
    have I2 := I1.push { cls := .type "tuple_iterator", data := .fields #[.ref a, .int 0 0] }
    exact iter_tuple ⟨_, (I1.F _ _ e2).1, rfl, _, rfl⟩ ⟨_, g1, _, one s1.heap.objs.size _, PL s1.heap.objs.size "tuple_iterator" a _, _, _, rfl, l1, I2, inP_one (Heap.get?_push_size _ rfl) I1.szn, ⟨_, 0, rfl, rfl, rfl, rfl⟩, iterOk_tup e2 r, trivial, hq⟩
  · exact hq.elim
end
/-- a call, whatever frame it is made from -/
def WPV (B : Bs) (d : Nat) (f : MV) (args : List MV) (H : List MObj) (Q : MV → List MObj → Prop) : Prop :=
  ∀ A fi env Φ g ev s fv vs, OkA d A → Inv B fi env Φ g ev H s → VR g f fv → VRs g args vs → W B fi env Φ A (call fv vs) g s (fun g' ev' H' r => ev' = ev ∧ ∃ m, VR g' m r ∧ Q m H')
def CallPost (B : Bs) (Φ : Addr → Option Obj) (g : G) (Q : MV → List MObj → Prop) (r : Result) (s' : Shared) : Prop := match r with
  | .ok (.ret v) => ∃ g' H' m, g.le g' ∧ Inv0 B Φ g' H' s' ∧ VR g' m v ∧ Q m H'
  | .ok _ => False
  | .error _ => False
/-- a call that knows of no frame -/
def WPF (B : Bs) (d : Nat) (f : MV) (args : List MV) (H : List MObj) (Q : MV → List MObj → Prop) : Prop :=
  ∀ A Φ g s fv vs, OkA d A → Inv0 B Φ g H s → VR g f fv → VRs g args vs → codeAny B.M A (.call fv ⟨vs, []⟩) (CallPost B Φ g Q) s

theorem CallPost.mono {B : Bs} {Φ : Addr → Option Obj} {g : G} {Q Q' : MV → List MObj → Prop} (k : ∀ m H', Q m H' → Q' m H') {r : Result} {s' : Shared} (h : CallPost B Φ g Q r s') : CallPost B Φ g Q' r s' := by
  rcases r with e | (v | _ | _ | _)
  · exact h
  all_goals first | exact h | skip
  obtain ⟨g', H', m, l, I', r1, q⟩ := h
  exact ⟨g', H', m, l, I', r1, k m H' q⟩
theorem WPF.mono {B : Bs} {d : Nat} {f : MV} {args : List MV} {H : List MObj} {Q Q' : MV → List MObj → Prop} (h : WPF B d f args H Q) (k : ∀ m H', Q m H' → Q' m H') : WPF B d f args H Q' :=
  fun A Φ g s fv vs ok I hf hv => codeAny_mono (h A Φ g s fv vs ok I hf hv) fun r s' x => x.mono k
theorem WPV.mono {B : Bs} {d : Nat} {f : MV} {args : List MV} {H : List MObj} {Q Q' : MV → List MObj → Prop} (h : WPV B d f args H Q) (k : ∀ m H', Q m H' → Q' m H') : WPV B d f args H Q' :=
  fun A fi env Φ g ev s fv vs ok I hf hv => (h A fi env Φ g ev s fv vs ok I hf hv).mono fun _ _ H' _ _ ⟨a, m, b, c⟩ => ⟨a, m, b, k m H' c⟩
theorem WPF.le {B : Bs} {d d' : Nat} {f : MV} {args : List MV} {H : List MObj} {Q : MV → List MObj → Prop} (h : WPF B d f args H Q) (l : d ≤ d') : WPF B d' f args H Q :=
  fun A Φ g s fv vs ok I hf hv => h A Φ g s fv vs (ok.le l) I hf hv

def isFr : Ow → Bool
  | .fr _ => true
  | _ => false
theorem isFr_of {w : Ow} (h : isFr w = true) : ∃ x, w = .fr x := by cases w <;> first | exact ⟨_, rfl⟩ | cases h

def frP (g : G) (h : Heap) (Φ : Addr → Option Obj) : Addr → Option Obj := fun a => if isFr (g.ow a) then h.get? a else Φ a

section
variable {B : Bs} {fi : FI} {d : Nat} {ev : List MV} {H : List MObj} {A : Around} {env : Env} {Φ : Addr → Option Obj} {g g' : G} {s s' : Shared}

theorem Inv.parkFr (I : Inv B fi env Φ g ev H s) : Inv0 B (frP g s.heap Φ) { g with ow := fun a => if isFr (g.ow a) then .pk else g.ow a } H s := by
  refine I.core.reown (fun a e => by simp [e, isFr]) (fun a i e => by simp [e, isFr]) (fun a o e => ?_) (fun a e => ?_) (fun a i e => ?_) (fun a e => ?_)
  · unfold frP at e
    by_cases h : isFr (g.ow a) = true
    · rw [if_pos h] at e; exact ⟨e, by simp [h]⟩
    · rw [if_neg h] at e; exact ⟨(I.Φ a o e).1, by simp [h, (I.Φ a o e).2]⟩
  · have := I.sz a e; simp [this, isFr]
  · by_cases h : isFr (g.ow a) = true
    · simp [h] at e
    · simpa [h] using e
  · unfold frP
    by_cases h : isFr (g.ow a) = true
    · rw [if_pos h]
      cases hq : s.heap.get? a with
      | none => have := I.sz a hq; rw [this] at h; cases h
      | some o => rfl
    · rw [if_neg h] at e; rw [if_neg h]; exact I.pk a e

/-- the caller's frame comes back -/
theorem Inv0.backFr (I : Inv B fi env Φ g ev H s) {H' : List MObj} (l : ({ g with ow := fun a => if isFr (g.ow a) then .pk else g.ow a } : G).le g') (I' : Inv0 B (frP g s.heap Φ) g' H' s') :
    ∃ g2, g.le g2 ∧ g'.le g2 ∧ Inv B fi env Φ g2 ev H' s' ∧ (∀ a, isFr (g'.ow a) = true → isFr (g.ow a) = false → g2.ow a = .no) := by
  have l1 : g.le g' := ⟨l.F, l.σ⟩
  have fr := I.fr
  have hfr : ∀ a, isFr (g.ow a) = true → ∃ o, s.heap.get? a = some o ∧ s'.heap.get? a = some o ∧ g'.ow a = .pk := fun a h => by
    cases hq : s.heap.get? a with
    | none => have := I.sz a hq; rw [this] at h; cases h
    | some o => exact ⟨o, rfl, I'.Φ a o (by unfold frP; rw [if_pos h]; exact hq)⟩
  refine ⟨{ g' with ow := fun a => if isFr (g.ow a) then g.ow a else if isFr (g'.ow a) then .no else g'.ow a }, ⟨l1.F, l1.σ⟩, ⟨fun _ _ e => e, fun _ _ e => e⟩, ?_, fun a h1 h2 => by show (if _ then _ else _) = _; rw [if_neg (by rw [h2]; decide), if_pos h1]⟩
  have nf : ∀ a, g'.ow a ≠ .pk → ¬ isFr (g.ow a) = true := fun a h q => h (let ⟨_, _, _, x⟩ := hfr a q; x)
  refine (I'.reown (Φ' := Φ) (fun a e => ?_) (fun a i e => ?_) (fun a o e => ?_) (fun a e => ?_) (fun a i e => ?_) (fun a e => ?_)).with ?_
  · rw [if_neg (nf a (by rw [e]; intro q; cases q)), e]; rfl
  · rw [if_neg (nf a (by rw [e]; intro q; cases q)), e]; rfl
  · have hpk := (I.Φ a o e).2
    have hn : ¬ isFr (g.ow a) = true := by rw [hpk]; decide
    have x := I'.Φ a o (by unfold frP; rw [if_neg hn]; exact e)
    refine ⟨x.1, ?_⟩
    rw [if_neg hn, x.2]; rfl
  · by_cases h : isFr (g.ow a) = true
    · obtain ⟨o, _, x, _⟩ := hfr a h; rw [x] at e; cases e
    · rw [if_neg h, I'.sz a e]; rfl
  · by_cases h : isFr (g.ow a) = true
    · obtain ⟨x, hx⟩ := isFr_of h; rw [if_pos h, hx] at e; cases e
    · rw [if_neg h] at e
      by_cases h2 : isFr (g'.ow a) = true
      · rw [if_pos h2] at e; cases e
      · rw [if_neg h2] at e; exact e
  · by_cases h : isFr (g.ow a) = true
    · obtain ⟨x, hx⟩ := isFr_of h; rw [if_pos h, hx] at e; cases e
    · rw [if_neg h] at e
      by_cases h2 : isFr (g'.ow a) = true
      · rw [if_pos h2] at e; cases e
      · rw [if_neg h2] at e
        have := I'.pk a e
        unfold frP at this; rw [if_neg h] at this; exact this
  · -- the frame
    have up : ∀ {m : Option MV} {v : Option Value}, VRo g m v → VRo { g' with ow := fun a => if isFr (g.ow a) then g.ow a else if isFr (g'.ow a) then .no else g'.ow a } m v :=
      fun h => h.mono (g' := { g' with ow := fun a => if isFr (g.ow a) then g.ow a else if isFr (g'.ow a) then .no else g'.ow a }) ⟨l1.F, l1.σ⟩
    obtain ⟨a1, a2, a3, a4, ⟨a5, m, ⟨o, es, ep, b1, b2⟩, a7⟩, a8⟩ := fr
    have hl : isFr (g.ow env.locals) = true := by rw [a5]; rfl
    refine ⟨a1, a2, a3, a4, ⟨by show (if _ then _ else _) = _; rw [if_pos hl, a5], m, ⟨o, es, ep, ?_, b2⟩, fun x i e => up (a7 x i e)⟩, fun x i k e hk => ?_⟩
    · obtain ⟨o', x1, x2, _⟩ := hfr _ hl; rw [x1] at b1; cases b1; exact x2
    · obtain ⟨c, v, c1, ⟨oc, c2, c2'⟩, c3, c4⟩ := a8 x i k e hk
      rcases c4 with c4 | ⟨c4, c5⟩
      · have hc : isFr (g.ow c) = true := by rw [c4]; rfl
        obtain ⟨o', x1, x2, _⟩ := hfr _ hc; rw [x1] at c2; cases c2
        exact ⟨c, v, c1, ⟨_, x2, c2'⟩, up c3, .inl (by show (if _ then _ else _) = _; rw [if_pos hc, c4])⟩
      · have hn : ¬ isFr (g.ow c) = true := by rw [c4]; decide
        obtain ⟨o', ho'⟩ := Option.isSome_iff_exists.mp (I.pk c c4)
        have y := I'.Φ c o' (by unfold frP; rw [if_neg hn]; exact ho')
        have z := (I.Φ c o' ho').1
        rw [c2] at z; cases z
        exact ⟨c, v, c1, ⟨_, y.1, c2'⟩, up c3, .inr ⟨by show (if _ then _ else _) = _; rw [if_neg hn, y.2]; rfl, c5⟩⟩
end
theorem slotGo_get {x : Str} : ∀ {ns : List (Str × NameKind)} {n i : Nat} {k : NameKind}, slotGo x ns n = some (i, k) → n ≤ i ∧ ns[i - n]? = some (x, k)
  | [], _, _, _, h => by cases h
  | (y, k') :: r, n, i, k, h => by
    unfold slotGo at h
    split at h
    · rename_i hb
      cases h; rw [beq_iff_eq.mp hb]; exact ⟨Nat.le_refl _, by simp⟩
    · obtain ⟨h1, h2⟩ := slotGo_get h
      refine ⟨by omega, ?_⟩
      have : i - n = (i - (n + 1)) + 1 := by omega
      rw [this, List.getElem?_cons_succ]; exact h2
theorem slot_get {ns : List (Str × NameKind)} {x : Str} {i : Nat} {k : NameKind} (h : slot ns x = some (i, k)) : ns[i]? = some (x, k) := by
  have := (slotGo_get h).2; simpa using this

def initEv (ns : List (Str × NameKind)) (ps : List Str) (args : List MV) : List MV := ns.map fun p => ((ps.zip args).lookup p.1).getD .undef

theorem zip_lookup {g : G} {x : Str} : ∀ {ps : List Str} {args : List MV} {vs : List Value} {m : MV}, VRs g args vs → (ps.zip args).lookup x = some m → ∃ v, (ps.zip vs).lookup x = some v ∧ VR g m v
  | [], _, _, _, _, h => by simp at h
  | p :: ps, [], _, _, _, h => by simp at h
  | p :: ps, a :: args, _, m, hv, h => by
    simp only [VRs] at hv
    obtain ⟨v, r, rfl, h1, h2⟩ := hv
    simp only [List.zip_cons_cons, List.lookup_cons] at h ⊢
    cases hb : x == p with
    | true => rw [hb] at h; cases h; exact ⟨v, by simp, h1⟩
    | false => rw [hb] at h; simpa using zip_lookup h2 h

theorem bindL_lookup {kindOf : Str → Option NameKind} {x : Str} (hx : kindOf x = some .local) : ∀ {binds : List (Str × Value)} {m : Str → Option Value}, (binds.map (·.1)).Nodup →
    bindL kindOf binds m x = match binds.lookup x with | some v => some v | none => m x
  | [], m, _ => rfl
  | (y, v) :: r, m, hn => by
    rw [List.map_cons, List.nodup_cons] at hn
    unfold bindL
    rw [bindL_lookup hx hn.2, List.lookup_cons]
    by_cases hxy : x = y
    · subst hxy
      have hnone : r.lookup x = none := by
        cases hq : r.lookup x with
        | none => rfl
        | some w => exact absurd (List.mem_map.mpr ⟨(x, w), mem_of_lookup hq, rfl⟩) hn.1
      rw [hnone]; simp [hx]
    · have hb : (x == y) = false := beq_eq_false_iff_ne.mpr hxy
      rw [hb]
      cases hq : r.lookup x with
      | some w => rfl
      | none => by_cases hl : kindOf y = some .local <;> simp [hl, hxy]
theorem bindC_lookup {kindOf : Str → Option NameKind} {x : Str} (hx : kindOf x ≠ some .local) : ∀ {binds : List (Str × Value)} {m : Str → Option Value}, (binds.map (·.1)).Nodup →
    bindC kindOf binds m x = match binds.lookup x with | some v => some v | none => m x
  | [], m, _ => rfl
  | (y, v) :: r, m, hn => by
    rw [List.map_cons, List.nodup_cons] at hn
    unfold bindC
    rw [bindC_lookup hx hn.2, List.lookup_cons]
    by_cases hxy : x = y
    · subst hxy
      have hnone : r.lookup x = none := by
        cases hq : r.lookup x with
        | none => rfl
        | some w => exact absurd (List.mem_map.mpr ⟨(x, w), mem_of_lookup hq, rfl⟩) hn.1
      rw [hnone]; simp [hx]
    · have hb : (x == y) = false := beq_eq_false_iff_ne.mpr hxy
      rw [hb]
      cases hq : r.lookup x with
      | some w => rfl
      | none => by_cases hl : kindOf y = some .local <;> simp [hl, hxy]

theorem cellsFrom_some {x : Str} : ∀ (ns : List (Str × NameKind)) (n : Nat) (acc : List (Str × Addr)), ((acc.lookup x).isSome = true ∨ (x, NameKind.cell) ∈ ns) → ((cellsFrom n ns acc).lookup x).isSome = true
  | [], n, acc, h => by
    rcases h with h | h
    · exact h
    · cases h
  | (y, k) :: r, n, acc, h => by
    unfold cellsFrom
    split
    · refine cellsFrom_some r _ _ ?_
      rcases h with h | h
      · left; rw [List.lookup_cons]; cases hb : x == y with
        | true => rfl
        | false => exact h
      · rcases List.mem_cons.mp h with h | h
        · injection h with h1 h2; left; rw [List.lookup_cons, h1]; simp
        · exact .inr h
    · rename_i hk
      refine cellsFrom_some r _ _ ?_
      rcases h with h | h
      · exact .inl h
      · rcases List.mem_cons.mp h with h | h
        · injection h with h1 h2; rw [← h2] at hk; exact absurd rfl hk
        · exact .inr h

theorem cellsFrom_nodup : ∀ (ns : List (Str × NameKind)) (n : Nat) (acc : List (Str × Addr)), (ns.map (·.1)).Nodup → (acc.map (·.1)).Nodup → (∀ x ∈ acc, x.1 ∉ ns.map (·.1)) → ((cellsFrom n ns acc).map (·.1)).Nodup
  | [], _, acc, _, h, _ => h
  | (y, k) :: r, n, acc, hn, ha, hd => by
    rw [List.map_cons, List.nodup_cons] at hn
    unfold cellsFrom
    split
    · refine cellsFrom_nodup r _ _ hn.2 ?_ ?_
      · rw [List.map_cons, List.nodup_cons]
        refine ⟨fun hm => ?_, ha⟩
        obtain ⟨x, hx, e⟩ := List.mem_map.mp hm
        exact hd x hx (by rw [List.map_cons, e]; exact List.mem_cons_self)
      · intro x hx
        rcases List.mem_cons.mp hx with rfl | hx
        · exact hn.1
        · exact fun hm => hd x hx (by rw [List.map_cons]; exact List.mem_cons_of_mem _ hm)
    · exact cellsFrom_nodup r _ _ hn.2 ha fun x hx hm => hd x hx (by rw [List.map_cons]; exact List.mem_cons_of_mem _ hm)
theorem lookup_of_mem {α : Type} : ∀ {l : List (Str × α)}, (l.map (·.1)).Nodup → ∀ {x : Str} {c : α}, (x, c) ∈ l → l.lookup x = some c
  | [], _, _, _, h => by cases h
  | (y, k) :: r, hn, x, c, h => by
    rw [List.map_cons, List.nodup_cons] at hn
    rw [List.lookup_cons]
    rcases List.mem_cons.mp h with h2 | h2
    · cases h2; simp
    · have : x ≠ y := fun e => hn.1 (e ▸ List.mem_map.mpr ⟨_, h2, rfl⟩)
      have hb : (x == y) = false := beq_eq_false_iff_ne.mpr this
      rw [hb]; exact lookup_of_mem hn.2 h2

structure FdOk (w : World) (fd : FuncData) (ps : List Str) (fi : FI) (body : List Stmt) : Prop where
  body : fd.body = .stmts body
  clo : fd.closure = []
  glob : fd.globals = mainGlobals
  blt : fd.builtins = builtinsNs
  names : fd.scope.names = fi.ns
  kind : fd.scope.kind = .function
  co : fd.scope.isCoroutine = false
  gen : fd.scope.isGenerator = false
  code : codeIn (Kw w) fd.code fd.qualname = true
  bind : ∀ vs : List Value, vs.length = ps.length → bindArgs fd ⟨vs, []⟩ = pure (ps.zip vs)

structure FnOk (a : Addr) (ps : List Str) (fi : FI) (body : List Stmt) : Prop where
  look : ∀ w, ∃ o fd, (Kw w).lookup a = some o ∧ o.data = .func fd ∧ FdOk w fd ps fi body
  kinds : ∀ x ∈ ps, fi.ns.lookup x = some .local ∨ fi.ns.lookup x = some .cell
  nd : ps.Nodup
  ndn : (fi.ns.map (·.1)).Nodup
  own : fi.own = (fi.ns.filter (·.2 == .cell)).map (·.1)
  free : ∀ x ∈ fi.ns, x.2 ≠ .free

section
variable {B : Bs} {fi : FI} {d : Nat} {ev : List MV} {H : List MObj} {A : Around} {env : Env} {Φ : Addr → Option Obj} {g g' : G} {s s' : Shared}

def ownOf' (cs : List (Str × Addr)) (b : Addr) : Option Str := (cs.find? (fun x => x.2 == b)).map (·.1)
theorem ownOf_mem : ∀ {cs : List (Str × Addr)}, (cs.Pairwise fun x y => x.2 ≠ y.2) → ∀ {n : Str} {c : Addr}, (n, c) ∈ cs → ownOf' cs c = some n
  | [], _, n, c, h => by cases h
  | (m, b) :: r, hp, n, c, h => by
    obtain ⟨h1, h2⟩ := List.pairwise_cons.mp hp
    unfold ownOf'
    rcases List.mem_cons.mp h with h | h
    · cases h; simp
    · have hne : b ≠ c := h1 _ h
      have := ownOf_mem h2 h
      unfold ownOf' at this
      rw [List.find?_cons]
      have hb : (b == c) = false := by simpa using hne
      simp only [hb]; exact this
theorem ownOf_some {cs : List (Str × Addr)} {b : Addr} {n : Str} (h : ownOf' cs b = some n) : (n, b) ∈ cs := by
  unfold ownOf' at h
  obtain ⟨x, h1, h2⟩ := Option.map_eq_some_iff.mp h
  have := List.find?_some h1
  have hm := List.mem_of_find?_eq_some h1
  obtain ⟨x1, x2⟩ := x
  simp at this h2
  subst this h2; exact hm

theorem InCallC_enter {L : Addr} {cs : List (Str × Addr)} {m cm : Str → Option Value} {s s1 : Shared} (I : Inv0 B Φ g H s) (X : InCallC s L m cs cm s1) (hL : s.heap.objs.size ≤ L) (hcs : (cs.map (·.1)).Nodup) :
    ∃ g1, g.le g1 ∧ Inv0 B Φ g1 H s1 ∧ g1.ow L = .fr none ∧ (∀ n c, (n, c) ∈ cs → g1.ow c = .fr (some n)) ∧ (∀ a o, s.heap.get? a = some o → g1.ow a = g.ow a) := by
  obtain ⟨h1, tk, hs⟩ := X.toInCall.same
  have keep := X.toInCall.keep
  have noL : g.ow L = .no := I.sz _ (Heap.get?_none_of_le hL)
  have noC : ∀ n c, (n, c) ∈ cs → g.ow c = .no := fun n c hm => I.sz _ (Heap.get?_none_of_le (Nat.le_trans hL (Nat.le_of_lt (X.above n c hm))))
  let ow' : Addr → Ow := fun a => if a = L then .fr none else match ownOf' cs a with | some n => .fr (some n) | none => g.ow a
  have I1 : Inv0 B Φ g H s1 := by
    have hk : ∀ a o, g.ow a ≠ .no → s.heap.get? a = some o → s1.heap.get? a = some o := fun a o _ e => keep a o e
    exact {
      gens := by rw [hs]; exact I.gens
      os := by rw [hs]; exact I.os
      F := fun a o e => ⟨keep _ _ (I.F a o e).1, (I.F a o e).2⟩
      hb := I.hb
      pk := I.pk
      Φ := fun a o e => ⟨keep _ _ (I.Φ a o e).1, (I.Φ a o e).2⟩
      sz := fun a e => by
        cases hq : s.heap.get? a with
        | none => exact I.sz a hq
        | some o => rw [keep a o hq] at e; cases e
      lo := I.lo
      len := I.len
      live := fun i a o h1 h2 => ⟨(I.live i a o h1 h2).1, (I.live i a o h1 h2).2.keep (.refl g) (I.live i a o h1 h2).1 (fun a o e => (I.F a o e).2) fun b o _ => keep b o⟩ }
  have stay : ∀ a, g.ow a ≠ .no → ow' a = g.ow a := fun a h => by
    show (if a = L then _ else _) = _
    rw [if_neg (fun q => by subst q; exact h noL)]
    cases hq : ownOf' cs a with
    | none => rfl
    | some n => exact absurd (noC n a (ownOf_some hq)) h
  have news : ∀ a, ow' a = g.ow a ∨ (∃ x, ow' a = .fr x) := fun a => by
    show (if a = L then _ else _) = _ ∨ ∃ x, (if a = L then _ else _) = _
    by_cases q : a = L
    · right; exact ⟨none, by rw [if_pos q]⟩
    · rw [if_neg q]
      cases hq : ownOf' cs a with
      | none => left; rfl
      | some n => right; exact ⟨some n, rfl⟩
  refine ⟨{ g with ow := ow' }, ⟨fun _ _ e => e, fun _ _ e => e⟩, I1.reown (fun a e => (stay a (by rw [e]; intro q; cases q)).trans e) (fun a i e => (stay a (by rw [e]; intro q; cases q)).trans e)
    (fun a o e => ⟨(I1.Φ a o e).1, (stay a (by rw [(I1.Φ a o e).2]; intro q; cases q)).trans (I1.Φ a o e).2⟩) (fun a e => ?_) (fun a i e => ?_) (fun a e => ?_), ?_, fun n c hm => ?_, fun a o e => ?_⟩
  · show (if a = L then _ else _) = _
    have hne : a ≠ L := fun q => by subst q; obtain ⟨o, _, _, ho, _⟩ := X.toInCall.ns; rw [ho] at e; cases e
    rw [if_neg hne]
    cases hq : ownOf' cs a with
    | none => exact I1.sz a e
    | some n =>
      have hmem := ownOf_some hq
      obtain ⟨o, ho, _⟩ := X.cell n a (lookup_of_mem hcs hmem)
      rw [ho] at e; cases e
  · rcases news a with h | ⟨x, h⟩
    · rw [← h]; exact e
    · rw [h] at e; cases e
  · rcases news a with h | ⟨x, h⟩
    · exact I1.pk a (h ▸ e)
    · rw [h] at e; cases e
  · show (if L = L then _ else _) = _
    rw [if_pos rfl]
  · show (if c = L then _ else _) = _
    rw [if_neg (Nat.ne_of_gt (X.above n c hm)), ownOf_mem X.apart hm]
  · show (if a = L then _ else _) = _
    have hlt := Nat.lt_of_lt_of_le (Heap.lt_size e) hL
    rw [if_neg (Nat.ne_of_lt hlt)]
    cases hq : ownOf' cs a with
    | none => rfl
    | some n => exact absurd (Nat.lt_trans hlt (X.above n a (ownOf_some hq))) (Nat.lt_irrefl _)

theorem OkA.deeper {d : Nat} {A : Around} (h : OkA d A) (hd : 0 < d) (env : Env) : OkA (d - 1) (A.deeper env) := by
  obtain ⟨h1, h2, h3⟩ := h
  exact ⟨h1, by show A.depth + 1 + 2 * (d - 1) + 2 < 1000; omega, by show A.units + 3 + 30 * (d - 1) + 30 < cLine; omega⟩

/-- a call of a function of the program -/
theorem WPF.fn {a : Addr} {ps : List Str} {fi : FI} {body : List Stmt} {args : List MV} {Q : MV → List MObj → Prop} (F : FnOk a ps fi body) (hd : 0 < d) (hlen : args.length = ps.length)
    (h : WPS B fi (d - 1) body (initEv fi.ns ps args) H (fun _ H' => Q .none H') Q) : WPF B d (.con (.ref a)) args H Q := fun A Φ g s fv vs ok I hf hv => by
  rw [hf.inv_con]
  obtain ⟨o, fd, hk, hdata, D⟩ := F.look B.w
  have keepB : ∀ b o, B.hb.get? b = some o → s.heap.get? b = some o := fun b o e => (I.F b o (I.hb b o e)).1
  have kx : (Kw B.w).In s.heap := B.kx.keeps keepB
  have nolim : s.heap.NoLimit := let ⟨_, _, t⟩ := B.tr; (t.keeps keepB).nolimit
  have hvl : vs.length = ps.length := by rw [hv.length, hlen]
  have hzip : ∀ x ∈ ps.zip vs, x.1 ∈ ps := fun x hx => (List.of_mem_zip hx).1
  have hcells : ∀ n : Nat, ((cellsFrom n fd.scope.names []).map (·.1)).Nodup := fun n => cellsFrom_nodup _ _ _ (by rw [D.names]; exact F.ndn) (by simp) (fun x hx => by cases hx)
  have hmemc : ∀ {x : Str} (n : Nat), fi.ns.lookup x = some .cell → ((cellsFrom n fd.scope.names []).lookup x).isSome = true := fun n e => cellsFrom_some _ _ _ (.inr (by rw [D.names]; exact mem_of_lookup e))
  have hznd : ((ps.zip vs).map (·.1)).Nodup := by
    have : (ps.zip vs).map (·.1) = ps := by rw [List.map_fst_zip]; omega
    rw [this]; exact F.nd
  refine codeAny_call_cells (binds := ps.zip vs) (body := body) ok.rec (kx _ _ hk) hdata nolim (codeRec_of kx D.code) D.body (D.bind vs hvl) D.clo (fun x hx => ?_) (fun s1 X => ?_) D.co D.gen D.kind
  · rw [D.names]
    rcases F.kinds x.1 (hzip x hx) with e | e
    · exact .inl e
    · exact .inr ⟨e, by have := hmemc (s.heap.objs.size + 1) e; rw [D.names] at this; exact this⟩
  · obtain ⟨g1, l1, I1, hL, hC, _⟩ := InCallC_enter I X (Nat.le_refl _) (hcells _)
    have hkind : ∀ x, Env.kindOf (callEnvC fd s.heap.objs.size a) x = fi.ns.lookup x := fun x => by show fd.scope.names.lookup x = _; rw [D.names]
    have hlk : ∀ {x : Str} {i : Nat} {k : NameKind}, slot fi.ns x = some (i, k) → (initEv fi.ns ps args)[i]? = some (((ps.zip args).lookup x).getD .undef) := fun hs => by
      unfold initEv; rw [List.getElem?_map, slot_get hs]; rfl
    have hval : ∀ {x : Str} {i : Nat} {k : NameKind} {v : Option Value}, slot fi.ns x = some (i, k) → (∀ u, (ps.zip vs).lookup x = some u → v = some u) → VRo g1 (initEv fi.ns ps args)[i]? v := fun {x i k v} hs hu m e => by
      rw [hlk hs] at e; cases e
      cases hq : (ps.zip args).lookup x with
      | none => trivial
      | some m =>
        obtain ⟨u, e1, r⟩ := zip_lookup hv hq
        have := hu u e1
        cases m <;> first | trivial | exact ⟨u, this, r.mono l1⟩
    have fr : FrameOk fi g1 (callEnvC fd s.heap.objs.size a) (initEv fi.ns ps args) s1.heap := by
      refine ⟨D.names, D.kind, D.glob, D.blt, ⟨hL, _, X.toInCall.ns, fun x i e => ?_⟩, fun x i k e hk => ?_⟩
      · refine hval e fun u hu => ?_
        rw [bindL_lookup (by rw [hkind]; exact slot_lookup e) hznd, hu]
      · have hx := slot_lookup e
        have hc : k = .cell := by
          rcases hk with hk | hk
          · exact hk
          · exact absurd hk (F.free _ (mem_of_lookup hx))
        subst hc
        obtain ⟨c, hc⟩ := Option.isSome_iff_exists.mp (hmemc (s.heap.objs.size + 1) hx)
        refine ⟨c, _, hc, X.cell x c hc, hval e fun u hu => ?_, .inl (hC x c (mem_of_lookup hc))⟩
        rw [bindC_lookup (by rw [hkind, hx]; decide) hznd, hu]
    refine (h _ (callEnvC fd s.heap.objs.size a) Φ g1 s1 (ok.deeper hd _) (I1.with fr)).to fun g2 ev2 H2 f s2 l2 I2 q => ?_
    cases f with
    | next => exact ⟨g2, H2, .none, l1.trans l2, I2.core, .none', q⟩
    | ret v => obtain ⟨m, r, q⟩ := q; exact ⟨g2, H2, m, l1.trans l2, I2.core, r, q⟩
    | brk => exact q.elim
    | cont => exact q.elim

theorem WPF.v {f : MV} {args : List MV} {Q : MV → List MObj → Prop} (h : WPF B d f args H Q) (hf : ∀ g v, VR g f v → ∀ g', VR g' f v) : WPV B d f args H Q := fun A fi env Φ g ev s fv vs ok I hfv hv => by
  have l0 : g.le { g with ow := fun a => if isFr (g.ow a) then .pk else g.ow a } := ⟨fun _ _ e => e, fun _ _ e => e⟩
  refine wpAny_call (codeAny_mono (h A _ _ s fv vs ok I.parkFr (hf _ _ hfv _) (hv.mono l0)) fun r s' x => ?_)
  rcases r with e | (v | _ | _ | _)
  · exact x
  all_goals first | exact x | skip
  obtain ⟨g', H', m, l, I', r1, q⟩ := x
  obtain ⟨g2, l2, l3, I2, _⟩ := Inv0.backFr I l I'
  exact ⟨g2, ev, H', l2, I2, rfl, m, r1.mono l3, q⟩
theorem WPF.vc {c : Value} {args : List MV} {Q : MV → List MObj → Prop} (h : WPF B d (.con c) args H Q) : WPV B d (.con c) args H Q := h.v fun g v e g' => by rw [e.inv_con]; exact .con'
end
def calleeOk (w : World) : MV → Bool
  | .con (.builtin _) => true
  | .con (.type _) => true
  | .con (.ref a) => keepIn (Kw w) (.ref a)
  | _ => false

section
variable {B : Bs} {fi : FI} {d : Nat} {ev : List MV} {H : List MObj} {A : Around} {env : Env} {Φ : Addr → Option Obj} {g g' : G} {s s' : Shared}

theorem W_callWith {f : MV} {fv : Value} {first : List MV} {firstv : List Value} {e : Expr} {rest : List Expr} {pos : Pos} {Q : MV → List MObj → Prop} (ok : OkA d A) (I : Inv B fi env Φ g ev H s)
    (hf : VR g f fv) (hc : calleeOk B.w f = true) (hfirst : VRs g first firstv) (he : ∀ env, starEach (e :: rest) env = (false, eval e env) :: starEach rest env)
    (hp : ∀ env, (backTo pos (starEach rest env)).any (·.1) = false) (h : WPEs B fi d (e :: rest) ev H fun ms H2 => WPV B d f (first ++ ms) H2 Q) :
    W B fi env Φ A (callWith pos fv firstv (backTo pos (starEach (e :: rest) env)) []) g s (fun g' ev' H' r => ev' = ev ∧ ∃ m, VR g' m r ∧ Q m H') := by
  have key : ∀ fv, VR g f fv → wpAny B.M A (spliced (backTo pos (starEach (e :: rest) env))) (fun vs s1 => (Kw B.w).In s1.heap ∧ wpAny B.M A (call fv (firstv ++ vs)) (fun v s' => ∃ g' ev' H', g.le g' ∧ Inv B fi env Φ g' ev' H' s' ∧ ev' = ev ∧ ∃ m, VR g' m v ∧ Q m H') (fun _ _ => False) s1) (fun _ _ => False) s := fun fv hf =>
    (h A env Φ g s pos ok I).to fun g1 ev1 H1 vs s1 l1 I1 ⟨e1, ms, rms, hv⟩ => by
      subst e1
      exact ⟨I1.kx, W.back l1 (hv A fi env Φ g1 _ s1 fv _ ok I1 (hf.mono l1) ((hfirst.mono l1).append rms))⟩
  unfold calleeOk at hc
  split at hc
  · rw [hf.inv_con]
    have k := key _ hf; rw [hf.inv_con] at k
    refine Calls.callWith_builtin (by rw [he env]; show (false || (backTo pos (starEach rest env)).any (·.1)) = false; rw [hp env]; rfl) ?_
    rw [he env] at k ⊢
    exact Calls.evalArgs_plain (wpAny_mono k (fun vs s1 h => h.2) fun _ _ x => x)
  · rw [hf.inv_con]
    have k := key _ hf; rw [hf.inv_con] at k
    refine PySem.callWith_type (by rw [he env]; show (false || (backTo pos (starEach rest env)).any (·.1)) = false; rw [hp env]; rfl) ?_
    rw [he env] at k ⊢
    exact Calls.evalArgs_plain (wpAny_mono k (fun vs s1 h => h.2) fun _ _ x => x)
  · rw [hf.inv_con]
    have k := key _ hf; rw [hf.inv_con] at k
    exact callWith_K (h₀ := s.heap) I.kx hc k (he env) (hp env)
  · cases hc

theorem W_callWith0 {f : MV} {fv : Value} {first : List MV} {firstv : List Value} {pos : Pos} {Q : MV → List MObj → Prop} (ok : OkA d A) (I : Inv B fi env Φ g ev H s)
    (hf : VR g f fv) (hc : calleeOk B.w f = true) (hfirst : VRs g first firstv) (h : WPV B d f first H Q) :
    W B fi env Φ A (callWith pos fv firstv (backTo pos (starEach [] env)) []) g s (fun g' ev' H' r => ev' = ev ∧ ∃ m, VR g' m r ∧ Q m H') := by
  have k : wpAny B.M A (call fv (firstv ++ [])) (fun v s' => ∃ g' ev' H', g.le g' ∧ Inv B fi env Φ g' ev' H' s' ∧ ev' = ev ∧ ∃ m, VR g' m v ∧ Q m H') (fun _ _ => False) s := by
    rw [List.append_nil]; exact h A fi env Φ g ev s fv firstv ok I hf hfirst
  unfold calleeOk at hc
  split at hc
  · rw [hf.inv_con] at k ⊢
    exact Calls.callWith_builtin (args := []) rfl (PySem.evalArgs_none k)
  · rw [hf.inv_con] at k ⊢
    exact PySem.callWith_type (args := []) rfl (PySem.evalArgs_none k)
  · rw [hf.inv_con] at k ⊢
    exact callWith_K0 I.kx hc k
  · cases hc

theorem WPE.call {x : Str} {p : Pos} {e : Expr} {rest : List Expr} {pos : Pos} {Q : MV → List MObj → Prop} (he : ∀ env, starEach (e :: rest) env = (false, eval e env) :: starEach rest env)
    (hp : ∀ env, (backTo pos (starEach rest env)).any (·.1) = false)
    (h : WPE B fi d (.Name x p) ev H fun f H1 => calleeOk B.w f = true ∧ WPEs B fi d (e :: rest) ev H1 fun ms H2 => WPV B d f ms H2 Q) : WPE B fi d (.Call (.Name x p) (e :: rest) [] pos) ev H Q := fun A env Φ g s ok I => by
  show wpAny _ _ _ _ _ _
  rw [arm_eval_Call_Name']
  refine wpAny_bind ((h A env Φ g s ok I).to fun g1 ev1 H1 fv s1 l1 I1 ⟨e1, f, rf, hc, h1⟩ => ?_)
  subst e1
  exact W.back l1 (W_callWith (first := []) (firstv := []) ok I1 rf hc (by simp [VRs]) he hp h1)
theorem WPE.call0 {x : Str} {p : Pos} {pos : Pos} {Q : MV → List MObj → Prop} (h : WPE B fi d (.Name x p) ev H fun f H1 => calleeOk B.w f = true ∧ WPV B d f [] H1 Q) : WPE B fi d (.Call (.Name x p) [] [] pos) ev H Q := fun A env Φ g s ok I => by
  show wpAny _ _ _ _ _ _
  rw [arm_eval_Call_Name']
  refine wpAny_bind ((h A env Φ g s ok I).to fun g1 ev1 H1 fv s1 l1 I1 ⟨e1, f, rf, hc, h1⟩ => ?_)
  subst e1
  exact W.back l1 (W_callWith0 (first := []) ok I1 rf hc (by simp [VRs]) h1)

/-! methods -/
def methM (w : World) : MV → Str → List MObj → (MV → List MV → Prop) → Prop
  | .ref i, x, H, Q => (∃ C fs f, H[i]? = some (.inst C fs) ∧ plainGet (Kw w) C x = true ∧ findIn (Kw w) (.ref C) x = some (some (.ref f)) ∧ isFn (Kw w) (.ref f) = true ∧ getF x fs = none ∧ keepIn (Kw w) (.ref f) = true ∧ Q (.con (.ref f)) [.ref i]) ∨
      (∃ vs id, H[i]? = some (.list vs) ∧ (x = "append" ∧ id = "list.append" ∨ x = "extend" ∧ id = "list.extend" ∨ x = "pop" ∧ id = "list.pop") ∧ Q (.con (.builtin id)) [.ref i])
  | _, _, _, _ => False

theorem getF_none {P : Params} {g : G} {x : Str} : ∀ {fs : List (Str × MV)} {es : List DictEntry}, VRf P g fs es → getF x fs = none → getL x es = some none
  | [], _, h, _ => by cases h; rfl
  | (y, m') :: fs, _, h, e => by
    obtain ⟨t, v, r, rfl, h1, h2⟩ := h
    unfold getF at e
    have hk : (Value.str y t).isStr x = (y == x) := rfl
    by_cases hx : (y == x) = true
    · rw [if_pos hx] at e; cases e
    · rw [if_neg hx] at e
      have ih := getF_none h2 e
      have hx' : (y == x) = false := by simpa using hx
      unfold getL at ih ⊢
      simp only [List.find?_cons, hk, hx']
      have hr : (DictEntry.mk (PyData.keyHash P y) (Value.str y t) v).refKey = false := rfl
      cases hf : List.find? (fun x_1 => x_1.key.isStr x) r with
      | some e' => rw [hf] at ih; cases ih
      | none => rw [hf] at ih; simp only [List.any_cons, hr, Bool.false_or] at ih ⊢; exact ih

theorem W_meth {o : MV} {ov : Value} {x : Str} {pl : Sem Bool} {Q : MV → List MV → Prop} (I : Inv B fi env Φ g ev H s) (ho : VR g o ov) (hq : methM B.w o x H Q) :
    W B fi env Φ A (getMethod ov x pl) g s (fun g' ev' H' r => (ev' = ev ∧ H' = H ∧ g' = g) ∧ ∃ f first, VR g' f r.1 ∧ VRs g' first r.2 ∧ calleeOk B.w f = true ∧ Q f first) := by
  unfold methM at hq
  split at hq
  · rcases hq with ⟨C, fs, f, h1, h2, h3, h4, h5, h6, h7⟩ | ⟨vs, id, h1, h2, h3⟩
    · obtain ⟨a, dx, es, n, rfl, e1, e2, e3, e4, e5, e6, e7, IA⟩ := instOf (I := I) ho h1
      refine method_fn I.kx IA (plainGet_of h2).1 (plainGet_of h2).2 h3 (beq_iff_eq.mp h4) (by show (lookIn x (dictOf es n)).map _ = _; rw [lookIn_dict, getF_none e7 h5]; rfl)
        ⟨g, ev, H, .refl g, I, ⟨rfl, rfl, rfl⟩, .con (.ref f), [.ref _], .con', ?_, h6, h7⟩
      simp only [VRs]; exact ⟨_, _, rfl, ho, rfl⟩
    · obtain ⟨a, items, n, rfl, e1, e2, e3, e4⟩ := I.list ho h1
      have fin : ∀ id, Q (.con (.builtin id)) [.ref _] → ∃ g' ev' H', g.le g' ∧ Inv B fi env Φ g' ev' H' s ∧ (ev' = ev ∧ H' = H ∧ g' = g) ∧ ∃ f first, VR g' f (Value.builtin id) ∧ VRs g' first [Value.ref a] ∧ calleeOk B.w f = true ∧ Q f first :=
        fun id q => ⟨g, ev, H, .refl g, I, ⟨rfl, rfl, rfl⟩, .con (.builtin id), [.ref _], .con', by simp only [VRs]; exact ⟨_, _, rfl, ho, rfl⟩, rfl, q⟩
      rcases h2 with ⟨rfl, rfl⟩ | ⟨rfl, rfl⟩ | ⟨rfl, rfl⟩
      · exact getMethod_list_of F.slot_list_append F.type_list_append (isListOf e3) (by exact ⟨_, e3, rfl⟩) (fin _ h3)
      · exact getMethod_list_of F.slot_list_extend F.type_list_extend (isListOf e3) (by exact ⟨_, e3, rfl⟩) (fin _ h3)
      · exact getMethod_list_of F.slot_list_pop F.type_list_pop (isListOf e3) (by exact ⟨_, e3, rfl⟩) (fin _ h3)
  · exact hq.elim

theorem WPE.meth {o : Expr} {x : Str} {ap pos : Pos} {e : Expr} {rest : List Expr} {pl : Env → Sem Bool} {Q : MV → List MObj → Prop}
    (hev : ∀ env, eval (.Call (.Attribute o x ap) (e :: rest) [] pos) env = (do
      let ov ← eval o env
      standAt ap.atName
      let (f, first) ← holding [ov] (getMethod ov x (pl env))
      callWith pos f first (backTo pos (starEach (e :: rest) env)) []))
    (he : ∀ env, starEach (e :: rest) env = (false, eval e env) :: starEach rest env) (hp : ∀ env, (backTo pos (starEach rest env)).any (·.1) = false)
    (h : WPE B fi d o ev H fun ov H1 => methM B.w ov x H1 fun f first => WPEs B fi d (e :: rest) ev H1 fun ms H2 => WPV B d f (first ++ ms) H2 Q) : WPE B fi d (.Call (.Attribute o x ap) (e :: rest) [] pos) ev H Q := fun A env Φ g s ok I => by
  refine MethodCall_ (pl := pl env) ((h A env Φ g s ok I).to fun g1 ev1 H1 v s1 l1 I1 ⟨e1, ov, ro, h1⟩ => ?_) (hev env)
  subst e1
  refine (W_meth I1 ro h1).to fun g2 ev2 H2 r s2 l2 I2 ⟨⟨q1, q2, q3⟩, f, first, rf, rfst, hc, hq⟩ => ?_
  subst q1 q2 q3
  exact W.back l1 (W_callWith ok I2 rf hc rfst he hp hq)
theorem WPE.meth0 {o : Expr} {x : Str} {ap pos : Pos} {pl : Env → Sem Bool} {Q : MV → List MObj → Prop}
    (hev : ∀ env, eval (.Call (.Attribute o x ap) [] [] pos) env = (do
      let ov ← eval o env
      standAt ap.atName
      let (f, first) ← holding [ov] (getMethod ov x (pl env))
      callWith pos f first (backTo pos (starEach [] env)) []))
    (h : WPE B fi d o ev H fun ov H1 => methM B.w ov x H1 fun f first => WPV B d f first H1 Q) : WPE B fi d (.Call (.Attribute o x ap) [] [] pos) ev H Q := fun A env Φ g s ok I => by
  refine MethodCall_ (pl := pl env) ((h A env Φ g s ok I).to fun g1 ev1 H1 v s1 l1 I1 ⟨e1, ov, ro, h1⟩ => ?_) (hev env)
  subst e1
  refine (W_meth I1 ro h1).to fun g2 ev2 H2 r s2 l2 I2 ⟨⟨q1, q2, q3⟩, f, first, rf, rfst, hc, hq⟩ => ?_
  subst q1 q2 q3
  exact W.back l1 (W_callWith0 ok I2 rf hc rfst hq)
end
section
variable {B : Bs} {fi : FI} {d : Nat} {ev : List MV} {H : List MObj} {A : Around} {env : Env} {Φ : Addr → Option Obj} {g g' : G} {s s' : Shared}

theorem big : (100000 : Nat) ≤ sizeLine := by decide
theorem VRs.one {m : MV} {vs : List Value} (h : VRs g [m] vs) : ∃ v, vs = [v] ∧ VR g m v := by
  simp only [VRs] at h; obtain ⟨v, r, rfl, h1, rfl⟩ := h; exact ⟨v, rfl, h1⟩
theorem VRs.two {m n : MV} {vs : List Value} (h : VRs g [m, n] vs) : ∃ v u, vs = [v, u] ∧ VR g m v ∧ VR g n u := by
  simp only [VRs] at h; obtain ⟨v, r, rfl, h1, u, r', rfl, h2, rfl⟩ := h; exact ⟨v, u, rfl, h1, h2⟩

theorem WPV.len {j : Nat} {vs : List MV} {Q : MV → List MObj → Prop} (hj : H[j]? = some (.list vs)) (hs : vs.length ≤ 100000) (h : Q (.int vs.length) H) : WPV B d (.con (.builtin "len")) [.ref j] H Q :=
  fun A fi env Φ g ev s fv ws ok I hf hv => by
    rw [hf.inv_con]
    obtain ⟨v, rfl, hm1⟩ := hv.one
    obtain ⟨a, items, n, rfl, -, -, e, r⟩ := I.list hm1 hj
    exact Calls.call_len_list (isListOf e) (by rw [r.size]; omega) ⟨g, ev, H, .refl g, I.toks _, rfl, .int vs.length, by rw [r.size]; exact .int', h⟩

theorem WPV.list {j : Nat} {vs : List MV} {Q : MV → List MObj → Prop} (hj : H[j]? = some (.list vs)) (hs : vs.length ≤ 100000) (h : Q (.ref H.length) (H ++ [.list vs])) : WPV B d (.con (.type "list")) [.ref j] H Q :=
  fun A fi env Φ g ev s fv ws ok I hf hv => by
    rw [hf.inv_con]
    obtain ⟨v, rfl, hm1⟩ := hv.one
    obtain ⟨a, items, n, rfl, -, -, e, r⟩ := I.list hm1 hj
    refine call_list_seq (T := "list") a (.inl rfl) e rfl rfl (fun h' c' hk hn => ?_) (by rw [r.size]; exact Nat.le_trans hs (by decide))
    have I1 : Inv B fi env Φ g ev H { s with heap := h' } := I.step rfl rfl fun b o _ e => hk b o e
    have hl : g.le (g.more s.heap.objs.size) := ⟨fun _ _ e => e, fun i b e => by
      show (g.σ ++ [s.heap.objs.size])[i]? = some b
      rw [List.getElem?_append_left (List.getElem?_eq_some_iff.mp e).1]; exact e⟩
    obtain ⟨l, I2, hσ⟩ := I1.live1 (o := .list vs) I.big I.szn hn ⟨items, c', hn, r.mono hl⟩
    exact ⟨_, ev, _, l, I2, rfl, _, .ref' hσ, h⟩

theorem WPV.min {a b : Int} {Q : MV → List MObj → Prop} (h : Q (.int (if b < a then b else a)) H) : WPV B d (.con (.builtin "min")) [.int a, .int b] H Q :=
  fun A fi env Φ g ev s fv ws ok I hf hv => by
    rw [hf.inv_con]
    obtain ⟨v, u, rfl, h1, h2⟩ := hv.two
    obtain ⟨t, rfl⟩ := h1.inv_int; obtain ⟨t', rfl⟩ := h2.inv_int
    refine min_two_ints ok.1 fun h' tk hk => ?_
    refine ⟨g, ev, H, .refl g, I.step rfl rfl (fun b o _ e => hk b o e), rfl, _, ?_, h⟩
    split <;> exact .int'
theorem WPV.max {a b : Int} {Q : MV → List MObj → Prop} (h : Q (.int (if b > a then b else a)) H) : WPV B d (.con (.builtin "max")) [.int a, .int b] H Q :=
  fun A fi env Φ g ev s fv ws ok I hf hv => by
    rw [hf.inv_con]
    obtain ⟨v, u, rfl, h1, h2⟩ := hv.two
    obtain ⟨t, rfl⟩ := h1.inv_int; obtain ⟨t', rfl⟩ := h2.inv_int
    refine max_two_ints ok.1 fun h' tk hk => ?_
    refine ⟨g, ev, H, .refl g, I.step rfl rfl (fun b o _ e => hk b o e), rfl, _, ?_, h⟩
    split <;> exact .int'

theorem Answers.of_false_bytes {x : Array UInt8} {u : Tok} {T : String} (hne : (Value.type "bytes" == Value.type T) = false) (hty : typeOf (.type T) = pure (.type "type")) (hsub : isSubtype (.type "bytes") (.type T) = pure false) :
    Answers (fun s => s.TypeIs (.bytes x u) "bytes") (.bytes x u) (.type T) false :=
  fun _ _ _ _ _ _ s hs => by
    obtain ⟨h, g, d, t, os⟩ := s
    exact isinstance_nested_false_bytes hne hty hsub (hs.2 (t + 1))
theorem isSubtype_bytes_bytes : isSubtype (.type "bytes") (.type "bytes") = pure true := by rw [isSubtype_type]; kernel_rfl
theorem isSubtype_bytes_str : isSubtype (.type "bytes") (.type "str") = pure false := by rw [isSubtype_type]; kernel_rfl

theorem WPV.isStr {b : List UInt8} {Q : MV → List MObj → Prop} (h : Q (.bool false) H) : WPV B d (.con (.builtin "isinstance")) [.bytes b, .con (.type "str")] H Q :=
  fun A fi env Φ g ev s fv ws ok I hf hv => by
    rw [hf.inv_con]
    obtain ⟨v, u, rfl, h1, h2⟩ := hv.two
    obtain ⟨t, rfl⟩ := h1.inv_bytes; rw [h2.inv_con]
    obtain ⟨hp, gg, dd, tk, os⟩ := s
    exact call_isinstance_of (isinstance_nested_false_bytes (by decide +kernel) F.isi_meta_str isSubtype_bytes_str ⟨g, ev, H, .refl g, I.toks _, rfl, .bool false, .bool', h⟩) (by intro e; cases e)
theorem isi_meta_bytes' : typeOf (.type "bytes") = pure (.type "type") := F.isi_meta_bytes
theorem WPV.isBs {b : List UInt8} {Q : MV → List MObj → Prop} (h : Q (.bool true) H) : WPV B d (.con (.builtin "isinstance")) [.bytes b, .tup [.con (.type "bytes"), .con (.type "str")]] H Q :=
  fun A fi env Φ g ev s fv ws ok I hf hv => by
    rw [hf.inv_con]
    obtain ⟨v, u, rfl, h1, h2⟩ := hv.two
    obtain ⟨t, rfl⟩ := h1.inv_bytes
    obtain ⟨a, items, n, rfl, e, r⟩ := h2.inv_tup
    simp only [VRs] at r
    obtain ⟨v1, r1, e1, x1, v2, r2, e2, x2, e3⟩ := r
    subst e3 e2
    rw [x1.inv_con, x2.inv_con] at e1
    have hi : items = [Value.type "bytes", Value.type "str"].toArray := by apply Array.ext'; simpa using e1
    refine call_isinstance (isinstance_tuple (Tx := "bytes") (vs := [true, false]) (cs := [.type "bytes", .type "str"]) ⟨Answers.of_true F.isi_meta_bytes isSubtype_bytes_bytes, Answers.of_false_bytes (by decide +kernel) F.isi_meta_str isSubtype_bytes_str, trivial⟩)
      ⟨rfl, by rw [← hi]; exact (I.F _ _ e).1, fun tk => ?_⟩
    exact ⟨g, ev, H, .refl g, I.toks tk, rfl, .bool true, .bool', h⟩

theorem ints_get {ns : List Int} {vs : List Value} (h : VRs g (ns.map .int) vs) (i : Nat) (v : Value) (e : vs[i]? = some v) : ∃ t, v = .int (ns.getD i 0) t := by
  obtain ⟨m, e1, r⟩ := h.at e
  rw [List.getElem?_map] at e1
  obtain ⟨n, e2, rfl⟩ := Option.map_eq_some_iff.mp e1
  obtain ⟨t, rfl⟩ := r.inv_int
  exact ⟨t, by simp [List.getD, e2]⟩
theorem preSum_sum (ns : List Int) : ∀ k, k ≤ ns.length → preSum (fun i => ns.getD i 0) k = (ns.take k).sum
  | 0, _ => by simp [preSum]
  | k + 1, hk => by
    rw [preSum, preSum_sum ns k (by omega)]
    have : ns[k]? = some ns[k] := List.getElem?_eq_getElem (by omega)
    rw [List.take_succ, this, List.sum_append]
    simp [List.getD, this]
theorem WPV.sum {j : Nat} {ns : List Int} {Q : MV → List MObj → Prop} (hj : H[j]? = some (.list (ns.map .int))) (h : Q (.int ns.sum) H) : WPV B d (.con (.builtin "sum")) [.ref j] H Q :=
  fun A fi env Φ g ev s fv ws ok I hf hv => by
    rw [hf.inv_con]
    obtain ⟨v, rfl, hm1⟩ := hv.one
    obtain ⟨a, items, n, rfl, -, -, e, r⟩ := I.list hm1 hj
    have hlt := Heap.lt_size e
    refine call_sum_walkG (wpAny_pyIter_list (isListOf e) ⟨s.heap.objs.size, _, _, _, _, _, fun i => ns.getD i 0, rfl, Walks.list (A := A.in1) ok.1 _ a (Nat.ne_of_lt hlt) items, ⟨⟨_, Heap.get?_push_size _ rfl, rfl, rfl⟩, (isListOf e).push _⟩,
      fun b hb => ?_, fun i v hiv => ints_get r i v (by simpa using hiv), fun h' tk t' hk => ?_⟩)
    · simp only [List.mem_cons, List.not_mem_nil, or_false] at hb
      rw [Heap.size_push]
      rcases hb with h' | h'
      · rw [h']; exact Nat.lt_succ_self _
      · rw [h']; exact Nat.lt_succ_of_lt hlt
    · refine ⟨g, ev, H, .refl g, I.step rfl rfl (fun b o hb e => hk b o (by simp only [List.mem_singleton]; rintro rfl; exact hb I.szn) (Heap.get?_push_of_some _ e)), rfl, .int ns.sum, ?_, h⟩
      have : preSum (fun i => ns.getD i 0) items.size = ns.sum := by
        rw [r.size, List.length_map, preSum_sum ns _ (Nat.le_refl _), List.take_length]
      rw [this]; exact .int'

/-! list methods -/
theorem W_updList {j : Nat} {a : Addr} {items : Array Value} {n : Nat} {ms : List MV} {f : Array Value → Array Value} (I : Inv B fi env Φ g ev H s) (h1 : g.σ[j]? = some a) (h2 : g.ow a = .lv j) (e : s.heap.get? a = some (listObj items n)) (r : VRs g ms (f items).toList) :
    Inv B fi env Φ g ev (H.set j (.list ms)) { s with heap := s.heap.update a (Obj.mapSeq f) } := by
  have D' : ∃ n', (s.heap.update a (Obj.mapSeq f)).get? a = some (listObj (f items) n') := ⟨_, IsL.update (h := s.heap) (l := a) (items := items) (n := n) e f⟩
  obtain ⟨n', D'⟩ := D'
  exact I.upd h1 rfl rfl (fun b p e1 e2 e3 => (Heap.get?_update_other _ _ (fun q => by subst q; exact e2 h2)).trans e3) (upd_none D') ⟨_, n', D', r⟩

theorem WPV.append {j : Nat} {vs : List MV} {m : MV} {Q : MV → List MObj → Prop} (hj : H[j]? = some (.list vs)) (hs : vs.length ≤ 100000) (h : Q .none (H.set j (.list (vs ++ [m])))) : WPV B d (.con (.builtin "list.append")) [.ref j, m] H Q :=
  fun A fi env Φ g ev s fv ws ok I hf hv => by
    rw [hf.inv_con]
    obtain ⟨v, u, rfl, hm1, hm⟩ := hv.two
    obtain ⟨a, items, n, rfl, h1, h2, e, r⟩ := I.list hm1 hj
    have hr : VRs g (vs ++ [m]) (items.push u).toList := by rw [Array.toList_push]; exact r.append (by simp only [VRs]; exact ⟨_, _, rfl, hm, rfl⟩)
    exact call_meets F.slot_list_append ⟨_, e, rfl⟩ F.entry_list_append (F.args_list_append_2 _ _) (list_append a items n u (by rw [r.size]; exact Nat.le_trans hs (by decide))) ⟨e, g, ev, _, .refl g, W_updList (f := fun x => x.push u) I h1 h2 e hr, rfl, .none, .none', h⟩

theorem WPV.extend {j k : Nat} {vs us : List MV} {Q : MV → List MObj → Prop} (hj : H[j]? = some (.list vs)) (hk : H[k]? = some (.list us)) (hs : vs.length + us.length ≤ 100000) (h : Q .none (H.set j (.list (vs ++ us)))) :
    WPV B d (.con (.builtin "list.extend")) [.ref j, .ref k] H Q :=
  fun A fi env Φ g ev s fv ws ok I hf hv => by
    rw [hf.inv_con]
    obtain ⟨v, u, rfl, hm1, hm⟩ := hv.two
    obtain ⟨a, items, n, rfl, h1, h2, e, r⟩ := I.list hm1 hj
    obtain ⟨b, items2, n2, rfl, h1', h2', e', r'⟩ := I.list hm hk
    have hr : VRs g (vs ++ us) (items ++ items2).toList := by rw [Array.toList_append]; exact r.append r'
    have hz : items.size + items2.size ≤ 100000 := by rw [r.size, r'.size]; exact hs
    exact call_meets F.slot_list_extend ⟨_, e, rfl⟩ F.entry_list_extend (F.args_list_extend_2 _ _) (AutoSeq1.list_extend_list_list_0 a items n b items2 n2 (by simp [Builtin.List.listTooLong, sizeLine]; omega) (by have := big; omega) (by have := big; omega))
      ⟨e, e', g, ev, _, .refl g, W_updList (f := fun x => x ++ items2) I h1 h2 e hr, rfl, .none, .none', h⟩

theorem VRs.erase : ∀ {ms : List MV} {vs : List Value} (i : Nat), VRs g ms vs → VRs g (ms.eraseIdx i) (vs.eraseIdx i)
  | [], _, i, h => by simp only [VRs] at h; subst h; simp [VRs]
  | x :: xs, _, i, h => by
    simp only [VRs] at h
    obtain ⟨v, r, rfl, h1, h2⟩ := h
    cases i with
    | zero => simpa using h2
    | succ i => simp only [List.eraseIdx_cons_succ, VRs]; exact ⟨_, _, rfl, h1, VRs.erase i h2⟩
theorem erase_toList (items : Array Value) (i : Nat) : (items.eraseIdxIfInBounds i).toList = items.toList.eraseIdx i := by
  unfold Array.eraseIdxIfInBounds
  split
  · rw [Array.toList_eraseIdx]
  · rw [List.eraseIdx_of_length_le]; simp; omega

theorem WPV.pop {j : Nat} {vs : List MV} {m : MV} {Q : MV → List MObj → Prop} (hj : H[j]? = some (.list vs)) (hs : vs.length ≤ 100000) (hm : vs[vs.length - 1]? = some m) (h : Q m (H.set j (.list (vs.eraseIdx (vs.length - 1))))) : WPV B d (.con (.builtin "list.pop")) [.ref j] H Q :=
  fun A fi env Φ g ev s fv ws ok I hf hv => by
    rw [hf.inv_con]
    obtain ⟨v, rfl, hm1⟩ := hv.one
    obtain ⟨a, items, n, rfl, h1, h2, e, r⟩ := I.list hm1 hj
    obtain ⟨u, eu, ru⟩ := r.get hm
    have hr : VRs g (vs.eraseIdx (vs.length - 1)) (items.eraseIdxIfInBounds (items.size - 1)).toList := by rw [erase_toList, r.size]; exact r.erase _
    exact call_meets F.slot_list_pop ⟨_, e, rfl⟩ F.entry_list_pop (F.args_list_pop_1 _) (MeetsSeq.list_pop_last a items n u (by rw [r.size]; simpa using eu) (by rw [r.size]; exact Nat.le_trans hs (by decide)))
      ⟨e, g, ev, _, .refl g, W_updList (f := fun xs => xs.eraseIdxIfInBounds (items.size - 1)) I h1 h2 e hr, rfl, m, ru, h⟩

theorem WPV.pop0 {j : Nat} {vs : List MV} {m : MV} {Q : MV → List MObj → Prop} (hj : H[j]? = some (.list (m :: vs))) (hs : vs.length ≤ 99999) (h : Q m (H.set j (.list vs))) : WPV B d (.con (.builtin "list.pop")) [.ref j, .int 0] H Q :=
  fun A fi env Φ g ev s fv ws ok I hf hv => by
    rw [hf.inv_con]
    obtain ⟨v, u, rfl, hm1, hi⟩ := hv.two
    obtain ⟨t, rfl⟩ := hi.inv_int
    obtain ⟨a, items, n, rfl, h1, h2, e, r⟩ := I.list hm1 hj
    obtain ⟨u, eu, ru⟩ := r.get (i := 0) (m := m) rfl
    have hr : VRs g vs (items.eraseIdxIfInBounds 0).toList := by rw [erase_toList]; exact r.erase 0
    have hz : items.size = vs.length + 1 := by rw [r.size]; rfl
    exact call_meets F.slot_list_pop ⟨_, e, rfl⟩ F.entry_list_pop (F.args_list_pop_2 _ _) (MeetsSeq.list_pop_at a items n 0 t 0 u (by decide) (by rw [hz]; simp [seqIndex?]) (by simpa using eu) (by rw [hz]; have := big; omega))
      ⟨e, g, ev, _, .refl g, W_updList (f := fun xs => xs.eraseIdxIfInBounds 0) I h1 h2 e hr, rfl, m, ru, h⟩
end
section
variable {B : Bs} {fi : FI} {d : Nat} {ev : List MV} {H : List MObj} {A : Around} {env : Env} {Φ : Addr → Option Obj} {g g' : G} {s s' : Shared}

theorem Inv0.szn (I : Inv0 B Φ g H s) : g.ow s.heap.objs.size = .no := I.sz _ (Heap.get?_none_of_le (Nat.le_refl _))
theorem Inv0.kx (I : Inv0 B Φ g H s) : (Kw B.w).In s.heap := B.kx.keeps fun a o e => (I.F a o (I.hb a o e)).1
theorem Inv0.step (I : Inv0 B Φ g H s) (hg : s'.gens = s.gens) (ho : s'.os = s.os) (hk : ∀ a o, s.heap.get? a = some o → s'.heap.get? a = some o) : Inv0 B Φ g H s' where
  gens := hg.trans I.gens
  os := ho.trans I.os
  F := fun a o e => ⟨hk _ _ (I.F a o e).1, (I.F a o e).2⟩
  hb := I.hb
  pk := I.pk
  Φ := fun a o e => ⟨hk _ _ (I.Φ a o e).1, (I.Φ a o e).2⟩
  sz := fun a e => by
    cases hq : s.heap.get? a with
    | none => exact I.sz a hq
    | some o => rw [hk a o hq] at e; cases e
  lo := I.lo
  len := I.len
  live := fun i a o h1 h2 => ⟨(I.live i a o h1 h2).1, (I.live i a o h1 h2).2.keep (.refl g) (I.live i a o h1 h2).1 (fun a o e => (I.F a o e).2) fun b o _ => hk b o⟩
theorem Inv0.own1 (I : Inv0 B Φ g H s) {a : Addr} {p : Obj} {n : Nat} (h1a : 1 < a) (ha : g.ow a = .no) (hp : s.heap.get? a = some p) : Inv0 B Φ (g.own a (.lv n)) H s := by
  have st : ∀ b, g.ow b ≠ .no → (if b = a then Ow.lv n else g.ow b) = g.ow b := fun b h => by rw [if_neg (fun q => by subst q; exact h ha)]
  have nw : ∀ b, b ≠ a → (if b = a then Ow.lv n else g.ow b) = g.ow b := fun b h => by rw [if_neg h]
  exact {
    gens := I.gens, os := I.os
    F := fun b o e => ⟨(I.F b o e).1, (st b (by rw [(I.F b o e).2]; intro q; cases q)).trans (I.F b o e).2⟩
    hb := I.hb
    pk := fun b e => by
      have e' : (if b = a then Ow.lv n else g.ow b) = .pk := e
      by_cases q : b = a
      · rw [if_pos q] at e'; cases e'
      · rw [if_neg q] at e'; exact I.pk b e'
    Φ := fun b o e => ⟨(I.Φ b o e).1, (st b (by rw [(I.Φ b o e).2]; intro q; cases q)).trans (I.Φ b o e).2⟩
    sz := fun b e => (nw b (fun q => by subst q; rw [hp] at e; cases e)).trans (I.sz b e)
    lo := fun b i e => by
      have e' : (if b = a then Ow.lv n else g.ow b) = .lv i := e
      by_cases q : b = a
      · rw [q]; exact h1a
      · rw [if_neg q] at e'; exact I.lo b i e'
    len := I.len
    live := fun i b o h1 h2 => by
      obtain ⟨x, y⟩ := I.live i b o h1 h2
      exact ⟨(st b (by rw [x]; intro q; cases q)).trans x, y.own fun c e => (st c (by rw [e]; intro q; cases q)).trans e⟩ }
theorem Inv0.live1 (I : Inv0 B Φ g H s) {a : Addr} {o : MObj} {p : Obj} (h1a : 1 < a) (ha : g.ow a = .no) (hp : s.heap.get? a = some p)
    (hl : LiveOk B (g.more a) s.heap H.length a o) : g.le (g.more a) ∧ Inv0 B Φ (g.more a) (H ++ [o]) s ∧ (g.more a).σ[H.length]? = some a := by
  have l : g.leo (g.more a) := ⟨⟨fun _ _ e => e, fun i b e => by
      show (g.σ ++ [a])[i]? = some b
      rw [List.getElem?_append_left (List.getElem?_eq_some_iff.mp e).1]; exact e⟩,
    fun b hb => by show (if b = a then _ else _) = _; rw [if_neg (by intro e; subst e; exact hb ha)]⟩
  have hσ : (g.more a).σ[H.length]? = some a := by show (g.σ ++ [a])[H.length]? = some a; rw [← I.len]; simp
  refine ⟨l.le, ?_, hσ⟩
  exact {
    gens := I.gens, os := I.os
    F := fun b p e => ⟨(I.F b p e).1, (l.ow b (by rw [(I.F b p e).2]; intro e; cases e)).trans (I.F b p e).2⟩
    hb := I.hb
    pk := fun b e => by
      have e' : (if b = a then Ow.lv g.σ.length else g.ow b) = .pk := e
      by_cases q : b = a
      · rw [if_pos q] at e'; cases e'
      · rw [if_neg q] at e'; exact I.pk b e'
    Φ := fun b p e => ⟨(I.Φ b p e).1, (l.ow b (by rw [(I.Φ b p e).2]; intro e; cases e)).trans (I.Φ b p e).2⟩
    sz := fun b hb => by
      show (if b = a then _ else _) = _
      rw [if_neg (by intro e; subst e; rw [hp] at hb; cases hb)]; exact I.sz b hb
    lo := fun b i e => by
      have e' : (if b = a then Ow.lv g.σ.length else g.ow b) = .lv i := e
      by_cases q : b = a
      · rw [q]; exact h1a
      · rw [if_neg q] at e'; exact I.lo b i e'
    len := by show (g.σ ++ [a]).length = (H ++ [o]).length; simp [I.len]
    live := fun i b q h1 h2 => by
      by_cases hi : i < H.length
      · have h1' : g.σ[i]? = some b := by
          have h1 : (g.σ ++ [a])[i]? = some b := h1
          rwa [List.getElem?_append_left (by rw [I.len]; exact hi)] at h1
        rw [List.getElem?_append_left hi] at h2
        obtain ⟨x, y⟩ := I.live i b q h1' h2
        exact ⟨(l.ow b (by rw [x]; intro e; cases e)).trans x, y.keep l x (fun a o e => (I.F a o e).2) fun _ _ _ e => e⟩
      · have : i = H.length := by
          have := (List.getElem?_eq_some_iff.mp h2).1
          simp at this; omega
        subst this
        rw [hσ] at h1; cases h1
        simp at h2; subst h2
        exact ⟨by show (if a = a then _ else _) = _; rw [if_pos rfl, I.len], hl⟩ }

theorem OkA.newC {d : Nat} {A : Around} (h : OkA d A) (hd : 0 < d) (vs : List Value) (C : Addr) : OkA (d - 1) (A.under (.builtin "type.__call__" ⟨.ref C :: vs, []⟩)) := by
  obtain ⟨h1, h2, h3⟩ := h
  have hw : (Code.builtin "type.__call__" ⟨.ref C :: vs, []⟩).weight ≤ 2 := by simp [Code.weight, Code.frames, Code.isCreation, Code.isGuard, Code.isCaller, guardIds]; split <;> omega
  have hu : (Code.builtin "type.__call__" ⟨.ref C :: vs, []⟩).cUnits ≤ 20 := by simp [Code.cUnits, Code.frames]; split <;> omega
  refine ⟨h1, ?_, ?_⟩
  · show A.depth + _ + 2 * (d - 1) + 2 < 1000; omega
  · show A.units + _ + 30 * (d - 1) + 30 < cLine; omega

/-- an instance is made -/
theorem WPF.cls {C fI : Addr} {args : List MV} {Q : MV → List MObj → Prop} (hm : makesIn (Kw B.w) C = true) (hi : findIn (Kw B.w) (.ref C) "__init__" = some (some (.ref fI))) (hf : typeIn (Kw B.w) (.ref fI) = some (.type "function")) (hd : 0 < d)
    (h : WPF B (d - 1) (.con (.ref fI)) (.ref H.length :: args) (H ++ [.inst C []]) (fun m H' => m = .none ∧ Q (.ref H.length) H')) : WPF B d (.con (.ref C)) args H Q := fun A Φ g s fv vs ok I hfv hv => by
  rw [hfv.inv_con]
  have X := I.kx
  have big : 1 < s.heap.objs.size := by
    obtain ⟨_, _, T⟩ := B.tr
    exact Nat.lt_trans (by decide) ((T.keeps fun a o e => (I.F a o (I.hb a o e)).1).g.lt)
  obtain ⟨hh, gg, dd, t, os⟩ := s
  dsimp only at X big
  refine make_core (makes_of X hm) (looks_findIn X hi) (fun self => bind_fn X self hf) (.inl rfl) ?_
  have I1 : Inv0 B Φ g H ⟨(hh.push emptyDict).push (instObj C hh.objs.size), gg, dd, t, os⟩ := I.step rfl rfl fun a o e => Heap.get?_push_of_some _ (Heap.get?_push_of_some _ e)
  have hz : (hh.push emptyDict).objs.size = hh.objs.size + 1 := Heap.size_push ..
  have hd1 : ((hh.push emptyDict).push (instObj C hh.objs.size)).get? hh.objs.size = some emptyDict := Heap.get?_push_of_some _ (Heap.get?_push_size _ rfl)
  have hd2 : ((hh.push emptyDict).push (instObj C hh.objs.size)).get? (hh.objs.size + 1) = some (instObj C hh.objs.size) := by rw [← hz]; exact Heap.get?_push_size _ rfl
  have n1 : g.ow hh.objs.size = .no := I.szn
  have n2 : g.ow (hh.objs.size + 1) = .no := I.sz _ (Heap.get?_none_of_le (Nat.le_succ _))
  have I2 := I1.own1 (n := H.length) big n1 hd1
  have hne : hh.objs.size + 1 ≠ hh.objs.size := Nat.succ_ne_self _
  have n3 : (g.own hh.objs.size (.lv H.length)).ow (hh.objs.size + 1) = .no := by show (if _ then _ else _) = _; rw [if_neg hne]; exact n2
  have l0 : g.le (g.own hh.objs.size (.lv H.length)) := ⟨fun _ _ e => e, fun _ _ e => e⟩
  obtain ⟨l3, I3, hσ⟩ := I2.live1 (o := .inst C []) (Nat.lt_succ_of_lt big) n3 hd2 ⟨hh.objs.size, [], 0, hd2, hd1, by
    show (if hh.objs.size = hh.objs.size + 1 then _ else (if hh.objs.size = hh.objs.size then _ else _)) = _
    rw [if_neg (Ne.symm hne), if_pos rfl], hne, rfl⟩
  have lt := l0.trans l3
  refine codeAny_mono (h _ Φ _ _ (.ref fI) (.ref (hh.objs.size + 1) :: vs) (ok.newC hd vs C) I3 .con' (by simp only [VRs]; exact ⟨_, _, rfl, .ref' hσ, hv.mono lt⟩)) fun r s' x => ?_
  rcases r with e | (v | _ | _ | _)
  · exact x.elim
  all_goals first | exact x.elim | skip
  obtain ⟨g', H', m, l, I', r1, rfl, q⟩ := x
  exact ⟨r1.inv_none, g', H', .ref H.length, lt.trans l, I', .ref' (l.σ _ _ hσ), q⟩
end
def rangeL (x c : Int) : Nat → List MV
  | 0 => []
  | n + 1 => .int x :: rangeL (x + c) c n
def rangeM : List MV → Option (Int × Int × Int)
  | [.int n] => some (0, n, 1)
  | [.int a, .int b] => some (a, b, 1)
  | [.int a, .int b, .int c] => some (a, b, c)
  | _ => none
abbrev rangeObjI (x left c : Int) : Obj := { cls := .type "range_iterator", dict := none, data := .fields #[rawInt x, rawInt left, rawInt c], slots := #[] }
def PR (it : Addr) (c : Int) (ms : List MV) (Ψ : Addr → Option Obj) : Prop := ∃ x left : Int, Ψ = one it (rangeObjI x left c) ∧ ms = rangeL x c left.toNat

section
variable {B : Bs} {fi : FI} {d : Nat} {ev : List MV} {H : List MObj} {A : Around} {env : Env} {Φ : Addr → Option Obj} {g g' : G} {s s' : Shared}

theorem iterOk_range {tg : Expr} {it : Addr} {g0 : G} {c : Int} : IterOk B tg it g0 (fun _ => True) (PR it c) where
  cell := fun ms Ψ ⟨x, left, e, _⟩ a p v q => by
    subst e
    obtain ⟨rfl, rfl⟩ := one_some q
    intro q; cases q
  self := fun A fi env Φ g ev H s ms Ψ Q E ok l I hp ⟨x, left, e, h3⟩ hq => by
    subst e
    exact wpAny_pyIter_rangeiter (hp _ _ one_self).1 hq
  next := fun A fi env Φ g ev H s m ms Ψ ok l I hp hc ⟨x, left, e, h3⟩ => by
    subst e
    obtain ⟨e1, e2⟩ := hp _ _ one_self
    cases hn : left.toNat with
    | zero => rw [hn] at h3; cases h3
    | succ n =>
      rw [hn] at h3
      injection h3 with h4 h5
      subst h4
      have hl : 0 < left := by omega
      refine wpAny_pyNext_range_item e1 hl fun h' y1 hs => ⟨_, rfl, letOwned_plain y1 rfl rfl (by decide) ?_⟩
      exact ⟨g, one it (rangeObjI (x + c) (left - 1) c), .refl g, (I.stepBut e2 hs).toks _, inP_one y1 e2, ⟨x + c, left - 1, rfl, by rw [h5]; congr 1; omega⟩, .int'⟩
  stop := fun A fi env Φ g ev H s Ψ ok l I hp hc ⟨x, left, e, h3⟩ => by
    subst e
    obtain ⟨e1, e2⟩ := hp _ _ one_self
    cases hn : left.toNat with
    | succ n => rw [hn] at h3; cases h3
    | zero => exact wpAny_pyNext_range_end ok.1 e1 (by omega) fun h' hs => ⟨rfl, I.stepExt e2 hs⟩

theorem VRs.three {m n k : MV} {vs : List Value} (h : VRs g [m, n, k] vs) : ∃ v u w, vs = [v, u, w] ∧ VR g m v ∧ VR g n u ∧ VR g k w := by
  simp only [VRs] at h; obtain ⟨v, r, rfl, h1, u, r', rfl, h2, w, r'', rfl, h3, rfl⟩ := h; exact ⟨v, u, w, rfl, h1, h2, h3⟩

/-- a call of a type by name, its arguments plain; what is made goes on to k -/
theorem W_callType {x : Str} {p : Pos} {e : Expr} {rest : List Expr} {pos : Pos} {T : String} {k : Value → Sem Value} {Q : Value → Shared → Prop} (ok : OkA d A) (I : Inv B fi env Φ g ev H s) (he : ∀ env, starEach (e :: rest) env = (false, eval e env) :: starEach rest env)
    (hp : ∀ env, (backTo pos (starEach rest env)).any (·.1) = false) {R : MV → List MObj → List MV → List MObj → Prop}
    (h : WPE B fi d (.Name x p) ev H fun f H1 => f = .con (.type T) ∧ WPEs B fi d (e :: rest) ev H1 fun ms H2 => R f H1 ms H2)
    (hk : ∀ g2 H2 s2 ms vs f H1, g.le g2 → Inv B fi env Φ g2 ev H2 s2 → VRs g2 ms vs → R f H1 ms H2 → wpAny B.M A (call (.type T) vs) Q (fun _ _ => False) s2) :
    wpAny B.M A (eval (.Call (.Name x p) (e :: rest) [] pos) env) Q (fun _ _ => False) s := by
  rw [arm_eval_Call_Name']
  refine wpAny_bind ((h A env Φ g s ok I).to fun g1 ev1 H1 fv s1 l1 I1 ⟨e1, f, rf, hc, h1⟩ => ?_)
  subst e1 hc
  rw [rf.inv_con]
  refine PySem.callWith_type (by rw [he env]; show (false || (backTo pos (starEach rest env)).any (·.1)) = false; rw [hp env]; rfl) ?_
  have key := h1 A env Φ g1 s1 pos ok I1
  unfold W at key
  rw [he env] at key ⊢
  exact Calls.evalArgs_plain (wpAny_mono key (fun vs s2 ⟨g2, ev2, H2, l2, I2, e2, ms, rms, hr⟩ => by
    subst e2; exact hk g2 H2 s2 ms vs _ H1 (l1.trans l2) I2 rms hr) fun _ _ x => x)

theorem WPI.range {tg : Expr} {x : Str} {p : Pos} {e : Expr} {rest : List Expr} {pos : Pos} {Q : (List MObj → Prop) → List MV → List MObj → Prop} (he : ∀ env, starEach (e :: rest) env = (false, eval e env) :: starEach rest env)
    (hp : ∀ env, (backTo pos (starEach rest env)).any (·.1) = false)
    (h : WPE B fi d (.Name x p) ev H fun f H1 => f = .con (.type "range") ∧ WPEs B fi d (e :: rest) ev H1 fun ms H2 => ∃ a b c, rangeM ms = some (a, b, c) ∧ (c ≠ 0 ∧ c.natAbs < 1000000) ∧ Builtin.Range.small a b c = true ∧
      Q (fun _ => True) (rangeL a c (Builtin.Range.rangeSize a b c).toNat) H2) : WPI B fi d tg (.Call (.Name x p) (e :: rest) [] pos) ev H Q := fun A env Φ g s ok I => by
  refine W_callType (T := "range") (k := fun v => pure v) ok I he hp (R := fun _ _ ms H2 => ∃ a b c, rangeM ms = some (a, b, c) ∧ (c ≠ 0 ∧ c.natAbs < 1000000) ∧ Builtin.Range.small a b c = true ∧ Q (fun _ => True) (rangeL a c (Builtin.Range.rangeSize a b c).toNat) H2) h fun g2 H2 s2 ms vs f H1 l2 I2 rms ⟨a, b, c, hm, hc0, hsm, hq⟩ => ?_
  have fin : ∀ {tk : Nat} {hh : Heap} {r : Addr} {t u v : Tok}, IsRange hh r a b c t u v → Inv B fi env Φ g2 ev H2 { s2 with heap := hh, toks := tk } → wpAny B.M A (pyIter (.ref r)) (fun r s2 => ∃ it g2 H2 Ψ P chk items, r = .ref it ∧ g.le g2 ∧ Inv B fi env Φ g2 ev H2 s2 ∧ InP Ψ g2 s2 ∧ P items Ψ ∧
      IterOk B tg it g2 chk P ∧ chk H2 ∧ Q chk items H2) (fun _ _ => False) { s2 with heap := hh, toks := tk } := fun {tk hh r t u v} hr I3 =>
    wpAny_pyIter_range (s := { s2 with heap := hh, toks := tk }) hr hsm ⟨_, g2, H2, _, PR hh.objs.size c, _, _, rfl, l2, I3.push _, inP_one (Heap.get?_push_size hh rfl) I3.szn, ⟨a, Builtin.Range.rangeSize a b c, rfl, rfl⟩, iterOk_range, trivial, hq⟩
  unfold rangeM at hm
  split at hm
  · cases hm
    obtain ⟨v, rfl, r1⟩ := rms.one
    obtain ⟨t, rfl⟩ := r1.inv_int
    exact call_range_1 (fin (Heap.get?_push_size _ rfl) ((I2.push _).toks _))
  · cases hm
    obtain ⟨v, u, rfl, r1, r2⟩ := rms.two
    obtain ⟨t, rfl⟩ := r1.inv_int; obtain ⟨t', rfl⟩ := r2.inv_int
    exact call_range_2 (fin (Heap.get?_push_size _ rfl) ((I2.push _).toks _))
  · cases hm
    obtain ⟨v, u, w, rfl, r1, r2, r3⟩ := rms.three
    obtain ⟨t, rfl⟩ := r1.inv_int; obtain ⟨t', rfl⟩ := r2.inv_int; obtain ⟨t'', rfl⟩ := r3.inv_int
    exact call_range_3 hc0.1 (fin (Heap.get?_push_size _ rfl) ((I2.push _).toks _)) (.inl (PyProof.noPylong_small (by omega)))
  · cases hm

/-! enumerate -/
def enumL : List MV → Nat → List MV
  | [], _ => []
  | m :: ms, i => .tup [.int (i : Int), m] :: enumL ms (i + 1)
def PE (e it l : Addr) (vs ms : List MV) (Ψ : Addr → Option Obj) : Prop := ∃ (oe oi : Obj) (i : Nat) (old : Value), Ψ = (fun a => if a = e then some oe else if a = it then some oi else none) ∧
  oe = { cls := .type "enumerate", dict := none, data := .fields #[.none, .bool false, .ref it, rawInt (i : Int), .none, old], slots := #[] } ∧ oi.cls = .type "list_iterator" ∧ oi.data = .fields #[.ref l, .int i 0] ∧
  ms = enumL (vs.drop i) i

theorem inP_two {e it : Addr} {oe oi : Obj} (h1 : s.heap.get? e = some oe) (h2 : g.ow e = .no) (h3 : s.heap.get? it = some oi) (h4 : g.ow it = .no) : InP (fun a => if a = e then some oe else if a = it then some oi else none) g s := fun a p q => by
  dsimp only at q
  split at q
  · rename_i h; cases q; subst h; exact ⟨h1, h2⟩
  · split at q
    · rename_i h; cases q; subst h; exact ⟨h3, h4⟩
    · cases q

theorem iterOk_enum {elts : List Expr} {k : Nat} {tp : Pos} {e it a : Addr} {g0 : G} {j : Nat} {vs : List MV} (hne : e ≠ it) (hσ : g0.σ[j]? = some a) :
    IterOk B (.Tuple elts k tp) e g0 (fun H => H[j]? = some (.list vs)) (PE e it a vs) where
  cell := fun ms Ψ ⟨oe, oi, i, old, h0, h1, h2, h3, _⟩ b p v q => by
    subst h0
    dsimp only at q
    split at q
    · cases q; rw [h1]; intro q; cases q
    · split at q
      · cases q; rw [h3]; intro q; cases q
      · cases q
  self := fun A fi env Φ g ev H s ms Ψ Q E ok l I hp ⟨oe, oi, i, old, h0, h1, h2, h3, _⟩ hq => by
    subst h0
    have := (hp e oe (by simp)).1
    rw [h1] at this
    exact wpAny_pyIter_enum this hq
  next := fun A fi env Φ g ev H s m ms Ψ ok l I hp hc ⟨oe, oi, i, old, h0, h1, h2, h3, h4⟩ => by
    subst h0
    obtain ⟨e1, e2⟩ := hp e oe (by simp)
    obtain ⟨e3, e4⟩ := hp it oi (by simp [Ne.symm hne])
    obtain ⟨items, n, h5, h6⟩ := listAt I (l.σ _ _ hσ) hc
    have hi : i < vs.length := by
      rcases Nat.lt_or_ge i vs.length with h' | h'
      · exact h'
      · rw [List.drop_of_length_le h', enumL] at h4; cases h4
    rw [List.drop_eq_getElem_cons hi, enumL] at h4
    injection h4 with h7 h8
    obtain ⟨x, hx, rx⟩ := h6.get (List.getElem?_eq_getElem hi)
    rw [h1] at e1
    refine wpAny_pyNext_enum_item e1 ⟨oi, e3, h2, h3⟩ (isListOf h5) (by simpa using hx) hne fun h' y1 ⟨o', y2, y2c, y2d⟩ y3 y4 y5 => ⟨_, rfl, ?_⟩
    have hse : s.heap.objs.size ≠ e := fun q => Nat.lt_irrefl _ (q ▸ Heap.lt_size e1)
    have hsi : s.heap.objs.size ≠ it := fun q => Nat.lt_irrefl _ (q ▸ Heap.lt_size e3)
    have I1 : Inv B fi env Φ g ev H { s with heap := h', toks := s.toks + 1 } := I.step rfl rfl fun b o hb q => y5 b o (fun r => by subst r; exact hb e2) (fun r => by subst r; exact hb e4) q
    refine wpAny_letOwnedTupleGo_enum y1 fun h'' z1 hs => ?_
    have I2 := I1.stepBut (h' := h'') e2 hs
    obtain ⟨l3, I3, hF⟩ := I2.freezeAt (a := s.heap.objs.size) (o := { cls := .type "tuple", data := .seq #[.int i s.toks, x] }) I.szn ((hs.2 _ hse).trans y3)
    refine ⟨_, _, l3, I3, inP_two z1 ?_ ((hs.2 _ (Ne.symm hne)).trans y2) ?_, ⟨_, o', i + 1, x, rfl, rfl, y2c, y2d, h8⟩, ?_⟩
    · show (if _ then _ else _) = _; rw [if_neg (Ne.symm hse)]; exact e2
    · show (if _ then _ else _) = _; rw [if_neg (Ne.symm hsi)]; exact e4
    · rw [h7]; simp only [VR]
      exact ⟨_, _, 0, rfl, hF, by simp only [VRs]; exact ⟨_, _, rfl, .int', _, _, rfl, rx.mono l3, rfl⟩⟩
  stop := fun A fi env Φ g ev H s Ψ ok l I hp hc ⟨oe, oi, i, old, h0, h1, h2, h3, h4⟩ => by
    subst h0
    obtain ⟨e1, e2⟩ := hp e oe (by simp)
    obtain ⟨e3, e4⟩ := hp it oi (by simp [Ne.symm hne])
    obtain ⟨items, n, h5, h6⟩ := listAt I (l.σ _ _ hσ) hc
    have hi : vs.length ≤ i := by
      rcases Nat.lt_or_ge i vs.length with h' | h'
      · rw [List.drop_eq_getElem_cons h', enumL] at h4; cases h4
      · exact h'
    rw [h1] at e1
    exact wpAny_pyNext_enum_end ok.1 e1 ⟨oi, e3, h2, h3⟩ (isListOf h5) (by rw [Array.getElem?_eq_none]; rw [h6.size]; exact hi) fun h' hs => ⟨rfl, I.stepExt e4 hs⟩

theorem WPI.enum {elts : List Expr} {k : Nat} {tp : Pos} {x : Str} {p : Pos} {e : Expr} {pos : Pos} {Q : (List MObj → Prop) → List MV → List MObj → Prop} (he : ∀ env, starEach [e] env = (false, eval e env) :: starEach [] env)
    (hp : ∀ env, (backTo pos (starEach [] env)).any (·.1) = false)
    (h : WPE B fi d (.Name x p) ev H fun f H1 => f = .con (.type "enumerate") ∧ WPEs B fi d [e] ev H1 fun ms H2 => ∃ j vs, ms = [.ref j] ∧ H2[j]? = some (.list vs) ∧
      Q (fun H => H[j]? = some (.list vs)) (enumL vs 0) H2) : WPI B fi d (.Tuple elts k tp) (.Call (.Name x p) [e] [] pos) ev H Q := fun A env Φ g s ok I => by
  refine W_callType (T := "enumerate") (k := fun v => pure v) ok I he hp (R := fun _ _ ms H2 => ∃ j vs, ms = [.ref j] ∧ H2[j]? = some (.list vs) ∧ Q (fun H => H[j]? = some (.list vs)) (enumL vs 0) H2) h
    fun g2 H2 s2 ms vs f H1 l2 I2 rms ⟨j, ls, hm, hj, hq⟩ => ?_
  subst hm
  obtain ⟨v, rfl, r1⟩ := rms.one
  obtain ⟨a, items, n, rfl, hσ, -, e2, r⟩ := I2.list r1 hj
  refine call_enumerate_list (isListOf e2) fun h' y1 ⟨oi, y2, y2c, y2d⟩ y3 y4 => ?_
  have I3 : Inv B fi env Φ g2 ev H2 { s2 with heap := h' } := I2.step rfl rfl fun b o _ q => y4 b o q
  have n1 : g2.ow (s2.heap.objs.size + 1) = .no := I2.sz _ (Heap.get?_none_of_le (Nat.le_succ _))
  refine wpAny_pyIter_enum (s := { s2 with heap := h' }) y1 ⟨_, g2, H2, _, PE (s2.heap.objs.size + 1) s2.heap.objs.size a ls, _, _, rfl, l2, I3, inP_two y1 n1 y2 I2.szn, ⟨_, oi, 0, .none, rfl, rfl, y2c, y2d, rfl⟩, iterOk_enum (Nat.succ_ne_self _) hσ, hj, hq⟩
end
def zipL : List MV → List MV → List MV
  | m :: ms, n :: ns => .tup [m, n] :: zipL ms ns
  | _, _ => []
theorem zipL_drop {xs ys : List MV} {i : Nat} {m : MV} {ms : List MV} (h : m :: ms = zipL (xs.drop i) (ys.drop i)) :
    ∃ x y, xs[i]? = some x ∧ ys[i]? = some y ∧ m = .tup [x, y] ∧ ms = zipL (xs.drop (i + 1)) (ys.drop (i + 1)) := by
  rcases Nat.lt_or_ge i xs.length with h1 | h1
  · rcases Nat.lt_or_ge i ys.length with h2 | h2
    · rw [List.drop_eq_getElem_cons h1, List.drop_eq_getElem_cons h2, zipL] at h
      injection h with h3 h4
      exact ⟨_, _, List.getElem?_eq_getElem h1, List.getElem?_eq_getElem h2, h3, h4⟩
    · rw [List.drop_eq_getElem_cons h1, List.drop_of_length_le h2, zipL] at h
      · cases h
      · intros; simp_all
  · rw [List.drop_of_length_le h1, zipL] at h
    · cases h
    · intros; simp_all
theorem zipL_end {xs ys : List MV} {i : Nat} (h : [] = zipL (xs.drop i) (ys.drop i)) : xs[i]? = none ∨ ys[i]? = none := by
  rcases Nat.lt_or_ge i xs.length with h1 | h1
  · rcases Nat.lt_or_ge i ys.length with h2 | h2
    · rw [List.drop_eq_getElem_cons h1, List.drop_eq_getElem_cons h2, zipL] at h; cases h
    · exact .inr (List.getElem?_eq_none h2)
  · exact .inl (List.getElem?_eq_none h1)

def five (z o1 o2 i1 i2 : Addr) (a b c e f : Obj) : Addr → Option Obj := fun x => if x = z then some a else if x = o1 then some b else if x = o2 then some c else if x = i1 then some e else if x = i2 then some f else none

def PZ (z TI TO i1 i2 l1 l2 : Addr) (xs ys ms : List MV) (Ψ : Addr → Option Obj) : Prop := ∃ (oz oTI oTO o1 o2 : Obj) (i : Nat) (a b : Value), Ψ = five z TI TO i1 i2 oz oTI oTO o1 o2 ∧
  oz = { cls := .type "zip", dict := none, data := .fields #[.none, .bool false, .bool false, .ref TI, .ref TO], slots := #[] } ∧ oTI = { cls := .type "tuple", data := .seq #[.ref i1, .ref i2] } ∧ oTO = { cls := .type "tuple", data := .seq #[a, b] } ∧
  o1.cls = .type "list_iterator" ∧ o1.data = .fields #[.ref l1, .int i 0] ∧ o2.cls = .type "list_iterator" ∧ o2.data = .fields #[.ref l2, .int i 0] ∧ ms = zipL (xs.drop i) (ys.drop i)

section
variable {B : Bs} {fi : FI} {d : Nat} {ev : List MV} {H : List MObj} {A : Around} {env : Env} {Φ : Addr → Option Obj} {g g' : G} {s s' : Shared}

theorem five_cases {z o1 o2 i1 i2 : Addr} {a b c e f : Obj} {x : Addr} {p : Obj} (h : five z o1 o2 i1 i2 a b c e f x = some p) : (x = z ∧ p = a) ∨ (x = o1 ∧ p = b) ∨ (x = o2 ∧ p = c) ∨ (x = i1 ∧ p = e) ∨ (x = i2 ∧ p = f) := by
  unfold five at h
  split at h
  · cases h; exact .inl ⟨by assumption, rfl⟩
  · split at h
    · cases h; exact .inr (.inl ⟨by assumption, rfl⟩)
    · split at h
      · cases h; exact .inr (.inr (.inl ⟨by assumption, rfl⟩))
      · split at h
        · cases h; exact .inr (.inr (.inr (.inl ⟨by assumption, rfl⟩)))
        · split at h
          · cases h; exact .inr (.inr (.inr (.inr ⟨by assumption, rfl⟩)))
          · cases h

structure Five (z TI TO i1 i2 : Addr) : Prop where
  a : TI ≠ z
  b : TO ≠ z
  c : i1 ≠ z
  e : i2 ≠ z
  f : TO ≠ TI
  h : i1 ≠ TI
  i : i2 ≠ TI
  j : i1 ≠ TO
  k : i2 ≠ TO
  l : i2 ≠ i1

theorem iterOk_zip {elts : List Expr} {k : Nat} {tp : Pos} {z TI TO i1 i2 l1 l2 : Addr} {g0 : G} {j1 j2 : Nat} {xs ys : List MV} (F : Five z TI TO i1 i2) (hσ1 : g0.σ[j1]? = some l1) (hσ2 : g0.σ[j2]? = some l2) :
    IterOk B (.Tuple elts k tp) z g0 (fun H => H[j1]? = some (.list xs) ∧ H[j2]? = some (.list ys)) (PZ z TI TO i1 i2 l1 l2 xs ys) where
  cell := fun ms Ψ ⟨oz, oTI, oTO, o1, o2, i, a, b, h0, h1, h2, h3, h4, h5, h6, h7, h8⟩ x p v q => by
    subst h0
    rcases five_cases q with ⟨-, rfl⟩ | ⟨-, rfl⟩ | ⟨-, rfl⟩ | ⟨-, rfl⟩ | ⟨-, rfl⟩
    · rw [h1]; intro q; cases q
    · rw [h2]; intro q; cases q
    · rw [h3]; intro q; cases q
    · rw [h5]; intro q; cases q
    · rw [h7]; intro q; cases q
  self := fun A fi env Φ g ev H s ms Ψ Q E ok l I hp ⟨oz, oTI, oTO, o1, o2, i, a, b, h0, h1, h2, h3, h4, h5, h6, h7, h8⟩ hq => by
    subst h0
    have e1 := (hp z oz (by simp [five])).1
    rw [h1] at e1
    exact wpAny_pyIter_zip e1 hq
  next := fun A fi env Φ g ev H s m ms Ψ ok l I hp hc ⟨oz, oTI, oTO, o1, o2, i, a, b, h0, h1, h2, h3, h4, h5, h6, h7, h8⟩ => by
    subst h0
    obtain ⟨e1, n1⟩ := hp z oz (by simp [five])
    obtain ⟨e2, n2⟩ := hp TI oTI (by simp [five, F.a])
    obtain ⟨e3, n3⟩ := hp TO oTO (by simp [five, F.b, F.f])
    obtain ⟨e4, n4⟩ := hp i1 o1 (by simp [five, F.c, F.h, F.j])
    obtain ⟨e5, n5⟩ := hp i2 o2 (by simp [five, F.e, F.i, F.k, F.l])
    rw [h1] at e1; rw [h2] at e2; rw [h3] at e3
    obtain ⟨it1, m1, q1, r1⟩ := listAt I (l.σ _ _ hσ1) hc.1
    obtain ⟨it2, m2, q2, r2⟩ := listAt I (l.σ _ _ hσ2) hc.2
    obtain ⟨x, y, hx, hy, hm, hms⟩ := zipL_drop h8
    obtain ⟨vx, ex, rx⟩ := r1.get hx
    obtain ⟨vy, ey, ry⟩ := r2.get hy
    have w1 := (I.live _ _ _ (l.σ _ _ hσ1) hc.1).1
    have w2 := (I.live _ _ _ (l.σ _ _ hσ2) hc.2).1
    have D : ZipApart z TI TO i1 i2 l1 l2 := by
      have n : ∀ {c : Addr} {i : Nat} {b : Addr}, g.ow c = .lv i → g.ow b = .no → c ≠ b := fun h h' q => by subst q; rw [h] at h'; cases h'
      exact ⟨F.a, F.b, F.c, F.e, Ne.symm F.f, Ne.symm F.h, Ne.symm F.i, Ne.symm F.j, Ne.symm F.k, Ne.symm F.l, n w1 n1, n w1 n3, n w1 n4, n w1 n5, n w2 n1, n w2 n3, n w2 n4, n w2 n5⟩
    refine wpAny_pyNext_zip_item D e1 e2 e3 ⟨o1, e4, h4, h5⟩ ⟨o2, e5, h6, h7⟩ (isListOf q1) (isListOf q2) (by simpa using ex) (by simpa using ey) fun h' y1 y2 ⟨p1, y3, y3c, y3d⟩ ⟨p2, y4, y4c, y4d⟩ y5 y6 y7 => ⟨_, rfl, ?_⟩
    have lt : ∀ {c : Addr} {o : Obj}, s.heap.get? c = some o → c ≠ s.heap.objs.size := fun h q => Nat.lt_irrefl _ (q ▸ Heap.lt_size h)
    have I1 : Inv B fi env Φ g ev H { s with heap := h' } := I.step rfl rfl fun c o hb q => y7 c o (fun r => by subst r; exact hb n1) (fun r => by subst r; exact hb n3) (fun r => by subst r; exact hb n4) (fun r => by subst r; exact hb n5) q
    refine wpAny_letOwnedTupleGo_zip y1 fun h'' z1 hs => ?_
    have I2 := I1.stepBut (h' := h'') n1 hs
    obtain ⟨l3, I3, hF⟩ := I2.freezeAt (a := s.heap.objs.size) (o := { cls := .type "tuple", data := .seq #[vx, vy] }) I.szn ((hs.2 _ (Ne.symm (lt e1))).trans y5)
    have no : ∀ {c : Addr} {o : Obj}, s.heap.get? c = some o → g.ow c = .no → (g.freeze s.heap.objs.size { cls := .type "tuple", data := .seq #[vx, vy] }).ow c = .no := fun h h' => by
      show (if _ then _ else _) = _; rw [if_neg (lt h)]; exact h'
    refine ⟨_, five z TI TO i1 i2 _ _ _ p1 p2, l3, I3, fun c o q => ?_, ⟨_, _, _, p1, p2, i + 1, vx, vy, rfl, rfl, rfl, rfl, y3c, y3d, y4c, y4d, hms⟩, ?_⟩
    · rcases five_cases q with ⟨rfl, rfl⟩ | ⟨rfl, rfl⟩ | ⟨rfl, rfl⟩ | ⟨rfl, rfl⟩ | ⟨rfl, rfl⟩
      · exact ⟨z1, no e1 n1⟩
      · exact ⟨(hs.2 _ F.a).trans (y7 _ _ F.a (Ne.symm F.f) (Ne.symm F.h) (Ne.symm F.i) e2), no e2 n2⟩
      · exact ⟨(hs.2 _ F.b).trans y2, no e3 n3⟩
      · exact ⟨(hs.2 _ F.c).trans y3, no e4 n4⟩
      · exact ⟨(hs.2 _ F.e).trans y4, no e5 n5⟩
    · rw [hm]; simp only [VR]
      exact ⟨_, _, 0, rfl, hF, by simp only [VRs]; exact ⟨_, _, rfl, rx.mono l3, _, _, rfl, ry.mono l3, rfl⟩⟩
  stop := fun A fi env Φ g ev H s Ψ ok l I hp hc ⟨oz, oTI, oTO, o1, o2, i, a, b, h0, h1, h2, h3, h4, h5, h6, h7, h8⟩ => by
    subst h0
    obtain ⟨e1, n1⟩ := hp z oz (by simp [five])
    obtain ⟨e2, n2⟩ := hp TI oTI (by simp [five, F.a])
    obtain ⟨e3, n3⟩ := hp TO oTO (by simp [five, F.b, F.f])
    obtain ⟨e4, n4⟩ := hp i1 o1 (by simp [five, F.c, F.h, F.j])
    obtain ⟨e5, n5⟩ := hp i2 o2 (by simp [five, F.e, F.i, F.k, F.l])
    rw [h1] at e1; rw [h2] at e2; rw [h3] at e3
    obtain ⟨it1, m1, q1, r1⟩ := listAt I (l.σ _ _ hσ1) hc.1
    obtain ⟨it2, m2, q2, r2⟩ := listAt I (l.σ _ _ hσ2) hc.2
    have w1 := (I.live _ _ _ (l.σ _ _ hσ1) hc.1).1
    have w2 := (I.live _ _ _ (l.σ _ _ hσ2) hc.2).1
    have n : ∀ {c : Addr} {i : Nat} {b : Addr}, g.ow c = .lv i → g.ow b = .no → c ≠ b := fun h h' q => by subst q; rw [h] at h'; cases h'
    have D : ZipApart z TI TO i1 i2 l1 l2 := ⟨F.a, F.b, F.c, F.e, Ne.symm F.f, Ne.symm F.h, Ne.symm F.i, Ne.symm F.j, Ne.symm F.k, Ne.symm F.l, n w1 n1, n w1 n3, n w1 n4, n w1 n5, n w2 n1, n w2 n3, n w2 n4, n w2 n5⟩
    refine wpAny_pyNext_zip_end ok.1 D e1 e2 e3 ⟨o1, e4, h4, h5⟩ ⟨o2, e5, h6, h7⟩ (isListOf q1) (isListOf q2) ?_ fun h' y7 => ⟨rfl, I.step rfl rfl fun c o hb q => y7 c o (fun r => by subst r; exact hb n1) (fun r => by subst r; exact hb n3) (fun r => by subst r; exact hb n4) (fun r => by subst r; exact hb n5) q⟩
    rcases zipL_end h8 with h | h
    · left; rw [Array.getElem?_eq_none]; rw [r1.size]; exact List.getElem?_eq_none_iff.mp h
    · right; rw [Array.getElem?_eq_none]; rw [r2.size]; exact List.getElem?_eq_none_iff.mp h

theorem WPI.zip {elts : List Expr} {k : Nat} {tp : Pos} {x : Str} {p : Pos} {e1 e2 : Expr} {pos : Pos} {Q : (List MObj → Prop) → List MV → List MObj → Prop} (he : ∀ env, starEach [e1, e2] env = (false, eval e1 env) :: starEach [e2] env)
    (hp : ∀ env, (backTo pos (starEach [e2] env)).any (·.1) = false)
    (h : WPE B fi d (.Name x p) ev H fun f H1 => f = .con (.type "zip") ∧ WPEs B fi d [e1, e2] ev H1 fun ms H2 => ∃ j1 j2 xs ys, ms = [.ref j1, .ref j2] ∧ H2[j1]? = some (.list xs) ∧ H2[j2]? = some (.list ys) ∧
      Q (fun H => H[j1]? = some (.list xs) ∧ H[j2]? = some (.list ys)) (zipL xs ys) H2) : WPI B fi d (.Tuple elts k tp) (.Call (.Name x p) [e1, e2] [] pos) ev H Q := fun A env Φ g s ok I => by
  refine W_callType (T := "zip") (k := fun v => pure v) ok I he hp (R := fun _ _ ms H2 => ∃ j1 j2 xs ys, ms = [.ref j1, .ref j2] ∧ H2[j1]? = some (.list xs) ∧ H2[j2]? = some (.list ys) ∧
      Q (fun H => H[j1]? = some (.list xs) ∧ H[j2]? = some (.list ys)) (zipL xs ys) H2) h
    fun g2 H2 s2 ms vs f H1 l2 I2 rms ⟨j1, j2, xs, ys, hm, hj1, hj2, hq⟩ => ?_
  subst hm
  obtain ⟨v, u, rfl, r1, r2⟩ := rms.two
  obtain ⟨a1, it1, n1, rfl, hσ1, -, q1, w1⟩ := I2.list r1 hj1
  obtain ⟨a2, it2, n2, rfl, hσ2, -, q2, w2⟩ := I2.list r2 hj2
  refine call_zip_2 (isListOf q1) (isListOf q2) fun h' y1 y2 y3 ⟨p1, y4, y4c, y4d⟩ ⟨p2, y5, y5c, y5d⟩ y6 y7 => ?_
  have I3 : Inv B fi env Φ g2 ev H2 { s2 with heap := h' } := I2.step rfl rfl fun b o _ q => y7 b o q
  have no : ∀ n, g2.ow (s2.heap.objs.size + n) = .no := fun n => I2.sz _ (Heap.get?_none_of_le (Nat.le_add_right _ _))
  have F : Five (s2.heap.objs.size + 4) (s2.heap.objs.size + 2) (s2.heap.objs.size + 3) s2.heap.objs.size (s2.heap.objs.size + 1) := by
    generalize s2.heap.objs.size = n
    have z : ∀ {a b : Nat}, a ≠ b → (n + a : Nat) ≠ n + b := fun h q => h (Nat.add_left_cancel q)
    exact ⟨z (by decide), z (by decide), z (a := 0) (by decide), z (by decide), z (by decide), z (a := 0) (by decide), z (by decide), z (a := 0) (by decide), z (by decide), z (b := 0) (by decide)⟩
  refine wpAny_pyIter_zip (s := { s2 with heap := h' }) y1 ⟨_, g2, H2, five (s2.heap.objs.size + 4) (s2.heap.objs.size + 2) (s2.heap.objs.size + 3) s2.heap.objs.size (s2.heap.objs.size + 1) _ _ _ p1 p2,
    PZ (s2.heap.objs.size + 4) (s2.heap.objs.size + 2) (s2.heap.objs.size + 3) s2.heap.objs.size (s2.heap.objs.size + 1) a1 a2 xs ys, _, _, rfl, l2, I3, fun c o q => ?_, ⟨_, _, _, p1, p2, 0, .none, .none, rfl, rfl, rfl, rfl, y4c, y4d, y5c, y5d, rfl⟩, iterOk_zip F hσ1 hσ2, ⟨hj1, hj2⟩, hq⟩
  rcases five_cases q with ⟨rfl, rfl⟩ | ⟨rfl, rfl⟩ | ⟨rfl, rfl⟩ | ⟨rfl, rfl⟩ | ⟨rfl, rfl⟩
  · exact ⟨y1, no 4⟩
  · exact ⟨y2, no 2⟩
  · exact ⟨y3, no 3⟩
  · exact ⟨y4, no 0⟩
  · exact ⟨y5, no 1⟩

/-! dict displays -/
theorem WPE.dict0 {pos : Pos} {Q : MV → List MObj → Prop} (h : Q (.ref H.length) (H ++ [.dB []])) : WPE B fi d (.Dict [] [] pos) ev H Q := fun A env Φ g s ok I => by
  show wpAny _ _ _ _ _ _
  rw [eval_Dict_empty]
  refine wpAny_bind (wpAny_standAt ?_)
  refine wpAny_newObj_type ?_ (by size_fits)
  have hp : (s.heap.push { cls := .type "dict", data := .dict #[] }).get? s.heap.objs.size = some { cls := .type "dict", data := .dict #[] } := Heap.get?_push_size _ rfl
  obtain ⟨l, I1, hσ⟩ := (I.push _).live1 (o := .dB []) I.big I.szn hp ⟨[], Heap.DictOfH.new s.heap, (fun y hy => by cases hy), rfl⟩
  exact ⟨_, ev, _, l, I1, rfl, _, .ref' hσ, h⟩

theorem relK.mono' {α : Type} {es : List (α × MV)} {kvs : List (α × Value)} (l : g.le g') (h : relK g es kvs) : relK g' es kvs := h.mono l

theorem WPE.dictI {k v : Int} {kk kv : Nat} {p1 p2 pos : Pos} {Q : MV → List MObj → Prop} (h : Q (.ref H.length) (H ++ [.dI [(k, .int v)]])) :
    WPE B fi d (.Dict [some (.Constant (.int k) kk p1)] [.Constant (.int v) kv p2] pos) ev H Q := fun A env Φ g s ok I => by
  refine wpAny_Dict_pairs (knd := intKind Prg B.w) (pairs := [(eval (.Constant (.int k) kk p1) env, do let x ← eval (.Constant (.int v) kv p2) env; standAt pos; pure x)]) rfl (by simp) (by simp) ?_
  have hp : (s.heap.push { cls := .type "dict", data := .dict #[] }).get? s.heap.objs.size = some { cls := .type "dict", data := .dict #[] } := Heap.get?_push_size _ rfl
  unfold evalPairs
  refine wpAny_bind (wpAny_Constant_int (wpAny_bind (wpAny_holding (wpAny_bind (wpAny_Constant_int (wpAny_bind (wpAny_standAt (wpAny_pure ?_))))))))
  refine wpAny_bind (wpAny_holding (wpAny_pure (wpAny_pure ?_)))
  refine ⟨[(k, .int v (s.toks + 1))], ⟨beq_self_eq_true _, rfl, trivial⟩, (Heap.DictOf.new s.heap), fun h' hd hs => ?_⟩
  have I1 : Inv B fi env Φ g ev H { s with heap := h' } := I.step rfl rfl fun b o hb e => (hs.2 b (fun q => by subst q; exact hb I.szn)).trans (Heap.get?_push_of_some _ e)
  obtain ⟨od, es, ep, ho, hr⟩ := id hd
  obtain ⟨l, I2, hσ⟩ := (I1.toks (s.toks + 1 + 1 + [(Value.int k s.toks, Value.int v (s.toks + 1))].length)).live1 (o := .dI [(k, .int v)]) I.big I.szn ho ⟨_, hd, ⟨_, [], rfl, .int', rfl⟩⟩
  exact ⟨_, ev, _, l, I2, rfl, _, .ref' hσ, h⟩

/-- three written keys, a value made first -/
theorem WPE.dictS {x y z : Str} {e1 e2 e3 : Expr} {k1 k2 k3 : Nat} {p1 p2 p3 pos : Pos} {Q : MV → List MObj → Prop} (hxy : x ≠ y) (hxz : x ≠ z) (hyz : y ≠ z)
    (h : WPE B fi d e1 ev H fun m1 H1 => WPE B fi d e2 ev H1 fun m2 H2 => WPE B fi d e3 ev H2 fun m3 H3 => Q (.ref H3.length) (H3 ++ [.dS [(x, m1), (y, m2), (z, m3)]])) :
    WPE B fi d (.Dict [some (.Constant (.str x) k1 p1), some (.Constant (.str y) k2 p2), some (.Constant (.str z) k3 p3)] [e1, e2, e3] pos) ev H Q := fun A env Φ g s ok I => by
  refine wpAny_Dict_pairs (knd := PySem.strKind Prg B.w) (pairs := [(eval (.Constant (.str x) k1 p1) env, do let v ← eval e1 env; standAt pos; pure v), (eval (.Constant (.str y) k2 p2) env, do let v ← eval e2 env; standAt pos; pure v),
    (eval (.Constant (.str z) k3 p3) env, do let v ← eval e3 env; standAt pos; pure v)]) rfl (by simp) (by simp) ?_
  have hp : (s.heap.push { cls := .type "dict", data := .dict #[] }).get? s.heap.objs.size = some { cls := .type "dict", data := .dict #[] } := Heap.get?_push_size _ rfl
  generalize hD : s.heap.objs.size = D at hp
  have hnc : noCell (one D { cls := .type "dict", data := .dict #[] }) := fun a o v e => by obtain ⟨rfl, rfl⟩ := one_some e; intro q; cases q
  have nD : g.ow D = .no := hD ▸ I.szn
  obtain ⟨l0, I0, hΦ⟩ := (I.push { cls := .type "dict", data := .dict #[] }).park (inP_one hp nD)
  unfold evalPairs
  refine wpAny_bind (wpAny_Constant_str (wpAny_bind (wpAny_holding (wpAny_bind ((h A env _ _ _ ok (I0.toks _)).to fun g1 ev1 H1 v1 s1 l1 I1 ⟨e1', m1, r1, h1⟩ => ?_)))))
  subst e1'
  refine wpAny_bind (wpAny_standAt (wpAny_pure (wpAny_bind (wpAny_holding ?_))))
  unfold evalPairs
  refine wpAny_bind (wpAny_Constant_str (wpAny_bind (wpAny_holding (wpAny_bind ((h1 A env _ _ _ ok (I1.toks _)).to fun g2 ev2 H2 v2 s2 l2 I2 ⟨e2', m2, r2, h2⟩ => ?_)))))
  subst e2'
  refine wpAny_bind (wpAny_standAt (wpAny_pure (wpAny_bind (wpAny_holding ?_))))
  unfold evalPairs
  refine wpAny_bind (wpAny_Constant_str (wpAny_bind (wpAny_holding (wpAny_bind ((h2 A env _ _ _ ok (I2.toks _)).to fun g3 ev3 H3 v3 s3 l3 I3 ⟨e3', m3, r3, h3⟩ => ?_)))))
  subst e3'
  refine wpAny_bind (wpAny_standAt (wpAny_pure (wpAny_bind (wpAny_holding ?_))))
  unfold evalPairs
  refine wpAny_pure (wpAny_pure (wpAny_pure (wpAny_pure ?_)))
  obtain ⟨l4, I4, p4⟩ := I3.unpark hnc hΦ
  obtain ⟨hd4, n4⟩ := p4 D _ one_self
  refine ⟨[(x, v1), (y, v2), (z, v3)], ⟨beq_self_eq_true _, rfl, beq_self_eq_true _, rfl, beq_self_eq_true _, rfl, trivial⟩, ?_, fun h' hd hs => ?_⟩
  · exact ⟨_, #[], 0, hd4, ⟨rfl, rfl, rfl⟩, rfl, (fun e he => by simp at he), .nil, List.nodup_nil⟩
  · have hm : merged ([] : List (Str × Value)) [(x, v1), (y, v2), (z, v3)] = [(x, v1), (y, v2), (z, v3)] := by
      simp [merged, stored, hxy, hxz, hyz]
    rw [hm] at hd
    have I5 := I4.stepBut (h' := h') n4 hs
    obtain ⟨od, es, ep, ho, hr⟩ := id hd
    have r1' := ((r1.mono l2).mono l3).mono l4
    have r2' := (r2.mono l3).mono l4
    have r3' := r3.mono l4
    have lm : (g3.unpk (one D { cls := .type "dict", data := .dict #[] })).le ((g3.unpk (one D { cls := .type "dict", data := .dict #[] })).more D) := ⟨fun _ _ e => e, fun i b e => by
      show (_ ++ [D])[i]? = some b
      rw [List.getElem?_append_left (List.getElem?_eq_some_iff.mp e).1]; exact e⟩
    obtain ⟨l6, I6, hσ⟩ := (I5.toks (s3.toks + 3)).live1 (o := .dS [(x, m1), (y, m2), (z, m3)]) (hD ▸ I.big) n4 ho ⟨_, hd, ⟨_, _, rfl, r1'.mono lm, _, _, rfl, r2'.mono lm, _, _, rfl, r3'.mono lm, rfl⟩⟩
    exact ⟨_, _, _, ((l0.trans (l1.trans (l2.trans l3))).trans l4).trans l6, I6, rfl, _, .ref' hσ, h3⟩
end
/-! the closure of a comprehension -/
def closL (cells : List (Str × Addr)) : List (Str × NameKind) → List (Str × Addr) → List (Str × Addr)
  | [], acc => acc
  | (n, k) :: r, acc => if k == .free then (match cells.lookup n with | some c => closL cells r ((n, c) :: acc) | none => closL cells r acc) else closL cells r acc

theorem cellOf_eq {env : Env} {n : Str} {c : Addr} (h : env.cells.lookup n = some c) : cellOf env n = pure c := by unfold cellOf; rw [h]
theorem closFor {env : Env} (f : Str × NameKind → List (Str × Addr) → Sem (ForInStep (List (Str × Addr))))
    (hf : ∀ name kind cs, f (name, kind) cs = if kind == .free then (do let c ← cellOf env name; pure (.yield ((name, c) :: cs))) else pure (.yield cs)) :
    ∀ (names : List (Str × NameKind)) (acc : List (Str × Addr)), (∀ x ∈ names, x.2 = .free → (env.cells.lookup x.1).isSome = true) → forIn names acc f = pure (closL env.cells names acc)
  | [], acc, _ => by rw [List.forIn_nil]; rfl
  | (n, k) :: r, acc, h => by
    rw [List.forIn_cons, hf]
    unfold closL
    by_cases hk : (k == NameKind.free) = true
    · rw [if_pos hk, if_pos hk]
      obtain ⟨c, hc⟩ := Option.isSome_iff_exists.mp (h (n, k) List.mem_cons_self (beq_iff_eq.mp hk))
      rw [cellOf_eq hc, hc]
      show forIn r ((n, c) :: acc) f = _
      exact closFor f hf r _ fun x hx => h x (List.mem_cons_of_mem _ hx)
    · rw [if_neg hk, if_neg hk]
      show forIn r acc f = _
      exact closFor f hf r _ fun x hx => h x (List.mem_cons_of_mem _ hx)
theorem closureFor_eq {scope : Scope} {env : Env} (h : ∀ x ∈ scope.names, x.2 = .free → (env.cells.lookup x.1).isSome = true) : closureFor scope env = pure (closL env.cells scope.names []) := by
  simp only [closureFor]
  rw [closFor (env := env) _ (fun name kind cs => by cases hk : kind == NameKind.free <;> simp [hk]) _ _ h]
  rfl

theorem closL_lookup {cells : List (Str × Addr)} {x : Str} {c : Addr} (hc : cells.lookup x = some c) : ∀ (names : List (Str × NameKind)) (acc : List (Str × Addr)), (∀ y, y ∈ acc → cells.lookup y.1 = some y.2) →
    ((x, NameKind.free) ∈ names ∨ acc.lookup x = some c) → (closL cells names acc).lookup x = some c
  | [], acc, _, h => h.elim (fun h => by cases h) id
  | (n, k) :: r, acc, ha, h => by
    unfold closL
    split
    · rename_i hk
      split
      · rename_i c' hc'
        refine closL_lookup hc r _ (fun y hy => ?_) ?_
        · rcases List.mem_cons.mp hy with rfl | hy
          · exact hc'
          · exact ha y hy
        · rcases h with h | h
          · rcases List.mem_cons.mp h with h | h
            · injection h with h1 h2; subst h1; rw [hc] at hc'; cases hc'; right; rw [List.lookup_cons]; simp
            · exact .inl h
          · right; rw [List.lookup_cons]
            by_cases hx : x = n
            · subst hx; rw [hc] at hc'; cases hc'; simp
            · have : (x == n) = false := beq_eq_false_iff_ne.mpr hx
              rw [this]; exact h
      · rename_i hc'
        refine closL_lookup hc r _ ha ?_
        rcases h with h | h
        · rcases List.mem_cons.mp h with h | h
          · injection h with h1 h2; subst h1; rw [hc] at hc'; cases hc'
          · exact .inl h
        · exact .inr h
    · rename_i hk
      refine closL_lookup hc r _ ha ?_
      rcases h with h | h
      · rcases List.mem_cons.mp h with h | h
        · injection h with h1 h2; subst h2; exact absurd rfl hk
        · exact .inl h
      · exact .inr h

theorem cellsFrom_app : ∀ (ns : List (Str × NameKind)) (n : Nat) (acc : List (Str × Addr)), cellsFrom n ns acc = cellsFrom n ns [] ++ acc
  | [], n, acc => rfl
  | (y, k) :: r, n, acc => by
    unfold cellsFrom
    split
    · rw [cellsFrom_app r _ ((y, n) :: acc), cellsFrom_app r _ [(y, n)]]; simp
    · exact cellsFrom_app r n acc
theorem cellsFrom_mem {x : Str} {c : Addr} : ∀ (ns : List (Str × NameKind)) (n : Nat) (acc : List (Str × Addr)), (x, c) ∈ cellsFrom n ns acc → (x, c) ∈ acc ∨ (x, NameKind.cell) ∈ ns
  | [], n, acc, h => .inl h
  | (y, k) :: r, n, acc, h => by
    unfold cellsFrom at h
    split at h
    · rename_i hk
      rcases cellsFrom_mem r _ _ h with h | h
      · rcases List.mem_cons.mp h with h | h
        · injection h with h1 h2; subst h1; right; rw [beq_iff_eq.mp hk]; exact List.mem_cons_self
        · exact .inl h
      · exact .inr (List.mem_cons_of_mem _ h)
    · rcases cellsFrom_mem r _ _ h with h | h
      · exact .inl h
      · exact .inr (List.mem_cons_of_mem _ h)

/-! the frame of a comprehension -/
def relN (names ns : List (Str × NameKind)) : List (Str × NameKind) := names.map fun p => if (p.2 == .free && ns.lookup p.1 == some .cell) then (p.1, .cell) else (p.1, p.2)
def fiC (scope : Scope) (fi : FI) : FI := ⟨relN scope.names fi.ns, (scope.names.filter (·.2 == .cell)).map (·.1)⟩
def evC (scope : Scope) (fi : FI) (ev : List MV) : List MV := scope.names.map fun p => if p.2 == .free then (match slot fi.ns p.1 with | some (j, _) => (ev[j]?).getD .undef | none => .undef) else .undef
def compOk (scope : Scope) (fi : FI) : Bool := scope.names.all fun p => p.2 != .free || (match slot fi.ns p.1 with | some (_, .cell) => true | some (_, .free) => true | _ => false)
structure ScOk (scope : Scope) (fi : FI) : Prop where
  kind : scope.kind = .function
  nd : (scope.names.map (·.1)).Nodup
  ok : compOk scope fi = true

section
variable {B : Bs} {fi : FI} {d : Nat} {ev : List MV} {H : List MObj} {A : Around} {env : Env} {Φ : Addr → Option Obj} {g g' : G} {s s' : Shared} {scope : Scope}

theorem relN_slotGo {x : Str} {ns : List (Str × NameKind)} : ∀ {names : List (Str × NameKind)} {n i : Nat} {k : NameKind}, slotGo x (relN names ns) n = some (i, k) →
    n ≤ i ∧ ∃ k0, names[i - n]? = some (x, k0) ∧ k = (if (k0 == .free && ns.lookup x == some .cell) then .cell else k0)
  | [], _, _, _, h => by cases h
  | (y, k0) :: r, n, i, k, h => by
    have e : relN ((y, k0) :: r) ns = (if (k0 == .free && ns.lookup y == some .cell) then (y, .cell) else (y, k0)) :: relN r ns := rfl
    rw [e] at h
    have h2 : (if x == y then some (n, if (k0 == .free && ns.lookup y == some .cell) then NameKind.cell else k0) else slotGo x (relN r ns) (n + 1)) = some (i, k) := by
      rw [← h]; by_cases hc : (k0 == NameKind.free && ns.lookup y == some .cell) = true
      · rw [if_pos hc, if_pos hc]; rfl
      · rw [if_neg hc, if_neg hc]; rfl
    by_cases hx : (x == y) = true
    · rw [if_pos hx] at h2
      cases h2
      have := beq_iff_eq.mp hx; subst this
      exact ⟨Nat.le_refl _, k0, by simp, rfl⟩
    · rw [if_neg hx] at h2
      obtain ⟨a, k1, b, c⟩ := relN_slotGo h2
      refine ⟨by omega, k1, ?_, c⟩
      have : i - n = (i - (n + 1)) + 1 := by omega
      rw [this, List.getElem?_cons_succ]; exact b
theorem relN_slot {x : Str} {names ns : List (Str × NameKind)} {i : Nat} {k : NameKind} (h : slot (relN names ns) x = some (i, k)) : ∃ k0, names[i]? = some (x, k0) ∧ k = (if (k0 == .free && ns.lookup x == some .cell) then .cell else k0) := by
  obtain ⟨_, k0, a, b⟩ := relN_slotGo h
  exact ⟨k0, by simpa using a, b⟩

theorem compOk_free (S : ScOk scope fi) {x : Str} (h : (x, NameKind.free) ∈ scope.names) : ∃ j k, slot fi.ns x = some (j, k) ∧ (k = .cell ∨ k = .free) := by
  have := List.all_eq_true.mp S.ok _ h
  simp only [bne_self_eq_false, Bool.false_or] at this
  cases hs : slot fi.ns x with
  | none => rw [hs] at this; cases this
  | some p =>
    obtain ⟨j, k⟩ := p
    rw [hs] at this
    refine ⟨j, k, rfl, ?_⟩
    cases k <;> first | exact .inl rfl | exact .inr rfl | cases this

def cenvOf (scope : Scope) (C : Addr) (env : Env) : Env :=
  { scope := relabel scope env, locals := C, globals := env.globals, cells := cellsFrom (C + 1) scope.names (closL env.cells scope.names []), qual := env.qual, func := none, code := env.code, frame := env.frame, builtins := env.builtins }

/-- into the comprehension's frame: the outer one is parked -/
theorem comp_enter (S : ScOk scope fi) (I : Inv B fi env Φ g ev H s) :
    ∃ g1, ({ g with ow := fun a => if isFr (g.ow a) then .pk else g.ow a } : G).le g1 ∧
      Inv B (fiC scope fi) (cenvOf scope s.heap.objs.size env) (frP g s.heap Φ) g1 (evC scope fi ev) H { s with heap := pushCells (s.heap.push { cls := .type "dict", data := .dict #[] }) scope.names } ∧ g1.ow s.heap.objs.size = .fr none ∧
      (∀ Ψ, InP Ψ g s → InP Ψ g1 { s with heap := pushCells (s.heap.push { cls := .type "dict", data := .dict #[] }) scope.names }) := by
  have I0 := I.parkFr
  have hz : (s.heap.push { cls := .type "dict", data := .dict #[] }).objs.size = s.heap.objs.size + 1 := Heap.size_push ..
  have ok := cellsFrom_ok scope.names (s.heap.push { cls := .type "dict", data := .dict #[] }) (s.heap.objs.size + 1) [] ⟨fun _ _ hm => (nomatch hm), List.Pairwise.nil⟩ (by rw [hz]; exact Nat.le_refl _)
  rw [hz] at ok
  have keep : ∀ b o, s.heap.get? b = some o → (pushCells (s.heap.push { cls := .type "dict", data := .dict #[] }) scope.names).get? b = some o := fun b o e => pushCells_keeps _ _ b o (Heap.get?_push_of_some _ e)
  have X : InCallC s s.heap.objs.size (fun _ => none) (cellsFrom (s.heap.objs.size + 1) scope.names []) (fun _ => none) { s with heap := pushCells (s.heap.push { cls := .type "dict", data := .dict #[] }) scope.names } :=
    ⟨⟨⟨_, _, rfl⟩, (Heap.Ns.new s.heap (.type "dict")).keeps (pushCells_keeps _ _), keep, Nat.le_refl _⟩, fun n c hc => (ok.empty n c (mem_of_lookup hc)).1, ok.apart, fun n c hm => (ok.empty n c hm).2⟩
  have hcn := cellsFrom_nodup scope.names (s.heap.objs.size + 1) [] S.nd (by simp) (fun x hx => by cases hx)
  obtain ⟨g1, l1, I1, hL, hC, hold⟩ := InCallC_enter I0 X (Nat.le_refl _) hcn
  refine ⟨g1, l1, I1.with ?_, hL, fun Ψ hp a o e => ⟨keep _ _ (hp a o e).1, by rw [hold a o (hp a o e).1]; show (if isFr (g.ow a) = true then _ else _) = _; rw [(hp a o e).2]; rfl⟩⟩
  have fr := I.fr
  have hnm : (relabel scope env).names = relN scope.names fi.ns := by
    show scope.names.map _ = scope.names.map _
    refine List.map_congr_left fun p hp => ?_
    obtain ⟨n, k⟩ := p
    have hk : env.kindOf n = fi.ns.lookup n := by show env.scope.names.lookup n = _; rw [fr.names]
    simp only [fr.kind, hk]
    simp
  have lt : g.le g1 := ⟨l1.F, l1.σ⟩
  refine ⟨hnm, S.kind, fr.glob, fr.blt, ⟨hL, _, X.toInCall.ns, fun x i e => ?_⟩, fun x i k e hk => ?_⟩
  · obtain ⟨k0, e1, e2⟩ := relN_slot e
    intro m hm
    unfold evC at hm
    rw [List.getElem?_map, e1] at hm
    have hk0 : k0 ≠ .free := fun q => by
      subst q; split at e2 <;> cases e2
    have : (k0 == NameKind.free) = false := beq_eq_false_iff_ne.mpr hk0
    simp only [Option.map_some, this, Bool.false_eq_true, if_false] at hm
    cases hm; trivial
  · obtain ⟨k0, e1, e2⟩ := relN_slot e
    have hmem : (x, k0) ∈ scope.names := List.mem_of_getElem? e1
    by_cases hf : k0 = .free
    · subst hf
      obtain ⟨j, kj, hj, hkj⟩ := compOk_free S hmem
      obtain ⟨c, v, c1, c2, c3, c4⟩ := fr.cel x j kj hj hkj
      refine ⟨c, v, ?_, c2.keeps keep, ?_, .inr ⟨?_, ?_⟩⟩
      · show (cellsFrom (s.heap.objs.size + 1) scope.names (closL env.cells scope.names [])).lookup x = some c
        rw [cellsFrom_app]
        have hno : (cellsFrom (s.heap.objs.size + 1) scope.names []).lookup x = none := by
          cases hq : (cellsFrom (s.heap.objs.size + 1) scope.names []).lookup x with
          | none => rfl
          | some c' =>
            rcases cellsFrom_mem _ _ _ (mem_of_lookup hq) with h | h
            · cases h
            · have h1 := lookup_of_mem S.nd h; rw [lookup_of_mem S.nd hmem] at h1; cases h1
        rw [List.lookup_append, hno, Option.none_or]
        exact closL_lookup c1 _ _ (fun y hy => by cases hy) (.inl hmem)
      · intro m hm
        unfold evC at hm
        rw [List.getElem?_map, e1] at hm
        simp only [Option.map_some, beq_self_eq_true, if_true, hj] at hm
        cases hm
        cases hq : ev[j]? with
        | none => trivial
        | some m =>
          have := (c3.mono lt) m hq
          exact this
      · obtain ⟨oc, ho, _⟩ := c2
        exact (I1.Φ c oc (by
          unfold frP
          rcases c4 with c4 | ⟨c4, _⟩
          · rw [c4]; exact ho
          · rw [c4]
            obtain ⟨o', ho'⟩ := Option.isSome_iff_exists.mp (I.pk c c4)
            have := (I.Φ c o' ho').1; rw [ho] at this; cases this; exact ho')).2
      · show x ∉ (scope.names.filter (·.2 == .cell)).map (·.1)
        intro hm
        obtain ⟨y, hy, e⟩ := List.mem_map.mp hm
        obtain ⟨hy1, hy2⟩ := List.mem_filter.mp hy
        obtain ⟨yn, yk⟩ := y
        simp at hy2 e; subst hy2 e
        have h1 := lookup_of_mem S.nd hy1; rw [lookup_of_mem S.nd hmem] at h1; cases h1
    · have hkk : k = k0 := by
        have : (k0 == NameKind.free) = false := beq_eq_false_iff_ne.mpr hf
        rw [this] at e2; simpa using e2
      have hcell : k0 = .cell := by
        rcases hk with hk | hk
        · rw [← hkk]; exact hk
        · exact absurd (hkk.symm.trans hk) hf
      subst hcell
      obtain ⟨c, hc⟩ := Option.isSome_iff_exists.mp (cellsFrom_some scope.names (s.heap.objs.size + 1) [] (x := x) (.inr hmem))
      refine ⟨c, _, ?_, X.cell x c hc, ?_, .inl (hC x c (mem_of_lookup hc))⟩
      · show (cellsFrom (s.heap.objs.size + 1) scope.names (closL env.cells scope.names [])).lookup x = some c
        rw [cellsFrom_app, List.lookup_append, hc]; rfl
      · intro m hm
        unfold evC at hm
        rw [List.getElem?_map, e1] at hm
        have : (NameKind.cell == NameKind.free) = false := rfl
        simp only [Option.map_some, this, Bool.false_eq_true, if_false] at hm
        cases hm; trivial

theorem wpAny_compEnv {scope : Scope} {cl : List (Str × Addr)} {Q : Env → Shared → Prop} {E : Value → Shared → Prop} {M : Model}
    (h : Q { scope, locals := s.heap.objs.size, globals := env.globals, cells := cellsFrom (s.heap.objs.size + 1) scope.names cl, qual := env.qual, func := none, code := env.code, frame := env.frame, builtins := env.builtins }
      { s with heap := pushCells (s.heap.push { cls := .type "dict", data := .dict #[] }) scope.names }) :
    wpAny M A (newFunctionEnv scope env.globals cl [] env.qual none .none (some env)) Q E s := by
  simp only [newFunctionEnv, Option.isSome_some, if_true]
  refine wpAny_bind (wpAny_alloc ?_)
  refine wpAny_bind (wpAny_layCells _ (fun name kind cells => by cases hkc : kind == NameKind.cell <;> simp [hkc]) _ _ _ _ ?_)
  rw [show ({ s with heap := s.heap.push { cls := .type "dict", data := .dict #[] } } : Shared).heap.objs.size = s.heap.objs.size + 1 from Heap.size_push ..]
  refine wpAny_bind ?_
  rw [List.forIn_nil]
  exact wpAny_pure (wpAny_pure h)
end
abbrev Inner := List MV → List MObj → (List MV → List MObj → Prop) → Prop
def CIf (B : Bs) (fi : FI) (d : Nat) (c : Option Expr) (ev : List MV) (H : List MObj) (T F : List MObj → Prop) : Prop := match c with
  | none => T H
  | some c => WPT B fi d c ev H fun b H1 => (b = true → T H1) ∧ (b = false → F H1)
def CompS (B : Bs) (fi : FI) (d : Nat) (tg : Expr) (c : Option Expr) (inner : Inner) (chk : List MObj → Prop) (Q : List MV → List MObj → Prop) : List MV → List MV → List MObj → Prop
  | [], ev, H => Q ev H
  | m :: ms, ev, H => WPG B fi d tg m ev H fun ev1 H1 => CIf B fi d c ev1 H1 (fun H2 => inner ev1 H2 fun ev2 H3 => chk H3 ∧ CompS B fi d tg c inner chk Q ms ev2 H3) (fun H2 => chk H2 ∧ CompS B fi d tg c inner chk Q ms ev1 H2)
def emitI (B : Bs) (fi : FI) (d : Nat) (a : Nat) (elt : Expr) : Inner := fun ev H K => WPE B fi d elt ev H fun m H1 => ∃ vs, H1[a]? = some (.list vs) ∧ vs.length ≤ 100000 ∧ K ev (H1.set a (.list (vs ++ [m])))
def genI (B : Bs) (fi : FI) (d : Nat) (a : Nat) (tg iter elt : Expr) : Inner := fun ev H K => WPI B fi d tg iter ev H fun chk items H1 => CompS B fi d tg none (emitI B fi d a elt) chk K items ev H1

def cifT (c : Option Expr) (env : Env) : Sem Bool := match c with
  | none => pure true
  | some c => isTrue c env (eval c env)
def emitT (elt : Expr) (acc : Value) (env : Env) : Sem Unit := do let _ ← call (.builtin "list.append") [acc, ← eval elt env]
def genT (e : Expr) (iter : Expr) (acc : Value) (env : Env) : Sem Unit := do
  let x ← eval iter env
  standAt iter.pos
  let x ← foldedSetIterable iter env x
  let _ ← runOwn (.compStart e 1 (← holding [x] (pyIter x)) acc env) env

section
variable {B : Bs} {fi : FI} {d : Nat} {ev : List MV} {H : List MObj} {A : Around} {env : Env} {Φ : Addr → Option Obj} {g g' : G} {s s' : Shared}

/-- what one turn of a comprehension does -/
def TurnOf (M : Model) (e : Expr) (dep : Nat) (tg : Expr) (c : Option Expr) (inn : Value → Env → Sem Unit) : Prop :=
  ∀ (A : Around) (it acc : Value) (env : Env) (Q : Fin → Shared → Prop) (E : Value → Shared → Prop) (s : Shared),
    wpAny M A (pyNext it) (fun r s1 => match r with
      | none => Q (.done .next) s1
      | some v => wpAny M A (letOwnedTupleGo tg it v) (fun _ s2 => wpAny M A (assign tg env v) (fun _ s3 => wpAny M A (cifT c env) (fun ok s4 =>
          if ok then wpAny M A (inn acc env) (fun _ s5 => Q (.again (.compLoop e dep it acc env)) s5) E s4 else Q (.again (.compLoop e dep it acc env)) s4) E s3) E s2) E s1) E s →
    wpAny M A (compTurn e dep it acc env) Q E s

theorem wpAny_againI {M : Model} {A : Around} {E : Value → Shared → Prop} {s : Shared} {c : Code} {Q : Fin → Shared → Prop} (h : Q (.again c) s) : wpAny M A (again c) Q E s := wpAny_pure h

theorem turn_emit {M : Model} (elt tg iter : Expr) (scope : Scope) (pos : Pos) : TurnOf M (.ListComp elt [⟨tg, iter, [], 0⟩] scope pos) 0 tg none (emitT elt) := fun A it acc env Q E s h => by
  show wpAny M A (standAt iter.pos >>= fun _ => pyNext it >>= fun r => match r with
      | none => pure (.done .next)
      | some v => letOwnedTupleGo tg it v >>= fun _ => assign tg env v >>= fun _ =>
        emitT elt acc env >>= fun _ => again (.compLoop (.ListComp elt [⟨tg, iter, [], 0⟩] scope pos) 0 it acc env)) Q E s
  refine wpAny_bind (wpAny_standAt (wpAny_bind (wpAny_mono h (fun r s1 h1 => ?_) fun _ _ x => x)))
  cases r with
  | none => exact wpAny_pure h1
  | some v =>
    refine wpAny_bind (wpAny_mono h1 (fun _ s2 h2 => wpAny_bind (wpAny_mono h2 (fun _ s3 h3 => ?_) fun _ _ x => x)) fun _ _ x => x)
    refine fun Γ p hΓ => ?_
    have h4 : wpAny M A (emitT elt acc env) (fun _ s5 => Q (.again (.compLoop (.ListComp elt [⟨tg, iter, [], 0⟩] scope pos) 0 it acc env)) s5) E s3 := h3 Γ p hΓ
    exact wpAny_bind (wpAny_mono h4 (fun _ s5 h5 => wpAny_againI h5) fun _ _ x => x) Γ p hΓ

theorem turn_emit1 {M : Model} (elt tg iter : Expr) (iter2 : Expr) (tg0 : Expr) (scope : Scope) (pos : Pos) : TurnOf M (.ListComp elt [⟨tg0, iter2, [], 0⟩, ⟨tg, iter, [], 0⟩] scope pos) 1 tg none (emitT elt) := fun A it acc env Q E s h => by
  show wpAny M A (standAt iter.pos >>= fun _ => pyNext it >>= fun r => match r with
      | none => pure (.done .next)
      | some v => letOwnedTupleGo tg it v >>= fun _ => assign tg env v >>= fun _ =>
        emitT elt acc env >>= fun _ => again (.compLoop (.ListComp elt [⟨tg0, iter2, [], 0⟩, ⟨tg, iter, [], 0⟩] scope pos) 1 it acc env)) Q E s
  refine wpAny_bind (wpAny_standAt (wpAny_bind (wpAny_mono h (fun r s1 h1 => ?_) fun _ _ x => x)))
  cases r with
  | none => exact wpAny_pure h1
  | some v =>
    refine wpAny_bind (wpAny_mono h1 (fun _ s2 h2 => wpAny_bind (wpAny_mono h2 (fun _ s3 h3 => ?_) fun _ _ x => x)) fun _ _ x => x)
    refine fun Γ p hΓ => ?_
    have h4 : wpAny M A (emitT elt acc env) (fun _ s5 => Q (.again (.compLoop (.ListComp elt [⟨tg0, iter2, [], 0⟩, ⟨tg, iter, [], 0⟩] scope pos) 1 it acc env)) s5) E s3 := h3 Γ p hΓ
    exact wpAny_bind (wpAny_mono h4 (fun _ s5 h5 => wpAny_againI h5) fun _ _ x => x) Γ p hΓ

theorem turn_gen {M : Model} (elt tg iter : Expr) (tg2 iter2 : Expr) (scope : Scope) (pos : Pos) : TurnOf M (.ListComp elt [⟨tg, iter, [], 0⟩, ⟨tg2, iter2, [], 0⟩] scope pos) 0 tg none (genT (.ListComp elt [⟨tg, iter, [], 0⟩, ⟨tg2, iter2, [], 0⟩] scope pos) iter2) := fun A it acc env Q E s h => by
  show wpAny M A (standAt iter.pos >>= fun _ => pyNext it >>= fun r => match r with
      | none => pure (.done .next)
      | some v => letOwnedTupleGo tg it v >>= fun _ => assign tg env v >>= fun _ =>
        (eval iter2 env >>= fun x => standAt iter2.pos >>= fun _ => foldedSetIterable iter2 env x >>= fun x => holding [x] (pyIter x) >>= fun it2 => runOwn (.compStart (.ListComp elt [⟨tg, iter, [], 0⟩, ⟨tg2, iter2, [], 0⟩] scope pos) 1 it2 acc env) env >>= fun _ =>
          again (.compLoop (.ListComp elt [⟨tg, iter, [], 0⟩, ⟨tg2, iter2, [], 0⟩] scope pos) 0 it acc env))) Q E s
  refine wpAny_bind (wpAny_standAt (wpAny_bind (wpAny_mono h (fun r s1 h1 => ?_) fun _ _ x => x)))
  cases r with
  | none => exact wpAny_pure h1
  | some v =>
    refine wpAny_bind (wpAny_mono h1 (fun _ s2 h2 => wpAny_bind (wpAny_mono h2 (fun _ s3 h3 => ?_) fun _ _ x => x)) fun _ _ x => x)
    refine fun Γ p hΓ => ?_
    have h4 : wpAny M A (genT (.ListComp elt [⟨tg, iter, [], 0⟩, ⟨tg2, iter2, [], 0⟩] scope pos) iter2 acc env) (fun _ s5 => Q (.again (.compLoop (.ListComp elt [⟨tg, iter, [], 0⟩, ⟨tg2, iter2, [], 0⟩] scope pos) 0 it acc env)) s5) E s3 := h3 Γ p hΓ
    have h5 := h4 Γ p hΓ
    unfold genT at h5
    simp only [Sem.wp_bind', Sem.wp_pure', Sem.wp_holding, Sem.wp_cmd_standAt] at h5 ⊢
    exact h5

theorem turn_if {M : Model} (elt tg iter c : Expr) (scope : Scope) (pos : Pos) : TurnOf M (.ListComp elt [⟨tg, iter, [c], 0⟩] scope pos) 0 tg (some c) (emitT elt) := fun A it acc env Q E s h => by
  unfold compTurn
  refine wpAny_bind (wpAny_standAt ?_)
  show wpAny M A (pyNext it >>= _) Q E s
  refine wpAny_bind (wpAny_mono h (fun r s1 h1 => ?_) fun _ _ x => x)
  cases r with
  | none => exact wpAny_pure h1
  | some v =>
    refine wpAny_bind (wpAny_mono h1 (fun _ s2 h2 => wpAny_bind (wpAny_mono h2 (fun _ s3 h3 => ?_) fun _ _ x => x)) fun _ _ x => x)
    refine wpAny_bind ?_
    show wpAny M A (forIn [c] true _) _ _ s3
    rw [List.forIn_cons]
    refine wpAny_bind ?_
    show wpAny M A (isTrue c env (eval c env) >>= fun ok => pure (ForInStep.yield ok)) _ _ s3
    refine wpAny_bind (wpAny_mono h3 (fun ok s4 h4 => wpAny_pure ?_) fun _ _ x => x)
    show wpAny M A (forIn [] ok _) _ _ s4
    rw [List.forIn_nil]
    refine wpAny_pure ?_
    cases ok with
    | true =>
      have h5 : wpAny M A (emitT elt acc env) (fun _ s5 => Q (.again (.compLoop (.ListComp elt [⟨tg, iter, [c], 0⟩] scope pos) 0 it acc env)) s5) E s4 := h4
      show wpAny M A (emitT elt acc env >>= fun _ => again (.compLoop (.ListComp elt [⟨tg, iter, [c], 0⟩] scope pos) 0 it acc env)) Q E s4
      exact wpAny_bind (wpAny_mono h5 (fun _ s5 h5 => wpAny_againI h5) fun _ _ x => x)
    | false =>
      have h5 : Q (.again (.compLoop (.ListComp elt [⟨tg, iter, [c], 0⟩] scope pos) 0 it acc env)) s4 := h4
      show wpAny M A (again (.compLoop (.ListComp elt [⟨tg, iter, [c], 0⟩] scope pos) 0 it acc env)) Q E s4
      exact wpAny_againI h5

theorem Comp_loop {elt : Expr} {gens : List Comprehension} {scope : Scope} {pos : Pos} {dep : Nat} {tg : Expr} {c : Option Expr} {inn : Value → Env → Sem Unit} {inner : Inner} {it : Addr} {acc : Value} {chk : List MObj → Prop} {P : List MV → (Addr → Option Obj) → Prop} {g0 : G}
    {Q : List MV → List MObj → Prop} {R : Result → Shared → Prop} (ok : OkA d A) (hT : TurnOf B.M (.ListComp elt gens scope pos) dep tg c inn) (K : IterOk B tg it g0 chk P)
    (hin : ∀ ev H K2, inner ev H K2 → ∀ Φ g s, g0.le g → Inv B fi env Φ g ev H s → wpAny B.M A (inn acc env) (fun _ s' => ∃ g' ev' H', g.le g' ∧ Inv B fi env Φ g' ev' H' s' ∧ K2 ev' H') (fun _ _ => False) s)
    (hR : ∀ g' ev' H' s', g0.le g' → Inv B fi env Φ g' ev' H' s' → Q ev' H' → R (.ok .next) s') {ms : List MV} {Ψ : Addr → Option Obj} {g : G} {ev : List MV} {H : List MObj} {s : Shared}
    (l : g0.le g) (I : Inv B fi env Φ g ev H s) (hp : InP Ψ g s) (hP : P ms Ψ) (hc : chk H) (hF : CompS B fi d tg c inner chk Q ms ev H) :
    codeAny B.M A (.compLoop (.ListComp elt gens scope pos) dep (.ref it) acc env) R s := by
  refine codeAny_loop rfl (fun n s => ∃ ms Ψ g ev H, ms.length = n ∧ g0.le g ∧ Inv B fi env Φ g ev H s ∧ InP Ψ g s ∧ P ms Ψ ∧ chk H ∧ CompS B fi d tg c inner chk Q ms ev H) (fun n s ⟨ms, Ψ, g, ev, H, hn, l, I, hp, hP, hc, hF⟩ => ?_) ms.length ⟨ms, Ψ, g, ev, H, rfl, l, I, hp, hP, hc, hF⟩
  show wpAny _ A ((compTurn (.ListComp elt gens scope pos) dep (.ref it) acc env).onRaise (fun x => do noteFrame x env; theTreesLotGoes x)) _ _ s
  refine wpAny_noted (hT A _ _ _ _ _ _ ?_)
  have ok0 : OkA 0 A := ok.le (Nat.zero_le _)
  cases ms with
  | nil =>
    refine wpAny_mono (K.stop A fi env Φ g ev H s Ψ ok0 l I hp hc hP) (fun r s1 ⟨e, I1⟩ => ?_) fun _ _ x => x.elim
    subst e
    exact hR g ev H s1 l I1 hF
  | cons m ms =>
    refine wpAny_mono (K.next A fi env Φ g ev H s m ms Ψ ok0 l I hp hc hP) (fun r s1 ⟨v, e, h1⟩ => ?_) fun _ _ x => x.elim
    subst e
    refine wpAny_mono h1 (fun _ s2 ⟨g2, Ψ2, l2, I2, p2, P2, r2⟩ => ?_) fun _ _ x => x.elim
    obtain ⟨l3, I3, hΦ⟩ := I2.park p2
    have back : ∀ {g5 : G} {ev5 : List MV} {H5 : List MObj} {s5 : Shared}, g0.le g5 → Inv B fi env (addP Φ Ψ2) g5 ev5 H5 s5 → chk H5 ∧ CompS B fi d tg c inner chk Q ms ev5 H5 →
        ∃ m, m < n ∧ ∃ ms Ψ g ev H, ms.length = m ∧ g0.le g ∧ Inv B fi env Φ g ev H s5 ∧ InP Ψ g s5 ∧ P ms Ψ ∧ chk H ∧ CompS B fi d tg c inner chk Q ms ev H := fun l5 I5 q => by
      obtain ⟨l6, I6, p6⟩ := I5.unpark (K.cell _ _ P2) hΦ
      exact ⟨ms.length, by rw [← hn]; simp, ms, Ψ2, _, _, _, rfl, l5.trans l6, I6, p6, P2, q.1, q.2⟩
    refine (hF A env _ _ s2 v ok I3 (r2.mono l3)).to fun g4 ev4 H4 _ s4 l4 I4 h4 => ?_
    have lt : g0.le g4 := ((l.trans l2).trans l3).trans l4
    unfold CIf at h4
    cases c with
    | none =>
      refine wpAny_pure ?_
      rw [if_pos rfl]
      refine wpAny_mono (hin _ _ _ h4 _ g4 s4 lt I4) (fun _ s5 ⟨g5, ev5, H5, l5, I5, q⟩ => ⟨rfl, back (lt.trans l5) I5 q⟩) fun _ _ x => x.elim
    | some c =>
      refine (h4 A env _ g4 s4 ok I4).to fun g5 ev5 H5 b s5 l5 I5 ⟨e5, h5, h6⟩ => ?_
      subst e5
      cases b with
      | true =>
        rw [if_pos rfl]
        exact wpAny_mono (hin _ _ _ (h5 rfl) _ g5 s5 (lt.trans l5) I5) (fun _ s6 ⟨g6, ev6, H6, l6, I6, q⟩ => ⟨rfl, back ((lt.trans l5).trans l6) I6 q⟩) fun _ _ x => x.elim
      | false =>
        rw [if_neg (by decide)]
        exact ⟨rfl, back (lt.trans l5) I5 (h6 rfl)⟩

theorem emit_sem {a : Nat} {elt : Expr} {acc : Addr} {g0 : G} (ok : OkA d A) (ha : g0.σ[a]? = some acc) : ∀ ev H K2, emitI B fi d a elt ev H K2 → ∀ Φ g s, g0.le g → Inv B fi env Φ g ev H s →
    wpAny B.M A (emitT elt (.ref acc) env) (fun _ s' => ∃ g' ev' H', g.le g' ∧ Inv B fi env Φ g' ev' H' s' ∧ K2 ev' H') (fun _ _ => False) s := fun ev H K2 h Φ g s l I => by
  unfold emitT
  refine wpAny_bind ((h A env Φ g s ok I).to fun g1 ev1 H1 v s1 l1 I1 ⟨e1, m, rm, vs, hj, hs, hk⟩ => ?_)
  subst e1
  refine wpAny_bind ((WPV.append (d := d) (Q := fun _ H' => K2 ev1 H') hj hs hk A fi env Φ g1 ev1 s1 _ [.ref acc, v] ok I1 .con' (by simp only [VRs]; exact ⟨_, _, rfl, .ref' (l1.σ _ _ (l.σ _ _ ha)), _, _, rfl, rm, rfl⟩)).to
    fun g2 ev2 H2 u s2 l2 I2 ⟨e2, m2, r2, q⟩ => wpAny_pure ⟨g2, ev2, H2, l1.trans l2, I2, by rw [e2]; exact q⟩)

theorem compStart_any {elt : Expr} {gens : List Comprehension} {scope : Scope} {pos : Pos} {dep : Nat} {cl : Comprehension} {it acc : Value} {env : Env} {R : Result → Shared → Prop} (hcl : gens[dep]? = some cl) (has : cl.is_async = 0)
    (h0 : codeAny B.M A (.compLoop (.ListComp elt gens scope pos) dep it acc env) R s) (h : wpAny B.M A (pyIter it) (fun it' s' => codeAny B.M A (.compLoop (.ListComp elt gens scope pos) dep it' acc env) R s') (fun _ _ => False) s) :
    codeAny B.M A (.compStart (.ListComp elt gens scope pos) dep it acc env) R s := by
  refine codeAny_of_tree ?_
  show wpAny _ A ((compStart (.ListComp elt gens scope pos) dep it acc env).onRaise (fun x => do noteFrame x env; standAt theWindowsPlace)) _ _ s
  refine wpAny_notedAt ?_
  unfold compStart
  have hcl' : (clausesOf (.ListComp elt gens scope pos))[dep]? = some cl := hcl
  rw [hcl']
  have : (Option.elim (some cl) false (fun x => x.is_async != 0)) = false := by simp [has]
  simp only [this, Bool.false_eq_true, if_false]
  show wpAny _ _ (ask >>= _) _ _ s
  refine wpAny_bind (wpAny_askSetting ?_)
  split
  · first
      | exact wpAny_bind (wpAny_pure (wpAny_pure (And.intro rfl h0)))
      | exact wpAny_pure (And.intro rfl h0)
  · refine wpAny_bind (wpAny_rule (wpAny_bind (wpAny_standAt (wpAny_bind (wpAny_mono h (fun it' s' h' => wpAny_pure (And.intro rfl h')) fun _ _ x => x.elim)))))

theorem gen_sem {a : Nat} {elt tg iter tg2 iter2 : Expr} {scope : Scope} {pos : Pos} {acc : Addr} {g0 : G} (ok : OkA d A) (ha : g0.σ[a]? = some acc) (hs : ∀ env x, foldedSetIterable iter2 env x = pure x) :
    ∀ ev H K2, genI B fi d a tg2 iter2 elt ev H K2 → ∀ Φ g s, g0.le g → Inv B fi env Φ g ev H s →
    wpAny B.M A (genT (.ListComp elt [⟨tg, iter, [], 0⟩, ⟨tg2, iter2, [], 0⟩] scope pos) iter2 (.ref acc) env) (fun _ s' => ∃ g' ev' H', g.le g' ∧ Inv B fi env Φ g' ev' H' s' ∧ K2 ev' H') (fun _ _ => False) s := fun ev H K2 h Φ g s l I => by
  unfold genT
  refine wpAny_bind (wpAny_mono (h A env Φ g s ok I) (fun x s1 h1 => wpAny_bind (wpAny_standAt (wpAny_bind (wpAny_of_eq (hs env x) (wpAny_bind (wpAny_holding (wpAny_mono h1 (fun r s2 ⟨it, g2, H2, Ψ, P, chk, items, e2, l2, I2, p2, P2, K, hc, hF⟩ => ?_) fun _ _ x => x.elim))))))) fun _ _ x => x.elim)
  subst e2
  have lp : codeAny B.M (A.mark none) (.compLoop (.ListComp elt [⟨tg, iter, [], 0⟩, ⟨tg2, iter2, [], 0⟩] scope pos) 1 (.ref it) (.ref acc) env) (fun r s' => match r with
      | .ok f => wpAny B.M A (pure ()) (fun _ s' => ∃ g' ev' H', g.le g' ∧ Inv B fi env Φ g' ev' H' s' ∧ K2 ev' H') (fun _ _ => False) s' | .error e => cameBackBy B.M A env (fun _ _ => False) e s') s2 :=
    Comp_loop ok.mark (turn_emit1 elt tg2 iter2 iter tg scope pos) K (emit_sem ok.mark (l2.σ _ _ (l.σ _ _ ha))) (fun g' ev' H' s' l' I' q => wpAny_pure ⟨g', ev', H', l2.trans l', I', q⟩) (.refl g2) I2 p2 P2 hc hF
  exact wpAny_bind (wpAny_runOwn (compStart_any rfl rfl lp (K.self _ fi env Φ g2 _ H2 s2 _ Ψ _ _ (ok.mark.le (Nat.zero_le _)) (.refl g2) I2 p2 P2 lp)))
end
section
variable {B : Bs} {fi : FI} {d : Nat} {ev : List MV} {H : List MObj} {A : Around} {env : Env} {Φ : Addr → Option Obj} {g g' : G} {s s' : Shared}

theorem Inv.newListP (I : Inv B fi env Φ g ev H s) : ∃ g', g.le g' ∧ Inv B fi env Φ g' ev (H ++ [.list []]) { s with heap := s.heap.push (listObj #[] 0) } ∧ g'.σ[H.length]? = some s.heap.objs.size ∧
    (∀ Ψ, InP Ψ g s → InP Ψ g' { s with heap := s.heap.push (listObj #[] 0) }) := by
  have hp : (s.heap.push (listObj #[] 0)).get? s.heap.objs.size = some (listObj #[] 0) := Heap.get?_push_size _ rfl
  obtain ⟨l, I', hσ⟩ := (I.push (listObj #[] 0)).live1 (o := .list []) I.big I.szn hp ⟨#[], 0, hp, by simp [VRs]⟩
  refine ⟨_, l, I', hσ, fun Ψ h a o e => ⟨Heap.get?_push_of_some _ (h a o e).1, ?_⟩⟩
  show (if a = s.heap.objs.size then _ else _) = _
  rw [if_neg (Nat.ne_of_lt (Heap.lt_size (h a o e).1))]
  exact (h a o e).2

theorem comp_core {elt tg iter : Expr} {ifs : List Expr} {rest : List Comprehension} {scope : Scope} {pos pos' : Pos} {c : Option Expr} {inn : Value → Env → Sem Unit} {inner : Nat → Inner} {use : Option (Value → Sem Unit)}
    {Qc : Nat → List MV → List MObj → Prop} {Q : Value → Shared → Prop} (ok : OkA d A) (I : Inv B fi env Φ g ev H s) (S : ScOk scope fi) (hs : ∀ x, foldedSetIterable iter env x = pure x)
    (hT : TurnOf B.M (.ListComp elt (⟨tg, iter, ifs, 0⟩ :: rest) scope pos) 0 tg c inn)
    (h : WPI B fi d tg iter ev H fun chk items H1 => chk (H1 ++ [.list []]) ∧ CompS B (fiC scope fi) d tg c (inner H1.length) chk (Qc H1.length) items (evC scope fi ev) (H1 ++ [.list []]))
    (hin : ∀ (a : Nat) (acc : Addr) (g0 : G) (env' : Env) (A' : Around), OkA d A' → g0.σ[a]? = some acc → ∀ ev H K2, inner a ev H K2 → ∀ (Φ : Addr → Option Obj) (g : G) (s : Shared), g0.le g → Inv B (fiC scope fi) env' Φ g ev H s → wpAny B.M A' (inn (.ref acc) env') (fun _ s' => ∃ g' ev' H', g.le g' ∧ Inv B (fiC scope fi) env' Φ g' ev' H' s' ∧ K2 ev' H') (fun _ _ => False) s)
    (hfin : ∀ (a : Nat) (acc C : Addr) (g2 : G) (ev' : List MV) (H' : List MObj) (s' : Shared), g.le g2 → Inv B fi env Φ g2 ev H' s' → g2.σ[a]? = some acc → g2.ow C = .no → (∃ m, s'.heap.Ns C m) → Qc a ev' H' → compPost B.M A (fun _ _ => False) use Q (.ref acc) C (.ok .next) s') :
    wpAny B.M A (comprehension (.ListComp elt (⟨tg, iter, ifs, 0⟩ :: rest) scope pos) scope env pos' (newList []) false (eval iter env) use) Q (fun _ _ => False) s := by
  have hfree : ∀ x ∈ scope.names, x.2 = .free → (env.cells.lookup x.1).isSome = true := fun x hx e => by
    obtain ⟨n, k⟩ := x
    dsimp only at e; subst e
    obtain ⟨j, k, hj, hk⟩ := compOk_free S hx
    obtain ⟨c, v, h1, _⟩ := I.fr.cel n j k hj hk
    show (env.cells.lookup n).isSome = true
    rw [h1]; rfl
  refine wpAny_comprehension_free (use := use) rfl hs (closureFor_eq hfree) S.kind (fun x hx e => by obtain ⟨n, k⟩ := x; dsimp only at e; subst e; exact lookup_of_mem S.nd hx)
    (wpAny_mono (h A env Φ g s ok I) (fun x s1 h1 => wpAny_mono h1 (fun r s2 ⟨it, g2, H2, Ψ, P, chk, items, e2, l2, I2, p2, P2, K, hc, hc', hF⟩ => ?_) fun _ _ x => x.elim) fun _ _ x => x.elim)
  subst e2
  obtain ⟨g3, l3, I3, hσ3, hp3⟩ := I2.newListP
  refine wpAny_newObj_type ?_ (by size_fits)
  have hσ2 := hσ3
  refine wpAny_compEnv (s := { s2 with heap := s2.heap.push (listObj #[] 0) }) ?_
  obtain ⟨g4, l4, I4, hL, hp4⟩ := comp_enter S I3
  have p4 := hp4 Ψ (hp3 Ψ p2)
  have l34 : g3.le g4 := ⟨l4.F, l4.σ⟩
  -- the loop's end
  have fin : ∀ g' ev' H' s', g4.le g' → Inv B (fiC scope fi) (cenvOf scope (s2.heap.push (listObj #[] 0)).objs.size env) (frP g3 (s2.heap.push (listObj #[] 0)) Φ) g' ev' H' s' → Qc H2.length ev' H' →
      compPost B.M A (fun _ _ => False) use Q (.ref s2.heap.objs.size) (s2.heap.push (listObj #[] 0)).objs.size (.ok .next) s' := fun g' ev' H' s' l' I' q => by
    obtain ⟨g5, l5, l6, I5, hno⟩ := Inv0.backFr I3 (l4.trans l') I'.core
    obtain ⟨hC, m, hm, _⟩ := I'.fr.loc
    refine hfin H2.length s2.heap.objs.size _ g5 ev' H' s' ((l2.trans l3).trans l5) I5 (l5.σ _ _ hσ3) (hno _ (by rw [show g'.ow (s2.heap.push (listObj #[] 0)).objs.size = .fr none from hC]; rfl) (by rw [I3.szn]; rfl)) ⟨m, hm⟩ q
  have lp : codeAny B.M A (.compLoop (.ListComp elt (⟨tg, iter, ifs, 0⟩ :: rest) scope pos) 0 (.ref it) (.ref s2.heap.objs.size) (cenvOf scope (s2.heap.push (listObj #[] 0)).objs.size env))
      (compPost B.M A (fun _ _ => False) use Q (.ref s2.heap.objs.size) (s2.heap.push (listObj #[] 0)).objs.size) _ :=
    Comp_loop (g0 := g4) ok hT ⟨K.cell, fun A fi env Φ g ev H s m ms Ψ a b => K.next A fi env Φ g ev H s m ms Ψ a (l3.trans (l34.trans b)), fun A fi env Φ g ev H s ms Ψ Q E a b => K.self A fi env Φ g ev H s ms Ψ Q E a (l3.trans (l34.trans b)),
      fun A fi env Φ g ev H s Ψ a b => K.stop A fi env Φ g ev H s Ψ a (l3.trans (l34.trans b))⟩ (hin H2.length s2.heap.objs.size g4 _ A ok (l34.σ _ _ hσ3)) fin (.refl g4) I4 p4 P2 hc' hF
  exact compStart_any rfl rfl lp (K.self _ _ _ _ g4 _ _ _ _ Ψ _ _ (ok.le (Nat.zero_le _)) (l3.trans l34) I4 p4 P2 lp)

theorem WPE.compG {elt tg iter : Expr} {ifs : List Expr} {rest : List Comprehension} {scope : Scope} {pos : Pos} {c : Option Expr} {inn : Value → Env → Sem Unit} {inner : Nat → Inner} {Q : MV → List MObj → Prop} (S : ScOk scope fi) (hs : ∀ env x, foldedSetIterable iter env x = pure x)
    (hT : TurnOf B.M (.ListComp elt (⟨tg, iter, ifs, 0⟩ :: rest) scope pos) 0 tg c inn)
    (hin : ∀ (a : Nat) (acc : Addr) (g0 : G) (env' : Env) (A' : Around), OkA d A' → g0.σ[a]? = some acc → ∀ ev H K2, inner a ev H K2 → ∀ (Φ : Addr → Option Obj) (g : G) (s : Shared), g0.le g → Inv B (fiC scope fi) env' Φ g ev H s → wpAny B.M A' (inn (.ref acc) env') (fun _ s' => ∃ g' ev' H', g.le g' ∧ Inv B (fiC scope fi) env' Φ g' ev' H' s' ∧ K2 ev' H') (fun _ _ => False) s)
    (h : WPI B fi d tg iter ev H fun chk items H1 => chk (H1 ++ [.list []]) ∧ CompS B (fiC scope fi) d tg c (inner H1.length) chk (fun _ H' => Q (.ref H1.length) H') items (evC scope fi ev) (H1 ++ [.list []])) :
    WPE B fi d (.ListComp elt (⟨tg, iter, ifs, 0⟩ :: rest) scope pos) ev H Q := fun A env Φ g s ok I => by
  show wpAny _ _ _ _ _ _
  rw [eval_ListComp]
  refine comp_core (use := none) (Qc := fun a _ H' => Q (.ref a) H') ok I S (hs env) hT h hin fun a acc C g2 ev' H' s' l I' hσ hC ⟨m, hm⟩ q => ⟨m, hm, fun h' hs' => ⟨g2, ev, H', l, I'.stepBut hC hs', rfl, _, .ref' hσ, q⟩⟩

/-- one clause -/
theorem WPE.comp1 {elt tg iter : Expr} {scope : Scope} {pos : Pos} {Q : MV → List MObj → Prop} (S : ScOk scope fi) (hs : ∀ env x, foldedSetIterable iter env x = pure x)
    (h : WPI B fi d tg iter ev H fun chk items H1 => chk (H1 ++ [.list []]) ∧ CompS B (fiC scope fi) d tg none (emitI B (fiC scope fi) d H1.length elt) chk (fun _ H' => Q (.ref H1.length) H') items (evC scope fi ev) (H1 ++ [.list []])) :
    WPE B fi d (.ListComp elt [⟨tg, iter, [], 0⟩] scope pos) ev H Q :=
  WPE.compG (inner := fun a => emitI B (fiC scope fi) d a elt) S hs (turn_emit elt tg iter scope pos) (fun a acc g0 env' A' ok ha => emit_sem ok ha) h
/-- one clause and a test -/
theorem WPE.compIf {elt tg iter c : Expr} {scope : Scope} {pos : Pos} {Q : MV → List MObj → Prop} (S : ScOk scope fi) (hs : ∀ env x, foldedSetIterable iter env x = pure x)
    (h : WPI B fi d tg iter ev H fun chk items H1 => chk (H1 ++ [.list []]) ∧ CompS B (fiC scope fi) d tg (some c) (emitI B (fiC scope fi) d H1.length elt) chk (fun _ H' => Q (.ref H1.length) H') items (evC scope fi ev) (H1 ++ [.list []])) :
    WPE B fi d (.ListComp elt [⟨tg, iter, [c], 0⟩] scope pos) ev H Q :=
  WPE.compG (inner := fun a => emitI B (fiC scope fi) d a elt) S hs (turn_if elt tg iter c scope pos) (fun a acc g0 env' A' ok ha => emit_sem ok ha) h
/-- two clauses -/
theorem WPE.comp2 {elt tg iter tg2 iter2 : Expr} {scope : Scope} {pos : Pos} {Q : MV → List MObj → Prop} (S : ScOk scope fi) (hs : ∀ env x, foldedSetIterable iter env x = pure x) (hs2 : ∀ env x, foldedSetIterable iter2 env x = pure x)
    (h : WPI B fi d tg iter ev H fun chk items H1 => chk (H1 ++ [.list []]) ∧ CompS B (fiC scope fi) d tg none (genI B (fiC scope fi) d H1.length tg2 iter2 elt) chk (fun _ H' => Q (.ref H1.length) H') items (evC scope fi ev) (H1 ++ [.list []])) :
    WPE B fi d (.ListComp elt [⟨tg, iter, [], 0⟩, ⟨tg2, iter2, [], 0⟩] scope pos) ev H Q :=
  WPE.compG (inner := fun a => genI B (fiC scope fi) d a tg2 iter2 elt) S hs (turn_gen elt tg iter tg2 iter2 scope pos) (fun a acc g0 env' A' ok ha => gen_sem ok ha hs2) h

/-- a name takes a comprehension's list: the stores are exchanged -/
theorem WP1.asgComp {x : Str} {xp pos spos : Pos} {elt tg iter : Expr} {scope : Scope} {i : Nat} {Qn : List MV → List MObj → Prop} {Qr : MV → List MObj → Prop} (S : ScOk scope fi) (hs : ∀ env x, foldedSetIterable iter env x = pure x)
    (hsw : ∀ env, env.scope.names = fi.ns → env.scope.kind = .function → swapsWith (.ListComp elt [⟨tg, iter, [], 0⟩] scope pos) (some (.Name x xp)) spos.line env = pure true) (hx : slot fi.ns x = some (i, .local))
    (h : WPI B fi d tg iter ev H fun chk items H1 => chk (H1 ++ [.list []]) ∧ CompS B (fiC scope fi) d tg none (emitI B (fiC scope fi) d H1.length elt) chk (fun _ H' => Qn (ev.set i (.ref H1.length)) H') items (evC scope fi ev) (H1 ++ [.list []])) :
    WP1 B fi d (.Assign [.Name x xp] (.ListComp elt [⟨tg, iter, [], 0⟩] scope pos) spos) ev H Qn Qr := fun A env Φ g s ok I => by
  show wpAny _ _ _ _ _ _
  rw [exec_Assign_Name_used _ _ _ _ (hsw env I.fr.names I.fr.kind)]
  refine wpAny_bind (wpAny_standAt (wpAny_bind ?_))
  rw [arm_evalThenUse_ListComp]
  refine wpAny_bind ?_
  refine comp_core (use := some (assign (.Name x xp) env)) (Qc := fun a _ H' => Qn (ev.set i (.ref a)) H') (inner := fun a => emitI B (fiC scope fi) d a elt) ok I S (hs env) (turn_emit elt tg iter scope pos) h (fun a acc g0 env' A' ok ha => emit_sem ok ha)
    fun a acc C g2 ev' H' s' l I' hσ hC ⟨m, hm⟩ q => ?_
  obtain ⟨o, es, ep, ho, hd, hr⟩ := hm
  have hnc : noCell (one C o) := fun b p v e => by obtain ⟨rfl, rfl⟩ := one_some e; rw [hd]; intro q; cases q
  obtain ⟨l1, I1, hΦ⟩ := I'.park (inP_one ho hC)
  refine assign_Name ((W_store I1 hx (.inl rfl) (.ref' (l1.σ _ _ hσ))).to fun g3 ev3 H3 u s3 l3 I3 ⟨q1, q2, q3⟩ => ?_)
  subst q1 q2 q3
  obtain ⟨l4, I4, p4⟩ := I3.unpark hnc hΦ
  obtain ⟨h4, n4⟩ := p4 C o one_self
  exact ⟨m, ⟨o, es, ep, h4, hd, hr⟩, fun h' hs' => wpAny_pure (wpAny_pure ⟨_, _, _, ((l.trans l1).trans l3).trans l4, I4.stepBut n4 hs', q⟩)⟩
end
def pP : Params := { strHash := fun _ => 0, shareClass := fun _ => 0, mergeTok := fun t => t, idOf := fun _ => 0, idOfShared := fun _ _ => 0, followText := fun _ => false, idOfImm := fun _ => 0 }
def fdat (a : Addr) : FuncData := match (hd.heap_39 pP).lookup a with | some ⟨_, _, .func fd, _⟩ => fd | _ => default
def fbody (a : Addr) : List Stmt := match (fdat a).body with | .stmts b => b | _ => []
def fns (a : Addr) : List (Str × NameKind) := (fdat a).scope.names

/-! Change.__init__ -/
def sb68 : {b : List Stmt // fbody 68 = b} := ⟨_ :: _, rfl⟩
def sn68 : {b : List (Str × NameKind) // fns 68 = b} := ⟨_ :: _, rfl⟩
def fi68 : FI := ⟨sn68.1, []⟩
theorem fn68 : FnOk 68 [Str.ofString "self", Str.ofString "a_from", Str.ofString "a_to", Str.ofString "b_from", Str.ofString "b_to"] fi68 sb68.1 where
  look := fun w => ⟨_, _, rfl, rfl, ⟨rfl, rfl, rfl, rfl, rfl, rfl, rfl, rfl, by kernel_rfl, fun vs h => by
    rcases vs with _ | ⟨v0, _ | ⟨v1, _ | ⟨v2, _ | ⟨v3, _ | ⟨v4, _ | ⟨v5, _⟩⟩⟩⟩⟩⟩ <;> first | (simp at h; done) | rfl⟩⟩
  kinds := by decide
  nd := by decide
  ndn := by decide
  own := rfl
  free := by decide
theorem ie68 (m0 m1 m2 m3 m4 : MV) : initEv fi68.ns [Str.ofString "self", Str.ofString "a_from", Str.ofString "a_to", Str.ofString "b_from", Str.ofString "b_to"] [m0, m1, m2, m3, m4] = [m0, m1, m2, m3, m4] := rfl
/-! LineNumbers.__init__ -/
def sb110 : {b : List Stmt // fbody 110 = b} := ⟨_ :: _, rfl⟩
def sn110 : {b : List (Str × NameKind) // fns 110 = b} := ⟨_ :: _, rfl⟩
def fi110 : FI := ⟨sn110.1, []⟩
theorem fn110 : FnOk 110 [Str.ofString "self"] fi110 sb110.1 where
  look := fun w => ⟨_, _, rfl, rfl, ⟨rfl, rfl, rfl, rfl, rfl, rfl, rfl, rfl, by kernel_rfl, fun vs h => by
    rcases vs with _ | ⟨v0, _ | ⟨v1, _⟩⟩ <;> first | (simp at h; done) | rfl⟩⟩
  kinds := by decide
  nd := by decide
  ndn := by decide
  own := rfl
  free := by decide
theorem ie110 (m0 : MV) : initEv fi110.ns [Str.ofString "self"] [m0] = [m0] := rfl
/-! LineNumbers.number_of -/
def sb117 : {b : List Stmt // fbody 117 = b} := ⟨_ :: _, rfl⟩
def sn117 : {b : List (Str × NameKind) // fns 117 = b} := ⟨_ :: _, rfl⟩
def fi117 : FI := ⟨sn117.1, []⟩
theorem fn117 : FnOk 117 [Str.ofString "self", Str.ofString "line"] fi117 sb117.1 where
  look := fun w => ⟨_, _, rfl, rfl, ⟨rfl, rfl, rfl, rfl, rfl, rfl, rfl, rfl, by kernel_rfl, fun vs h => by
    rcases vs with _ | ⟨v0, _ | ⟨v1, _ | ⟨v2, _⟩⟩⟩ <;> first | (simp at h; done) | rfl⟩⟩
  kinds := by decide
  nd := by decide
  ndn := by decide
  own := rfl
  free := by decide
theorem ie117 (m0 m1 : MV) : initEv fi117.ns [Str.ofString "self", Str.ofString "line"] [m0, m1] = [m0, m1, .undef, .undef, .undef, .undef, .undef, .undef] := rfl
/-! LineNumbers.numbers_of -/
def sb122 : {b : List Stmt // fbody 122 = b} := ⟨_ :: _, rfl⟩
def sn122 : {b : List (Str × NameKind) // fns 122 = b} := ⟨_ :: _, rfl⟩
def fi122 : FI := ⟨sn122.1, [Str.ofString "self"]⟩
theorem fn122 : FnOk 122 [Str.ofString "self", Str.ofString "lines"] fi122 sb122.1 where
  look := fun w => ⟨_, _, rfl, rfl, ⟨rfl, rfl, rfl, rfl, rfl, rfl, rfl, rfl, by kernel_rfl, fun vs h => by
    rcases vs with _ | ⟨v0, _ | ⟨v1, _ | ⟨v2, _⟩⟩⟩ <;> first | (simp at h; done) | rfl⟩⟩
  kinds := by decide
  nd := by decide
  ndn := by decide
  own := rfl
  free := by decide
theorem ie122 (m0 m1 : MV) : initEv fi122.ns [Str.ofString "self", Str.ofString "lines"] [m0, m1] = [m0, m1] := rfl
/-! LineSheet.__init__ -/
def sb143 : {b : List Stmt // fbody 143 = b} := ⟨_ :: _, rfl⟩
def sn143 : {b : List (Str × NameKind) // fns 143 = b} := ⟨_ :: _, rfl⟩
def fi143 : FI := ⟨sn143.1, []⟩
theorem fn143 : FnOk 143 [Str.ofString "self", Str.ofString "a", Str.ofString "b"] fi143 sb143.1 where
  look := fun w => ⟨_, _, rfl, rfl, ⟨rfl, rfl, rfl, rfl, rfl, rfl, rfl, rfl, by kernel_rfl, fun vs h => by
    rcases vs with _ | ⟨v0, _ | ⟨v1, _ | ⟨v2, _ | ⟨v3, _⟩⟩⟩⟩ <;> first | (simp at h; done) | rfl⟩⟩
  kinds := by decide
  nd := by decide
  ndn := by decide
  own := rfl
  free := by decide
theorem ie143 (m0 m1 m2 : MV) : initEv fi143.ns [Str.ofString "self", Str.ofString "a", Str.ofString "b"] [m0, m1, m2] = [m0, m1, m2, .undef, .undef, .undef] := rfl
/-! LineSheet.whole -/
def sb150 : {b : List Stmt // fbody 150 = b} := ⟨_ :: _, rfl⟩
def sn150 : {b : List (Str × NameKind) // fns 150 = b} := ⟨_ :: _, rfl⟩
def fi150 : FI := ⟨sn150.1, []⟩
theorem fn150 : FnOk 150 [Str.ofString "self"] fi150 sb150.1 where
  look := fun w => ⟨_, _, rfl, rfl, ⟨rfl, rfl, rfl, rfl, rfl, rfl, rfl, rfl, by kernel_rfl, fun vs h => by
    rcases vs with _ | ⟨v0, _ | ⟨v1, _⟩⟩ <;> first | (simp at h; done) | rfl⟩⟩
  kinds := by decide
  nd := by decide
  ndn := by decide
  own := rfl
  free := by decide
theorem ie150 (m0 : MV) : initEv fi150.ns [Str.ofString "self"] [m0] = [m0, .undef] := rfl
/-! LineSheet.trimmed -/
def sb157 : {b : List Stmt // fbody 157 = b} := ⟨_ :: _, rfl⟩
def sn157 : {b : List (Str × NameKind) // fns 157 = b} := ⟨_ :: _, rfl⟩
def fi157 : FI := ⟨sn157.1, []⟩
theorem fn157 : FnOk 157 [Str.ofString "self", Str.ofString "part"] fi157 sb157.1 where
  look := fun w => ⟨_, _, rfl, rfl, ⟨rfl, rfl, rfl, rfl, rfl, rfl, rfl, rfl, by kernel_rfl, fun vs h => by
    rcases vs with _ | ⟨v0, _ | ⟨v1, _ | ⟨v2, _⟩⟩⟩ <;> first | (simp at h; done) | rfl⟩⟩
  kinds := by decide
  nd := by decide
  ndn := by decide
  own := rfl
  free := by decide
theorem ie157 (m0 m1 : MV) : initEv fi157.ns [Str.ofString "self", Str.ofString "part"] [m0, m1] = [m0, m1, .undef, .undef, .undef, .undef] := rfl
/-! LineSheet.mark -/
def sb164 : {b : List Stmt // fbody 164 = b} := ⟨_ :: _, rfl⟩
def sn164 : {b : List (Str × NameKind) // fns 164 = b} := ⟨_ :: _, rfl⟩
def fi164 : FI := ⟨sn164.1, []⟩
theorem fn164 : FnOk 164 [Str.ofString "self", Str.ofString "part"] fi164 sb164.1 where
  look := fun w => ⟨_, _, rfl, rfl, ⟨rfl, rfl, rfl, rfl, rfl, rfl, rfl, rfl, by kernel_rfl, fun vs h => by
    rcases vs with _ | ⟨v0, _ | ⟨v1, _ | ⟨v2, _⟩⟩⟩ <;> first | (simp at h; done) | rfl⟩⟩
  kinds := by decide
  nd := by decide
  ndn := by decide
  own := rfl
  free := by decide
theorem ie164 (m0 m1 : MV) : initEv fi164.ns [Str.ofString "self", Str.ofString "part"] [m0, m1] = [m0, m1, .undef, .undef, .undef, .undef, .undef, .undef] := rfl
/-! LineSheet.changes -/
def sb171 : {b : List Stmt // fbody 171 = b} := ⟨_ :: _, rfl⟩
def sn171 : {b : List (Str × NameKind) // fns 171 = b} := ⟨_ :: _, rfl⟩
def fi171 : FI := ⟨sn171.1, []⟩
theorem fn171 : FnOk 171 [Str.ofString "self"] fi171 sb171.1 where
  look := fun w => ⟨_, _, rfl, rfl, ⟨rfl, rfl, rfl, rfl, rfl, rfl, rfl, rfl, by kernel_rfl, fun vs h => by
    rcases vs with _ | ⟨v0, _ | ⟨v1, _⟩⟩ <;> first | (simp at h; done) | rfl⟩⟩
  kinds := by decide
  nd := by decide
  ndn := by decide
  own := rfl
  free := by decide
theorem ie171 (m0 : MV) : initEv fi171.ns [Str.ofString "self"] [m0] = [m0, .undef, .undef, .undef, .undef, .undef, .undef, .undef] := rfl
/-! LineSheet.halved -/
def sb178 : {b : List Stmt // fbody 178 = b} := ⟨_ :: _, rfl⟩
def sn178 : {b : List (Str × NameKind) // fns 178 = b} := ⟨_ :: _, rfl⟩
def fi178 : FI := ⟨sn178.1, []⟩
theorem fn178 : FnOk 178 [Str.ofString "self", Str.ofString "part"] fi178 sb178.1 where
  look := fun w => ⟨_, _, rfl, rfl, ⟨rfl, rfl, rfl, rfl, rfl, rfl, rfl, rfl, by kernel_rfl, fun vs h => by
    rcases vs with _ | ⟨v0, _ | ⟨v1, _ | ⟨v2, _⟩⟩⟩ <;> first | (simp at h; done) | rfl⟩⟩
  kinds := by decide
  nd := by decide
  ndn := by decide
  own := rfl
  free := by decide
theorem ie178 (m0 m1 : MV) : initEv fi178.ns [Str.ofString "self", Str.ofString "part"] [m0, m1] = [m0, m1, .undef, .undef, .undef, .undef, .undef, .undef, .undef, .undef, .undef, .undef, .undef, .undef, .undef, .undef, .undef] := rfl
/-! LineSheet.mark_fewest -/
def sb185 : {b : List Stmt // fbody 185 = b} := ⟨_ :: _, rfl⟩
def sn185 : {b : List (Str × NameKind) // fns 185 = b} := ⟨_ :: _, rfl⟩
def fi185 : FI := ⟨sn185.1, []⟩
theorem fn185 : FnOk 185 [Str.ofString "self", Str.ofString "part"] fi185 sb185.1 where
  look := fun w => ⟨_, _, rfl, rfl, ⟨rfl, rfl, rfl, rfl, rfl, rfl, rfl, rfl, by kernel_rfl, fun vs h => by
    rcases vs with _ | ⟨v0, _ | ⟨v1, _ | ⟨v2, _⟩⟩⟩ <;> first | (simp at h; done) | rfl⟩⟩
  kinds := by decide
  nd := by decide
  ndn := by decide
  own := rfl
  free := by decide
theorem ie185 (m0 m1 : MV) : initEv fi185.ns [Str.ofString "self", Str.ofString "part"] [m0, m1] = [m0, m1, .undef, .undef, .undef, .undef, .undef, .undef, .undef] := rfl
/-! line_further -/
def sb234 : {b : List Stmt // fbody 234 = b} := ⟨_ :: _, rfl⟩
def sn234 : {b : List (Str × NameKind) // fns 234 = b} := ⟨_ :: _, rfl⟩
def fi234 : FI := ⟨sn234.1, []⟩
theorem fn234 : FnOk 234 [Str.ofString "reach", Str.ofString "lane"] fi234 sb234.1 where
  look := fun w => ⟨_, _, rfl, rfl, ⟨rfl, rfl, rfl, rfl, rfl, rfl, rfl, rfl, by kernel_rfl, fun vs h => by
    rcases vs with _ | ⟨v0, _ | ⟨v1, _ | ⟨v2, _⟩⟩⟩ <;> first | (simp at h; done) | rfl⟩⟩
  kinds := by decide
  nd := by decide
  ndn := by decide
  own := rfl
  free := by decide
theorem ie234 (m0 m1 : MV) : initEv fi234.ns [Str.ofString "reach", Str.ofString "lane"] [m0, m1] = [m0, m1, .undef] := rfl
/-! myers -/
def sb248 : {b : List Stmt // fbody 248 = b} := ⟨_ :: _, rfl⟩
def sn248 : {b : List (Str × NameKind) // fns 248 = b} := ⟨_ :: _, rfl⟩
def fi248 : FI := ⟨sn248.1, []⟩
theorem fn248 : FnOk 248 [Str.ofString "a", Str.ofString "b"] fi248 sb248.1 where
  look := fun w => ⟨_, _, rfl, rfl, ⟨rfl, rfl, rfl, rfl, rfl, rfl, rfl, rfl, by kernel_rfl, fun vs h => by
    rcases vs with _ | ⟨v0, _ | ⟨v1, _ | ⟨v2, _⟩⟩⟩ <;> first | (simp at h; done) | rfl⟩⟩
  kinds := by decide
  nd := by decide
  ndn := by decide
  own := rfl
  free := by decide
theorem ie248 (m0 m1 : MV) : initEv fi248.ns [Str.ofString "a", Str.ofString "b"] [m0, m1] = [m0, m1, .undef, .undef] := rfl
/-! by -/
def sb270 : {b : List Stmt // fbody 270 = b} := ⟨_ :: _, rfl⟩
def sn270 : {b : List (Str × NameKind) // fns 270 = b} := ⟨_ :: _, rfl⟩
def fi270 : FI := ⟨sn270.1, []⟩
theorem fn270 : FnOk 270 [Str.ofString "how", Str.ofString "a", Str.ofString "b"] fi270 sb270.1 where
  look := fun w => ⟨_, _, rfl, rfl, ⟨rfl, rfl, rfl, rfl, rfl, rfl, rfl, rfl, by kernel_rfl, fun vs h => by
    rcases vs with _ | ⟨v0, _ | ⟨v1, _ | ⟨v2, _ | ⟨v3, _⟩⟩⟩⟩ <;> first | (simp at h; done) | rfl⟩⟩
  kinds := by decide
  nd := by decide
  ndn := by decide
  own := rfl
  free := by decide
theorem ie270 (m0 m1 m2 : MV) : initEv fi270.ns [Str.ofString "how", Str.ofString "a", Str.ofString "b"] [m0, m1, m2] = [m0, m1, m2, .undef, .undef, .undef, .undef] := rfl
/-! Chunk.__init__ -/
def sb284 : {b : List Stmt // fbody 284 = b} := ⟨_ :: _, rfl⟩
def sn284 : {b : List (Str × NameKind) // fns 284 = b} := ⟨_ :: _, rfl⟩
def fi284 : FI := ⟨sn284.1, []⟩
theorem fn284 : FnOk 284 [Str.ofString "self", Str.ofString "word", Str.ofString "base", Str.ofString "ours", Str.ofString "theirs"] fi284 sb284.1 where
  look := fun w => ⟨_, _, rfl, rfl, ⟨rfl, rfl, rfl, rfl, rfl, rfl, rfl, rfl, by kernel_rfl, fun vs h => by
    rcases vs with _ | ⟨v0, _ | ⟨v1, _ | ⟨v2, _ | ⟨v3, _ | ⟨v4, _ | ⟨v5, _⟩⟩⟩⟩⟩⟩ <;> first | (simp at h; done) | rfl⟩⟩
  kinds := by decide
  nd := by decide
  ndn := by decide
  own := rfl
  free := by decide
theorem ie284 (m0 m1 m2 m3 m4 : MV) : initEv fi284.ns [Str.ofString "self", Str.ofString "word", Str.ofString "base", Str.ofString "ours", Str.ofString "theirs"] [m0, m1, m2, m3, m4] = [m0, m1, m2, m3, m4] := rfl
/-! Chunk.joined -/
def sb291 : {b : List Stmt // fbody 291 = b} := ⟨_ :: _, rfl⟩
def sn291 : {b : List (Str × NameKind) // fns 291 = b} := ⟨_ :: _, rfl⟩
def fi291 : FI := ⟨sn291.1, []⟩
theorem fn291 : FnOk 291 [Str.ofString "self", Str.ofString "further"] fi291 sb291.1 where
  look := fun w => ⟨_, _, rfl, rfl, ⟨rfl, rfl, rfl, rfl, rfl, rfl, rfl, rfl, by kernel_rfl, fun vs h => by
    rcases vs with _ | ⟨v0, _ | ⟨v1, _ | ⟨v2, _⟩⟩⟩ <;> first | (simp at h; done) | rfl⟩⟩
  kinds := by decide
  nd := by decide
  ndn := by decide
  own := rfl
  free := by decide
theorem ie291 (m0 m1 : MV) : initEv fi291.ns [Str.ofString "self", Str.ofString "further"] [m0, m1] = [m0, m1, .undef, .undef] := rfl
/-! conflict_parted -/
def sb312 : {b : List Stmt // fbody 312 = b} := ⟨_ :: _, rfl⟩
def sn312 : {b : List (Str × NameKind) // fns 312 = b} := ⟨_ :: _, rfl⟩
def fi312 : FI := ⟨sn312.1, []⟩
theorem fn312 : FnOk 312 [Str.ofString "chunk", Str.ofString "how"] fi312 sb312.1 where
  look := fun w => ⟨_, _, rfl, rfl, ⟨rfl, rfl, rfl, rfl, rfl, rfl, rfl, rfl, by kernel_rfl, fun vs h => by
    rcases vs with _ | ⟨v0, _ | ⟨v1, _ | ⟨v2, _⟩⟩⟩ <;> first | (simp at h; done) | rfl⟩⟩
  kinds := by decide
  nd := by decide
  ndn := by decide
  own := rfl
  free := by decide
theorem ie312 (m0 m1 : MV) : initEv fi312.ns [Str.ofString "chunk", Str.ofString "how"] [m0, m1] = [m0, m1, .undef, .undef, .undef, .undef, .undef, .undef, .undef, .undef, .undef, .undef] := rfl
/-! conflict_trimmed -/
def sb319 : {b : List Stmt // fbody 319 = b} := ⟨_ :: _, rfl⟩
def sn319 : {b : List (Str × NameKind) // fns 319 = b} := ⟨_ :: _, rfl⟩
def fi319 : FI := ⟨sn319.1, []⟩
theorem fn319 : FnOk 319 [Str.ofString "chunk"] fi319 sb319.1 where
  look := fun w => ⟨_, _, rfl, rfl, ⟨rfl, rfl, rfl, rfl, rfl, rfl, rfl, rfl, by kernel_rfl, fun vs h => by
    rcases vs with _ | ⟨v0, _ | ⟨v1, _⟩⟩ <;> first | (simp at h; done) | rfl⟩⟩
  kinds := by decide
  nd := by decide
  ndn := by decide
  own := rfl
  free := by decide
theorem ie319 (m0 : MV) : initEv fi319.ns [Str.ofString "chunk"] [m0] = [m0, .undef, .undef, .undef, .undef, .undef, .undef, .undef, .undef, .undef, .undef, .undef, .undef, .undef] := rfl
/-! conflicts_closed_up -/
def sb326 : {b : List Stmt // fbody 326 = b} := ⟨_ :: _, rfl⟩
def sn326 : {b : List (Str × NameKind) // fns 326 = b} := ⟨_ :: _, rfl⟩
def fi326 : FI := ⟨sn326.1, []⟩
theorem fn326 : FnOk 326 [Str.ofString "pieces"] fi326 sb326.1 where
  look := fun w => ⟨_, _, rfl, rfl, ⟨rfl, rfl, rfl, rfl, rfl, rfl, rfl, rfl, by kernel_rfl, fun vs h => by
    rcases vs with _ | ⟨v0, _ | ⟨v1, _⟩⟩ <;> first | (simp at h; done) | rfl⟩⟩
  kinds := by decide
  nd := by decide
  ndn := by decide
  own := rfl
  free := by decide
theorem ie326 (m0 : MV) : initEv fi326.ns [Str.ofString "pieces"] [m0] = [m0, .undef, .undef, .undef, .undef, .undef, .undef, .undef, .undef, .undef, .undef, .undef] := rfl
/-! conflict_pieces -/
def sb333 : {b : List Stmt // fbody 333 = b} := ⟨_ :: _, rfl⟩
def sn333 : {b : List (Str × NameKind) // fns 333 = b} := ⟨_ :: _, rfl⟩
def fi333 : FI := ⟨sn333.1, []⟩
theorem fn333 : FnOk 333 [Str.ofString "found", Str.ofString "style", Str.ofString "how"] fi333 sb333.1 where
  look := fun w => ⟨_, _, rfl, rfl, ⟨rfl, rfl, rfl, rfl, rfl, rfl, rfl, rfl, by kernel_rfl, fun vs h => by
    rcases vs with _ | ⟨v0, _ | ⟨v1, _ | ⟨v2, _ | ⟨v3, _⟩⟩⟩⟩ <;> first | (simp at h; done) | rfl⟩⟩
  kinds := by decide
  nd := by decide
  ndn := by decide
  own := rfl
  free := by decide
theorem ie333 (m0 m1 m2 : MV) : initEv fi333.ns [Str.ofString "found", Str.ofString "style", Str.ofString "how"] [m0, m1, m2] = [m0, m1, m2, .undef, .undef, .undef, .undef, .undef, .undef] := rfl
/-! _law_draw -/
def sb340 : {b : List Stmt // fbody 340 = b} := ⟨_ :: _, rfl⟩
def sn340 : {b : List (Str × NameKind) // fns 340 = b} := ⟨_ :: _, rfl⟩
def fi340 : FI := ⟨sn340.1, []⟩
theorem fn340 : FnOk 340 [Str.ofString "deck", Str.ofString "below"] fi340 sb340.1 where
  look := fun w => ⟨_, _, rfl, rfl, ⟨rfl, rfl, rfl, rfl, rfl, rfl, rfl, rfl, by kernel_rfl, fun vs h => by
    rcases vs with _ | ⟨v0, _ | ⟨v1, _ | ⟨v2, _⟩⟩⟩ <;> first | (simp at h; done) | rfl⟩⟩
  kinds := by decide
  nd := by decide
  ndn := by decide
  own := rfl
  free := by decide
theorem ie340 (m0 m1 : MV) : initEv fi340.ns [Str.ofString "deck", Str.ofString "below"] [m0, m1] = [m0, m1, .undef, .undef, .undef, .undef] := rfl
/-! _law_lines -/
def sb345 : {b : List Stmt // fbody 345 = b} := ⟨_ :: _, rfl⟩
def sn345 : {b : List (Str × NameKind) // fns 345 = b} := ⟨_ :: _, rfl⟩
def fi345 : FI := ⟨sn345.1, [Str.ofString "deck"]⟩
theorem fn345 : FnOk 345 [Str.ofString "deck"] fi345 sb345.1 where
  look := fun w => ⟨_, _, rfl, rfl, ⟨rfl, rfl, rfl, rfl, rfl, rfl, rfl, rfl, by kernel_rfl, fun vs h => by
    rcases vs with _ | ⟨v0, _ | ⟨v1, _⟩⟩ <;> first | (simp at h; done) | rfl⟩⟩
  kinds := by decide
  nd := by decide
  ndn := by decide
  own := rfl
  free := by decide
theorem ie345 (m0 : MV) : initEv fi345.ns [Str.ofString "deck"] [m0] = [m0, .undef, .undef] := rfl
/-! _law_chunk -/
def sb352 : {b : List Stmt // fbody 352 = b} := ⟨_ :: _, rfl⟩
def sn352 : {b : List (Str × NameKind) // fns 352 = b} := ⟨_ :: _, rfl⟩
def fi352 : FI := ⟨sn352.1, []⟩
theorem fn352 : FnOk 352 [Str.ofString "deck"] fi352 sb352.1 where
  look := fun w => ⟨_, _, rfl, rfl, ⟨rfl, rfl, rfl, rfl, rfl, rfl, rfl, rfl, by kernel_rfl, fun vs h => by
    rcases vs with _ | ⟨v0, _ | ⟨v1, _⟩⟩ <;> first | (simp at h; done) | rfl⟩⟩
  kinds := by decide
  nd := by decide
  ndn := by decide
  own := rfl
  free := by decide
theorem ie352 (m0 : MV) : initEv fi352.ns [Str.ofString "deck"] [m0] = [m0, .undef, .undef, .undef, .undef, .undef, .undef, .undef] := rfl
/-! _law_told -/
def sb359 : {b : List Stmt // fbody 359 = b} := ⟨_ :: _, rfl⟩
def sn359 : {b : List (Str × NameKind) // fns 359 = b} := ⟨_ :: _, rfl⟩
def fi359 : FI := ⟨sn359.1, []⟩
theorem fn359 : FnOk 359 [Str.ofString "chunk"] fi359 sb359.1 where
  look := fun w => ⟨_, _, rfl, rfl, ⟨rfl, rfl, rfl, rfl, rfl, rfl, rfl, rfl, by kernel_rfl, fun vs h => by
    rcases vs with _ | ⟨v0, _ | ⟨v1, _⟩⟩ <;> first | (simp at h; done) | rfl⟩⟩
  kinds := by decide
  nd := by decide
  ndn := by decide
  own := rfl
  free := by decide
theorem ie359 (m0 : MV) : initEv fi359.ns [Str.ofString "chunk"] [m0] = [m0, .undef] := rfl
/-! _law_longest -/
def sb366 : {b : List Stmt // fbody 366 = b} := ⟨_ :: _, rfl⟩
def sn366 : {b : List (Str × NameKind) // fns 366 = b} := ⟨_ :: _, rfl⟩
def fi366 : FI := ⟨sn366.1, []⟩
theorem fn366 : FnOk 366 [Str.ofString "one", Str.ofString "other"] fi366 sb366.1 where
  look := fun w => ⟨_, _, rfl, rfl, ⟨rfl, rfl, rfl, rfl, rfl, rfl, rfl, rfl, by kernel_rfl, fun vs h => by
    rcases vs with _ | ⟨v0, _ | ⟨v1, _ | ⟨v2, _⟩⟩⟩ <;> first | (simp at h; done) | rfl⟩⟩
  kinds := by decide
  nd := by decide
  ndn := by decide
  own := rfl
  free := by decide
theorem ie366 (m0 m1 : MV) : initEv fi366.ns [Str.ofString "one", Str.ofString "other"] [m0, m1] = [m0, m1, .undef, .undef, .undef, .undef, .undef, .undef, .undef, .undef] := rfl
/-! _law_is_parted -/
def sb371 : {b : List Stmt // fbody 371 = b} := ⟨_ :: _, rfl⟩
def sn371 : {b : List (Str × NameKind) // fns 371 = b} := ⟨_ :: _, rfl⟩
def fi371 : FI := ⟨sn371.1, []⟩
theorem fn371 : FnOk 371 [Str.ofString "chunk", Str.ofString "pieces"] fi371 sb371.1 where
  look := fun w => ⟨_, _, rfl, rfl, ⟨rfl, rfl, rfl, rfl, rfl, rfl, rfl, rfl, by kernel_rfl, fun vs h => by
    rcases vs with _ | ⟨v0, _ | ⟨v1, _ | ⟨v2, _⟩⟩⟩ <;> first | (simp at h; done) | rfl⟩⟩
  kinds := by decide
  nd := by decide
  ndn := by decide
  own := rfl
  free := by decide
theorem ie371 (m0 m1 : MV) : initEv fi371.ns [Str.ofString "chunk", Str.ofString "pieces"] [m0, m1] = [m0, m1, .undef, .undef, .undef, .undef, .undef, .undef, .undef, .undef, .undef, .undef] := rfl
/-! _law_trimmed -/
def sb378 : {b : List Stmt // fbody 378 = b} := ⟨_ :: _, rfl⟩
def sn378 : {b : List (Str × NameKind) // fns 378 = b} := ⟨_ :: _, rfl⟩
def fi378 : FI := ⟨sn378.1, []⟩
theorem fn378 : FnOk 378 [Str.ofString "chunk"] fi378 sb378.1 where
  look := fun w => ⟨_, _, rfl, rfl, ⟨rfl, rfl, rfl, rfl, rfl, rfl, rfl, rfl, by kernel_rfl, fun vs h => by
    rcases vs with _ | ⟨v0, _ | ⟨v1, _⟩⟩ <;> first | (simp at h; done) | rfl⟩⟩
  kinds := by decide
  nd := by decide
  ndn := by decide
  own := rfl
  free := by decide
theorem ie378 (m0 : MV) : initEv fi378.ns [Str.ofString "chunk"] [m0] = [m0, .undef, .undef, .undef, .undef, .undef, .undef] := rfl
/-! _law_closed -/
def sb383 : {b : List Stmt // fbody 383 = b} := ⟨_ :: _, rfl⟩
def sn383 : {b : List (Str × NameKind) // fns 383 = b} := ⟨_ :: _, rfl⟩
def fi383 : FI := ⟨sn383.1, [Str.ofString "told", Str.ofString "low", Str.ofString "high"]⟩
theorem fn383 : FnOk 383 [Str.ofString "told"] fi383 sb383.1 where
  look := fun w => ⟨_, _, rfl, rfl, ⟨rfl, rfl, rfl, rfl, rfl, rfl, rfl, rfl, by kernel_rfl, fun vs h => by
    rcases vs with _ | ⟨v0, _ | ⟨v1, _⟩⟩ <;> first | (simp at h; done) | rfl⟩⟩
  kinds := by decide
  nd := by decide
  ndn := by decide
  own := rfl
  free := by decide
theorem ie383 (m0 : MV) : initEv fi383.ns [Str.ofString "told"] [m0] = [m0, .undef, .undef, .undef, .undef, .undef, .undef, .undef, .undef] := rfl
/-! law -/
def sb388 : {b : List Stmt // fbody 388 = b} := ⟨_ :: _, rfl⟩
def sn388 : {b : List (Str × NameKind) // fns 388 = b} := ⟨_ :: _, rfl⟩
def fi388 : FI := ⟨sn388.1, [Str.ofString "deck"]⟩
theorem ie388 (m0 : MV) : initEv fi388.ns [Str.ofString "script"] [m0] = [m0, .undef, .undef, .undef, .undef, .undef, .undef, .undef, .undef, .undef, .undef, .undef, .undef, .undef, .undef, .undef, .undef, .undef, .undef, .undef, .undef, .undef, .undef] := rfl
section
variable {B : Bs} {fi : FI} {d : Nat} {ev : List MV} {H : List MObj} {pos : Pos} {Q : MV → List MObj → Prop}

theorem gl_line_further (hs : fi.ns.lookup (Str.ofString "line_further") = some .globalImplicit) (h : Q (.con (.ref 234)) H) : WPE B fi d (.Name (Str.ofString "line_further") pos) ev H Q :=
  WPE.glob (v := .ref 234) hs (by kernel_rfl) (fun g => .con') rfl h
theorem gl_myers (hs : fi.ns.lookup (Str.ofString "myers") = some .globalImplicit) (h : Q (.con (.ref 248)) H) : WPE B fi d (.Name (Str.ofString "myers") pos) ev H Q :=
  WPE.glob (v := .ref 248) hs (by kernel_rfl) (fun g => .con') rfl h
theorem gl_by (hs : fi.ns.lookup (Str.ofString "by") = some .globalImplicit) (h : Q (.con (.ref 270)) H) : WPE B fi d (.Name (Str.ofString "by") pos) ev H Q :=
  WPE.glob (v := .ref 270) hs (by kernel_rfl) (fun g => .con') rfl h
theorem gl_conflict_parted (hs : fi.ns.lookup (Str.ofString "conflict_parted") = some .globalImplicit) (h : Q (.con (.ref 312)) H) : WPE B fi d (.Name (Str.ofString "conflict_parted") pos) ev H Q :=
  WPE.glob (v := .ref 312) hs (by kernel_rfl) (fun g => .con') rfl h
theorem gl_conflict_trimmed (hs : fi.ns.lookup (Str.ofString "conflict_trimmed") = some .globalImplicit) (h : Q (.con (.ref 319)) H) : WPE B fi d (.Name (Str.ofString "conflict_trimmed") pos) ev H Q :=
  WPE.glob (v := .ref 319) hs (by kernel_rfl) (fun g => .con') rfl h
theorem gl_conflicts_closed_up (hs : fi.ns.lookup (Str.ofString "conflicts_closed_up") = some .globalImplicit) (h : Q (.con (.ref 326)) H) : WPE B fi d (.Name (Str.ofString "conflicts_closed_up") pos) ev H Q :=
  WPE.glob (v := .ref 326) hs (by kernel_rfl) (fun g => .con') rfl h
theorem gl_conflict_pieces (hs : fi.ns.lookup (Str.ofString "conflict_pieces") = some .globalImplicit) (h : Q (.con (.ref 333)) H) : WPE B fi d (.Name (Str.ofString "conflict_pieces") pos) ev H Q :=
  WPE.glob (v := .ref 333) hs (by kernel_rfl) (fun g => .con') rfl h
theorem gl_law_draw (hs : fi.ns.lookup (Str.ofString "_law_draw") = some .globalImplicit) (h : Q (.con (.ref 340)) H) : WPE B fi d (.Name (Str.ofString "_law_draw") pos) ev H Q :=
  WPE.glob (v := .ref 340) hs (by kernel_rfl) (fun g => .con') rfl h
theorem gl_law_lines (hs : fi.ns.lookup (Str.ofString "_law_lines") = some .globalImplicit) (h : Q (.con (.ref 345)) H) : WPE B fi d (.Name (Str.ofString "_law_lines") pos) ev H Q :=
  WPE.glob (v := .ref 345) hs (by kernel_rfl) (fun g => .con') rfl h
theorem gl_law_chunk (hs : fi.ns.lookup (Str.ofString "_law_chunk") = some .globalImplicit) (h : Q (.con (.ref 352)) H) : WPE B fi d (.Name (Str.ofString "_law_chunk") pos) ev H Q :=
  WPE.glob (v := .ref 352) hs (by kernel_rfl) (fun g => .con') rfl h
theorem gl_law_told (hs : fi.ns.lookup (Str.ofString "_law_told") = some .globalImplicit) (h : Q (.con (.ref 359)) H) : WPE B fi d (.Name (Str.ofString "_law_told") pos) ev H Q :=
  WPE.glob (v := .ref 359) hs (by kernel_rfl) (fun g => .con') rfl h
theorem gl_law_longest (hs : fi.ns.lookup (Str.ofString "_law_longest") = some .globalImplicit) (h : Q (.con (.ref 366)) H) : WPE B fi d (.Name (Str.ofString "_law_longest") pos) ev H Q :=
  WPE.glob (v := .ref 366) hs (by kernel_rfl) (fun g => .con') rfl h
theorem gl_law_is_parted (hs : fi.ns.lookup (Str.ofString "_law_is_parted") = some .globalImplicit) (h : Q (.con (.ref 371)) H) : WPE B fi d (.Name (Str.ofString "_law_is_parted") pos) ev H Q :=
  WPE.glob (v := .ref 371) hs (by kernel_rfl) (fun g => .con') rfl h
theorem gl_law_trimmed (hs : fi.ns.lookup (Str.ofString "_law_trimmed") = some .globalImplicit) (h : Q (.con (.ref 378)) H) : WPE B fi d (.Name (Str.ofString "_law_trimmed") pos) ev H Q :=
  WPE.glob (v := .ref 378) hs (by kernel_rfl) (fun g => .con') rfl h
theorem gl_law_closed (hs : fi.ns.lookup (Str.ofString "_law_closed") = some .globalImplicit) (h : Q (.con (.ref 383)) H) : WPE B fi d (.Name (Str.ofString "_law_closed") pos) ev H Q :=
  WPE.glob (v := .ref 383) hs (by kernel_rfl) (fun g => .con') rfl h
theorem gl_Change (hs : fi.ns.lookup (Str.ofString "Change") = some .globalImplicit) (h : Q (.con (.ref 92)) H) : WPE B fi d (.Name (Str.ofString "Change") pos) ev H Q :=
  WPE.glob (v := .ref 92) hs (by kernel_rfl) (fun g => .con') rfl h
theorem gl_LineNumbers (hs : fi.ns.lookup (Str.ofString "LineNumbers") = some .globalImplicit) (h : Q (.con (.ref 125)) H) : WPE B fi d (.Name (Str.ofString "LineNumbers") pos) ev H Q :=
  WPE.glob (v := .ref 125) hs (by kernel_rfl) (fun g => .con') rfl h
theorem gl_LineSheet (hs : fi.ns.lookup (Str.ofString "LineSheet") = some .globalImplicit) (h : Q (.con (.ref 223)) H) : WPE B fi d (.Name (Str.ofString "LineSheet") pos) ev H Q :=
  WPE.glob (v := .ref 223) hs (by kernel_rfl) (fun g => .con') rfl h
theorem gl_Chunk (hs : fi.ns.lookup (Str.ofString "Chunk") = some .globalImplicit) (h : Q (.con (.ref 301)) H) : WPE B fi d (.Name (Str.ofString "Chunk") pos) ev H Q :=
  WPE.glob (v := .ref 301) hs (by kernel_rfl) (fun g => .con') rfl h
theorem gl_OURS (hs : fi.ns.lookup (Str.ofString "OURS") = some .globalImplicit) (h : Q (.str (Str.ofString "ours")) H) : WPE B fi d (.Name (Str.ofString "OURS") pos) ev H Q :=
  WPE.glob (v := .str (Str.ofString "ours") 610) hs (by kernel_rfl) (fun g => .str') rfl h
theorem gl_THEIRS (hs : fi.ns.lookup (Str.ofString "THEIRS") = some .globalImplicit) (h : Q (.str (Str.ofString "theirs")) H) : WPE B fi d (.Name (Str.ofString "THEIRS") pos) ev H Q :=
  WPE.glob (v := .str (Str.ofString "theirs") 612) hs (by kernel_rfl) (fun g => .str') rfl h
theorem gl_BOTH (hs : fi.ns.lookup (Str.ofString "BOTH") = some .globalImplicit) (h : Q (.str (Str.ofString "both")) H) : WPE B fi d (.Name (Str.ofString "BOTH") pos) ev H Q :=
  WPE.glob (v := .str (Str.ofString "both") 614) hs (by kernel_rfl) (fun g => .str') rfl h
theorem gl_CONFLICT (hs : fi.ns.lookup (Str.ofString "CONFLICT") = some .globalImplicit) (h : Q (.str (Str.ofString "conflict")) H) : WPE B fi d (.Name (Str.ofString "CONFLICT") pos) ev H Q :=
  WPE.glob (v := .str (Str.ofString "conflict") 616) hs (by kernel_rfl) (fun g => .str') rfl h
theorem gl_SHORT (hs : fi.ns.lookup (Str.ofString "SHORT") = some .globalImplicit) (h : Q (.int 3) H) : WPE B fi d (.Name (Str.ofString "SHORT") pos) ev H Q :=
  WPE.glob (v := .int 3 618) hs (by kernel_rfl) (fun g => .int') rfl h
theorem gl_len (hs : fi.ns.lookup (Str.ofString "len") = some .globalImplicit) (h : Q (.con (.builtin "len")) H) : WPE B fi d (.Name (Str.ofString "len") pos) ev H Q :=
  WPE.bi hs (by kernel_rfl) (by kernel_rfl) (by decide) rfl h
theorem gl_min (hs : fi.ns.lookup (Str.ofString "min") = some .globalImplicit) (h : Q (.con (.builtin "min")) H) : WPE B fi d (.Name (Str.ofString "min") pos) ev H Q :=
  WPE.bi hs (by kernel_rfl) (by kernel_rfl) (by decide) rfl h
theorem gl_max (hs : fi.ns.lookup (Str.ofString "max") = some .globalImplicit) (h : Q (.con (.builtin "max")) H) : WPE B fi d (.Name (Str.ofString "max") pos) ev H Q :=
  WPE.bi hs (by kernel_rfl) (by kernel_rfl) (by decide) rfl h
theorem gl_isinstance (hs : fi.ns.lookup (Str.ofString "isinstance") = some .globalImplicit) (h : Q (.con (.builtin "isinstance")) H) : WPE B fi d (.Name (Str.ofString "isinstance") pos) ev H Q :=
  WPE.bi hs (by kernel_rfl) (by kernel_rfl) (by decide) rfl h
theorem gl_sum (hs : fi.ns.lookup (Str.ofString "sum") = some .globalImplicit) (h : Q (.con (.builtin "sum")) H) : WPE B fi d (.Name (Str.ofString "sum") pos) ev H Q :=
  WPE.bi hs (by kernel_rfl) (by kernel_rfl) (by decide) rfl h
theorem gl_list (hs : fi.ns.lookup (Str.ofString "list") = some .globalImplicit) (h : Q (.con (.type "list")) H) : WPE B fi d (.Name (Str.ofString "list") pos) ev H Q :=
  WPE.bi hs (by kernel_rfl) (by kernel_rfl) (by decide) rfl h
theorem gl_range (hs : fi.ns.lookup (Str.ofString "range") = some .globalImplicit) (h : Q (.con (.type "range")) H) : WPE B fi d (.Name (Str.ofString "range") pos) ev H Q :=
  WPE.bi hs (by kernel_rfl) (by kernel_rfl) (by decide) rfl h
theorem gl_enumerate (hs : fi.ns.lookup (Str.ofString "enumerate") = some .globalImplicit) (h : Q (.con (.type "enumerate")) H) : WPE B fi d (.Name (Str.ofString "enumerate") pos) ev H Q :=
  WPE.bi hs (by kernel_rfl) (by kernel_rfl) (by decide) rfl h
theorem gl_zip (hs : fi.ns.lookup (Str.ofString "zip") = some .globalImplicit) (h : Q (.con (.type "zip")) H) : WPE B fi d (.Name (Str.ofString "zip") pos) ev H Q :=
  WPE.bi hs (by kernel_rfl) (by kernel_rfl) (by decide) rfl h
theorem gl_bytes (hs : fi.ns.lookup (Str.ofString "bytes") = some .globalImplicit) (h : Q (.con (.type "bytes")) H) : WPE B fi d (.Name (Str.ofString "bytes") pos) ev H Q :=
  WPE.bi hs (by kernel_rfl) (by kernel_rfl) (by decide) rfl h
theorem gl_str (hs : fi.ns.lookup (Str.ofString "str") = some .globalImplicit) (h : Q (.con (.type "str")) H) : WPE B fi d (.Name (Str.ofString "str") pos) ev H Q :=
  WPE.bi hs (by kernel_rfl) (by kernel_rfl) (by decide) rfl h
end
theorem co_234 (w : World) : calleeOk w (.con (.ref 234)) = true := by kernel_rfl
theorem co_248 (w : World) : calleeOk w (.con (.ref 248)) = true := by kernel_rfl
theorem co_270 (w : World) : calleeOk w (.con (.ref 270)) = true := by kernel_rfl
theorem co_312 (w : World) : calleeOk w (.con (.ref 312)) = true := by kernel_rfl
theorem co_319 (w : World) : calleeOk w (.con (.ref 319)) = true := by kernel_rfl
theorem co_326 (w : World) : calleeOk w (.con (.ref 326)) = true := by kernel_rfl
theorem co_333 (w : World) : calleeOk w (.con (.ref 333)) = true := by kernel_rfl
theorem co_340 (w : World) : calleeOk w (.con (.ref 340)) = true := by kernel_rfl
theorem co_345 (w : World) : calleeOk w (.con (.ref 345)) = true := by kernel_rfl
theorem co_352 (w : World) : calleeOk w (.con (.ref 352)) = true := by kernel_rfl
theorem co_359 (w : World) : calleeOk w (.con (.ref 359)) = true := by kernel_rfl
theorem co_366 (w : World) : calleeOk w (.con (.ref 366)) = true := by kernel_rfl
theorem co_371 (w : World) : calleeOk w (.con (.ref 371)) = true := by kernel_rfl
theorem co_378 (w : World) : calleeOk w (.con (.ref 378)) = true := by kernel_rfl
theorem co_383 (w : World) : calleeOk w (.con (.ref 383)) = true := by kernel_rfl
theorem co_92 (w : World) : calleeOk w (.con (.ref 92)) = true := by kernel_rfl
theorem mk_92 (w : World) : makesIn (Kw w) 92 = true := by kernel_rfl
theorem in_92 (w : World) : findIn (Kw w) (.ref 92) "__init__" = some (some (.ref 68)) := by kernel_rfl
theorem ty_68 (w : World) : typeIn (Kw w) (.ref 68) = some (.type "function") := by kernel_rfl
theorem co_125 (w : World) : calleeOk w (.con (.ref 125)) = true := by kernel_rfl
theorem mk_125 (w : World) : makesIn (Kw w) 125 = true := by kernel_rfl
theorem in_125 (w : World) : findIn (Kw w) (.ref 125) "__init__" = some (some (.ref 110)) := by kernel_rfl
theorem ty_110 (w : World) : typeIn (Kw w) (.ref 110) = some (.type "function") := by kernel_rfl
theorem co_223 (w : World) : calleeOk w (.con (.ref 223)) = true := by kernel_rfl
theorem mk_223 (w : World) : makesIn (Kw w) 223 = true := by kernel_rfl
theorem in_223 (w : World) : findIn (Kw w) (.ref 223) "__init__" = some (some (.ref 143)) := by kernel_rfl
theorem ty_143 (w : World) : typeIn (Kw w) (.ref 143) = some (.type "function") := by kernel_rfl
theorem co_301 (w : World) : calleeOk w (.con (.ref 301)) = true := by kernel_rfl
theorem mk_301 (w : World) : makesIn (Kw w) 301 = true := by kernel_rfl
theorem in_301 (w : World) : findIn (Kw w) (.ref 301) "__init__" = some (some (.ref 284)) := by kernel_rfl
theorem ty_284 (w : World) : typeIn (Kw w) (.ref 284) = some (.type "function") := by kernel_rfl
theorem at_301_word (w : World) : attrOk w 301 (Str.ofString "word") = true := by kernel_rfl
theorem st_301_word (w : World) : setOk w 301 (Str.ofString "word") = true := by kernel_rfl
theorem at_301_base (w : World) : attrOk w 301 (Str.ofString "base") = true := by kernel_rfl
theorem st_301_base (w : World) : setOk w 301 (Str.ofString "base") = true := by kernel_rfl
theorem at_301_ours (w : World) : attrOk w 301 (Str.ofString "ours") = true := by kernel_rfl
theorem st_301_ours (w : World) : setOk w 301 (Str.ofString "ours") = true := by kernel_rfl
theorem at_301_theirs (w : World) : attrOk w 301 (Str.ofString "theirs") = true := by kernel_rfl
theorem st_301_theirs (w : World) : setOk w 301 (Str.ofString "theirs") = true := by kernel_rfl
theorem at_92_a_from (w : World) : attrOk w 92 (Str.ofString "a_from") = true := by kernel_rfl
theorem st_92_a_from (w : World) : setOk w 92 (Str.ofString "a_from") = true := by kernel_rfl
theorem at_92_a_to (w : World) : attrOk w 92 (Str.ofString "a_to") = true := by kernel_rfl
theorem st_92_a_to (w : World) : setOk w 92 (Str.ofString "a_to") = true := by kernel_rfl
theorem at_92_b_from (w : World) : attrOk w 92 (Str.ofString "b_from") = true := by kernel_rfl
theorem st_92_b_from (w : World) : setOk w 92 (Str.ofString "b_from") = true := by kernel_rfl
theorem at_92_b_to (w : World) : attrOk w 92 (Str.ofString "b_to") = true := by kernel_rfl
theorem st_92_b_to (w : World) : setOk w 92 (Str.ofString "b_to") = true := by kernel_rfl
theorem at_223_a (w : World) : attrOk w 223 (Str.ofString "a") = true := by kernel_rfl
theorem st_223_a (w : World) : setOk w 223 (Str.ofString "a") = true := by kernel_rfl
theorem at_223_b (w : World) : attrOk w 223 (Str.ofString "b") = true := by kernel_rfl
theorem st_223_b (w : World) : setOk w 223 (Str.ofString "b") = true := by kernel_rfl
theorem at_223_gone (w : World) : attrOk w 223 (Str.ofString "gone") = true := by kernel_rfl
theorem st_223_gone (w : World) : setOk w 223 (Str.ofString "gone") = true := by kernel_rfl
theorem at_223_come (w : World) : attrOk w 223 (Str.ofString "come") = true := by kernel_rfl
theorem st_223_come (w : World) : setOk w 223 (Str.ofString "come") = true := by kernel_rfl
theorem at_125_known (w : World) : attrOk w 125 (Str.ofString "known") = true := by kernel_rfl
theorem st_125_known (w : World) : setOk w 125 (Str.ofString "known") = true := by kernel_rfl
theorem at_125_strange (w : World) : attrOk w 125 (Str.ofString "strange") = true := by kernel_rfl
theorem st_125_strange (w : World) : setOk w 125 (Str.ofString "strange") = true := by kernel_rfl
theorem at_125_count (w : World) : attrOk w 125 (Str.ofString "count") = true := by kernel_rfl
theorem st_125_count (w : World) : setOk w 125 (Str.ofString "count") = true := by kernel_rfl
theorem me_301_joined (w : World) : plainGet (Kw w) 301 (Str.ofString "joined") = true ∧ findIn (Kw w) (.ref 301) (Str.ofString "joined") = some (some (.ref 291)) ∧ isFn (Kw w) (.ref 291) = true ∧ keepIn (Kw w) (.ref 291) = true := ⟨by kernel_rfl, by kernel_rfl, by kernel_rfl, by kernel_rfl⟩
theorem me_223_whole (w : World) : plainGet (Kw w) 223 (Str.ofString "whole") = true ∧ findIn (Kw w) (.ref 223) (Str.ofString "whole") = some (some (.ref 150)) ∧ isFn (Kw w) (.ref 150) = true ∧ keepIn (Kw w) (.ref 150) = true := ⟨by kernel_rfl, by kernel_rfl, by kernel_rfl, by kernel_rfl⟩
theorem me_223_trimmed (w : World) : plainGet (Kw w) 223 (Str.ofString "trimmed") = true ∧ findIn (Kw w) (.ref 223) (Str.ofString "trimmed") = some (some (.ref 157)) ∧ isFn (Kw w) (.ref 157) = true ∧ keepIn (Kw w) (.ref 157) = true := ⟨by kernel_rfl, by kernel_rfl, by kernel_rfl, by kernel_rfl⟩
theorem me_223_mark (w : World) : plainGet (Kw w) 223 (Str.ofString "mark") = true ∧ findIn (Kw w) (.ref 223) (Str.ofString "mark") = some (some (.ref 164)) ∧ isFn (Kw w) (.ref 164) = true ∧ keepIn (Kw w) (.ref 164) = true := ⟨by kernel_rfl, by kernel_rfl, by kernel_rfl, by kernel_rfl⟩
theorem me_223_changes (w : World) : plainGet (Kw w) 223 (Str.ofString "changes") = true ∧ findIn (Kw w) (.ref 223) (Str.ofString "changes") = some (some (.ref 171)) ∧ isFn (Kw w) (.ref 171) = true ∧ keepIn (Kw w) (.ref 171) = true := ⟨by kernel_rfl, by kernel_rfl, by kernel_rfl, by kernel_rfl⟩
theorem me_223_halved (w : World) : plainGet (Kw w) 223 (Str.ofString "halved") = true ∧ findIn (Kw w) (.ref 223) (Str.ofString "halved") = some (some (.ref 178)) ∧ isFn (Kw w) (.ref 178) = true ∧ keepIn (Kw w) (.ref 178) = true := ⟨by kernel_rfl, by kernel_rfl, by kernel_rfl, by kernel_rfl⟩
theorem me_223_mark_fewest (w : World) : plainGet (Kw w) 223 (Str.ofString "mark_fewest") = true ∧ findIn (Kw w) (.ref 223) (Str.ofString "mark_fewest") = some (some (.ref 185)) ∧ isFn (Kw w) (.ref 185) = true ∧ keepIn (Kw w) (.ref 185) = true := ⟨by kernel_rfl, by kernel_rfl, by kernel_rfl, by kernel_rfl⟩
theorem me_125_number_of (w : World) : plainGet (Kw w) 125 (Str.ofString "number_of") = true ∧ findIn (Kw w) (.ref 125) (Str.ofString "number_of") = some (some (.ref 117)) ∧ isFn (Kw w) (.ref 117) = true ∧ keepIn (Kw w) (.ref 117) = true := ⟨by kernel_rfl, by kernel_rfl, by kernel_rfl, by kernel_rfl⟩
theorem me_125_numbers_of (w : World) : plainGet (Kw w) 125 (Str.ofString "numbers_of") = true ∧ findIn (Kw w) (.ref 125) (Str.ofString "numbers_of") = some (some (.ref 122)) ∧ isFn (Kw w) (.ref 122) = true ∧ keepIn (Kw w) (.ref 122) = true := ⟨by kernel_rfl, by kernel_rfl, by kernel_rfl, by kernel_rfl⟩
section
abbrev Line := Fin 3
def lineOf : Line → List UInt8
  | 0 => [97, 10]
  | 1 => [98, 10]
  | 2 => [99, 10]
def lb (x : Line) : MV := .bytes (lineOf x)
theorem lineOf_beq (x y : Line) : (lineOf x == lineOf y) = (x == y) := by revert x y; decide
inductive Wd where
  | same | ours | theirs | both | conflict
deriving DecidableEq
def wS : Wd → Str
  | .same => Str.ofString "same"
  | .ours => Str.ofString "ours"
  | .theirs => Str.ofString "theirs"
  | .both => Str.ofString "both"
  | .conflict => Str.ofString "conflict"
theorem wS_beq (x y : Wd) : (wS x == wS y) = (decide (x = y)) := by cases x <;> cases y <;> decide

def Ext (H H' : List MObj) : Prop := ∀ (i : Nat) (o : MObj), H[i]? = some o → H'[i]? = some o
theorem Ext.refl (H : List MObj) : Ext H H := fun _ _ h => h
theorem Ext.trans {a b c : List MObj} (x : Ext a b) (y : Ext b c) : Ext a c := fun i o h => y i o (x i o h)
theorem Ext.app (H : List MObj) (X : List MObj) : Ext H (H ++ X) := fun i o h => by rw [List.getElem?_append_left (List.getElem?_eq_some_iff.mp h).1]; exact h
theorem at_last (H : List MObj) (o : MObj) : (H ++ [o])[H.length]? = some o := by simp
theorem at_lastI {H : List MObj} {o : MObj} {i : Nat} (h : H.length = i) : (H ++ [o])[i]? = some o := h ▸ at_last H o
theorem lt_of_at {H : List MObj} {i : Nat} {o : MObj} (h : H[i]? = some o) : i < H.length := (List.getElem?_eq_some_iff.mp h).1
theorem at_set {H : List MObj} {i : Nat} {o : MObj} (h : i < H.length) : (H.set i o)[i]? = some o := List.getElem?_set_self h
theorem at_set_ne {H : List MObj} {i j : Nat} {o x : MObj} (h : H[j]? = some x) (hne : i ≠ j) : (H.set i o)[j]? = some x := by rw [List.getElem?_set_ne hne]; exact h
theorem at_app {H X : List MObj} {i : Nat} {o : MObj} (h : H[i]? = some o) : (H ++ X)[i]? = some o := Ext.app H X i o h
theorem Ext.get {H H' : List MObj} {i : Nat} {o : MObj} (x : Ext H H') (h : H[i]? = some o) : H'[i]? = some o := x i o h
theorem Ext.len {H H' : List MObj} (x : Ext H H') : H.length ≤ H'.length := by
  rcases Nat.eq_zero_or_pos H.length with h | h
  · omega
  · have := lt_of_at (x (H.length - 1) _ (List.getElem?_eq_getElem (by omega))); omega
/-- all but what is listed stays -/
def ExtM (M : List Nat) (H H' : List MObj) : Prop := ∀ (i : Nat) (o : MObj), i ∉ M → H[i]? = some o → H'[i]? = some o
theorem ExtM.refl {M : List Nat} (H : List MObj) : ExtM M H H := fun _ _ _ h => h
theorem ExtM.trans {M : List Nat} {a b c : List MObj} (x : ExtM M a b) (y : ExtM M b c) : ExtM M a c := fun i o n h => y i o n (x i o n h)
theorem Ext.toM {M : List Nat} {a b : List MObj} (x : Ext a b) : ExtM M a b := fun i o _ h => x i o h
theorem ExtM.set {M : List Nat} {H : List MObj} {i : Nat} {o : MObj} (h : i ∈ M) : ExtM M H (H.set i o) := fun j x n e => at_set_ne e (fun q => n (q ▸ h))
theorem ExtM.mono {M M' : List Nat} {a b : List MObj} (x : ExtM M a b) (h : ∀ i, i ∈ M → i ∈ M') : ExtM M' a b := fun i o n e => x i o (fun q => n (h i q)) e
/-- what is set was new -/
theorem Ext.set_new {H H' : List MObj} {i : Nat} {o : MObj} (x : Ext H H') (h : H.length ≤ i) : Ext H (H'.set i o) := fun j p e => at_set_ne (x j p e) (by have := lt_of_at e; omega)

structure Ck where
  word : Wd
  base : List Line
  ours : List Line
  theirs : List Line
abbrev Ls (ls : List Line) : MObj := .list (ls.map lb)
def ckF (w : Str) (b o t : Nat) : List (Str × MV) := [(Str.ofString "word", .str w), (Str.ofString "base", .ref b), (Str.ofString "ours", .ref o), (Str.ofString "theirs", .ref t)]
def RCk (H : List MObj) (m : MV) (k : Ck) : Prop := ∃ c b o t, m = .ref c ∧ H[c]? = some (.inst 301 (ckF (wS k.word) b o t)) ∧ H[b]? = some (Ls k.base) ∧ H[o]? = some (Ls k.ours) ∧ H[t]? = some (Ls k.theirs)
/-- the same, its numbers within P -/
def RC (P : Nat → Prop) (H : List MObj) (m : MV) (k : Ck) : Prop := ∃ c b o t, m = .ref c ∧ (P c ∧ P b ∧ P o ∧ P t) ∧ H[c]? = some (.inst 301 (ckF (wS k.word) b o t)) ∧ H[b]? = some (Ls k.base) ∧ H[o]? = some (Ls k.ours) ∧ H[t]? = some (Ls k.theirs)
theorem RC.rck {P : Nat → Prop} {H : List MObj} {m : MV} {k : Ck} (h : RC P H m k) : RCk H m k := by
  obtain ⟨c, b, o, t, e, p, h1, h2, h3, h4⟩ := h
  exact ⟨c, b, o, t, e, h1, h2, h3, h4⟩
theorem RC.mono {P P' : Nat → Prop} {H : List MObj} {m : MV} {k : Ck} (h : RC P H m k) (f : ∀ i, i < H.length → P i → P' i) : RC P' H m k := by
  obtain ⟨c, b, o, t, e, p, h1, h2, h3, h4⟩ := h
  exact ⟨c, b, o, t, e, ⟨f _ (lt_of_at h1) p.1, f _ (lt_of_at h2) p.2.1, f _ (lt_of_at h3) p.2.2.1, f _ (lt_of_at h4) p.2.2.2⟩, h1, h2, h3, h4⟩
theorem RC.of {P : Nat → Prop} {H : List MObj} {m : MV} {k : Ck} (h : RCk H m k) (f : ∀ i, i < H.length → P i) : RC P H m k := by
  obtain ⟨c, b, o, t, e, h1, h2, h3, h4⟩ := h
  exact ⟨c, b, o, t, e, ⟨f _ (lt_of_at h1), f _ (lt_of_at h2), f _ (lt_of_at h3), f _ (lt_of_at h4)⟩, h1, h2, h3, h4⟩
theorem RC.ext {P : Nat → Prop} {H H' : List MObj} {m : MV} {k : Ck} (h : RC P H m k) (x : Ext H H') : RC P H' m k := by
  obtain ⟨c, b, o, t, e, p, h1, h2, h3, h4⟩ := h
  exact ⟨c, b, o, t, e, p, x _ _ h1, x _ _ h2, x _ _ h3, x _ _ h4⟩
theorem RC.extM {M : List Nat} {H H' : List MObj} {m : MV} {k : Ck} (h : RC (fun i => i ∉ M) H m k) (x : ExtM M H H') : RC (fun i => i ∉ M) H' m k := by
  obtain ⟨c, b, o, t, e, p, h1, h2, h3, h4⟩ := h
  exact ⟨c, b, o, t, e, p, x _ _ p.1 h1, x _ _ p.2.1 h2, x _ _ p.2.2.1 h3, x _ _ p.2.2.2 h4⟩
theorem RC.set {j : Nat} {H : List MObj} {m : MV} {k : Ck} {x : MObj} (h : RC (· ≠ j) H m k) : RC (· ≠ j) (H.set j x) m k := by
  obtain ⟨c, b, o, t, e, p, h1, h2, h3, h4⟩ := h
  exact ⟨c, b, o, t, e, p, at_set_ne h1 p.1.symm, at_set_ne h2 p.2.1.symm, at_set_ne h3 p.2.2.1.symm, at_set_ne h4 p.2.2.2.symm⟩
theorem RC.setP {P : Nat → Prop} {j : Nat} {H : List MObj} {m : MV} {k : Ck} {x : MObj} (h : RC P H m k) (hP : ∀ i, P i → j ≠ i) : RC P (H.set j x) m k := by
  obtain ⟨c, b, o, t, e, p, h1, h2, h3, h4⟩ := h
  exact ⟨c, b, o, t, e, p, at_set_ne h1 (hP _ p.1), at_set_ne h2 (hP _ p.2.1), at_set_ne h3 (hP _ p.2.2.1), at_set_ne h4 (hP _ p.2.2.2)⟩
theorem at_eq {H : List MObj} {i : Nat} {o o' : MObj} (h : H[i]? = some o) (e : o = o') : H[i]? = some o' := e ▸ h
theorem Ext.app' {H X Y : List MObj} (h : Ext H X) : Ext H (X ++ Y) := h.trans (Ext.app _ _)
def RTd (H : List MObj) (m : MV) (k : Ck) : Prop := ∃ b o t, m = .tup [.str (wS k.word), .ref b, .ref o, .ref t] ∧ H[b]? = some (Ls k.base) ∧ H[o]? = some (Ls k.ours) ∧ H[t]? = some (Ls k.theirs)
def RTp (P : Nat → Prop) (H : List MObj) (m : MV) (k : Ck) : Prop := ∃ b o t, m = .tup [.str (wS k.word), .ref b, .ref o, .ref t] ∧ (P b ∧ P o ∧ P t) ∧ H[b]? = some (Ls k.base) ∧ H[o]? = some (Ls k.ours) ∧ H[t]? = some (Ls k.theirs)
theorem RTp.td {P : Nat → Prop} {H : List MObj} {m : MV} {k : Ck} (h : RTp P H m k) : RTd H m k := by
  obtain ⟨b, o, t, e, p, h2, h3, h4⟩ := h
  exact ⟨b, o, t, e, h2, h3, h4⟩
theorem RTp.mono {P P' : Nat → Prop} {H : List MObj} {m : MV} {k : Ck} (h : RTp P H m k) (f : ∀ i, i < H.length → P i → P' i) : RTp P' H m k := by
  obtain ⟨b, o, t, e, p, h2, h3, h4⟩ := h
  exact ⟨b, o, t, e, ⟨f _ (lt_of_at h2) p.1, f _ (lt_of_at h3) p.2.1, f _ (lt_of_at h4) p.2.2⟩, h2, h3, h4⟩
theorem RTp.of {P : Nat → Prop} {H : List MObj} {m : MV} {k : Ck} (h : RTd H m k) (f : ∀ i, i < H.length → P i) : RTp P H m k := by
  obtain ⟨b, o, t, e, h2, h3, h4⟩ := h
  exact ⟨b, o, t, e, ⟨f _ (lt_of_at h2), f _ (lt_of_at h3), f _ (lt_of_at h4)⟩, h2, h3, h4⟩
theorem RTp.ext {P : Nat → Prop} {H H' : List MObj} {m : MV} {k : Ck} (h : RTp P H m k) (x : Ext H H') : RTp P H' m k := by
  obtain ⟨b, o, t, e, p, h2, h3, h4⟩ := h
  exact ⟨b, o, t, e, p, x _ _ h2, x _ _ h3, x _ _ h4⟩
theorem RTp.extM {P : Nat → Prop} {M : List Nat} {H H' : List MObj} {m : MV} {k : Ck} (h : RTp P H m k) (x : ExtM M H H') (hP : ∀ i, P i → i ∉ M) : RTp P H' m k := by
  obtain ⟨b, o, t, e, p, h2, h3, h4⟩ := h
  exact ⟨b, o, t, e, p, x _ _ (hP _ p.1) h2, x _ _ (hP _ p.2.1) h3, x _ _ (hP _ p.2.2) h4⟩
theorem RTp.setP {P : Nat → Prop} {j : Nat} {H : List MObj} {m : MV} {k : Ck} {x : MObj} (h : RTp P H m k) (hP : ∀ i, P i → j ≠ i) : RTp P (H.set j x) m k := by
  obtain ⟨b, o, t, e, p, h2, h3, h4⟩ := h
  exact ⟨b, o, t, e, p, at_set_ne h2 (hP _ p.1), at_set_ne h3 (hP _ p.2.1), at_set_ne h4 (hP _ p.2.2)⟩
theorem RTp.i {P : Nat → Prop} {H : List MObj} {b o t : Nat} {w : Wd} {x y z : List Line} (hb : H[b]? = some (Ls x)) (ho : H[o]? = some (Ls y)) (ht : H[t]? = some (Ls z)) (p1 : P b) (p2 : P o) (p3 : P t) : RTp P H (.tup [.str (wS w), .ref b, .ref o, .ref t]) ⟨w, x, y, z⟩ := ⟨b, o, t, rfl, ⟨p1, p2, p3⟩, hb, ho, ht⟩
/-- lists of them -/
inductive All2 {α : Type} (R : MV → α → Prop) : List MV → List α → Prop
  | nil : All2 R [] []
  | cons {m a ms as} : R m a → All2 R ms as → All2 R (m :: ms) (a :: as)
theorem All2.mono {α : Type} {R R' : MV → α → Prop} {ms : List MV} {as : List α} (h : All2 R ms as) (k : ∀ m a, R m a → R' m a) : All2 R' ms as := by
  induction h with
  | nil => exact .nil
  | cons x _ ih => exact .cons (k _ _ x) ih
theorem All2.length {α : Type} {R : MV → α → Prop} {ms : List MV} {as : List α} (h : All2 R ms as) : ms.length = as.length := by
  induction h with
  | nil => rfl
  | cons _ _ ih => simp [ih]
theorem All2.app {α : Type} {R : MV → α → Prop} {ms ns : List MV} {as bs : List α} (h : All2 R ms as) (k : All2 R ns bs) : All2 R (ms ++ ns) (as ++ bs) := by
  induction h with
  | nil => exact k
  | cons x _ ih => exact .cons x ih
theorem All2.get {α : Type} {R : MV → α → Prop} {ms : List MV} {as : List α} (h : All2 R ms as) {i : Nat} {a : α} (e : as[i]? = some a) : ∃ m, ms[i]? = some m ∧ R m a := by
  induction h generalizing i with
  | nil => cases e
  | cons x _ ih => cases i with
    | zero => cases e; exact ⟨_, rfl, x⟩
    | succ i => exact ih e
theorem All2.take {α : Type} {R : MV → α → Prop} {ms : List MV} {as : List α} (h : All2 R ms as) (n : Nat) : All2 R (ms.take n) (as.take n) := by
  induction h generalizing n with
  | nil => simp; exact .nil
  | cons x _ ih => cases n with
    | zero => exact .nil
    | succ n => exact .cons x (ih n)
theorem All2.drop {α : Type} {R : MV → α → Prop} {ms : List MV} {as : List α} (h : All2 R ms as) (n : Nat) : All2 R (ms.drop n) (as.drop n) := by
  induction h generalizing n with
  | nil => simp; exact .nil
  | cons x h ih => cases n with
    | zero => exact .cons x h
    | succ n => exact ih n
def Ck.small (k : Ck) (n : Nat) : Prop := k.base.length ≤ n ∧ k.ours.length ≤ n ∧ k.theirs.length ≤ n
theorem RCk.ext {H H' : List MObj} {m : MV} {k : Ck} (h : RCk H m k) (x : Ext H H') : RCk H' m k := by
  obtain ⟨c, b, o, t, e, h1, h2, h3, h4⟩ := h
  exact ⟨c, b, o, t, e, x _ _ h1, x _ _ h2, x _ _ h3, x _ _ h4⟩
/-- told anew: all three new, behind n, two of them not one -/
def RTm (n : Nat) (H : List MObj) (m : MV) (k : Ck) : Prop := ∃ b o t, m = .tup [.str (wS k.word), .ref b, .ref o, .ref t] ∧ (n ≤ b ∧ n ≤ o ∧ n ≤ t ∧ o ≠ t) ∧ H[b]? = some (Ls k.base) ∧ H[o]? = some (Ls k.ours) ∧ H[t]? = some (Ls k.theirs)
def RTn (H : List MObj) (m : MV) (k : Ck) : Prop := ∃ b o t, m = .tup [.str (wS k.word), .ref b, .ref o, .ref t] ∧ o ≠ t ∧ H[b]? = some (Ls k.base) ∧ H[o]? = some (Ls k.ours) ∧ H[t]? = some (Ls k.theirs)
theorem RTm.n {n : Nat} {H : List MObj} {m : MV} {k : Ck} (h : RTm n H m k) : RTn H m k := by
  obtain ⟨b, o, t, e, p, h2, h3, h4⟩ := h
  exact ⟨b, o, t, e, p.2.2.2, h2, h3, h4⟩
theorem RTm.p {n : Nat} {H : List MObj} {m : MV} {k : Ck} (h : RTm n H m k) : RTp (fun i => n ≤ i) H m k := by
  obtain ⟨b, o, t, e, p, h2, h3, h4⟩ := h
  exact ⟨b, o, t, e, ⟨p.1, p.2.1, p.2.2.1⟩, h2, h3, h4⟩
theorem RTm.ext {n : Nat} {H H' : List MObj} {m : MV} {k : Ck} (h : RTm n H m k) (x : Ext H H') : RTm n H' m k := by
  obtain ⟨b, o, t, e, p, h2, h3, h4⟩ := h
  exact ⟨b, o, t, e, p, x _ _ h2, x _ _ h3, x _ _ h4⟩
theorem RTm.le {n n' : Nat} {H : List MObj} {m : MV} {k : Ck} (h : RTm n H m k) (l : n' ≤ n) : RTm n' H m k := by
  obtain ⟨b, o, t, e, p, h2, h3, h4⟩ := h
  exact ⟨b, o, t, e, ⟨by omega, by omega, by omega, p.2.2.2⟩, h2, h3, h4⟩
theorem RTm.set {n j : Nat} {H : List MObj} {m : MV} {k : Ck} {x : MObj} (h : RTm n H m k) (l : j < n) : RTm n (H.set j x) m k := by
  obtain ⟨b, o, t, e, p, h2, h3, h4⟩ := h
  exact ⟨b, o, t, e, p, at_set_ne h2 (by omega), at_set_ne h3 (by omega), at_set_ne h4 (by omega)⟩
theorem RTn.ext {H H' : List MObj} {m : MV} {k : Ck} (h : RTn H m k) (x : Ext H H') : RTn H' m k := by
  obtain ⟨b, o, t, e, n, h2, h3, h4⟩ := h
  exact ⟨b, o, t, e, n, x _ _ h2, x _ _ h3, x _ _ h4⟩
theorem RTn.td {H : List MObj} {m : MV} {k : Ck} (h : RTn H m k) : RTd H m k := by
  obtain ⟨b, o, t, e, n, h2, h3, h4⟩ := h
  exact ⟨b, o, t, e, h2, h3, h4⟩
theorem RTd.ext {H H' : List MObj} {m : MV} {k : Ck} (h : RTd H m k) (x : Ext H H') : RTd H' m k := by
  obtain ⟨b, o, t, e, h2, h3, h4⟩ := h
  exact ⟨b, o, t, e, x _ _ h2, x _ _ h3, x _ _ h4⟩

section
variable {H : List MObj} {B : Bs} {fi : FI} {d : Nat} {ev : List MV}
/-! the pure cores, shape by shape -/
theorem go_attr {R : MV → Prop} {w : World} {x : Str} {i : Nat} {C : Addr} {fs : List (Str × MV)} {m : MV} (h1 : H[i]? = some (.inst C fs)) (h2 : attrOk w C x = true) (h3 : getF x fs = some m) (h4 : plain m = true) (h : R m) :
    ∃ j C fs m, MV.ref i = .ref j ∧ H[j]? = some (.inst C fs) ∧ attrOk w C x = true ∧ getF x fs = some m ∧ plain m = true ∧ R m := ⟨i, C, fs, m, rfl, h1, h2, h3, h4, h⟩
theorem go_setattr {R : Nat → Addr → List (Str × MV) → Prop} {w : World} {x : Str} {i : Nat} {C : Addr} {fs : List (Str × MV)} (h1 : H[i]? = some (.inst C fs)) (h2 : setOk w C x = true) (h3 : fs.length ≤ 100) (h : R i C fs) :
    ∃ j C fs, MV.ref i = .ref j ∧ H[j]? = some (.inst C fs) ∧ setOk w C x = true ∧ fs.length ≤ 100 ∧ R j C fs := ⟨i, C, fs, rfl, h1, h2, h3, h⟩
theorem go_slice {R : List MV → Prop} {i : Nat} {vs : List MV} (h1 : H[i]? = some (.list vs)) (h2 : vs.length ≤ 100000) (h : R vs) :
    ∃ j vs, MV.ref i = .ref j ∧ H[j]? = some (.list vs) ∧ vs.length ≤ 100000 ∧ R vs := ⟨i, vs, rfl, h1, h2, h⟩
theorem go_neg {R : Int → Prop} {a : Int} (h : R a) : ∃ i, MV.int a = .int i ∧ R i := ⟨a, rfl, h⟩
theorem go_val {R : Bool → Prop} {a : Bool} (h : R a) : ∃ b, MV.bool a = .bool b ∧ R b := ⟨a, rfl, h⟩
theorem go_part {R : Int → Prop} {a : Int} (h0 : 0 ≤ a) (h : R a) : ∃ i, MV.int a = .int i ∧ 0 ≤ i ∧ R i := ⟨a, rfl, h0, h⟩
theorem go_calleeB {w : World} {s : String} {P : Prop} (h : P) : calleeOk w (.con (.builtin s)) = true ∧ P := ⟨rfl, h⟩
theorem go_calleeT {w : World} {s : String} {P : Prop} (h : P) : calleeOk w (.con (.type s)) = true ∧ P := ⟨rfl, h⟩
theorem go_callee {w : World} {a : Addr} {P : Prop} (h1 : calleeOk w (.con (.ref a)) = true) (h : P) : calleeOk w (.con (.ref a)) = true ∧ P := ⟨h1, h⟩
theorem go_notRef {m : MV} {P : Prop} (h1 : notRef m = true) (h : P) : notRef m = true ∧ P := ⟨h1, h⟩
theorem go_len {α : Type} {vs : List α} {P : Prop} (h1 : vs.length ≤ 100000) (h : P) : vs.length ≤ 100000 ∧ P := ⟨h1, h⟩
theorem go_typeEq {s : String} {P : Prop} (h : P) : MV.con (.type s) = .con (.type s) ∧ P := ⟨rfl, h⟩
theorem go_partNone {Q : Option Int → List MObj → Prop} (h : Q none H) : WPO B fi d none ev H Q := h
theorem go_partSome {Q : Option Int → List MObj → Prop} {e : Expr} (h : WPE B fi d e ev H fun m H1 => ∃ i, m = .int i ∧ 0 ≤ i ∧ Q (some i) H1) : WPO B fi d (some e) ev H Q := h
variable {Q : MV → List MObj → Prop} {a b : Int}
theorem bin_add (h : Q (.int (a + b)) H) : binM .Add (.int a) (.int b) H Q := h
theorem bin_sub (h : Q (.int (a - b)) H) : binM .Sub (.int a) (.int b) H Q := h
theorem bin_mod (h0 : b ≠ 0) (h : Q (.int (a.fmod b)) H) : binM .Mod (.int a) (.int b) H Q := ⟨h0, h⟩
theorem bin_mul (h0 : -1000000 < b ∧ b < 1000000) (h : Q (.int (a * b)) H) : binM .Mult (.int a) (.int b) H Q := ⟨h0, h⟩
theorem bin_fdiv (h0 : b ≠ 0 ∧ -1000000 < b ∧ b < 1000000) (h : Q (.int (a.fdiv b)) H) : binM .FloorDiv (.int a) (.int b) H Q := ⟨h0, h⟩
theorem bin_lapp {i j : Nat} {xs ys : List MV} (h1 : H[i]? = some (.list xs)) (h2 : H[j]? = some (.list ys)) (h3 : xs.length + ys.length ≤ 100000) (h : Q (.ref H.length) (H ++ [.list (xs ++ ys)])) : binM .Add (.ref i) (.ref j) H Q := ⟨xs, ys, h1, h2, h3, h⟩
theorem bin_rep {i : Nat} {m : MV} (h1 : H[i]? = some (.list [m])) (h2 : 0 ≤ b ∧ b ≤ 100000) (h : Q (.ref H.length) (H ++ [.list (List.replicate b.toNat m)])) : binM .Mult (.ref i) (.int b) H Q := ⟨m, h1, h2.1, h2.2, h⟩
variable {P : Bool → Prop}
theorem cmp_lt (h : P (decide (a < b))) : cmpM .Lt (.int a) (.int b) H P := h
theorem cmp_le (h : P (decide (a ≤ b))) : cmpM .LtE (.int a) (.int b) H P := h
theorem cmp_gt (h : P (decide (a > b))) : cmpM .Gt (.int a) (.int b) H P := h
theorem cmp_ge (h : P (decide (a ≥ b))) : cmpM .GtE (.int a) (.int b) H P := h
theorem cmp_eq (h : P (decide (a = b))) : cmpM .Eq (.int a) (.int b) H P := by show P (a == b); rw [show (a == b) = decide (a = b) from rfl]; exact h
theorem cmp_ne (h : P (decide (a ≠ b))) : cmpM .NotEq (.int a) (.int b) H P := by show P (a != b); rw [show (a != b) = decide (a ≠ b) from by rw [Bool.eq_iff_iff]; simp]; exact h
theorem cmp_lb {x y : Line} (h : P (decide (x = y))) : cmpM .Eq (lb x) (lb y) H P := by show P (lineOf x == lineOf y); rw [lineOf_beq]; exact h
theorem cmp_wd {x y : Wd} (h : P (decide (x = y))) : cmpM .Eq (.str (wS x)) (.str (wS y)) H P := by show P (wS x == wS y); rw [wS_beq]; exact h
theorem cmp_nwd {x y : Wd} (h : P (decide (x ≠ y))) : cmpM .NotEq (.str (wS x)) (.str (wS y)) H P := by show P (!(wS x == wS y)); rw [wS_beq]; rw [show (!decide (x = y)) = decide (x ≠ y) from by simp]; exact h
theorem cmp_wd' {x : Wd} {c : Str} (y : Wd) (hc : c = wS y) (h : P (decide (x = y))) : cmpM .Eq (.str (wS x)) (.str c) H P := by subst hc; exact cmp_wd h
theorem cmp_nwd' {x : Wd} {c : Str} (y : Wd) (hc : c = wS y) (h : P (decide (x ≠ y))) : cmpM .NotEq (.str (wS x)) (.str c) H P := by subst hc; exact cmp_nwd h
theorem cmp_inw {x : Wd} {vs : List MV} (ws : List Wd) (hc : vs = ws.map fun w => .str (wS w)) (h : P (ws.any fun w => decide (w = x))) : cmpM .In (.str (wS x)) (.tup vs) H P := by
  refine ⟨ws.map wS, by rw [hc, List.map_map]; rfl, ?_⟩
  have : (ws.map wS).any (· == wS x) = ws.any fun w => decide (w = x) := by rw [List.any_map]; congr 1; funext w; exact wS_beq w x
  rw [this]; exact h
theorem cmp_ninw {x : Wd} {vs : List MV} (ws : List Wd) (hc : vs = ws.map fun w => .str (wS w)) (h : P (!ws.any fun w => decide (w = x))) : cmpM .NotIn (.str (wS x)) (.tup vs) H P := by
  refine ⟨ws.map wS, by rw [hc, List.map_map]; rfl, ?_⟩
  have : (ws.map wS).any (· == wS x) = ws.any fun w => decide (w = x) := by rw [List.any_map]; congr 1; funext w; exact wS_beq w x
  rw [this]; exact h
theorem sub_at {j : Nat} {k : Int} {vs : List MV} {m : MV} (n : Nat) (hk : k = (n : Int)) (h1 : H[j]? = some (.list vs)) (h2 : vs.length ≤ 100000) (h3 : vs[n]? = some m) (h : Q m H) : subM (.ref j) (.int k) H Q := by
  refine .inl ⟨vs, n, m, h1, h2, ?_, h3, h⟩
  have := (List.getElem?_eq_some_iff.mp h3).1
  unfold idxM; subst hk; rw [if_neg (by omega), if_pos (by omega)]; rfl
theorem sub_neg {j : Nat} {vs : List MV} {m : MV} (h1 : H[j]? = some (.list vs)) (h2 : vs.length ≤ 100000) (h3 : vs[vs.length - 1]? = some m) (h : Q m H) : subM (.ref j) (.int (-1)) H Q := by
  refine .inl ⟨vs, vs.length - 1, m, h1, h2, ?_, h3, h⟩
  have := (List.getElem?_eq_some_iff.mp h3).1
  unfold idxM; rw [if_pos (by omega), if_pos (by omega)]; congr 1; omega
theorem sub_tup {k : Int} {vs : List MV} {m : MV} (n : Nat) (hk : k = (n : Int)) (h2 : vs.length ≤ 100000) (h3 : vs[n]? = some m) (h : Q m H) : subM (.tup vs) (.int k) H Q := by
  refine ⟨n, m, h2, ?_, h3, h⟩
  have := (List.getElem?_eq_some_iff.mp h3).1
  unfold idxM; subst hk; rw [if_neg (by omega), if_pos (by omega)]; rfl
theorem sub_dI {j : Nat} {k : Int} {es : List (Int × MV)} {m : MV} (h1 : H[j]? = some (.dI es)) (h2 : (es.find? (fun e => decide (e.1 = k))).map (·.2) = some m) (h : Q m H) : subM (.ref j) (.int k) H Q := .inr ⟨es, m, h1, h2, h⟩
theorem sub_dS {j : Nat} {k : Str} {es : List (Str × MV)} {m : MV} (h1 : H[j]? = some (.dS es)) (h2 : (es.find? (fun e => decide (e.1 = k))).map (·.2) = some m) (h : Q m H) : subM (.ref j) (.str k) H Q := ⟨es, m, h1, h2, h⟩
theorem sub_dB {j : Nat} {k : List UInt8} {es : List (List UInt8 × MV)} {m : MV} (h1 : H[j]? = some (.dB es)) (h2 : (es.find? (fun e => decide (e.1 = k))).map (·.2) = some m) (h : Q m H) : subM (.ref j) (.tup [.bool false, .bytes k]) H Q := ⟨es, m, h1, h2, h⟩
theorem aug_add {Q : MV → Prop} (h : Q (.int (a + b))) : augM .Add (.int a) (.int b) Q := h
theorem aug_sub {Q : MV → Prop} (h : Q (.int (a - b))) : augM .Sub (.int a) (.int b) Q := h
theorem set_list {Q : List MObj → Prop} {j : Nat} {k : Int} {vs : List MV} {m : MV} (n : Nat) (hk : k = (n : Int)) (h1 : H[j]? = some (.list vs)) (h2 : n < vs.length) (h3 : vs.length ≤ 100000) (h : Q (H.set j (.list (vs.set n m)))) : setM (.ref j) (.int k) m H Q := by
  subst hk; exact .inl ⟨vs, h1, by omega, by omega, h3, h⟩
theorem set_dI {Q : List MObj → Prop} {j : Nat} {k : Int} {es : List (Int × MV)} {m : MV} (h1 : H[j]? = some (.dI es)) (h3 : es.length ≤ 100000) (h : Q (H.set j (.dI (setD k m es)))) : setM (.ref j) (.int k) m H Q := .inr ⟨es, h1, h3, h⟩
theorem set_dS {Q : List MObj → Prop} {j : Nat} {k : Str} {es : List (Str × MV)} {m : MV} (h1 : H[j]? = some (.dS es)) (h3 : es.length ≤ 100000) (h : Q (H.set j (.dS (setD k m es)))) : setM (.ref j) (.str k) m H Q := ⟨es, h1, h3, h⟩
variable {w : World} {R : MV → List MV → Prop}
theorem meth_append {i : Nat} {vs : List MV} (h1 : H[i]? = some (.list vs)) (h : R (.con (.builtin "list.append")) [.ref i]) : methM w (.ref i) (Str.ofString "append") H R := .inr ⟨vs, _, h1, .inl ⟨rfl, rfl⟩, h⟩
theorem meth_extend {i : Nat} {vs : List MV} (h1 : H[i]? = some (.list vs)) (h : R (.con (.builtin "list.extend")) [.ref i]) : methM w (.ref i) (Str.ofString "extend") H R := .inr ⟨vs, _, h1, .inr (.inl ⟨rfl, rfl⟩), h⟩
theorem meth_pop {i : Nat} {vs : List MV} (h1 : H[i]? = some (.list vs)) (h : R (.con (.builtin "list.pop")) [.ref i]) : methM w (.ref i) (Str.ofString "pop") H R := .inr ⟨vs, _, h1, .inr (.inr ⟨rfl, rfl⟩), h⟩
theorem meth_inst {i : Nat} {C f : Addr} {x : Str} {fs : List (Str × MV)} (h1 : H[i]? = some (.inst C fs)) (me : plainGet (Kw w) C x = true ∧ findIn (Kw w) (.ref C) x = some (some (.ref f)) ∧ isFn (Kw w) (.ref f) = true ∧ keepIn (Kw w) (.ref f) = true) (h2 : getF x fs = none)
    (h : R (.con (.ref f)) [.ref i]) : methM w (.ref i) x H R := .inl ⟨C, fs, f, h1, me.1, me.2.1, me.2.2.1, h2, me.2.2.2, h⟩
end

/-! loops -/
section
variable {B : Bs} {fi : FI} {d : Nat} {tg : Expr} {body : List Stmt} {chk : List MObj → Prop} {Qn : List MV → List MObj → Prop} {Qr : MV → List MObj → Prop}
theorem ForS.ind (P : List MV → List MV → List MObj → Prop) (hn : ∀ ev H, P [] ev H → Qn ev H)
    (hs : ∀ m ms ev H, P (m :: ms) ev H → WPG B fi d tg m ev H fun ev1 H1 => WPS B fi d body ev1 H1 (fun ev2 H2 => chk H2 ∧ P ms ev2 H2) Qr) : ∀ {ms : List MV} {ev : List MV} {H : List MObj}, P ms ev H → ForS B fi d tg body chk Qn Qr ms ev H := by
  intro ms
  induction ms with
  | nil => intro ev H h; exact hn ev H h
  | cons m ms ih =>
    intro ev H h
    show WPG _ _ _ _ _ _ _ _
    refine fun A env Φ g s v ok I hv => (hs m ms ev H h A env Φ g s v ok I hv).mono fun g1 ev1 H1 _ l q => ?_
    exact WPS.mono q (fun ev2 H2 ⟨a, b⟩ => ⟨a, ih b⟩) (fun _ _ x => x)
variable {c : Option Expr} {inner : Inner} {Q : List MV → List MObj → Prop}
theorem CompS.ind (P : List MV → List MV → List MObj → Prop) (hn : ∀ ev H, P [] ev H → Q ev H) (hin : ∀ ev H K K', (∀ ev' H', K ev' H' → K' ev' H') → inner ev H K → inner ev H K')
    (hs : ∀ m ms ev H, P (m :: ms) ev H → WPG B fi d tg m ev H fun ev1 H1 => CIf B fi d c ev1 H1 (fun H2 => inner ev1 H2 fun ev2 H3 => chk H3 ∧ P ms ev2 H3) (fun H2 => chk H2 ∧ P ms ev1 H2)) : ∀ {ms : List MV} {ev : List MV} {H : List MObj}, P ms ev H → CompS B fi d tg c inner chk Q ms ev H := by
  intro ms
  induction ms with
  | nil => intro ev H h; exact hn ev H h
  | cons m ms ih =>
    intro ev H h
    show WPG _ _ _ _ _ _ _ _
    refine fun A env Φ g s v ok I hv => (hs m ms ev H h A env Φ g s v ok I hv).mono fun g1 ev1 H1 _ l q => ?_
    cases c with
    | none => exact hin _ _ _ _ (fun ev2 H3 ⟨a, b⟩ => ⟨a, ih b⟩) q
    | some c =>
      exact fun A env Φ g s ok I => (q A env Φ g s ok I).mono fun g1 ev1 H1 b l ⟨e, x, y⟩ => ⟨e, fun hb => hin _ _ _ _ (fun ev2 H3 ⟨a, b⟩ => ⟨a, ih b⟩) (x hb), fun hb => ⟨(y hb).1, ih (y hb).2⟩⟩
theorem emitI_mono {a : Nat} {elt : Expr} (ev : List MV) (H : List MObj) (K K' : List MV → List MObj → Prop) (k : ∀ ev' H', K ev' H' → K' ev' H') (h : emitI B fi d a elt ev H K) : emitI B fi d a elt ev H K' :=
  WPE.mono h fun m H1 ⟨vs, x, y, z⟩ => ⟨vs, x, y, k _ _ z⟩
theorem CompS.mono {ms : List MV} {ev : List MV} {H : List MObj} {Q' : List MV → List MObj → Prop} (hin : ∀ ev H K K', (∀ ev' H', K ev' H' → K' ev' H') → inner ev H K → inner ev H K') (k : ∀ ev' H', Q ev' H' → Q' ev' H') :
    CompS B fi d tg c inner chk Q ms ev H → CompS B fi d tg c inner chk Q' ms ev H := by
  induction ms generalizing ev H with
  | nil => exact k ev H
  | cons m ms ih =>
    intro h
    show WPG _ _ _ _ _ _ _ _
    refine fun A env Φ g s v ok I hv => (W.mono (h A env Φ g s v ok I hv) fun g1 ev1 H1 _ l q => ?_)
    cases c with
    | none => exact hin _ _ _ _ (fun ev2 H3 ⟨a, b⟩ => ⟨a, ih b⟩) q
    | some c =>
      exact fun A env Φ g s ok I => W.mono (q A env Φ g s ok I) fun g1 ev1 H1 b l ⟨e, x, y⟩ => ⟨e, fun hb => hin _ _ _ _ (fun ev2 H3 ⟨a, b⟩ => ⟨a, ih b⟩) (x hb), fun hb => ⟨(y hb).1, ih (y hb).2⟩⟩
end
/-! equality of lists -/
theorem eq_Ls {H : List MObj} {n i j : Nat} {x y : List Line} (h1 : H[i]? = some (Ls x)) (h2 : H[j]? = some (Ls y)) : EqM H (n + 1) (.ref i) (.ref j) (decide (x = y)) := by
  have inj : ∀ {x y : List Line}, Ls x = Ls y → x = y := by
    intro x y e
    unfold Ls at e
    injection e with e
    exact (List.map_inj_right (by intro a b h; unfold lb at h; injection h with h; revert h; revert a b; decide)).mp e
  by_cases hij : i = j
  · subst hij
    rw [h1] at h2; injection h2 with h2
    rw [inj h2]; simp; exact .same
  · by_cases hl : x.length = y.length
    · have key : (List.range (x.map lb).length).all (fun k => decide (x[k]? = y[k]?)) = decide (x = y) := by
        rw [Bool.eq_iff_iff]
        simp only [List.all_eq_true, List.mem_range, decide_eq_true_eq, List.length_map]
        constructor
        · intro h; apply List.ext_getElem?; intro k
          by_cases hk : k < x.length
          · exact h k hk
          · rw [List.getElem?_eq_none (by omega), List.getElem?_eq_none (by omega)]
        · intro h k _; rw [h]
      rw [← key]
      refine .lists _ hij h1 h2 (by simp [hl]) fun k u v hu hv => ?_
      rw [List.getElem?_map] at hu hv
      cases hx : x[k]? with
      | none => rw [hx] at hu; cases hu
      | some a =>
        cases hy : y[k]? with
        | none => rw [hy] at hv; cases hv
        | some b =>
          rw [hx] at hu; rw [hy] at hv; cases hu; cases hv
          have : decide (some a = some b) = (lineOf a == lineOf b) := by rw [lineOf_beq, Bool.eq_iff_iff]; simp
          rw [this]; exact .bytes
    · have : decide (x = y) = false := by simp; intro e; exact hl (by rw [e])
      rw [this]
      exact .lens h1 h2 (by simpa using hl)
def envN (fi : FI) : Env := { scope := { kind := .function, names := fi.ns, isGenerator := false, isCoroutine := false }, locals := 0, globals := 0, cells := [] }
theorem swap_env {fi : FI} {ts : List Expr} {v : Expr} {r : Option (List Str)} (h : swappedStores ts v (envN fi) = pure r) (env : Env) (hn : env.scope.names = fi.ns) (hk : env.scope.kind = .function) : swappedStores ts v env = pure r := by
  rw [← h]
  unfold swappedStores Env.blockKind Env.kindOf
  rw [hn, hk]
  rfl
theorem swapsWith_env {fi : FI} {v : Expr} {t : Option Expr} {n : Nat} {r : Bool} (h : swapsWith v t n (envN fi) = pure r) (env : Env) (hn : env.scope.names = fi.ns) (hk : env.scope.kind = .function) : swapsWith v t n env = pure r := by
  rw [← h]
  unfold swapsWith Env.blockKind Env.kindOf
  rw [hn, hk]
  rfl
section
variable {H : List MObj} {B : Bs} {fi : FI} {d : Nat} {ev : List MV}
inductive SetTo : List MV → Nat → MV → List MV → Prop
  | zero {x m xs} : SetTo (x :: xs) 0 m (m :: xs)
  | succ {x m xs n ys} : SetTo xs n m ys → SetTo (x :: xs) (n + 1) m (x :: ys)
theorem SetTo.eq {xs ys : List MV} {n : Nat} {m : MV} (h : SetTo xs n m ys) : xs.set n m = ys := by
  induction h with
  | zero => rfl
  | succ _ ih => show _ :: _ = _; rw [ih]
theorem WPG.nameT {x : Str} {pos : Pos} {i : Nat} {k : NameKind} {m : MV} {ev' : List MV} {Q : List MV → List MObj → Prop} (hs : slot fi.ns x = some (i, k)) (hk : k = .local ∨ (k = .cell ∧ x ∈ fi.own)) (he : SetTo ev i m ev') (h : Q ev' H) :
    WPG B fi d (.Name x pos) m ev H Q := WPG.name hs hk (by rw [he.eq]; exact h)
theorem WPS.nrm {ss : List Stmt} {i : Nat} {m : MV} {ev' : List MV} {Qn : List MV → List MObj → Prop} {Qr : MV → List MObj → Prop} (he : SetTo ev i m ev') (h : WPS B fi d ss ev' H Qn Qr) : WPS B fi d ss (ev.set i m) H Qn Qr := by rw [he.eq]; exact h
inductive StoreR (fi : FI) : List Str → List MV → List MV → List MV → Prop
  | nil {e : List MV} : StoreR fi [] [] e e
  | cons {x : Str} {m : MV} {xs : List Str} {ms : List MV} {i : Nat} {e ev1 ev' : List MV} : slot fi.ns x = some (i, .local) → SetTo e i m ev1 → StoreR fi xs ms ev1 ev' → StoreR fi (x :: xs) (m :: ms) e ev'
theorem StoreR.eq {xs : List Str} {ms ev ev' : List MV} (h : StoreR fi xs ms ev ev') : storeN fi xs ms ev = some ev' := by
  induction h with
  | nil => rfl
  | cons a b _ ih => unfold storeN; rw [a]; show storeN _ _ _ _ = _; rw [b.eq]; exact ih
theorem WP1.asgSwap2 {x1 x2 : Str} {p1 p2 : Pos} {k : Nat} {tp : Pos} {value : Expr} {pos : Pos} {i1 i2 : Nat} {Qn : List MV → List MObj → Prop} {Qr : MV → List MObj → Prop}
    (hs : ∀ env, swapsWith value (some (.Tuple [.Name x1 p1, .Name x2 p2] k tp)) pos.line env = pure false) (hw : swappedStores [.Tuple [.Name x1 p1, .Name x2 p2] k tp] value (envN fi) = pure (some [x1, x2]))
    (h1 : slot fi.ns x1 = some (i1, .local)) (h2 : slot fi.ns x2 = some (i2, .local))
    (h : WPE B fi d value ev H fun m H1 => ∃ m1 m2 ev1 ev2, m = .tup [m1, m2] ∧ SetTo ev i2 m2 ev1 ∧ SetTo ev1 i1 m1 ev2 ∧ Qn ev2 H1) : WP1 B fi d (.Assign [.Tuple [.Name x1 p1, .Name x2 p2] k tp] value pos) ev H Qn Qr :=
  WP1.asgSwap (xs := [x1, x2]) (fun env _ _ => hs env) (fun env hn hk => swap_env hw env hn hk) (WPE.mono h fun m H1 ⟨m1, m2, ev1, ev2, e, a, b, q⟩ => ⟨[m1, m2], ev2, e, rfl, (StoreR.cons h2 a (.cons h1 b .nil)).eq, q⟩)
theorem go_swap2 {R : List MV → Prop} {m1 m2 : MV} {i1 i2 : Nat} {ev1 ev2 : List MV} (a : SetTo ev i2 m2 ev1) (b : SetTo ev1 i1 m1 ev2) (h : R ev2) : ∃ n1 n2 ev1 ev2, MV.tup [m1, m2] = .tup [n1, n2] ∧ SetTo ev i2 n2 ev1 ∧ SetTo ev1 i1 n1 ev2 ∧ R ev2 := ⟨m1, m2, ev1, ev2, rfl, a, b, h⟩
theorem WP1.asgSwap3 {x1 x2 x3 : Str} {p1 p2 p3 : Pos} {k : Nat} {tp : Pos} {value : Expr} {pos : Pos} {i1 i2 i3 : Nat} {Qn : List MV → List MObj → Prop} {Qr : MV → List MObj → Prop}
    (hs : ∀ env, swapsWith value (some (.Tuple [.Name x1 p1, .Name x2 p2, .Name x3 p3] k tp)) pos.line env = pure false) (hw : swappedStores [.Tuple [.Name x1 p1, .Name x2 p2, .Name x3 p3] k tp] value (envN fi) = pure (some [x1, x2, x3]))
    (h1 : slot fi.ns x1 = some (i1, .local)) (h2 : slot fi.ns x2 = some (i2, .local)) (h3 : slot fi.ns x3 = some (i3, .local))
    (h : WPE B fi d value ev H fun m H1 => ∃ m1 m2 m3 ev1 ev2 ev3, m = .tup [m1, m2, m3] ∧ SetTo ev i3 m3 ev1 ∧ SetTo ev1 i2 m2 ev2 ∧ SetTo ev2 i1 m1 ev3 ∧ Qn ev3 H1) : WP1 B fi d (.Assign [.Tuple [.Name x1 p1, .Name x2 p2, .Name x3 p3] k tp] value pos) ev H Qn Qr :=
  WP1.asgSwap (xs := [x1, x2, x3]) (fun env _ _ => hs env) (fun env hn hk => swap_env hw env hn hk) (WPE.mono h fun m H1 ⟨m1, m2, m3, ev1, ev2, ev3, e, a, b, c, q⟩ => ⟨[m1, m2, m3], ev3, e, rfl, (StoreR.cons h3 a (.cons h2 b (.cons h1 c .nil))).eq, q⟩)
theorem go_swap3 {R : List MV → Prop} {m1 m2 m3 : MV} {i1 i2 i3 : Nat} {ev1 ev2 ev3 : List MV} (a : SetTo ev i3 m3 ev1) (b : SetTo ev1 i2 m2 ev2) (c : SetTo ev2 i1 m1 ev3) (h : R ev3) : ∃ n1 n2 n3 ev1 ev2 ev3, MV.tup [m1, m2, m3] = .tup [n1, n2, n3] ∧ SetTo ev i3 n3 ev1 ∧ SetTo ev1 i2 n2 ev2 ∧ SetTo ev2 i1 n1 ev3 ∧ R ev3 := ⟨m1, m2, m3, ev1, ev2, ev3, rfl, a, b, c, h⟩
theorem go_range {R : Int → Int → Int → Prop} {ms : List MV} {a b c : Int} (h1 : rangeM ms = some (a, b, c)) (h2 : c ≠ 0 ∧ c.natAbs < 1000000) (h3 : Builtin.Range.small a b c = true) (h : R a b c) :
    ∃ a b c, rangeM ms = some (a, b, c) ∧ (c ≠ 0 ∧ c.natAbs < 1000000) ∧ Builtin.Range.small a b c = true ∧ R a b c := ⟨a, b, c, h1, h2, h3, h⟩
theorem go_enum {R : Nat → List MV → Prop} {j : Nat} {vs : List MV} (h1 : H[j]? = some (.list vs)) (h : R j vs) :
    ∃ i vs, [MV.ref j] = [.ref i] ∧ H[i]? = some (.list vs) ∧ R i vs := ⟨j, vs, rfl, h1, h⟩
theorem go_zip {R : Nat → Nat → List MV → List MV → Prop} {i j : Nat} {vs us : List MV} (h1 : H[i]? = some (.list vs)) (h2 : H[j]? = some (.list us)) (h : R i j vs us) :
    ∃ j1 j2 xs ys, [MV.ref i, .ref j] = [.ref j1, .ref j2] ∧ H[j1]? = some (.list xs) ∧ H[j2]? = some (.list ys) ∧ R j1 j2 xs ys := ⟨i, j, vs, us, rfl, h1, h2, h⟩
theorem go_seq {Q : (List MObj → Prop) → List MV → Prop} {j : Nat} {vs : List MV} (h1 : H[j]? = some (.list vs)) (h : Q (fun H => H[j]? = some (.list vs)) vs) : seqM (.ref j) H Q := ⟨vs, h1, h⟩
theorem go_seqT {Q : (List MObj → Prop) → List MV → Prop} {vs : List MV} (h : Q (fun _ => True) vs) : seqM (.tup vs) H Q := h
theorem go_augAttr {w : World} {x : Str} {i : Nat} {C : Addr} {fs : List (Str × MV)} {old : MV} (h1 : H[i]? = some (.inst C fs)) (h2 : attrOk w C x = true) (h3 : setOk w C x = true) (h4 : getF x fs = some old) (h5 : plain old = true) {R : Nat → Addr → MV → Prop} (h : R i C old) :
    ∃ j C fs old, MV.ref i = .ref j ∧ H[j]? = some (.inst C fs) ∧ attrOk w C x = true ∧ setOk w C x = true ∧ getF x fs = some old ∧ plain old = true ∧ R j C old := ⟨i, C, fs, old, rfl, h1, h2, h3, h4, h5, h⟩
theorem go_augSet {i : Nat} {C : Addr} {R : List (Str × MV) → Prop} {fs : List (Str × MV)} (h1 : H[i]? = some (.inst C fs)) (h2 : fs.length ≤ 100) (h : R fs) : ∃ fs2, H[i]? = some (.inst C fs2) ∧ fs2.length ≤ 100 ∧ R fs2 := ⟨fs, h1, h2, h⟩
theorem go_emit {a : Nat} {vs : List MV} {R : List MV → Prop} (h1 : H[a]? = some (.list vs)) (h2 : vs.length ≤ 100000) (h : R vs) : ∃ vs, H[a]? = some (.list vs) ∧ vs.length ≤ 100000 ∧ R vs := ⟨vs, h1, h2, h⟩
theorem small1 {a b : Int} (h : (-1000000 ≤ a ∧ a ≤ 1000000) ∧ (-1000000 ≤ b ∧ b ≤ 1000000)) : Builtin.Range.small a b 1 = true := small_one (by omega) (by omega) (by omega) (by omega)
theorem sub_Ls {Q : MV → List MObj → Prop} {j : Nat} {k : Int} {ls : List Line} (h1 : H[j]? = some (Ls ls)) (h0 : 0 ≤ k) (hk : k < ls.length) (h2 : ls.length ≤ 100000) (h : Q (lb (ls.getD k.toNat 0)) H) : subM (.ref j) (.int k) H Q := by
  obtain ⟨n, rfl⟩ := Int.eq_ofNat_of_zero_le h0
  have hn : n < ls.length := by omega
  refine sub_at n rfl h1 (by simpa using h2) ?_ h
  rw [List.getElem?_map, List.getD_eq_getElem?_getD]
  rw [show ((n : Int)).toNat = n from rfl, List.getElem?_eq_getElem hn]; rfl
theorem go_dec {p : Prop} [Decidable p] {X Y : Prop} (h1 : p → X) (h2 : ¬p → Y) : (decide p = true → X) ∧ (decide p = false → Y) := ⟨fun h => h1 (of_decide_eq_true h), fun h => h2 (of_decide_eq_false h)⟩
theorem go_not {p : Prop} [Decidable p] {X Y : Prop} (h1 : ¬p → X) (h2 : p → Y) : ((!decide p) = true → X) ∧ ((!decide p) = false → Y) := ⟨fun h => h1 (by simpa using h), fun h => h2 (by simpa using h)⟩
theorem go_tt {X Y : Prop} (h1 : X) : (true = true → X) ∧ (true = false → Y) := ⟨fun _ => h1, fun h => by cases h⟩
theorem go_ff {X Y : Prop} (h1 : Y) : (false = true → X) ∧ (false = false → Y) := ⟨fun h => (by cases h), fun _ => h1⟩
theorem WPT.mid {e : Expr} {Q : Bool → List MObj → Prop} (E : Bool → List MObj → Prop) (h : WPT B fi d e ev H E) (k : ∀ b H', E b H' → Q b H') : WPT B fi d e ev H Q :=
  fun A env Φ g s ok I => (h A env Φ g s ok I).mono fun g1 ev1 H1 b l ⟨e1, q⟩ => ⟨e1, k _ _ q⟩
theorem WP1.mid {st : Stmt} {Qn : List MV → List MObj → Prop} {Qr : MV → List MObj → Prop} (E : List MV → List MObj → Prop) (h : WP1 B fi d st ev H E Qr) (k : ∀ ev' H', E ev' H' → Qn ev' H') : WP1 B fi d st ev H Qn Qr :=
  fun A env Φ g s ok I => (h A env Φ g s ok I).mono fun g1 ev1 H1 f l q => by
    cases f with
    | next => exact k _ _ q
    | ret v => exact q
    | brk => exact q
    | cont => exact q
theorem WPV.nap {f a : MV} {xs : List MV} {Q : MV → List MObj → Prop} (h : WPV B d f (a :: xs) H Q) : WPV B d f ([a] ++ xs) H Q := h
section
variable {Qn : List MV → List MObj → Prop} {Qr Q : MV → List MObj → Prop} {ss : List Stmt} {st : Stmt} {e e1 e2 : Expr} {es es2 : List Expr} {m m1 : MV} {ms : List MV} {pos : Pos} {x : Str}
theorem cmp_nindB {b : List UInt8} {j : Nat} {es : List (List UInt8 × MV)} {P : Bool → Prop} (h1 : H[j]? = some (.dB es)) (h : P (!es.any fun e => decide (e.1 = b))) : cmpM .NotIn (.tup [.bool false, .bytes b]) (.ref j) H P := ⟨es, h1, h⟩
theorem cmp_nindI {a : Int} {j : Nat} {es : List (Int × MV)} {P : Bool → Prop} (h1 : H[j]? = some (.dI es)) (h : P (!es.any fun e => decide (e.1 = a))) : cmpM .NotIn (.int a) (.ref j) H P := ⟨es, h1, h⟩
theorem cmp_indI {a : Int} {j : Nat} {es : List (Int × MV)} {P : Bool → Prop} (h1 : H[j]? = some (.dI es)) (h : P (es.any fun e => decide (e.1 = a))) : cmpM .In (.int a) (.ref j) H P := ⟨es, h1, h⟩
theorem cmp_anynil {i j : Nat} {xs : List MV} {P : Bool → Prop} (h1 : H[i]? = some (.list xs)) (h2 : H[j]? = some (.list [])) (hne : i ≠ j) (h : P (decide (xs ≠ []))) : cmpM .NotEq (.ref i) (.ref j) H P := by
  refine ⟨hne, decide (xs = []), ?_, by rw [show (!decide (xs = [])) = decide (xs ≠ []) from by simp]; exact h⟩
  by_cases hx : xs = []
  · subst hx
    rw [show decide (([] : List MV) = []) = (List.range ([] : List MV).length).all (fun _ => true) from rfl]
    exact .lists _ hne h1 h2 rfl (fun k x y e => by cases e)
  · rw [show decide (xs = []) = false from by simpa using hx]
    exact .lens h1 h2 (by simpa using hx)
theorem set_dB {Q : List MObj → Prop} {j : Nat} {b : List UInt8} {m : MV} {es : List (List UInt8 × MV)} (h1 : H[j]? = some (.dB es)) (h2 : es.length ≤ 100000) (h3 : (es.any fun e => decide (e.1 = b)) = false) (h : Q (H.set j (.dB (es ++ [(b, m)])))) : setM (.ref j) (.tup [.bool false, .bytes b]) m H Q := ⟨es, h1, h2, h3, h⟩
theorem gS (h : WPS B fi d ss ev H Qn Qr) : WPS B fi d ss ev H Qn Qr := h
theorem g1 (h : WP1 B fi d st ev H Qn Qr) : WP1 B fi d st ev H Qn Qr := h
theorem g1a {t : List Expr} (h : WP1 B fi d (.Assign t e pos) ev H Qn Qr) : WP1 B fi d (.Assign t e pos) ev H Qn Qr := h
theorem gG (h : WPG B fi d e m ev H Qn) : WPG B fi d e m ev H Qn := h
theorem gGs (h : WPGs B fi d es ms ev H Qn) : WPGs B fi d es ms ev H Qn := h
theorem gEs {Q : List MV → List MObj → Prop} (h : WPEs B fi d es ev H Q) : WPEs B fi d es ev H Q := h
theorem gE (h : WPE B fi d e ev H Q) : WPE B fi d e ev H Q := h
theorem gEn (h : WPE B fi d (.Name x pos) ev H Q) : WPE B fi d (.Name x pos) ev H Q := h
theorem gEc (h : WPE B fi d (.Call e es [] pos) ev H Q) : WPE B fi d (.Call e es [] pos) ev H Q := h
theorem gEk {c : Const} {k : Nat} (h : WPE B fi d (.Constant c k pos) ev H Q) : WPE B fi d (.Constant c k pos) ev H Q := h
theorem gT {Q : Bool → List MObj → Prop} (h : WPT B fi d e ev H Q) : WPT B fi d e ev H Q := h
theorem gA {o : BoolOp} {Q : Bool → List MObj → Prop} (h : WPA B fi d o es ev H Q) : WPA B fi d o es ev H Q := h
theorem gI {Q : (List MObj → Prop) → List MV → List MObj → Prop} (h : WPI B fi d e e1 ev H Q) : WPI B fi d e e1 ev H Q := h
theorem gO {o : Option Expr} {Q : Option Int → List MObj → Prop} (h : WPO B fi d o ev H Q) : WPO B fi d o ev H Q := h
theorem gV (h : WPV B d m ms H Q) : WPV B d m ms H Q := h
theorem gX {α : Type} {P : α → Prop} (h : ∃ x, P x) : ∃ x, P x := h
theorem gN {P R : Prop} (h : P ∧ R) : P ∧ R := h
theorem gCm {o : CmpOp} {P : Bool → Prop} (h : cmpM o m m1 H P) : cmpM o m m1 H P := h
theorem gBm {o : Operator} (h : binM o m m1 H Q) : binM o m m1 H Q := h
theorem gSm (h : subM m m1 H Q) : subM m m1 H Q := h
theorem gZ {m2 : MV} {Q : List MObj → Prop} (h : setM m m1 m2 H Q) : setM m m1 m2 H Q := h
theorem gMm {w : World} {P : MV → List MV → Prop} (h : methM w m x H P) : methM w m x H P := h
end
section
variable {tg : Expr} {c : Option Expr} {inner : Inner} {chk : List MObj → Prop} {Q : List MV → List MObj → Prop} {ms : List MV} {fi' : FI} {X X1 : List MObj} {dd : Nat}
theorem go_cifN {T F : List MObj → Prop} (h : T H) : CIf B fi d none ev H T F := h
theorem go_cifS {T F : List MObj → Prop} {e : Expr} (h : WPT B fi d e ev H fun b H1 => (b = true → T H1) ∧ (b = false → F H1)) : CIf B fi d (some e) ev H T F := h
theorem go_emitI {a : Nat} {elt : Expr} {K : List MV → List MObj → Prop} (h : WPE B fi d elt ev H fun m H1 => ∃ vs, H1[a]? = some (.list vs) ∧ vs.length ≤ 100000 ∧ K ev (H1.set a (.list (vs ++ [m])))) : emitI B fi d a elt ev H K := h
theorem go_genI {a : Nat} {tg iter elt : Expr} {K : List MV → List MObj → Prop} (h : WPI B fi d tg iter ev H fun chk items H1 => CompS B fi d tg none (emitI B fi d a elt) chk K items ev H1) : genI B fi d a tg iter elt ev H K := h
theorem go_chkT (h : CompS B fi' dd tg c inner chk Q ms ev X) : True ∧ CompS B fi' dd tg c inner chk Q ms ev X := ⟨True.intro, h⟩
theorem go_chkL {j : Nat} {o : MObj} (h1 : X1[j]? = some o) (h : CompS B fi' dd tg c inner chk Q ms ev X) : X1[j]? = some o ∧ CompS B fi' dd tg c inner chk Q ms ev X := ⟨h1, h⟩
theorem go_chkZ {j i : Nat} {o u : MObj} (h1 : X1[j]? = some o) (h2 : X1[i]? = some u) (h : CompS B fi' dd tg c inner chk Q ms ev X) : (X1[j]? = some o ∧ X1[i]? = some u) ∧ CompS B fi' dd tg c inner chk Q ms ev X := ⟨⟨h1, h2⟩, h⟩
end
theorem rangeL1 : ∀ (n : Nat) (a : Int), rangeL a 1 n = (List.range n).map fun (i : Nat) => MV.int (a + (i : Int))
  | 0, _ => rfl
  | n + 1, a => by
    unfold rangeL
    rw [rangeL1 n (a + 1), List.range_succ_eq_map, List.map_cons, List.map_map]
    congr 1
    · simp
    · apply List.map_congr_left; intro i _; simp only [Function.comp]; congr 1; push_cast; omega
theorem rangeSize1 {a b : Int} (h : a ≤ b) : (Builtin.Range.rangeSize a b 1).toNat = (b - a).toNat := by
  unfold Builtin.Range.rangeSize; rw [if_pos (by decide)]; split <;> simp <;> omega
theorem rangeLen (a c : Int) : ∀ n, (rangeL a c n).length = n := by
  intro n; induction n generalizing a with
  | zero => rfl
  | succ n ih => unfold rangeL; simp [ih]
theorem cmpw_both {x : Wd} {P : Bool → Prop} (h : P (decide (x = .both))) : cmpM .Eq (.str (wS x)) (.str (Str.ofString "both")) H P := cmp_wd' .both rfl h
theorem cmpw_conflict {x : Wd} {P : Bool → Prop} (h : P (decide (x = .conflict))) : cmpM .Eq (.str (wS x)) (.str (Str.ofString "conflict")) H P := cmp_wd' .conflict rfl h
theorem cmpw_same {x : Wd} {P : Bool → Prop} (h : P (decide (x = .same))) : cmpM .Eq (.str (wS x)) (.str (Str.ofString "same")) H P := cmp_wd' .same rfl h
theorem cmpw_ours {x : Wd} {P : Bool → Prop} (h : P (decide (x = .ours))) : cmpM .Eq (.str (wS x)) (.str (Str.ofString "ours")) H P := cmp_wd' .ours rfl h
theorem cmpw_theirs {x : Wd} {P : Bool → Prop} (h : P (decide (x = .theirs))) : cmpM .Eq (.str (wS x)) (.str (Str.ofString "theirs")) H P := cmp_wd' .theirs rfl h
theorem cmpw_nconflict {x : Wd} {P : Bool → Prop} (h : P (decide (x ≠ .conflict))) : cmpM .NotEq (.str (wS x)) (.str (Str.ofString "conflict")) H P := cmp_nwd' .conflict rfl h
theorem cmpw_inOT {x : Wd} {P : Bool → Prop} (h : P ([Wd.ours, .theirs].any fun w => decide (w = x))) : cmpM .In (.str (wS x)) (.tup [.str (Str.ofString "ours"), .str (Str.ofString "theirs")]) H P := cmp_inw [.ours, .theirs] rfl h
theorem cmpw_inSB {x : Wd} {P : Bool → Prop} (h : P ([Wd.same, .both].any fun w => decide (w = x))) : cmpM .In (.str (wS x)) (.tup [.str (Str.ofString "same"), .str (Str.ofString "both")]) H P := cmp_inw [.same, .both] rfl h
theorem cmpw_ninBC {x : Wd} {P : Bool → Prop} (h : P (![Wd.both, .conflict].any fun w => decide (w = x))) : cmpM .NotIn (.str (wS x)) (.tup [.str (Str.ofString "both"), .str (Str.ofString "conflict")]) H P := cmp_ninw [.both, .conflict] rfl h
end
end
section
local macro_rules | `(tactic| decreasing_trivial_pre_omega) => `(tactic| first
  | with_reducible assumption
  | with_reducible exact at_last _ _
  | ((with_reducible apply at_app); decreasing_trivial_pre_omega)
  | ((with_reducible apply at_set_ne); (focus decreasing_trivial_pre_omega); (focus (first | assumption | omega | (simp only [List.length_append, List.length_set, List.length_cons, List.length_nil]; omega))))
  | ((with_reducible apply at_set); (first | assumption | omega | (simp only [List.length_append, List.length_set, List.length_cons, List.length_nil]; omega)))
  | ((with_reducible apply Ext.get); (focus assumption); (focus decreasing_trivial_pre_omega))
  | ((with_reducible apply at_lastI); (focus array_mem_dec)))
local macro_rules | `(tactic| array_mem_dec) => `(tactic| first
  | with_reducible assumption
  | omega
  | exact Nat.le_of_ble_eq_true rfl
  | ((simp only [List.length_append, List.length_set, List.length_cons, List.length_nil, List.length_map, List.length_replicate, List.length_range]); omega)
  | (simp; omega)
  | (simp; done))
local macro_rules | `(tactic| sizeOf_list_dec) => `(tactic| first
  | assumption
  | with_reducible exact Ext.refl _
  | ((with_reducible refine Ext.app' ?_); sizeOf_list_dec)
  | ((with_reducible refine Ext.set_new ?_ ?_); (focus sizeOf_list_dec); (focus array_mem_dec))
  | ((with_reducible refine Ext.trans ?_ (by assumption)); sizeOf_list_dec))
local macro_rules | `(tactic| array_get_dec) => `(tactic| first
  | ((with_reducible refine gE ?_); (first | ((with_reducible refine gEn ?_); (first | ((first | with_reducible refine gl_len ?_ ?_ | with_reducible refine gl_list ?_ ?_ | with_reducible refine gl_range ?_ ?_ | with_reducible refine gl_enumerate ?_ ?_ | with_reducible refine gl_zip ?_ ?_ | with_reducible refine gl_min ?_ ?_ | with_reducible refine gl_max ?_ ?_ | with_reducible refine gl_isinstance ?_ ?_ | with_reducible refine gl_sum ?_ ?_ | with_reducible refine gl_bytes ?_ ?_ | with_reducible refine gl_str ?_ ?_ | with_reducible refine gl_Chunk ?_ ?_ | with_reducible refine gl_Change ?_ ?_ | with_reducible refine gl_LineSheet ?_ ?_ | with_reducible refine gl_LineNumbers ?_ ?_ | with_reducible refine gl_BOTH ?_ ?_ | with_reducible refine gl_CONFLICT ?_ ?_ | with_reducible refine gl_OURS ?_ ?_ | with_reducible refine gl_THEIRS ?_ ?_ | with_reducible refine gl_SHORT ?_ ?_ | with_reducible refine gl_line_further ?_ ?_ | with_reducible refine gl_myers ?_ ?_ | with_reducible refine gl_by ?_ ?_ | with_reducible refine gl_conflict_parted ?_ ?_ | with_reducible refine gl_conflict_trimmed ?_ ?_ | with_reducible refine gl_conflicts_closed_up ?_ ?_ | with_reducible refine gl_conflict_pieces ?_ ?_ | with_reducible refine gl_law_draw ?_ ?_ | with_reducible refine gl_law_lines ?_ ?_ | with_reducible refine gl_law_chunk ?_ ?_ | with_reducible refine gl_law_told ?_ ?_ | with_reducible refine gl_law_longest ?_ ?_ | with_reducible refine gl_law_is_parted ?_ ?_ | with_reducible refine gl_law_trimmed ?_ ?_ | with_reducible refine gl_law_closed ?_ ?_); (focus exact rfl)) | ((with_reducible apply WPE.name); (focus exact rfl); (focus first | exact .inl rfl | exact .inr (.inl rfl) | exact .inr (.inr rfl)); (focus exact rfl); (focus first | assumption | (intro h; cases h)); (focus exact rfl)))) | ((with_reducible refine gEk ?_); (first | with_reducible refine WPE.cInt ?_ | with_reducible refine WPE.cStr ?_ | with_reducible refine WPE.cBool ?_ | with_reducible refine WPE.cNone ?_ | with_reducible refine WPE.cBytes ?_)) | ((with_reducible refine gEc ?_); (first | ((with_reducible refine WPE.call ?_ ?_ ?_); (focus exact fun _ => rfl); (focus exact fun _ => rfl)) | with_reducible refine WPE.call0 ?_ | ((with_reducible apply WPE.meth); (focus exact fun _ => rfl); (focus exact fun _ => rfl); (focus exact fun _ => rfl)) | ((with_reducible apply WPE.meth0); (focus exact fun _ => rfl)))) | ((with_reducible refine WPE.attr ?_ ?_); (focus exact fun _ => rfl)) | with_reducible refine WPE.bin ?_ | ((with_reducible refine WPE.cmp ?_ ?_); (focus exact rfl)) | with_reducible refine WPE.slice ?_ | ((with_reducible refine WPE.sub ?_ ?_); (focus exact fun _ _ => rfl)) | with_reducible refine WPE.tup ?_ | with_reducible refine WPE.list ?_ | with_reducible refine WPE.neg ?_ | with_reducible refine WPE.ifx ?_ | with_reducible refine WPE.dict0 ?_ | with_reducible refine WPE.dictI ?_ | ((with_reducible refine WPE.comp1 ?_ ?_ ?_); (focus exact ⟨rfl, by decide, rfl⟩); (focus exact fun _ _ => rfl)) | ((with_reducible refine WPE.compIf ?_ ?_ ?_); (focus exact ⟨rfl, by decide, rfl⟩); (focus exact fun _ _ => rfl)) | ((with_reducible refine WPE.comp2 ?_ ?_ ?_ ?_); (focus exact ⟨rfl, by decide, rfl⟩); (focus exact fun _ _ => rfl); (focus exact fun _ _ => rfl))))
  | ((with_reducible refine gEs ?_); (first | with_reducible refine WPEs.nil ?_ | ((with_reducible refine WPEs.cons ?_ ?_); (focus exact fun _ => rfl))))
  | ((with_reducible refine gS ?_); (first | ((with_reducible apply WPS.nrm); (focus repeat first | exact SetTo.zero | apply SetTo.succ)) | with_reducible refine WPS.nil ?_ | with_reducible refine WPS.cons ?_))
  | ((with_reducible refine g1 ?_); (first | ((with_reducible refine g1a ?_); (first | ((with_reducible apply WP1.asgSwap2); (focus exact fun _ => rfl); (focus exact rfl); (focus exact rfl); (focus exact rfl)) | ((with_reducible apply WP1.asgSwap3); (focus exact fun _ => rfl); (focus exact rfl); (focus exact rfl); (focus exact rfl); (focus exact rfl)) | ((with_reducible refine WP1.asg ?_ ?_ ?_ ?_); (focus exact fun _ => rfl); (focus first | exact fun _ _ _ => rfl | exact fun env hn hk => swapsWith_env rfl env hn hk); (focus first | exact fun _ _ _ => rfl | exact fun env hn hk => swap_env rfl env hn hk)))) | with_reducible refine WP1.ret ?_ | ((with_reducible apply WP1.augName); (focus exact rfl); (focus exact rfl); (focus first | assumption | (intro h; cases h)); (focus exact rfl)) | with_reducible refine WP1.augAttr ?_ | ((with_reducible refine WP1.expr ?_ ?_); (focus exact fun _ => rfl)) | ((with_reducible refine WP1.forI ?_ ?_); (focus exact fun _ _ => rfl))))
  | ((with_reducible refine gX ?_); (first | ((with_reducible apply go_attr); (focus decreasing_trivial_pre_omega); (focus first | with_reducible exact at_301_word _ | with_reducible exact at_301_base _ | with_reducible exact at_301_ours _ | with_reducible exact at_301_theirs _ | with_reducible exact at_92_a_from _ | with_reducible exact at_92_a_to _ | with_reducible exact at_92_b_from _ | with_reducible exact at_92_b_to _ | with_reducible exact at_223_a _ | with_reducible exact at_223_b _ | with_reducible exact at_223_gone _ | with_reducible exact at_223_come _ | with_reducible exact at_125_known _ | with_reducible exact at_125_strange _ | with_reducible exact at_125_count _); (focus exact rfl); (focus exact rfl)) | ((with_reducible apply go_setattr); (focus decreasing_trivial_pre_omega); (focus first | with_reducible exact st_301_word _ | with_reducible exact st_301_base _ | with_reducible exact st_301_ours _ | with_reducible exact st_301_theirs _ | with_reducible exact st_92_a_from _ | with_reducible exact st_92_a_to _ | with_reducible exact st_92_b_from _ | with_reducible exact st_92_b_to _ | with_reducible exact st_223_a _ | with_reducible exact st_223_b _ | with_reducible exact st_223_gone _ | with_reducible exact st_223_come _ | with_reducible exact st_125_known _ | with_reducible exact st_125_strange _ | with_reducible exact st_125_count _); (focus exact Nat.le_of_ble_eq_true rfl)) | ((with_reducible apply go_slice); (focus decreasing_trivial_pre_omega); (focus array_mem_dec)) | ((with_reducible refine go_part ?_ ?_); (focus array_mem_dec)) | with_reducible refine go_neg ?_ | with_reducible refine go_val ?_ | ((with_reducible apply go_swap2); (focus repeat first | exact SetTo.zero | apply SetTo.succ); (focus repeat first | exact SetTo.zero | apply SetTo.succ)) | ((with_reducible apply go_swap3); (focus repeat first | exact SetTo.zero | apply SetTo.succ); (focus repeat first | exact SetTo.zero | apply SetTo.succ); (focus repeat first | exact SetTo.zero | apply SetTo.succ)) | ((with_reducible apply go_enum); (focus decreasing_trivial_pre_omega)) | ((with_reducible apply go_zip); (focus decreasing_trivial_pre_omega); (focus decreasing_trivial_pre_omega)) | ((with_reducible apply go_augAttr); (focus decreasing_trivial_pre_omega); (focus first | with_reducible exact at_301_word _ | with_reducible exact at_301_base _ | with_reducible exact at_301_ours _ | with_reducible exact at_301_theirs _ | with_reducible exact at_92_a_from _ | with_reducible exact at_92_a_to _ | with_reducible exact at_92_b_from _ | with_reducible exact at_92_b_to _ | with_reducible exact at_223_a _ | with_reducible exact at_223_b _ | with_reducible exact at_223_gone _ | with_reducible exact at_223_come _ | with_reducible exact at_125_known _ | with_reducible exact at_125_strange _ | with_reducible exact at_125_count _); (focus first | with_reducible exact st_301_word _ | with_reducible exact st_301_base _ | with_reducible exact st_301_ours _ | with_reducible exact st_301_theirs _ | with_reducible exact st_92_a_from _ | with_reducible exact st_92_a_to _ | with_reducible exact st_92_b_from _ | with_reducible exact st_92_b_to _ | with_reducible exact st_223_a _ | with_reducible exact st_223_b _ | with_reducible exact st_223_gone _ | with_reducible exact st_223_come _ | with_reducible exact st_125_known _ | with_reducible exact st_125_strange _ | with_reducible exact st_125_count _); (focus exact rfl); (focus exact rfl)) | ((with_reducible apply go_augSet); (focus decreasing_trivial_pre_omega); (focus exact Nat.le_of_ble_eq_true rfl)) | ((with_reducible apply go_emit); (focus decreasing_trivial_pre_omega); (focus array_mem_dec)) | ((with_reducible apply go_range); (focus exact rfl); (focus decide); (focus ((with_reducible refine small1 ?_); array_mem_dec)))))
  | ((with_reducible refine gN ?_); (first | with_reducible refine go_calleeB ?_ | with_reducible refine go_calleeT ?_ | with_reducible refine go_typeEq ?_ | ((with_reducible refine go_callee ?_ ?_); (focus first | with_reducible exact co_234 _ | with_reducible exact co_248 _ | with_reducible exact co_270 _ | with_reducible exact co_312 _ | with_reducible exact co_319 _ | with_reducible exact co_326 _ | with_reducible exact co_333 _ | with_reducible exact co_340 _ | with_reducible exact co_345 _ | with_reducible exact co_352 _ | with_reducible exact co_359 _ | with_reducible exact co_366 _ | with_reducible exact co_371 _ | with_reducible exact co_378 _ | with_reducible exact co_383 _ | with_reducible exact co_92 _ | with_reducible exact co_125 _ | with_reducible exact co_223 _ | with_reducible exact co_301 _)) | ((with_reducible refine go_notRef ?_ ?_); (focus exact rfl)) | ((with_reducible refine go_len ?_ ?_); (focus array_mem_dec)) | with_reducible refine go_tt ?_ | with_reducible refine go_ff ?_ | with_reducible refine go_chkT ?_ | ((with_reducible refine go_chkL ?_ ?_); (focus decreasing_trivial_pre_omega)) | ((with_reducible refine go_chkZ ?_ ?_ ?_); (focus decreasing_trivial_pre_omega); (focus decreasing_trivial_pre_omega))))
  | ((with_reducible refine gG ?_); (first | ((with_reducible apply WPG.nameT); (focus exact rfl); (focus first | exact .inl rfl | exact .inr ⟨rfl, by decide⟩); (focus repeat first | exact SetTo.zero | apply SetTo.succ)) | with_reducible refine WPG.attr ?_ | with_reducible refine WPG.sub ?_ | ((with_reducible refine WPG.tup ?_ ?_ ?_); (focus exact rfl); (focus exact fun _ => rfl))))
  | ((with_reducible refine gV ?_); (first | with_reducible refine WPV.nap ?_ | ((with_reducible apply WPV.len); (focus decreasing_trivial_pre_omega); (focus array_mem_dec)) | ((with_reducible apply WPV.list); (focus decreasing_trivial_pre_omega); (focus array_mem_dec)) | ((with_reducible apply WPV.append); (focus decreasing_trivial_pre_omega); (focus array_mem_dec)) | ((with_reducible apply WPV.extend); (focus decreasing_trivial_pre_omega); (focus decreasing_trivial_pre_omega); (focus array_mem_dec)) | with_reducible refine WPV.min ?_ | with_reducible refine WPV.max ?_ | with_reducible refine WPV.isStr ?_ | with_reducible refine WPV.isBs ?_))
  | ((with_reducible refine gT ?_); (first | ((with_reducible refine WPT.cmp ?_ ?_); (focus exact rfl)) | with_reducible refine WPT.not ?_ | with_reducible refine WPT.bop ?_ | ((with_reducible refine WPT.val ?_ ?_); (focus exact fun _ => rfl))))
  | ((with_reducible refine gA ?_); (first | with_reducible refine WPA.andNil ?_ | with_reducible refine WPA.orNil ?_ | with_reducible refine WPA.and ?_ | with_reducible refine WPA.or ?_))
  | ((with_reducible refine gCm ?_); (first | with_reducible refine cmp_lt ?_ | with_reducible refine cmp_le ?_ | with_reducible refine cmp_gt ?_ | with_reducible refine cmp_ge ?_ | with_reducible refine cmp_eq ?_ | with_reducible refine cmp_ne ?_ | with_reducible refine cmp_lb ?_ | with_reducible refine cmp_wd ?_ | with_reducible refine cmpw_both ?_ | with_reducible refine cmpw_conflict ?_ | with_reducible refine cmpw_same ?_ | with_reducible refine cmpw_ours ?_ | with_reducible refine cmpw_theirs ?_ | with_reducible refine cmpw_nconflict ?_ | with_reducible refine cmpw_inOT ?_ | with_reducible refine cmpw_inSB ?_ | with_reducible refine cmpw_ninBC ?_ | ((with_reducible apply cmp_nindB); (focus decreasing_trivial_pre_omega)) | ((with_reducible apply cmp_nindI); (focus decreasing_trivial_pre_omega)) | ((with_reducible apply cmp_indI); (focus decreasing_trivial_pre_omega)) | ((with_reducible apply cmp_anynil); (focus decreasing_trivial_pre_omega); (focus decreasing_trivial_pre_omega); (focus array_mem_dec))))
  | ((with_reducible refine gGs ?_); (first | with_reducible refine WPGs.nil ?_ | ((with_reducible refine WPGs.cons ?_ ?_); (focus exact fun _ => rfl))))
  | ((with_reducible refine gBm ?_); (first | with_reducible refine bin_add ?_ | with_reducible refine bin_sub ?_ | ((with_reducible refine bin_mod ?_ ?_); (focus first | decide | omega)) | ((with_reducible refine bin_mul ?_ ?_); (focus first | decide | omega)) | ((with_reducible refine bin_fdiv ?_ ?_); (focus first | decide | omega)) | ((with_reducible apply bin_lapp); (focus decreasing_trivial_pre_omega); (focus decreasing_trivial_pre_omega); (focus array_mem_dec)) | ((with_reducible apply bin_rep); (focus decreasing_trivial_pre_omega); (focus exact ⟨by omega, by omega⟩))))
  | ((with_reducible refine gSm ?_); (first | ((with_reducible apply sub_Ls); (focus decreasing_trivial_pre_omega); (focus array_mem_dec); (focus array_mem_dec); (focus array_mem_dec)) | ((with_reducible apply sub_dS); (focus decreasing_trivial_pre_omega); (focus exact rfl))))
  | ((with_reducible refine gZ ?_); (first | ((with_reducible apply set_dS); (focus decreasing_trivial_pre_omega); (focus exact Nat.le_of_ble_eq_true rfl))))
  | ((with_reducible refine gMm ?_); (first | ((with_reducible apply meth_append); (focus decreasing_trivial_pre_omega)) | ((with_reducible apply meth_extend); (focus decreasing_trivial_pre_omega)) | ((with_reducible apply meth_pop); (focus decreasing_trivial_pre_omega)) | ((with_reducible apply meth_inst); (focus decreasing_trivial_pre_omega); (focus first | with_reducible exact me_301_joined _ | with_reducible exact me_223_whole _ | with_reducible exact me_223_trimmed _ | with_reducible exact me_223_mark _ | with_reducible exact me_223_changes _ | with_reducible exact me_223_halved _ | with_reducible exact me_223_mark_fewest _ | with_reducible exact me_125_number_of _ | with_reducible exact me_125_numbers_of _); (focus exact rfl))))
  | ((with_reducible refine gI ?_); (first | ((with_reducible refine WPI.range (x := Str.ofString "range") ?_ ?_ ?_); (focus exact fun _ => rfl); (focus exact fun _ => rfl)) | ((with_reducible refine WPI.enum (x := Str.ofString "enumerate") ?_ ?_ ?_); (focus exact fun _ => rfl); (focus exact fun _ => rfl)) | ((with_reducible refine WPI.zip (x := Str.ofString "zip") ?_ ?_ ?_); (focus exact fun _ => rfl); (focus exact fun _ => rfl)) | with_reducible refine WPI.seq ?_))
  | ((with_reducible refine gO ?_); (first | with_reducible refine go_partNone ?_ | with_reducible refine go_partSome ?_))
  | with_reducible refine go_cifN ?_
  | with_reducible refine go_cifS ?_
  | with_reducible refine go_emitI ?_
  | with_reducible refine go_genI ?_
  | with_reducible refine aug_add ?_
  | with_reducible refine aug_sub ?_
  | ((with_reducible apply go_seq); (focus decreasing_trivial_pre_omega))
  | with_reducible refine go_seqT ?_)
section
variable {B : Bs} {d : Nat} {H : List MObj}
theorem set_last {H : List MObj} {a b : MObj} : (H ++ [a]).set H.length b = H ++ [b] := by simp
theorem chunk_new {w b o t : MV} {Q : MV → List MObj → Prop} (hd : 2 ≤ d) (hw : w ≠ .undef) (hb : b ≠ .undef) (ho : o ≠ .undef) (ht : t ≠ .undef) (h : Q (.ref H.length) (H ++ [.inst 301 [(Str.ofString "word", w), (Str.ofString "base", b), (Str.ofString "ours", o), (Str.ofString "theirs", t)]])) :
    WPV B d (.con (.ref 301)) [w, b, o, t] H Q := by
  refine WPF.vc (WPF.cls (mk_301 _) (in_301 _) (ty_284 _) (by omega) ?_)
  refine WPF.fn fn284 (by omega) rfl ?_
  rw [ie284]
  refine WPS.cons ?_
  repeat array_get_dec

  refine ⟨rfl, ?_⟩
  simp only [set_last]
  exact h
theorem change_new {w b o t : MV} {Q : MV → List MObj → Prop} (hd : 2 ≤ d) (hw : w ≠ .undef) (hb : b ≠ .undef) (ho : o ≠ .undef) (ht : t ≠ .undef) (h : Q (.ref H.length) (H ++ [.inst 92 [(Str.ofString "a_from", w), (Str.ofString "a_to", b), (Str.ofString "b_from", o), (Str.ofString "b_to", t)]])) :
    WPV B d (.con (.ref 92)) [w, b, o, t] H Q := by
  refine WPF.vc (WPF.cls (mk_92 _) (in_92 _) (ty_68 _) (by omega) ?_)
  refine WPF.fn fn68 (by omega) rfl ?_
  rw [ie68]
  refine WPS.cons ?_
  repeat array_get_dec
  refine ⟨rfl, ?_⟩
  simp only [set_last]
  exact h
theorem chunk_go {w : Wd} {b o t : Nat} {Q : MV → List MObj → Prop} (hd : 2 ≤ d) (h : Q (.ref H.length) (H ++ [.inst 301 (ckF (wS w) b o t)])) : WPV B d (.con (.ref 301)) [.str (wS w), .ref b, .ref o, .ref t] H Q :=
  chunk_new hd (by intro h; cases h) (by intro h; cases h) (by intro h; cases h) (by intro h; cases h) h
theorem chunk_goB {b o t : Nat} {Q : MV → List MObj → Prop} (hd : 2 ≤ d) (h : Q (.ref H.length) (H ++ [.inst 301 (ckF (wS .both) b o t)])) : WPV B d (.con (.ref 301)) [.str (Str.ofString "both"), .ref b, .ref o, .ref t] H Q := chunk_go hd h
theorem chunk_goC {b o t : Nat} {Q : MV → List MObj → Prop} (hd : 2 ≤ d) (h : Q (.ref H.length) (H ++ [.inst 301 (ckF (wS .conflict) b o t)])) : WPV B d (.con (.ref 301)) [.str (Str.ofString "conflict"), .ref b, .ref o, .ref t] H Q := chunk_go hd h
theorem RC.i {P : Nat → Prop} {c b o t : Nat} {w : Wd} {x y z : List Line} (hc : H[c]? = some (.inst 301 (ckF (wS w) b o t))) (hb : H[b]? = some (Ls x)) (ho : H[o]? = some (Ls y)) (ht : H[t]? = some (Ls z)) (p1 : P c) (p2 : P b) (p3 : P o) (p4 : P t) : RC P H (.ref c) ⟨w, x, y, z⟩ :=
  ⟨c, b, o, t, rfl, ⟨p1, p2, p3, p4⟩, hc, hb, ho, ht⟩
theorem RCk.i {c b o t : Nat} {w : Wd} {x y z : List Line} (hc : H[c]? = some (.inst 301 (ckF (wS w) b o t))) (hb : H[b]? = some (Ls x)) (ho : H[o]? = some (Ls y)) (ht : H[t]? = some (Ls z)) : RCk H (.ref c) ⟨w, x, y, z⟩ :=
  ⟨c, b, o, t, rfl, hc, hb, ho, ht⟩
theorem sliceM_map {α : Type} (f : α → MV) (ls : List α) (lo hi : Option Int) : sliceM (ls.map f) lo hi = ((ls.drop (lo.elim 0 Int.toNat)).take (hi.elim ls.length Int.toNat - lo.elim 0 Int.toNat)).map f := by
  unfold sliceM; rw [List.map_take, List.map_drop, List.length_map]
theorem sl0 (ls : List Line) (n : Nat) : MObj.list (sliceM (ls.map lb) none (some (n : Int))) = Ls (ls.take n) := by rw [sliceM_map]; simp
theorem sl1 (ls : List Line) (n : Nat) {k : Int} (h : k = (n : Int)) : MObj.list (sliceM (ls.map lb) (some k) none) = Ls (ls.drop n) := by
  subst h; rw [sliceM_map]; simp only [Option.elim, Int.toNat_natCast]; rw [List.take_of_length_le (by simp)]
theorem sl2 (ls : List Line) (n m : Nat) {k : Int} (h : k = (m : Int)) : MObj.list (sliceM (ls.map lb) (some (n : Int)) (some k)) = Ls ((ls.drop n).take (m - n)) := by
  subst h; rw [sliceM_map]; simp
theorem lsnil : MObj.list [] = Ls [] := rfl
theorem change_go {a b e f : Int} {Q : MV → List MObj → Prop} (hd : 2 ≤ d) (h : Q (.ref H.length) (H ++ [.inst 92 [(Str.ofString "a_from", .int a), (Str.ofString "a_to", .int b), (Str.ofString "b_from", .int e), (Str.ofString "b_to", .int f)]])) : WPV B d (.con (.ref 92)) [.int a, .int b, .int e, .int f] H Q :=
  change_new hd (by intro h; cases h) (by intro h; cases h) (by intro h; cases h) (by intro h; cases h) h
def chF (a b c d : Nat) : List (Str × MV) := [(Str.ofString "a_from", .int a), (Str.ofString "a_to", .int b), (Str.ofString "b_from", .int c), (Str.ofString "b_to", .int d)]
theorem told_ok {m : MV} {k : Ck} (hd : 0 < d) (hk : RCk H m k) (hs : k.small 1000) : WPF B d (.con (.ref 359)) [m] H (fun r H' => Ext H H' ∧ RTm H.length H' r k) := by
  obtain ⟨c, b, o, t, rfl, hc, hb, ho, ht⟩ := hk
  obtain ⟨s1, s2, s3⟩ := hs
  refine WPF.fn fn359 hd rfl ?_
  rw [ie359]
  refine WPS.cons ?_
  repeat array_get_dec
  refine ⟨((Ext.app _ _).trans (Ext.app _ _)).trans (Ext.app _ _), _, _, _, rfl, ?_, (by decreasing_trivial_pre_omega), (by decreasing_trivial_pre_omega), (by decreasing_trivial_pre_omega)⟩
  simp only [List.length_append, List.length_cons, List.length_nil]; omega
theorem cmp_lsnil {i j : Nat} {x : List Line} {P : Bool → Prop} (h1 : H[i]? = some (Ls x)) (h2 : H[j]? = some (.list [])) (hne : i ≠ j) (h : P (decide (x ≠ []))) : cmpM .NotEq (.ref i) (.ref j) H P :=
  ⟨hne, _, eq_Ls h1 (y := []) h2, by rw [show (!decide (x = [])) = decide (x ≠ []) from by simp]; exact h⟩
theorem cmp_lseq {i j : Nat} {x y : List Line} {P : Bool → Prop} (h1 : H[i]? = some (Ls x)) (h2 : H[j]? = some (Ls y)) (hne : i ≠ j) (h : P (decide (x = y))) : cmpM .Eq (.ref i) (.ref j) H P :=
  ⟨hne, _, eq_Ls h1 h2, h⟩
theorem cmp_lsne {i j : Nat} {x y : List Line} {P : Bool → Prop} (h1 : H[i]? = some (Ls x)) (h2 : H[j]? = some (Ls y)) (hne : i ≠ j) (h : P (decide (x ≠ y))) : cmpM .NotEq (.ref i) (.ref j) H P :=
  ⟨hne, _, eq_Ls h1 h2, by rw [show (!decide (x = y)) = decide (x ≠ y) from by simp]; exact h⟩
theorem cmp_nilEq {i j : Nat} {x : List Line} {P : Bool → Prop} (h1 : H[i]? = some (Ls x)) (h2 : H[j]? = some (.list [])) (hne : i ≠ j) (h : P (decide (x = []))) : cmpM .Eq (.ref i) (.ref j) H P :=
  ⟨hne, _, eq_Ls h1 (y := []) h2, h⟩
theorem sub_last {Q : MV → List MObj → Prop} {j : Nat} {ls : List Line} (h1 : H[j]? = some (Ls ls)) (hne : ls ≠ []) (h2 : ls.length ≤ 100000) (h : Q (lb (ls.getD (ls.length - 1) 0)) H) : subM (.ref j) (.int (-1)) H Q := by
  have hp : 0 < ls.length := List.length_pos_iff.mpr hne
  refine sub_neg h1 (by simpa using h2) ?_ h
  rw [List.length_map, List.getElem?_map, List.getD_eq_getElem?_getD, List.getElem?_eq_getElem (by omega)]; rfl
theorem pop0_Ls {Q : MV → List MObj → Prop} {j : Nat} {ls : List Line} (h1 : H[j]? = some (Ls ls)) (hne : ls ≠ []) (h2 : ls.length ≤ 90000) (h : Q (lb (ls.getD 0 0)) (H.set j (Ls (ls.drop 1)))) : WPV B d (.con (.builtin "list.pop")) [.ref j, .int 0] H Q := by
  cases ls with
  | nil => exact absurd rfl hne
  | cons x xs => exact WPV.pop0 h1 (by simp at h2 ⊢; omega) h
theorem pop_Ls {Q : MV → List MObj → Prop} {j : Nat} {ls : List Line} (h1 : H[j]? = some (Ls ls)) (hne : ls ≠ []) (h2 : ls.length ≤ 90000) (h : Q (lb (ls.getD (ls.length - 1) 0)) (H.set j (Ls (ls.take (ls.length - 1))))) : WPV B d (.con (.builtin "list.pop")) [.ref j] H Q := by
  have hp : 0 < ls.length := List.length_pos_iff.mpr hne
  refine WPV.pop h1 (by simp; omega) (m := lb (ls.getD (ls.length - 1) 0)) ?_ ?_
  · rw [List.length_map, List.getElem?_map, List.getD_eq_getElem?_getD, List.getElem?_eq_getElem (by omega)]; rfl
  · rw [List.length_map]
    have e : (ls.map lb).eraseIdx (ls.length - 1) = (ls.take (ls.length - 1)).map lb := by
      rw [List.eraseIdx_eq_take_drop_succ, List.drop_of_length_le (by simp; omega), List.append_nil, List.map_take]
    rw [e]; exact h
end
end
section
local macro_rules | `(tactic| decreasing_trivial_pre_omega) => `(tactic| first
  | with_reducible assumption
  | with_reducible exact at_last _ _
  | ((with_reducible apply at_app); decreasing_trivial_pre_omega)
  | ((with_reducible apply at_set_ne); (focus decreasing_trivial_pre_omega); (focus (first | assumption | omega | (simp only [List.length_append, List.length_set, List.length_cons, List.length_nil]; omega))))
  | ((with_reducible apply at_set); (first | assumption | omega | (simp only [List.length_append, List.length_set, List.length_cons, List.length_nil]; omega)))
  | ((with_reducible apply Ext.get); (focus assumption); (focus decreasing_trivial_pre_omega))
  | ((with_reducible apply at_lastI); (focus array_mem_dec)))
local macro_rules | `(tactic| array_mem_dec) => `(tactic| first
  | with_reducible assumption
  | omega
  | exact Nat.le_of_ble_eq_true rfl
  | ((simp only [List.length_append, List.length_set, List.length_cons, List.length_nil, List.length_map, List.length_replicate, List.length_range]); omega)
  | (simp; omega)
  | (simp; done))
local macro_rules | `(tactic| sizeOf_list_dec) => `(tactic| first
  | assumption
  | with_reducible exact Ext.refl _
  | ((with_reducible refine Ext.app' ?_); sizeOf_list_dec)
  | ((with_reducible refine Ext.set_new ?_ ?_); (focus sizeOf_list_dec); (focus array_mem_dec))
  | ((with_reducible refine Ext.trans ?_ (by assumption)); sizeOf_list_dec)
  | ((with_reducible apply RC.i); (focus decreasing_trivial_pre_omega); (focus first | decreasing_trivial_pre_omega | exact at_eq (by decreasing_trivial_pre_omega) lsnil | exact at_eq (by decreasing_trivial_pre_omega) (sl2 _ _ _ (by omega)) | exact at_eq (by decreasing_trivial_pre_omega) (sl1 _ _ (by omega)) | exact at_eq (by decreasing_trivial_pre_omega) (sl0 _ _)); (focus first | decreasing_trivial_pre_omega | exact at_eq (by decreasing_trivial_pre_omega) lsnil | exact at_eq (by decreasing_trivial_pre_omega) (sl2 _ _ _ (by omega)) | exact at_eq (by decreasing_trivial_pre_omega) (sl1 _ _ (by omega)) | exact at_eq (by decreasing_trivial_pre_omega) (sl0 _ _)); (focus first | decreasing_trivial_pre_omega | exact at_eq (by decreasing_trivial_pre_omega) lsnil | exact at_eq (by decreasing_trivial_pre_omega) (sl2 _ _ _ (by omega)) | exact at_eq (by decreasing_trivial_pre_omega) (sl1 _ _ (by omega)) | exact at_eq (by decreasing_trivial_pre_omega) (sl0 _ _)); (focus array_mem_dec); (focus array_mem_dec); (focus array_mem_dec); (focus array_mem_dec))
  | ((with_reducible apply RCk.i); (focus decreasing_trivial_pre_omega); (focus first | decreasing_trivial_pre_omega | exact at_eq (by decreasing_trivial_pre_omega) lsnil | exact at_eq (by decreasing_trivial_pre_omega) (sl2 _ _ _ (by omega)) | exact at_eq (by decreasing_trivial_pre_omega) (sl1 _ _ (by omega)) | exact at_eq (by decreasing_trivial_pre_omega) (sl0 _ _)); (focus first | decreasing_trivial_pre_omega | exact at_eq (by decreasing_trivial_pre_omega) lsnil | exact at_eq (by decreasing_trivial_pre_omega) (sl2 _ _ _ (by omega)) | exact at_eq (by decreasing_trivial_pre_omega) (sl1 _ _ (by omega)) | exact at_eq (by decreasing_trivial_pre_omega) (sl0 _ _)); (focus first | decreasing_trivial_pre_omega | exact at_eq (by decreasing_trivial_pre_omega) lsnil | exact at_eq (by decreasing_trivial_pre_omega) (sl2 _ _ _ (by omega)) | exact at_eq (by decreasing_trivial_pre_omega) (sl1 _ _ (by omega)) | exact at_eq (by decreasing_trivial_pre_omega) (sl0 _ _))))
local macro_rules | `(tactic| array_get_dec) => `(tactic| first
  | ((with_reducible refine gE ?_); (first | ((with_reducible refine gEn ?_); (first | ((first | with_reducible refine gl_len ?_ ?_ | with_reducible refine gl_list ?_ ?_ | with_reducible refine gl_range ?_ ?_ | with_reducible refine gl_enumerate ?_ ?_ | with_reducible refine gl_zip ?_ ?_ | with_reducible refine gl_min ?_ ?_ | with_reducible refine gl_max ?_ ?_ | with_reducible refine gl_isinstance ?_ ?_ | with_reducible refine gl_sum ?_ ?_ | with_reducible refine gl_bytes ?_ ?_ | with_reducible refine gl_str ?_ ?_ | with_reducible refine gl_Chunk ?_ ?_ | with_reducible refine gl_Change ?_ ?_ | with_reducible refine gl_LineSheet ?_ ?_ | with_reducible refine gl_LineNumbers ?_ ?_ | with_reducible refine gl_BOTH ?_ ?_ | with_reducible refine gl_CONFLICT ?_ ?_ | with_reducible refine gl_OURS ?_ ?_ | with_reducible refine gl_THEIRS ?_ ?_ | with_reducible refine gl_SHORT ?_ ?_ | with_reducible refine gl_line_further ?_ ?_ | with_reducible refine gl_myers ?_ ?_ | with_reducible refine gl_by ?_ ?_ | with_reducible refine gl_conflict_parted ?_ ?_ | with_reducible refine gl_conflict_trimmed ?_ ?_ | with_reducible refine gl_conflicts_closed_up ?_ ?_ | with_reducible refine gl_conflict_pieces ?_ ?_ | with_reducible refine gl_law_draw ?_ ?_ | with_reducible refine gl_law_lines ?_ ?_ | with_reducible refine gl_law_chunk ?_ ?_ | with_reducible refine gl_law_told ?_ ?_ | with_reducible refine gl_law_longest ?_ ?_ | with_reducible refine gl_law_is_parted ?_ ?_ | with_reducible refine gl_law_trimmed ?_ ?_ | with_reducible refine gl_law_closed ?_ ?_); (focus exact rfl)) | ((with_reducible apply WPE.name); (focus exact rfl); (focus first | exact .inl rfl | exact .inr (.inl rfl) | exact .inr (.inr rfl)); (focus exact rfl); (focus first | assumption | (intro h; cases h)); (focus exact rfl)))) | ((with_reducible refine gEk ?_); (first | with_reducible refine WPE.cInt ?_ | with_reducible refine WPE.cStr ?_ | with_reducible refine WPE.cBool ?_ | with_reducible refine WPE.cNone ?_ | with_reducible refine WPE.cBytes ?_)) | ((with_reducible refine gEc ?_); (first | ((with_reducible refine WPE.call ?_ ?_ ?_); (focus exact fun _ => rfl); (focus exact fun _ => rfl)) | with_reducible refine WPE.call0 ?_ | ((with_reducible apply WPE.meth); (focus exact fun _ => rfl); (focus exact fun _ => rfl); (focus exact fun _ => rfl)) | ((with_reducible apply WPE.meth0); (focus exact fun _ => rfl)))) | ((with_reducible refine WPE.attr ?_ ?_); (focus exact fun _ => rfl)) | with_reducible refine WPE.bin ?_ | ((with_reducible refine WPE.cmp ?_ ?_); (focus exact rfl)) | with_reducible refine WPE.slice ?_ | ((with_reducible refine WPE.sub ?_ ?_); (focus exact fun _ _ => rfl)) | with_reducible refine WPE.tup ?_ | with_reducible refine WPE.list ?_ | with_reducible refine WPE.neg ?_ | with_reducible refine WPE.ifx ?_ | with_reducible refine WPE.dict0 ?_ | with_reducible refine WPE.dictI ?_ | ((with_reducible refine WPE.comp1 ?_ ?_ ?_); (focus exact ⟨rfl, by decide, rfl⟩); (focus exact fun _ _ => rfl)) | ((with_reducible refine WPE.compIf ?_ ?_ ?_); (focus exact ⟨rfl, by decide, rfl⟩); (focus exact fun _ _ => rfl)) | ((with_reducible refine WPE.comp2 ?_ ?_ ?_ ?_); (focus exact ⟨rfl, by decide, rfl⟩); (focus exact fun _ _ => rfl); (focus exact fun _ _ => rfl))))
  | ((with_reducible refine gEs ?_); (first | with_reducible refine WPEs.nil ?_ | ((with_reducible refine WPEs.cons ?_ ?_); (focus exact fun _ => rfl))))
  | ((with_reducible refine gS ?_); (first | ((with_reducible apply WPS.nrm); (focus repeat first | exact SetTo.zero | apply SetTo.succ)) | with_reducible refine WPS.nil ?_ | with_reducible refine WPS.cons ?_))
  | ((with_reducible refine g1 ?_); (first | ((with_reducible refine g1a ?_); (first | ((with_reducible apply WP1.asgSwap2); (focus exact fun _ => rfl); (focus exact rfl); (focus exact rfl); (focus exact rfl)) | ((with_reducible apply WP1.asgSwap3); (focus exact fun _ => rfl); (focus exact rfl); (focus exact rfl); (focus exact rfl); (focus exact rfl)) | ((with_reducible refine WP1.asg ?_ ?_ ?_ ?_); (focus exact fun _ => rfl); (focus first | exact fun _ _ _ => rfl | exact fun env hn hk => swapsWith_env rfl env hn hk); (focus first | exact fun _ _ _ => rfl | exact fun env hn hk => swap_env rfl env hn hk)))) | with_reducible refine WP1.ret ?_ | ((with_reducible apply WP1.augName); (focus exact rfl); (focus exact rfl); (focus first | assumption | (intro h; cases h)); (focus exact rfl)) | with_reducible refine WP1.augAttr ?_ | ((with_reducible refine WP1.expr ?_ ?_); (focus exact fun _ => rfl)) | ((with_reducible refine WP1.forI ?_ ?_); (focus exact fun _ _ => rfl))))
  | ((with_reducible refine gX ?_); (first | ((with_reducible apply go_attr); (focus decreasing_trivial_pre_omega); (focus first | with_reducible exact at_301_word _ | with_reducible exact at_301_base _ | with_reducible exact at_301_ours _ | with_reducible exact at_301_theirs _ | with_reducible exact at_92_a_from _ | with_reducible exact at_92_a_to _ | with_reducible exact at_92_b_from _ | with_reducible exact at_92_b_to _ | with_reducible exact at_223_a _ | with_reducible exact at_223_b _ | with_reducible exact at_223_gone _ | with_reducible exact at_223_come _ | with_reducible exact at_125_known _ | with_reducible exact at_125_strange _ | with_reducible exact at_125_count _); (focus exact rfl); (focus exact rfl)) | ((with_reducible apply go_setattr); (focus decreasing_trivial_pre_omega); (focus first | with_reducible exact st_301_word _ | with_reducible exact st_301_base _ | with_reducible exact st_301_ours _ | with_reducible exact st_301_theirs _ | with_reducible exact st_92_a_from _ | with_reducible exact st_92_a_to _ | with_reducible exact st_92_b_from _ | with_reducible exact st_92_b_to _ | with_reducible exact st_223_a _ | with_reducible exact st_223_b _ | with_reducible exact st_223_gone _ | with_reducible exact st_223_come _ | with_reducible exact st_125_known _ | with_reducible exact st_125_strange _ | with_reducible exact st_125_count _); (focus exact Nat.le_of_ble_eq_true rfl)) | ((with_reducible apply go_slice); (focus decreasing_trivial_pre_omega); (focus array_mem_dec)) | ((with_reducible refine go_part ?_ ?_); (focus array_mem_dec)) | with_reducible refine go_neg ?_ | with_reducible refine go_val ?_ | ((with_reducible apply go_swap2); (focus repeat first | exact SetTo.zero | apply SetTo.succ); (focus repeat first | exact SetTo.zero | apply SetTo.succ)) | ((with_reducible apply go_swap3); (focus repeat first | exact SetTo.zero | apply SetTo.succ); (focus repeat first | exact SetTo.zero | apply SetTo.succ); (focus repeat first | exact SetTo.zero | apply SetTo.succ)) | ((with_reducible apply go_enum); (focus decreasing_trivial_pre_omega)) | ((with_reducible apply go_zip); (focus decreasing_trivial_pre_omega); (focus decreasing_trivial_pre_omega)) | ((with_reducible apply go_augAttr); (focus decreasing_trivial_pre_omega); (focus first | with_reducible exact at_301_word _ | with_reducible exact at_301_base _ | with_reducible exact at_301_ours _ | with_reducible exact at_301_theirs _ | with_reducible exact at_92_a_from _ | with_reducible exact at_92_a_to _ | with_reducible exact at_92_b_from _ | with_reducible exact at_92_b_to _ | with_reducible exact at_223_a _ | with_reducible exact at_223_b _ | with_reducible exact at_223_gone _ | with_reducible exact at_223_come _ | with_reducible exact at_125_known _ | with_reducible exact at_125_strange _ | with_reducible exact at_125_count _); (focus first | with_reducible exact st_301_word _ | with_reducible exact st_301_base _ | with_reducible exact st_301_ours _ | with_reducible exact st_301_theirs _ | with_reducible exact st_92_a_from _ | with_reducible exact st_92_a_to _ | with_reducible exact st_92_b_from _ | with_reducible exact st_92_b_to _ | with_reducible exact st_223_a _ | with_reducible exact st_223_b _ | with_reducible exact st_223_gone _ | with_reducible exact st_223_come _ | with_reducible exact st_125_known _ | with_reducible exact st_125_strange _ | with_reducible exact st_125_count _); (focus exact rfl); (focus exact rfl)) | ((with_reducible apply go_augSet); (focus decreasing_trivial_pre_omega); (focus exact Nat.le_of_ble_eq_true rfl)) | ((with_reducible apply go_emit); (focus decreasing_trivial_pre_omega); (focus array_mem_dec)) | ((with_reducible apply go_range); (focus exact rfl); (focus decide); (focus ((with_reducible refine small1 ?_); array_mem_dec)))))
  | ((with_reducible refine gN ?_); (first | with_reducible refine go_calleeB ?_ | with_reducible refine go_calleeT ?_ | with_reducible refine go_typeEq ?_ | ((with_reducible refine go_callee ?_ ?_); (focus first | with_reducible exact co_234 _ | with_reducible exact co_248 _ | with_reducible exact co_270 _ | with_reducible exact co_312 _ | with_reducible exact co_319 _ | with_reducible exact co_326 _ | with_reducible exact co_333 _ | with_reducible exact co_340 _ | with_reducible exact co_345 _ | with_reducible exact co_352 _ | with_reducible exact co_359 _ | with_reducible exact co_366 _ | with_reducible exact co_371 _ | with_reducible exact co_378 _ | with_reducible exact co_383 _ | with_reducible exact co_92 _ | with_reducible exact co_125 _ | with_reducible exact co_223 _ | with_reducible exact co_301 _)) | ((with_reducible refine go_notRef ?_ ?_); (focus exact rfl)) | ((with_reducible refine go_len ?_ ?_); (focus array_mem_dec)) | with_reducible refine go_tt ?_ | with_reducible refine go_ff ?_ | with_reducible refine go_chkT ?_ | ((with_reducible refine go_chkL ?_ ?_); (focus decreasing_trivial_pre_omega)) | ((with_reducible refine go_chkZ ?_ ?_ ?_); (focus decreasing_trivial_pre_omega); (focus decreasing_trivial_pre_omega))))
  | ((with_reducible refine gG ?_); (first | ((with_reducible apply WPG.nameT); (focus exact rfl); (focus first | exact .inl rfl | exact .inr ⟨rfl, by decide⟩); (focus repeat first | exact SetTo.zero | apply SetTo.succ)) | with_reducible refine WPG.attr ?_ | with_reducible refine WPG.sub ?_ | ((with_reducible refine WPG.tup ?_ ?_ ?_); (focus exact rfl); (focus exact fun _ => rfl))))
  | ((with_reducible refine gV ?_); (first | with_reducible refine WPV.nap ?_ | ((with_reducible refine chunk_go ?_ ?_); (focus omega)) | ((with_reducible refine chunk_goB ?_ ?_); (focus omega)) | ((with_reducible refine chunk_goC ?_ ?_); (focus omega)) | ((with_reducible apply change_go); (focus omega)) | ((with_reducible apply WPV.len); (focus decreasing_trivial_pre_omega); (focus array_mem_dec)) | ((with_reducible apply WPV.list); (focus decreasing_trivial_pre_omega); (focus array_mem_dec)) | ((with_reducible apply WPV.append); (focus decreasing_trivial_pre_omega); (focus array_mem_dec)) | ((with_reducible apply WPV.extend); (focus decreasing_trivial_pre_omega); (focus decreasing_trivial_pre_omega); (focus array_mem_dec)) | ((with_reducible apply pop0_Ls); (focus decreasing_trivial_pre_omega); (focus array_mem_dec); (focus array_mem_dec)) | ((with_reducible apply pop_Ls); (focus decreasing_trivial_pre_omega); (focus array_mem_dec); (focus array_mem_dec)) | with_reducible refine WPV.min ?_ | with_reducible refine WPV.max ?_ | with_reducible refine WPV.isStr ?_ | with_reducible refine WPV.isBs ?_))
  | ((with_reducible refine gT ?_); (first | ((with_reducible refine WPT.cmp ?_ ?_); (focus exact rfl)) | with_reducible refine WPT.not ?_ | with_reducible refine WPT.bop ?_ | ((with_reducible refine WPT.val ?_ ?_); (focus exact fun _ => rfl))))
  | ((with_reducible refine gA ?_); (first | with_reducible refine WPA.andNil ?_ | with_reducible refine WPA.orNil ?_ | with_reducible refine WPA.and ?_ | with_reducible refine WPA.or ?_))
  | ((with_reducible refine gCm ?_); (first | with_reducible refine cmp_lt ?_ | with_reducible refine cmp_le ?_ | with_reducible refine cmp_gt ?_ | with_reducible refine cmp_ge ?_ | with_reducible refine cmp_eq ?_ | with_reducible refine cmp_ne ?_ | with_reducible refine cmp_lb ?_ | with_reducible refine cmp_wd ?_ | with_reducible refine cmpw_both ?_ | with_reducible refine cmpw_conflict ?_ | with_reducible refine cmpw_same ?_ | with_reducible refine cmpw_ours ?_ | with_reducible refine cmpw_theirs ?_ | with_reducible refine cmpw_nconflict ?_ | with_reducible refine cmpw_inOT ?_ | with_reducible refine cmpw_inSB ?_ | with_reducible refine cmpw_ninBC ?_ | ((with_reducible apply cmp_lsnil); (focus decreasing_trivial_pre_omega); (focus decreasing_trivial_pre_omega); (focus array_mem_dec)) | ((with_reducible apply cmp_nilEq); (focus decreasing_trivial_pre_omega); (focus decreasing_trivial_pre_omega); (focus array_mem_dec)) | ((with_reducible apply cmp_lseq); (focus decreasing_trivial_pre_omega); (focus decreasing_trivial_pre_omega); (focus array_mem_dec)) | ((with_reducible apply cmp_lsne); (focus decreasing_trivial_pre_omega); (focus decreasing_trivial_pre_omega); (focus array_mem_dec)) | ((with_reducible apply cmp_nindB); (focus decreasing_trivial_pre_omega)) | ((with_reducible apply cmp_nindI); (focus decreasing_trivial_pre_omega)) | ((with_reducible apply cmp_indI); (focus decreasing_trivial_pre_omega)) | ((with_reducible apply cmp_anynil); (focus decreasing_trivial_pre_omega); (focus decreasing_trivial_pre_omega); (focus array_mem_dec))))
  | ((with_reducible refine gGs ?_); (first | with_reducible refine WPGs.nil ?_ | ((with_reducible refine WPGs.cons ?_ ?_); (focus exact fun _ => rfl))))
  | ((with_reducible refine gBm ?_); (first | with_reducible refine bin_add ?_ | with_reducible refine bin_sub ?_ | ((with_reducible refine bin_mod ?_ ?_); (focus first | decide | omega)) | ((with_reducible refine bin_mul ?_ ?_); (focus first | decide | omega)) | ((with_reducible refine bin_fdiv ?_ ?_); (focus first | decide | omega)) | ((with_reducible apply bin_lapp); (focus decreasing_trivial_pre_omega); (focus decreasing_trivial_pre_omega); (focus array_mem_dec)) | ((with_reducible apply bin_rep); (focus decreasing_trivial_pre_omega); (focus exact ⟨by omega, by omega⟩))))
  | ((with_reducible refine gSm ?_); (first | ((with_reducible apply sub_last); (focus decreasing_trivial_pre_omega); (focus array_mem_dec); (focus array_mem_dec)) | ((with_reducible apply sub_Ls); (focus decreasing_trivial_pre_omega); (focus array_mem_dec); (focus array_mem_dec); (focus array_mem_dec)) | ((with_reducible apply sub_dS); (focus decreasing_trivial_pre_omega); (focus exact rfl))))
  | ((with_reducible refine gZ ?_); (first | ((with_reducible apply set_dS); (focus decreasing_trivial_pre_omega); (focus exact Nat.le_of_ble_eq_true rfl))))
  | ((with_reducible refine gMm ?_); (first | ((with_reducible apply meth_append); (focus decreasing_trivial_pre_omega)) | ((with_reducible apply meth_extend); (focus decreasing_trivial_pre_omega)) | ((with_reducible apply meth_pop); (focus decreasing_trivial_pre_omega)) | ((with_reducible apply meth_inst); (focus decreasing_trivial_pre_omega); (focus first | with_reducible exact me_301_joined _ | with_reducible exact me_223_whole _ | with_reducible exact me_223_trimmed _ | with_reducible exact me_223_mark _ | with_reducible exact me_223_changes _ | with_reducible exact me_223_halved _ | with_reducible exact me_223_mark_fewest _ | with_reducible exact me_125_number_of _ | with_reducible exact me_125_numbers_of _); (focus exact rfl))))
  | ((with_reducible refine gI ?_); (first | ((with_reducible refine WPI.range (x := Str.ofString "range") ?_ ?_ ?_); (focus exact fun _ => rfl); (focus exact fun _ => rfl)) | ((with_reducible refine WPI.enum (x := Str.ofString "enumerate") ?_ ?_ ?_); (focus exact fun _ => rfl); (focus exact fun _ => rfl)) | ((with_reducible refine WPI.zip (x := Str.ofString "zip") ?_ ?_ ?_); (focus exact fun _ => rfl); (focus exact fun _ => rfl)) | with_reducible refine WPI.seq ?_))
  | ((with_reducible refine gO ?_); (first | with_reducible refine go_partNone ?_ | with_reducible refine go_partSome ?_))
  | with_reducible refine go_cifN ?_
  | with_reducible refine go_cifS ?_
  | with_reducible refine go_emitI ?_
  | with_reducible refine go_genI ?_
  | with_reducible refine aug_add ?_
  | with_reducible refine aug_sub ?_
  | ((with_reducible apply go_seq); (focus decreasing_trivial_pre_omega))
  | with_reducible refine go_seqT ?_)
def upF (p : Nat → Bool) : Nat → Nat → Nat
  | n, 0 => n
  | n, f + 1 => if p n then upF p (n + 1) f else n
theorem upF_le (p : Nat → Bool) : ∀ f n, upF p n f ≤ n + f
  | 0, n => Nat.le_refl _
  | f + 1, n => by unfold upF; split; have := upF_le p f (n + 1); omega; omega
def trimA (a b : List Line) : Nat := upF (fun i => decide (a.getD i 0 = b.getD i 0)) 0 (min a.length b.length)
def trimB (a b : List Line) (A : Nat) : Nat := upF (fun i => decide (a.getD (a.length - 1 - i) 0 = b.getD (b.length - 1 - i) 0)) 0 (min a.length b.length - A)
def trimP (k : Ck) (A Z : Nat) : List Ck :=
  (if A > 0 then [⟨.both, [], k.ours.take A, k.ours.take A⟩] else []) ++ (⟨.conflict, k.base, (k.ours.drop A).take (k.ours.length - Z - A), (k.theirs.drop A).take (k.theirs.length - Z - A)⟩ ::
    (if Z > 0 then [⟨.both, [], k.ours.drop (k.ours.length - Z), k.ours.drop (k.ours.length - Z)⟩] else []))
def trimS (k : Ck) : List Ck := trimP k (trimA k.ours k.theirs) (trimB k.ours k.theirs (trimA k.ours k.theirs))
section
variable {B : Bs} {d : Nat} {H : List MObj}
theorem trim_ok {m : MV} {k : Ck} {q : Nat} (hd : 3 ≤ d) (hk : RC (· ≠ q) H m k) (hq : q < H.length) (hs : k.small 1000) : WPF B d (.con (.ref 319)) [m] H (fun r H' => Ext H H' ∧ ∃ j vs, r = .ref j ∧ H.length ≤ j ∧ H'[j]? = some (.list vs) ∧ All2 (RC (· ≠ q) H') vs (trimS k)) := by
  obtain ⟨c, b, o, t, rfl, ⟨pc, pb, po, ptt⟩, hc, hb, ho, ht⟩ := hk
  obtain ⟨s1, s2, s3⟩ := hs
  refine WPF.fn fn319 (by omega) rfl ?_
  rw [ie319]
  have l1 : (k.ours.map lb).length = k.ours.length := List.length_map _
  have l2 : (k.theirs.map lb).length = k.theirs.length := List.length_map _
  refine WPS.cons ?_
  repeat array_get_dec
  have hm : (if ((k.theirs.map lb).length : Int) < ((k.ours.map lb).length : Int) then ((k.theirs.map lb).length : Int) else ((k.ours.map lb).length : Int)) = ((min k.ours.length k.theirs.length : Nat) : Int) := by split <;> omega
  rw [hm]
  have hA := upF_le (fun i => decide (k.ours.getD i 0 = k.theirs.getD i 0)) (min k.ours.length k.theirs.length) 0
  have hA' : trimA k.ours k.theirs ≤ min k.ours.length k.theirs.length := by unfold trimA; omega
  have hZ := upF_le (fun i => decide (k.ours.getD (k.ours.length - 1 - i) 0 = k.theirs.getD (k.theirs.length - 1 - i) 0)) (min k.ours.length k.theirs.length - trimA k.ours k.theirs) 0
  refine WP1.mid (fun ev1 H1 => H = H1 ∧ ev1 = [.ref c, .ref o, .ref t, .int ((min k.ours.length k.theirs.length : Nat) : Int), .int (trimA k.ours k.theirs : Nat), .undef, .undef, .undef, .undef, .undef, .undef, .undef, .undef, .undef]) ?_ ?_
  · refine WP1.whileI (fun n ev1 H1 => ∃ i : Nat, i + n = min k.ours.length k.theirs.length ∧ ev1 = [.ref c, .ref o, .ref t, .int ((min k.ours.length k.theirs.length : Nat) : Int), .int i, .undef, .undef, .undef, .undef, .undef, .undef, .undef, .undef, .undef] ∧ H = H1 ∧
      upF (fun i => decide (k.ours.getD i 0 = k.theirs.getD i 0)) i n = trimA k.ours k.theirs) _ ⟨0, Nat.zero_add _, rfl, rfl, rfl⟩ ?_
    rintro n ev1 H1 ⟨i, hi, rfl, rfl, hu⟩
    repeat array_get_dec
    refine go_dec (fun h => ?_) (fun h => ?_)
    · obtain ⟨n, rfl⟩ : ∃ m, n = m + 1 := ⟨n - 1, by omega⟩
      unfold upF at hu
      repeat array_get_dec
      refine go_dec (fun h2 => ?_) (fun h2 => ?_)
      · rw [if_pos (by simpa using h2)] at hu
        repeat array_get_dec
        exact ⟨n, by omega, i + 1, by omega, rfl, rfl, hu⟩
      · rw [if_neg (by simpa using h2)] at hu
        repeat array_get_dec
        exact ⟨rfl, by rw [← hu]⟩
    · obtain rfl : n = 0 := by omega
      repeat array_get_dec
      exact ⟨rfl, by rw [← hu]; rfl⟩
  rintro ev1 H1 ⟨rfl, rfl⟩
  repeat array_get_dec
  refine WP1.mid (fun ev1 H1 => H = H1 ∧ ev1 = [.ref c, .ref o, .ref t, .int ((min k.ours.length k.theirs.length : Nat) : Int), .int (trimA k.ours k.theirs : Nat), .int (trimB k.ours k.theirs (trimA k.ours k.theirs) : Nat), .undef, .undef, .undef, .undef, .undef, .undef, .undef, .undef]) ?_ ?_
  · refine WP1.whileI (fun n ev1 H1 => ∃ i : Nat, i + n = min k.ours.length k.theirs.length - trimA k.ours k.theirs ∧ ev1 = [.ref c, .ref o, .ref t, .int ((min k.ours.length k.theirs.length : Nat) : Int), .int (trimA k.ours k.theirs : Nat), .int i, .undef, .undef, .undef, .undef, .undef, .undef, .undef, .undef] ∧ H = H1 ∧
      upF (fun i => decide (k.ours.getD (k.ours.length - 1 - i) 0 = k.theirs.getD (k.theirs.length - 1 - i) 0)) i n = trimB k.ours k.theirs (trimA k.ours k.theirs)) _ ⟨0, Nat.zero_add _, rfl, rfl, rfl⟩ ?_
    rintro n ev1 H1 ⟨i, hi, rfl, rfl, hu⟩
    repeat array_get_dec
    refine go_dec (fun h => ?_) (fun h => ?_)
    · obtain ⟨n, rfl⟩ : ∃ m, n = m + 1 := ⟨n - 1, by omega⟩
      unfold upF at hu
      repeat array_get_dec
      rw [show (((k.ours.map lb).length : Int) - 1 - (i : Int)).toNat = k.ours.length - 1 - i from by omega, show (((k.theirs.map lb).length : Int) - 1 - (i : Int)).toNat = k.theirs.length - 1 - i from by omega]
      refine go_dec (fun h2 => ?_) (fun h2 => ?_)
      · rw [if_pos (by simpa using h2)] at hu
        repeat array_get_dec
        exact ⟨n, by omega, i + 1, by omega, rfl, rfl, hu⟩
      · rw [if_neg (by simpa using h2)] at hu
        repeat array_get_dec
        exact ⟨rfl, by rw [← hu]⟩
    · obtain rfl : n = 0 := by omega
      repeat array_get_dec
      exact ⟨rfl, by rw [← hu]; rfl⟩
  rintro ev1 H1 ⟨rfl, rfl⟩
  have hZ' : trimB k.ours k.theirs (trimA k.ours k.theirs) ≤ min k.ours.length k.theirs.length - trimA k.ours k.theirs := by unfold trimB; omega
  rw [show trimS k = trimP k (trimA k.ours k.theirs) (trimB k.ours k.theirs (trimA k.ours k.theirs)) from rfl]
  generalize trimB k.ours k.theirs (trimA k.ours k.theirs) = Z at hZ' ⊢
  generalize trimA k.ours k.theirs = A at hA' hZ' ⊢
  have b1 : ∀ {i x}, H[i]? = some x → i ≠ H.length := fun h => Nat.ne_of_lt (lt_of_at h)
  repeat array_get_dec
  refine WP1.mid (fun ev1 H1 => ev1 = [.ref c, .ref o, .ref t, .int ((min k.ours.length k.theirs.length : Nat) : Int), .int A, .int Z, .ref H.length, .undef, .undef, .undef, .undef, .undef, .undef, .undef] ∧ Ext H H1 ∧
    ∃ vs, H1[H.length]? = some (.list vs) ∧ All2 (RC (fun i => i ≠ H.length ∧ i ≠ q) H1) vs (if A > 0 then [⟨.both, [], k.ours.take A, k.ours.take A⟩] else [])) ?_ ?_
  · refine WP1.ifs ?_
    repeat array_get_dec
    refine go_dec (fun h => ?_) (fun h => ?_)
    · repeat array_get_dec
      rw [if_pos (by omega)]
      refine ⟨rfl, (by sizeOf_list_dec), _, (by decreasing_trivial_pre_omega), ?_⟩
      refine .cons ?_ .nil
      sizeOf_list_dec
    · repeat array_get_dec
      rw [if_neg (by omega)]
      exact ⟨rfl, (by sizeOf_list_dec), _, (by decreasing_trivial_pre_omega), .nil⟩
  rintro ev1 H1 ⟨rfl, x1, vs, hv, r1⟩
  have l3 : vs.length ≤ 1 := by rw [r1.length]; split <;> simp
  have hc1 := x1 _ _ hc
  have hb1 := x1 _ _ hb
  have ho1 := x1 _ _ ho
  have ht1 := x1 _ _ ht
  have y1 := x1.len
  have z1 := lt_of_at hb
  have z2 := lt_of_at ho
  have z3 := lt_of_at ht
  have y2 := lt_of_at hv
  repeat array_get_dec
  refine WP1.mid (fun ev2 H2 => (∃ co la, ev2 = [.ref c, .ref o, .ref t, .int ((min k.ours.length k.theirs.length : Nat) : Int), .int A, .int Z, .ref H.length, co, la, .undef, .undef, .undef, .undef, .undef]) ∧ Ext H H2 ∧
    ∃ vs2, H2[H.length]? = some (.list vs2) ∧ All2 (RC (· ≠ q) H2) vs2 ((if A > 0 then [⟨.both, [], k.ours.take A, k.ours.take A⟩] else []) ++ (⟨.conflict, k.base, (k.ours.drop A).take (k.ours.length - Z - A), (k.theirs.drop A).take (k.theirs.length - Z - A)⟩ ::
    (if Z > 0 then [⟨.both, [], k.ours.drop (k.ours.length - Z), k.ours.drop (k.ours.length - Z)⟩] else [])))) ?_ ?_
  · refine WP1.ifs ?_
    repeat array_get_dec
    refine go_dec (fun h => ?_) (fun h => ?_)
    · repeat array_get_dec
      rw [if_pos (show Z > 0 by omega)]
      refine ⟨⟨_, _, rfl⟩, (by sizeOf_list_dec), _, (by decreasing_trivial_pre_omega), ?_⟩
      rw [show ∀ (L : List Ck) x y, L ++ x :: [y] = (L ++ [x]) ++ [y] from fun L x y => by simp]
      refine All2.app (All2.app (r1.mono fun m a h => ?_) (.cons ?_ .nil)) (.cons ?_ .nil)
      · refine RC.mono (P := fun i => i ≠ H.length ∧ i ≠ q) ?_ (fun i _ h => h.2)
        exact ((((((((h.ext (Ext.app _ _)).ext (Ext.app _ _)).ext (Ext.app _ _)).setP (fun _ h => h.1.symm)).ext (Ext.app _ _)).ext (Ext.app _ _)).ext (Ext.app _ _)).setP (fun _ h => h.1.symm))
      · sizeOf_list_dec
      · sizeOf_list_dec
    · repeat array_get_dec
      rw [if_neg (show ¬ Z > 0 by omega)]
      refine ⟨⟨_, _, rfl⟩, (by sizeOf_list_dec), _, (by decreasing_trivial_pre_omega), ?_⟩
      refine All2.app (r1.mono fun m a h => ?_) (.cons ?_ .nil)
      rotate_left
      · sizeOf_list_dec
      exact ((((h.ext (Ext.app _ _)).ext (Ext.app _ _)).ext (Ext.app _ _)).setP (fun _ h => h.1.symm)).mono (fun i _ h => h.2)
  rintro ev2 H2 ⟨⟨co, la, rfl⟩, x2, vs2, hv2, r2⟩
  repeat array_get_dec
  exact ⟨x2, _, _, rfl, Nat.le_refl _, hv2, r2⟩
end
def deckO (c : Nat) (n s : Int) : MObj := .dS [(Str.ofString "cells", .ref c), (Str.ofString "at", .int n), (Str.ofString "stir", .int s)]
def Deck (i c : Nat) (H : List MObj) : Prop := ∃ (cells : List Int) (n s : Int), i ≠ c ∧ H[i]? = some (deckO c n s) ∧ H[c]? = some (.list (cells.map .int)) ∧ cells.length ≤ 1000 ∧ 0 ≤ n
def DrawP (i c : Nat) (H : List MObj) (b : Int) (r : MV) (H' : List MObj) : Prop := (ExtM [i] H H' ∧ H.length = H'.length) ∧ Deck i c H' ∧ ∃ v : Int, r = .int v ∧ 0 ≤ v ∧ v < b
theorem ExtM.set_new {M : List Nat} {H H' : List MObj} {i : Nat} {o : MObj} (x : ExtM M H H') (h : H.length ≤ i) : ExtM M H (H'.set i o) := fun j p n e => at_set_ne (x j p n e) (by have := lt_of_at e; omega)
theorem ExtM.app' {M : List Nat} {H H' X : List MObj} (x : ExtM M H H') : ExtM M H (H' ++ X) := x.trans (Ext.app _ _).toM
theorem Deck.ext {i c : Nat} {H H' : List MObj} (h : Deck i c H) (x : Ext H H') : Deck i c H' := by
  obtain ⟨cells, n, s, h1, h2, h3, h4⟩ := h
  exact ⟨cells, n, s, h1, x _ _ h2, x _ _ h3, h4⟩
theorem Deck.set {i c j : Nat} {H : List MObj} {o : MObj} (h : Deck i c H) (hi : j ≠ i) (hc : j ≠ c) : Deck i c (H.set j o) := by
  obtain ⟨cells, n, s, h1, h2, h3, h4⟩ := h
  exact ⟨cells, n, s, h1, at_set_ne h2 hi, at_set_ne h3 hc, h4⟩
theorem Deck.lt {i c : Nat} {H : List MObj} (h : Deck i c H) : i < H.length ∧ c < H.length := by
  obtain ⟨cells, n, s, h1, h2, h3, h4⟩ := h
  exact ⟨lt_of_at h2, lt_of_at h3⟩
section
variable {B : Bs} {d : Nat} {H : List MObj}
theorem draw_ok {i c : Nat} {b : Int} (hd : 0 < d) (hk : Deck i c H) (hb : 0 < b) : WPF B d (.con (.ref 340)) [.ref i, .int b] H (DrawP i c H b) := by
  obtain ⟨cells, n, s, hne, hi, hc, hl, hn⟩ := hk
  have z1 := lt_of_at hi
  refine WPF.fn fn340 (by omega) rfl ?_
  rw [ie340]
  unfold deckO at hi
  refine WPS.cons ?_
  have l1 : (cells.map MV.int).length = cells.length := List.length_map _
  have fin : ∀ v x y : Int, DrawP i c H b (.int (v.fmod b)) ((H.set i (.dS (setD (Str.ofString "at") (.int (n + 1)) [(Str.ofString "cells", .ref c), (Str.ofString "at", .int n), (Str.ofString "stir", .int s)]))).set i
      (.dS (setD (Str.ofString "stir") (.int x) (setD (Str.ofString "at") (.int (n + 1)) [(Str.ofString "cells", .ref c), (Str.ofString "at", .int n), (Str.ofString "stir", .int s)])))) := by
    intro v x y
    refine ⟨⟨fun j o nj h => at_set_ne (at_set_ne h ?_) ?_, by simp⟩, ⟨cells, n + 1, _, hne, at_set (by simpa using z1), at_set_ne (at_set_ne hc hne) hne, hl, by omega⟩, _, rfl, Int.fmod_nonneg_of_pos _ hb, Int.fmod_lt_of_pos _ hb⟩
    · intro q; exact nj (by simp [q])
    · intro q; exact nj (by simp [q])
  repeat array_get_dec
  refine go_dec (fun h => ?_) (fun h => ?_)
  · repeat array_get_dec
    obtain ⟨k, rfl⟩ := Int.eq_ofNat_of_zero_le hn
    have hk : k < cells.length := by omega
    refine sub_at k rfl hc (by omega) (m := .int cells[k]) (by simp [hk]) ?_
    repeat array_get_dec
    exact fin _ _ 0
  · repeat array_get_dec
    exact fin _ _ 0
theorem lines_ok {i c : Nat} (hd : 2 ≤ d) (hk : Deck i c H) : WPF B d (.con (.ref 345)) [.ref i] H (fun r H' => (ExtM [i] H H' ∧ H.length ≤ H'.length) ∧ Deck i c H' ∧ ∃ j ls, r = .ref j ∧ H.length ≤ j ∧ H'[j]? = some (Ls ls) ∧ ls.length ≤ 3) := by
  refine WPF.fn fn345 (by omega) rfl ?_
  rw [ie345]
  refine WPS.cons ?_
  repeat array_get_dec
  refine WPV.mono (draw_ok (by omega) hk (by decide)).vc ?_
  rintro m H1 ⟨⟨x1, e1⟩, hk1, v, rfl, hv0, hv3⟩
  repeat array_get_dec
  rw [rangeSize1 hv0, show v - 0 = v from by omega]
  have l0 := rangeLen 0 1 v.toNat
  refine CompS.ind (fun ms ev2 H2 => (∃ t, ev2 = [.undef, t, .undef, .ref i]) ∧ ExtM [i] H1 H2 ∧ H1.length < H2.length ∧ Deck i c H2 ∧ ∃ ls, H2[H1.length]? = some (Ls ls) ∧ ls.length + ms.length ≤ 3) ?_ emitI_mono ?_ ⟨⟨_, rfl⟩, (Ext.app _ _).toM, by simp, ?_, [], at_last _ _, by simp; omega⟩
  · rintro ev2 H2 ⟨_, x2, e2, hk2, ls, h1, h2⟩
    exact ⟨⟨x1.trans x2, by omega⟩, hk2, _, ls, rfl, by omega, h1, by simpa using h2⟩
  · rintro m ms ev2 H2 ⟨⟨t, rfl⟩, x2, e2, hk2, ls, h1, h2⟩
    have z1 := hk1.lt
    repeat array_get_dec
    refine WPV.mono (draw_ok (by omega) hk2 (by decide)).vc ?_
    rintro m H3 ⟨⟨x3, e3⟩, hk3, v, rfl, hv0, hv3⟩
    obtain ⟨n, rfl⟩ := Int.eq_ofNat_of_zero_le hv0
    have hn : n < 3 := by omega
    have h3 := x3 _ _ (by simp; omega) h1
    have c1 : ls.length ≤ 100 := by omega
    simp only [List.length_cons] at h2
    refine sub_tup n rfl (by decide) (m := lb ⟨n, hn⟩) (by rcases n with _ | _ | _ | n <;> first | rfl | omega) ?_
    repeat array_get_dec
    have z2 := hk1.lt
    exact ⟨True.intro, ⟨_, rfl⟩, (x2.trans x3).set_new (Nat.le_refl _), by simp; omega, hk3.set (by omega) (by omega), ls ++ [⟨n, hn⟩], at_eq (at_set (by omega)) (by simp), by simp; omega⟩
  · exact hk1.ext (Ext.app _ _)
end
def wdOf : Nat → Wd
  | 0 => .same
  | 1 => .ours
  | 2 => .theirs
  | 3 => .both
  | _ => .conflict
section
variable {B : Bs} {d : Nat} {H : List MObj}
def ChunkP (i c : Nat) (H : List MObj) (r : MV) (H' : List MObj) : Prop := (ExtM [i] H H' ∧ H.length ≤ H'.length) ∧ Deck i c H' ∧ ∃ k : Ck, RC (fun j => H.length ≤ j) H' r k ∧ k.small 3
theorem lchunk_ok {i c : Nat} (hd : 4 ≤ d) (hk : Deck i c H) : WPF B d (.con (.ref 352)) [.ref i] H (ChunkP i c H) := by
  refine WPF.fn fn352 (by omega) rfl ?_
  rw [ie352]
  refine WPS.cons ?_
  have y0 := hk.lt
  repeat array_get_dec
  refine WPV.mono (draw_ok (by omega) hk (by decide)).vc ?_
  rintro m H1 ⟨⟨x1, e1⟩, hk1, v, rfl, hv0, hv6⟩
  obtain ⟨n, rfl⟩ := Int.eq_ofNat_of_zero_le hv0
  have hn : n < 6 := by omega
  refine sub_tup n rfl (by decide) (m := .str (wS (wdOf n))) (by rcases n with _ | _ | _ | _ | _ | _ | n <;> first | rfl | omega) ?_
  generalize wdOf n = w
  repeat array_get_dec
  refine WPV.mono (lines_ok (by omega) hk1).vc ?_
  rintro m H2 ⟨⟨x2, e2⟩, hk2, jb, lsb, rfl, hjb, hb2, hlb⟩
  have x12 := x1.trans x2
  repeat array_get_dec
  refine WP1.ifs ?_
  have z1 := lt_of_at hb2
  repeat array_get_dec
  refine go_dec (fun h => ?_) (fun h => ?_)
  · repeat array_get_dec
    exact ⟨⟨x12.trans (Ext.toM (by sizeOf_list_dec)), by simp; omega⟩, hk2.ext (by sizeOf_list_dec), ⟨w, lsb, lsb, lsb⟩, (by sizeOf_list_dec), hlb, hlb, hlb⟩
  repeat array_get_dec
  refine WPV.mono (lines_ok (by omega) hk2).vc ?_
  rintro m H3 ⟨⟨x3, e3⟩, hk3, jm, lsm, rfl, hjm, hm3, hlm⟩
  have x13 := x12.trans x3
  have hb3 := x3 _ _ (by simp; omega) hb2
  have z2 := lt_of_at hm3
  repeat array_get_dec
  refine WP1.ifs ?_
  repeat array_get_dec
  refine go_dec (fun h => ?_) (fun h => ?_)
  · repeat array_get_dec
    exact ⟨⟨x13.trans (Ext.toM (by sizeOf_list_dec)), by simp; omega⟩, hk3.ext (by sizeOf_list_dec), ⟨w, lsb, lsm, lsb⟩, (by sizeOf_list_dec), hlb, hlm, hlb⟩
  repeat array_get_dec
  refine WP1.ifs ?_
  repeat array_get_dec
  refine go_dec (fun h => ?_) (fun h => ?_)
  · repeat array_get_dec
    exact ⟨⟨x13.trans (Ext.toM (by sizeOf_list_dec)), by simp; omega⟩, hk3.ext (by sizeOf_list_dec), ⟨w, lsb, lsb, lsm⟩, (by sizeOf_list_dec), hlb, hlb, hlm⟩
  repeat array_get_dec
  refine go_dec (fun h => ?_) (fun h => ?_)
  · repeat array_get_dec
    exact ⟨⟨x13.trans (Ext.toM (by sizeOf_list_dec)), by simp; omega⟩, hk3.ext (by sizeOf_list_dec), ⟨w, lsb, lsm, lsm⟩, (by sizeOf_list_dec), hlb, hlm, hlm⟩
  repeat array_get_dec
  refine WPV.mono (lines_ok (by omega) hk3).vc ?_
  rintro m H4 ⟨⟨x4, e4⟩, hk4, jt, lst, rfl, hjt, ht4, hlt⟩
  have x14 := x13.trans x4
  have hb4 := x4 _ _ (by simp; omega) hb3
  have hm4 := x4 _ _ (by simp; omega) hm3
  have z3 := lt_of_at ht4
  repeat array_get_dec
  exact ⟨⟨x14.trans (Ext.toM (by sizeOf_list_dec)), by simp; omega⟩, hk4.ext (by sizeOf_list_dec), ⟨w, lsb, lsm, lst⟩, (by sizeOf_list_dec), hlb, hlm, hlt⟩
end
section
variable {B : Bs} {d : Nat} {H : List MObj}
theorem RTd.i {b o t : Nat} {w : Wd} {x y z : List Line} (hb : H[b]? = some (Ls x)) (ho : H[o]? = some (Ls y)) (ht : H[t]? = some (Ls z)) : RTd H (.tup [.str (wS w), .ref b, .ref o, .ref t]) ⟨w, x, y, z⟩ := ⟨b, o, t, rfl, hb, ho, ht⟩
theorem drop_ne {a : List Line} {i : Nat} : a.drop i ≠ [] ↔ i < a.length := by
  rw [ne_eq, List.drop_eq_nil_iff]; omega
theorem getD_drop (a : List Line) (i j : Nat) : (a.drop i).getD j 0 = a.getD (i + j) 0 := by simp [List.getD_eq_getElem?_getD]
theorem take_snoc {a : List Line} {i : Nat} (h : i < a.length) : MObj.list ((a.take i).map lb ++ [lb ((a.drop i).getD 0 0)]) = Ls (a.take (i + 1)) := by
  show _ = MObj.list _
  rw [List.take_add_one, List.map_append, getD_drop, List.getElem?_eq_getElem h, List.getD_eq_getElem?_getD, List.getElem?_eq_getElem (by simpa using h)]; simp
theorem drop_cons {a : List Line} {j : Nat} (h : j < a.length) : MObj.list ([lb (a.getD (a.length - 1 - j) 0)] ++ (a.drop (a.length - j)).map lb) = Ls (a.drop (a.length - (j + 1))) := by
  show _ = MObj.list _
  rw [List.drop_eq_getElem_cons (i := a.length - (j + 1)) (by omega), List.map_cons, List.getD_eq_getElem?_getD, List.getElem?_eq_getElem (by omega)]
  rw [show a.length - (j + 1) + 1 = a.length - j from by omega]
  simp only [Option.getD_some, List.singleton_append]
  congr 3
  congr 1
  omega
def mid (a : List Line) (A j : Nat) : List Line := (a.drop A).take (a.length - A - j)
theorem mid_len (a : List Line) (A j : Nat) : (mid a A j).length = a.length - A - j := by unfold mid; simp
theorem mid_ne {a : List Line} {A j : Nat} : mid a A j ≠ [] ↔ A + j < a.length := by
  rw [← List.length_pos_iff, mid_len]; omega
theorem mid_last {a : List Line} {A j : Nat} (h : A + j < a.length) : (mid a A j).getD (a.length - A - j - 1) 0 = a.getD (a.length - 1 - j) 0 := by
  unfold mid
  rw [List.getD_eq_getElem?_getD, List.getD_eq_getElem?_getD, List.getElem?_take_of_lt (by omega), List.getElem?_drop]
  congr 2; omega
theorem mid_pop {a : List Line} {A j : Nat} : (mid a A j).take (a.length - A - j - 1) = mid a A (j + 1) := by
  unfold mid; rw [List.take_take]; congr 1; omega
theorem ltrim_ok {m : MV} {k : Ck} (hd : 3 ≤ d) (hk : RCk H m k) (hs : k.small 1000) : WPF B d (.con (.ref 378)) [m] H (fun r H' => Ext H H' ∧ ∃ j vs, r = .ref j ∧ H.length ≤ j ∧ H'[j]? = some (.list vs) ∧ All2 (RTp (fun i => H.length ≤ i) H') vs (trimS k)) := by
  obtain ⟨c, b, o, t, rfl, hc, hb, ho, ht⟩ := hk
  obtain ⟨s1, s2, s3⟩ := hs
  refine WPF.fn fn378 (by omega) rfl ?_
  rw [ie378]
  have l1 : (k.ours.map lb).length = k.ours.length := List.length_map _
  have l2 : (k.theirs.map lb).length = k.theirs.length := List.length_map _
  refine WPS.cons ?_
  repeat array_get_dec
  have hA := upF_le (fun i => decide (k.ours.getD i 0 = k.theirs.getD i 0)) (min k.ours.length k.theirs.length) 0
  have hA' : trimA k.ours k.theirs ≤ min k.ours.length k.theirs.length := by unfold trimA; omega
  refine WP1.mid (fun ev1 H1 => ev1 = [.ref c, .ref H.length, .ref (H.length + 1), .ref (H.length + 2), .ref (H.length + 3), .undef, .undef] ∧ Ext H H1 ∧ H1[H.length]? = some (Ls (k.ours.drop (trimA k.ours k.theirs))) ∧ H1[H.length + 1]? = some (Ls (k.theirs.drop (trimA k.ours k.theirs))) ∧
    H1[H.length + 2]? = some (Ls (k.ours.take (trimA k.ours k.theirs))) ∧ H1[H.length + 3]? = some (Ls [])) ?_ ?_
  · refine WP1.whileI (fun n ev1 H1 => ∃ i : Nat, i + n = min k.ours.length k.theirs.length ∧ upF (fun i => decide (k.ours.getD i 0 = k.theirs.getD i 0)) i n = trimA k.ours k.theirs ∧
      ev1 = [.ref c, .ref H.length, .ref (H.length + 1), .ref (H.length + 2), .ref (H.length + 3), .undef, .undef] ∧ Ext H H1 ∧ H1[H.length]? = some (Ls (k.ours.drop i)) ∧ H1[H.length + 1]? = some (Ls (k.theirs.drop i)) ∧
      H1[H.length + 2]? = some (Ls (k.ours.take i)) ∧ H1[H.length + 3]? = some (Ls [])) _ ⟨0, Nat.zero_add _, rfl, by simp, (by sizeOf_list_dec), by simp, by simp, by simp, by simp⟩ ?_
    rintro n ev1 H1 ⟨i, hi, hu, rfl, x1, h1, h2, h3, h4⟩
    have z1 := lt_of_at h4
    have b1 : (k.ours.drop i).length ≤ 1000 := by simp; omega
    have b2 : (k.theirs.drop i).length ≤ 1000 := by simp; omega
    have b3 : (k.ours.take i).length ≤ 1000 := by simp; omega
    repeat array_get_dec
    refine go_dec (fun h => ?_) (fun h => ?_)
    · have h' := drop_ne.mp h
      repeat array_get_dec
      refine go_dec (fun g => ?_) (fun g => ?_)
      · have g' := drop_ne.mp g
        have p1 : 0 < (k.ours.drop i).length := by simp; omega
        have p2 : 0 < (k.theirs.drop i).length := by simp; omega
        obtain ⟨n, rfl⟩ : ∃ m, n = m + 1 := ⟨n - 1, by omega⟩
        unfold upF at hu
        repeat array_get_dec
        rw [show (0 : Int).toNat = 0 from rfl, getD_drop, getD_drop]
        refine go_dec (fun e => ?_) (fun e => ?_)
        · rw [if_pos (by simpa using e)] at hu
          repeat array_get_dec
          exact ⟨n, by omega, i + 1, by omega, hu, rfl, (by sizeOf_list_dec), at_eq (by decreasing_trivial_pre_omega) (by rw [List.drop_drop]), at_eq (by decreasing_trivial_pre_omega) (by rw [List.drop_drop]), at_eq (by decreasing_trivial_pre_omega) (take_snoc h'), (by decreasing_trivial_pre_omega)⟩
        · rw [if_neg (by simpa using e)] at hu
          subst hu
          repeat array_get_dec
          exact ⟨rfl, (by sizeOf_list_dec), (by decreasing_trivial_pre_omega), (by decreasing_trivial_pre_omega), (by decreasing_trivial_pre_omega), (by decreasing_trivial_pre_omega)⟩
      · have g' : ¬ i < k.theirs.length := fun q => g (drop_ne.mpr q)
        obtain rfl : n = 0 := by omega
        obtain rfl : i = trimA k.ours k.theirs := hu
        repeat array_get_dec
        exact ⟨rfl, (by sizeOf_list_dec), (by decreasing_trivial_pre_omega), (by decreasing_trivial_pre_omega), (by decreasing_trivial_pre_omega), (by decreasing_trivial_pre_omega)⟩
    · have h' : ¬ i < k.ours.length := fun q => h (drop_ne.mpr q)
      obtain rfl : n = 0 := by omega
      obtain rfl : i = trimA k.ours k.theirs := hu
      repeat array_get_dec
      exact ⟨rfl, (by sizeOf_list_dec), (by decreasing_trivial_pre_omega), (by decreasing_trivial_pre_omega), (by decreasing_trivial_pre_omega), (by decreasing_trivial_pre_omega)⟩
  rintro ev1 H1 ⟨rfl, x1, h1, h2, h3, h4⟩
  rw [show trimS k = trimP k (trimA k.ours k.theirs) (trimB k.ours k.theirs (trimA k.ours k.theirs)) from rfl]
  have hZ := upF_le (fun i => decide (k.ours.getD (k.ours.length - 1 - i) 0 = k.theirs.getD (k.theirs.length - 1 - i) 0)) (min k.ours.length k.theirs.length - trimA k.ours k.theirs) 0
  have hZ' : trimB k.ours k.theirs (trimA k.ours k.theirs) ≤ min k.ours.length k.theirs.length - trimA k.ours k.theirs := by unfold trimB; omega
  obtain ⟨Z, hZe⟩ : ∃ Z, trimB k.ours k.theirs (trimA k.ours k.theirs) = Z := ⟨_, rfl⟩
  have hZe' := hZe
  unfold trimB at hZe'
  rw [hZe] at hZ' ⊢
  generalize trimA k.ours k.theirs = A at h1 h2 h3 hA' hZe' hZ' ⊢
  repeat array_get_dec
  refine WP1.mid (fun ev2 H2 => ∃ jb, H.length + 1 < jb ∧ ev2 = [.ref c, .ref H.length, .ref (H.length + 1), .ref (H.length + 2), .ref jb, .undef, .undef] ∧ Ext H H2 ∧ H2[H.length]? = some (Ls (mid k.ours A Z)) ∧ H2[H.length + 1]? = some (Ls (mid k.theirs A Z)) ∧
    H2[H.length + 2]? = some (Ls (k.ours.take A)) ∧ H2[jb]? = some (Ls (k.ours.drop (k.ours.length - Z)))) ?_ ?_
  · refine WP1.whileI (fun n ev1 H1 => ∃ i : Nat, i + n = min k.ours.length k.theirs.length - A ∧ upF (fun i => decide (k.ours.getD (k.ours.length - 1 - i) 0 = k.theirs.getD (k.theirs.length - 1 - i) 0)) i n = Z ∧
      ∃ jb, H.length + 1 < jb ∧ ev1 = [.ref c, .ref H.length, .ref (H.length + 1), .ref (H.length + 2), .ref jb, .undef, .undef] ∧ Ext H H1 ∧ H1[H.length]? = some (Ls (mid k.ours A i)) ∧ H1[H.length + 1]? = some (Ls (mid k.theirs A i)) ∧
      H1[H.length + 2]? = some (Ls (k.ours.take A)) ∧ H1[jb]? = some (Ls (k.ours.drop (k.ours.length - i)))) _ ⟨0, Nat.zero_add _, hZe', H.length + 3, by omega, rfl, x1, at_eq h1 (by unfold mid; rw [List.take_of_length_le (by simp)]), at_eq h2 (by unfold mid; rw [List.take_of_length_le (by simp)]), h3, by simpa using h4⟩ ?_
    clear hZe hZe' h1 h2 h3 h4 x1 H1
    rintro n ev1 H1 ⟨i, hi, hu, jb, nb1, rfl, x1, h1, h2, h3, h4⟩
    have z1 := lt_of_at h3
    have z2 := lt_of_at h4
    have b1 := mid_len k.ours A i
    have b2 := mid_len k.theirs A i
    have b3 : (k.ours.drop (k.ours.length - i)).length ≤ 1000 := by simp; omega
    have b4 : ((k.ours.drop (k.ours.length - i)).map lb).length ≤ 1000 := by simp; omega
    repeat array_get_dec
    refine go_dec (fun h => ?_) (fun h => ?_)
    · have h' := mid_ne.mp h
      repeat array_get_dec
      refine go_dec (fun g => ?_) (fun g => ?_)
      · have g' := mid_ne.mp g
        obtain ⟨n, rfl⟩ : ∃ m, n = m + 1 := ⟨n - 1, by omega⟩
        unfold upF at hu
        repeat array_get_dec
        rw [b1, b2, mid_last h', mid_last g']
        refine go_dec (fun e => ?_) (fun e => ?_)
        · rw [if_pos (by simpa using e)] at hu
          repeat array_get_dec
          exact ⟨n, by omega, i + 1, by omega, hu, _, (by array_mem_dec), rfl, (by sizeOf_list_dec), at_eq (by decreasing_trivial_pre_omega) (by rw [b1, mid_pop]), at_eq (by decreasing_trivial_pre_omega) (by rw [b2, mid_pop]), (by decreasing_trivial_pre_omega), at_eq (by decreasing_trivial_pre_omega) (by rw [b1, mid_last h']; exact drop_cons (by omega))⟩
        · rw [if_neg (by simpa using e)] at hu
          subst hu
          repeat array_get_dec
          exact ⟨jb, nb1, rfl, (by sizeOf_list_dec), (by decreasing_trivial_pre_omega), (by decreasing_trivial_pre_omega), (by decreasing_trivial_pre_omega), (by decreasing_trivial_pre_omega)⟩
      · have g' : ¬ A + i < k.theirs.length := fun q => g (mid_ne.mpr q)
        obtain rfl : n = 0 := by omega
        obtain rfl : i = Z := hu
        repeat array_get_dec
        exact ⟨jb, nb1, rfl, (by sizeOf_list_dec), (by decreasing_trivial_pre_omega), (by decreasing_trivial_pre_omega), (by decreasing_trivial_pre_omega), (by decreasing_trivial_pre_omega)⟩
    · have h' : ¬ A + i < k.ours.length := fun q => h (mid_ne.mpr q)
      obtain rfl : n = 0 := by omega
      obtain rfl : i = Z := hu
      repeat array_get_dec
      exact ⟨jb, nb1, rfl, (by sizeOf_list_dec), (by decreasing_trivial_pre_omega), (by decreasing_trivial_pre_omega), (by decreasing_trivial_pre_omega), (by decreasing_trivial_pre_omega)⟩
  rintro ev2 H2 ⟨jb, nb1, rfl, x2, h1, h2, h3, h4⟩
  have z1 := lt_of_at h3
  have z2 := lt_of_at h4
  have x2' := x2 _ _ hb
  have x2'' := x2 _ _ hc
  have e1 : mid k.ours A Z = ((k.ours.drop A).take (k.ours.length - Z - A)) := by unfold mid; congr 1; omega
  have e2 : mid k.theirs A Z = ((k.theirs.drop A).take (k.theirs.length - Z - A)) := by unfold mid; congr 1; omega
  rw [e1] at h1
  rw [e2] at h2
  have q1 : k.ours.take A ≠ [] ↔ A > 0 := by rw [← List.length_pos_iff, List.length_take]; omega
  have q2 : k.ours.drop (k.ours.length - Z) ≠ [] ↔ Z > 0 := by rw [← List.length_pos_iff, List.length_drop]; omega
  unfold trimP
  repeat array_get_dec
  refine go_dec (fun h => ?_) (fun h => ?_)
  · rw [if_pos (q1.mp h)]
    repeat array_get_dec
    refine go_dec (fun g => ?_) (fun g => ?_)
    · rw [if_pos (q2.mp g)]
      repeat array_get_dec
      refine ⟨(by sizeOf_list_dec), _, _, rfl, (by array_mem_dec), (by decreasing_trivial_pre_omega), (All2.app (All2.app (.cons ?_ .nil) (.cons ?_ .nil)) (.cons ?_ .nil) : All2 _ _ (([_] ++ [_]) ++ [_]))⟩
      · exact RTp.i (w := .both) (at_eq (by decreasing_trivial_pre_omega) lsnil) (by decreasing_trivial_pre_omega) (by decreasing_trivial_pre_omega) (by array_mem_dec) (by array_mem_dec) (by array_mem_dec)
      · exact RTp.i (w := .conflict) (by decreasing_trivial_pre_omega) (by decreasing_trivial_pre_omega) (by decreasing_trivial_pre_omega) (by array_mem_dec) (by array_mem_dec) (by array_mem_dec)
      · exact RTp.i (w := .both) (at_eq (by decreasing_trivial_pre_omega) lsnil) (by decreasing_trivial_pre_omega) (by decreasing_trivial_pre_omega) (by array_mem_dec) (by array_mem_dec) (by array_mem_dec)
    · rw [if_neg (fun q => g (q2.mpr q))]
      repeat array_get_dec
      refine ⟨(by sizeOf_list_dec), _, _, rfl, (by array_mem_dec), (by decreasing_trivial_pre_omega), (All2.app (All2.app (.cons ?_ .nil) (.cons ?_ .nil)) .nil : All2 _ _ (([_] ++ [_]) ++ []))⟩
      · exact RTp.i (w := .both) (at_eq (by decreasing_trivial_pre_omega) lsnil) (by decreasing_trivial_pre_omega) (by decreasing_trivial_pre_omega) (by array_mem_dec) (by array_mem_dec) (by array_mem_dec)
      · exact RTp.i (w := .conflict) (by decreasing_trivial_pre_omega) (by decreasing_trivial_pre_omega) (by decreasing_trivial_pre_omega) (by array_mem_dec) (by array_mem_dec) (by array_mem_dec)
  · rw [if_neg (fun q => h (q1.mpr q))]
    repeat array_get_dec
    refine go_dec (fun g => ?_) (fun g => ?_)
    · rw [if_pos (q2.mp g)]
      repeat array_get_dec
      refine ⟨(by sizeOf_list_dec), _, _, rfl, (by array_mem_dec), (by decreasing_trivial_pre_omega), (All2.app (All2.app .nil (.cons ?_ .nil)) (.cons ?_ .nil) : All2 _ _ (([] ++ [_]) ++ [_]))⟩
      · exact RTp.i (w := .conflict) (by decreasing_trivial_pre_omega) (by decreasing_trivial_pre_omega) (by decreasing_trivial_pre_omega) (by array_mem_dec) (by array_mem_dec) (by array_mem_dec)
      · exact RTp.i (w := .both) (at_eq (by decreasing_trivial_pre_omega) lsnil) (by decreasing_trivial_pre_omega) (by decreasing_trivial_pre_omega) (by array_mem_dec) (by array_mem_dec) (by array_mem_dec)
    · rw [if_neg (fun q => g (q2.mpr q))]
      repeat array_get_dec
      refine ⟨(by sizeOf_list_dec), _, _, rfl, (by array_mem_dec), (by decreasing_trivial_pre_omega), (All2.app (All2.app .nil (.cons ?_ .nil)) .nil : All2 _ _ (([] ++ [_]) ++ []))⟩
      exact RTp.i (w := .conflict) (by decreasing_trivial_pre_omega) (by decreasing_trivial_pre_omega) (by decreasing_trivial_pre_omega) (by array_mem_dec) (by array_mem_dec) (by array_mem_dec)
end
def num (kn : List Line) (x : Line) : List Line × Nat := if x ∈ kn then (kn, kn.idxOf x) else (kn ++ [x], kn.length)
def nums : List Line → List Line → List Line × List Nat
  | kn, [] => (kn, [])
  | kn, x :: xs => let p := num kn x; let q := nums p.1 xs; (q.1, p.2 :: q.2)
def knE : Nat → List Line → List (List UInt8 × MV)
  | _, [] => []
  | i, x :: xs => (lineOf x, .int (i : Int)) :: knE (i + 1) xs
theorem lineOf_inj {x y : Line} : lineOf x = lineOf y ↔ x = y := by revert x y; decide
theorem knE_len : ∀ (kn : List Line) (i : Nat), (knE i kn).length = kn.length
  | [], _ => rfl
  | x :: xs, i => by unfold knE; simp [knE_len xs]
theorem knE_any (x : Line) : ∀ (kn : List Line) (i : Nat), ((knE i kn).any fun e => decide (e.1 = lineOf x)) = decide (x ∈ kn)
  | [], _ => by simp [knE]
  | y :: ys, i => by
    unfold knE
    rw [List.any_cons, knE_any x ys (i + 1), Bool.eq_iff_iff]
    simp only [Bool.or_eq_true, decide_eq_true_eq, lineOf_inj, List.mem_cons]
    constructor
    · rintro (h | h)
      · exact .inl h.symm
      · exact .inr h
    · rintro (h | h)
      · exact .inl h.symm
      · exact .inr h
theorem knE_find (x : Line) : ∀ (kn : List Line) (i : Nat), x ∈ kn → ((knE i kn).find? fun e => decide (e.1 = lineOf x)).map (·.2) = some (.int ((i + kn.idxOf x : Nat) : Int))
  | y :: ys, i, h => by
    unfold knE
    rw [List.find?_cons, List.idxOf_cons]
    by_cases e : y = x
    · subst e; simp
    · have hx : x ∈ ys := by simpa [Ne.symm e] using h
      have e1 : decide (lineOf y = lineOf x) = false := by simpa [lineOf_inj] using e
      have e2 : (y == x) = false := by simpa using e
      rw [e1, e2]
      simp only [cond_false]
      rw [knE_find x ys (i + 1) hx]
      congr 3; omega
theorem knE_app : ∀ (kn : List Line) (x : Line) (i : Nat), knE i (kn ++ [x]) = knE i kn ++ [(lineOf x, .int ((i + kn.length : Nat) : Int))]
  | [], x, i => by simp [knE]
  | y :: ys, x, i => by
    show (lineOf y, _) :: knE (i + 1) (ys ++ [x]) = (lineOf y, _) :: _ ++ _
    rw [knE_app ys x (i + 1)]
    simp only [List.length_cons, List.cons_append]
    rw [show i + 1 + ys.length = i + (ys.length + 1) from by omega]
def numF (jk js : Nat) (n : Int) : List (Str × MV) := [(Str.ofString "known", .ref jk), (Str.ofString "strange", .ref js), (Str.ofString "count", .int n)]
def RNum (s jk : Nat) (H : List MObj) (kn : List Line) : Prop := ∃ js, s ≠ jk ∧ H[s]? = some (.inst 125 (numF jk js kn.length)) ∧ H[jk]? = some (.dB (knE 0 kn))
section
variable {B : Bs} {d : Nat} {H : List MObj}
theorem number_ok {s jk : Nat} {kn : List Line} {x : Line} (hd : 0 < d) (hk : RNum s jk H kn) (hl : kn.length ≤ 1000) : WPF B d (.con (.ref 117)) [.ref s, .bytes (lineOf x)] H (fun r H' => (ExtM [s, jk] H H' ∧ H.length = H'.length) ∧ RNum s jk H' (num kn x).1 ∧ r = .int ((num kn x).2 : Nat)) := by
  obtain ⟨js, hne, hs, hj⟩ := hk
  refine WPF.fn fn117 (by omega) rfl ?_
  rw [ie117]
  refine WPS.cons ?_
  have z1 := lt_of_at hs
  have z2 := lt_of_at hj
  have b1 : (knE 0 kn).length ≤ 1000 := by rw [knE_len]; exact hl
  refine WP1.ifs ?_
  repeat array_get_dec
  refine WP1.ifs ?_
  repeat array_get_dec
  rw [knE_any]
  refine go_not (fun h => ?_) (fun h => ?_)
  · repeat array_get_dec
    refine set_dB hj (by omega) (by rw [knE_any]; simpa using h) ?_
    repeat array_get_dec
    have e : num kn x = (kn ++ [x], kn.length) := by unfold num; rw [if_neg h]
    have e2 : knE 0 (kn ++ [x]) = knE 0 kn ++ [(lineOf x, .int ((kn.length : Nat) : Int))] := by rw [knE_app]; simp
    refine sub_dB (m := .int ((kn.length : Nat) : Int)) (at_eq (by decreasing_trivial_pre_omega) (by rw [← e2])) ?_ ?_
    · rw [knE_find x (kn ++ [x]) 0 (by simp), Nat.zero_add]
      congr 3
      rw [List.idxOf_append, if_neg h]; simp
    · rw [e]
      refine ⟨⟨fun j o nj q => at_set_ne (at_set_ne q ?_) ?_, by simp⟩, ⟨js, hne, at_eq (by decreasing_trivial_pre_omega) ?_, at_eq (by decreasing_trivial_pre_omega) (by rw [e2])⟩, rfl⟩
      · intro q; exact nj (by simp [q])
      · intro q; exact nj (by simp [q])
      · simp only [List.length_append, List.length_cons, List.length_nil]
        rfl
  · repeat array_get_dec
    refine sub_dB (by decreasing_trivial_pre_omega) (knE_find x kn 0 h) ?_
    have e : num kn x = (kn, kn.idxOf x) := by unfold num; rw [if_pos h]
    rw [e]
    exact ⟨⟨.refl _, rfl⟩, ⟨js, hne, hs, hj⟩, by simp⟩
abbrev Ns (ns : List Nat) : MObj := .list (ns.map fun (n : Nat) => .int (n : Int))
theorem RNum.ext {s jk : Nat} {kn : List Line} {H H' : List MObj} (h : RNum s jk H kn) (x : Ext H H') : RNum s jk H' kn := by
  obtain ⟨js, a, b, c⟩ := h
  exact ⟨js, a, x _ _ b, x _ _ c⟩
theorem RNum.set {s jk j : Nat} {kn : List Line} {H : List MObj} {o : MObj} (h : RNum s jk H kn) (h1 : j ≠ s) (h2 : j ≠ jk) : RNum s jk (H.set j o) kn := by
  obtain ⟨js, a, b, c⟩ := h
  exact ⟨js, a, at_set_ne b h1, at_set_ne c h2⟩
theorem RNum.lt {s jk : Nat} {kn : List Line} {H : List MObj} (h : RNum s jk H kn) : s < H.length ∧ jk < H.length := by
  obtain ⟨js, a, b, c⟩ := h
  exact ⟨lt_of_at b, lt_of_at c⟩
theorem num_len (kn : List Line) (x : Line) : (num kn x).1.length ≤ kn.length + 1 := by unfold num; split <;> simp
theorem numbers_ok {s jk l : Nat} {kn ls : List Line} (hd : 2 ≤ d) (hk : RNum s jk H kn) (hl : kn.length + ls.length ≤ 1000) (hls : H[l]? = some (Ls ls)) (n1 : l ≠ s) (n2 : l ≠ jk) :
    WPF B d (.con (.ref 122)) [.ref s, .ref l] H (fun r H' => (ExtM [s, jk] H H' ∧ H.length < H'.length) ∧ RNum s jk H' (nums kn ls).1 ∧ r = .ref H.length ∧ H'[H.length]? = some (Ns (nums kn ls).2)) := by
  refine WPF.fn fn122 (by omega) rfl ?_
  rw [ie122]
  refine WPS.cons ?_
  repeat array_get_dec
  refine CompS.ind (fun ms ev2 H2 => ∃ k1 done rest, ms = rest.map lb ∧ (nums kn ls).1 = (nums k1 rest).1 ∧ (nums kn ls).2 = done ++ (nums k1 rest).2 ∧ k1.length + rest.length ≤ 1000 ∧ done.length ≤ 1000 ∧ done.length + rest.length = ls.length ∧ (∃ t, ev2 = [.undef, t, .ref s]) ∧ ExtM [s, jk] H H2 ∧ H.length < H2.length ∧ RNum s jk H2 k1 ∧
     H2[H.length]? = some (Ns done) ∧ H2[l]? = some (Ls ls)) ?_ emitI_mono ?_ ⟨kn, [], ls, rfl, rfl, rfl, hl, by simp, by simp, ⟨_, rfl⟩, Ext.toM (by sizeOf_list_dec), by simp, hk.ext (by sizeOf_list_dec), at_last _ _, (by decreasing_trivial_pre_omega)⟩
  · rintro ev2 H2 ⟨k1, done, rest, e1, e2, e3, b1, b2, b3, ⟨t, rfl⟩, x1, x2, h1, h2, h3⟩
    obtain rfl : rest = [] := by simpa using e1.symm
    refine ⟨⟨x1, x2⟩, by rw [e2]; exact h1, rfl, by rw [e3]; simpa [nums] using h2⟩
  · rintro m ms ev2 H2 ⟨k1, done, rest, e1, e2, e3, b1, b2, b3, ⟨t, rfl⟩, x1, x2, h1, h2, h3⟩
    obtain ⟨x, rest, rfl⟩ : ∃ x r, rest = x :: r := by cases rest with | nil => simp at e1 | cons x r => exact ⟨x, r, rfl⟩
    simp only [List.map_cons, List.cons.injEq] at e1
    obtain ⟨rfl, rfl⟩ := e1
    simp only [List.length_cons] at b1 b3
    have z := h1.lt
    have z0 := hk.lt
    have h1' := h1
    obtain ⟨js, hne, hs2, hj2⟩ := h1'
    repeat array_get_dec
    refine WPV.mono (number_ok (x := x) (by omega) h1 (by omega)).vc ?_
    rintro r H3 ⟨⟨x3, e4⟩, h4, rfl⟩
    have h5 := x3 _ _ (by simp; omega) h2
    have h6 := x3 _ _ (by simp; omega) h3
    have z3 := lt_of_at hls
    have b4 := num_len k1 x
    repeat array_get_dec
    refine ⟨(by decreasing_trivial_pre_omega), (num k1 x).1, done ++ [(num k1 x).2], rest, rfl, by rw [e2]; rfl, by rw [e3, List.append_assoc]; rfl, by omega, by simp; omega, by simp; omega, ⟨_, rfl⟩, (x1.trans x3).set_new (Nat.le_refl _), by simp; omega, h4.set (by omega) (by omega), at_eq (by decreasing_trivial_pre_omega) (by simp), (by decreasing_trivial_pre_omega)⟩
end
abbrev Bl (g : List Bool) : MObj := .list (g.map .bool)
def shF (ia ib ig ic : Nat) : List (Str × MV) := [(Str.ofString "a", .ref ia), (Str.ofString "b", .ref ib), (Str.ofString "gone", .ref ig), (Str.ofString "come", .ref ic)]
structure Sh (s ia ib ig ic : Nat) (H : List MObj) (na nb : List Nat) (g c : List Bool) : Prop where
  hs : H[s]? = some (.inst 223 (shF ia ib ig ic))
  ha : H[ia]? = some (Ns na)
  hb : H[ib]? = some (Ns nb)
  hg : H[ig]? = some (Bl g)
  hc : H[ic]? = some (Bl c)
  ne : ig ≠ s ∧ ig ≠ ia ∧ ig ≠ ib ∧ ic ≠ s ∧ ic ≠ ia ∧ ic ≠ ib ∧ ig ≠ ic
section
variable {B : Bs} {d : Nat} {H : List MObj}
theorem lnum_new {Q : MV → List MObj → Prop} (hd : 2 ≤ d) (h : ∀ H', Ext H H' → H'.length = H.length + 3 → RNum H.length (H.length + 1) H' [] → Q (.ref H.length) H') : WPV B d (.con (.ref 125)) [] H Q := by
  refine WPF.vc (WPF.cls (mk_125 _) (in_125 _) (ty_110 _) (by omega) ?_)
  refine WPF.fn fn110 (by omega) rfl ?_
  rw [ie110]
  refine WPS.cons ?_
  repeat array_get_dec
  refine ⟨rfl, h _ (by sizeOf_list_dec) (by simp) ⟨H.length + 2, by omega, ?_, ?_⟩⟩
  · refine at_eq (by decreasing_trivial_pre_omega) ?_
    simp only [List.length_append, List.length_set, List.length_cons, List.length_nil]
    rfl
  · refine at_eq (o := .dB []) ?_ rfl
    simp
theorem sheet_new {la lb' : Nat} {a b : List Line} {Q : MV → List MObj → Prop} (hd : 6 ≤ d) (ha : H[la]? = some (Ls a)) (hb : H[lb']? = some (Ls b)) (hl : a.length + b.length ≤ 900)
    (h : ∀ H' ia ib ig ic, Ext H H' → H.length ≤ ia → H.length ≤ ib → H.length ≤ ig → H.length ≤ ic → Sh H.length ia ib ig ic H' (nums [] a).2 (nums (nums [] a).1 b).2 (List.replicate a.length false) (List.replicate b.length false) → Q (.ref H.length) H') :
    WPV B d (.con (.ref 223)) [.ref la, .ref lb'] H Q := by
  refine WPF.vc (WPF.cls (mk_223 _) (in_223 _) (ty_143 _) (by omega) ?_)
  refine WPF.fn fn143 (by omega) rfl ?_
  rw [ie143]
  have l1 : (a.map lb).length = a.length := List.length_map _
  have l2 : (b.map lb).length = b.length := List.length_map _
  refine WPS.cons ?_
  repeat array_get_dec
  refine lnum_new (by omega) fun H1 x1 e1 hk1 => ?_
  have z1 := lt_of_at ha
  have z2 := lt_of_at hb
  have x01 : Ext H H1 := Ext.trans (Ext.app _ _) x1
  have ha1 := x01 _ _ ha
  have hb1 := x01 _ _ hb
  have hk1' := hk1
  obtain ⟨js, hne, hs1, hj1⟩ := hk1'
  have f0 : H1[H.length]? = some (.inst 223 []) := x1 _ _ (at_last _ _)
  have el : (H ++ [MObj.inst 223 []]).length = H.length + 1 := by simp
  rw [el] at e1 hk1 hs1 hj1 hne
  rw [el]
  repeat array_get_dec
  refine WPV.mono (numbers_ok (ls := a) (by omega) hk1 (by array_mem_dec) ha1 (by omega) (by omega)).vc ?_
  rintro r H2 ⟨⟨x2, e2⟩, hk2, rfl, hn2⟩
  have f2 := x2 _ _ (by array_mem_dec) f0
  have hb2 := x2 _ _ (by array_mem_dec) hb1
  have ha2 := x2 _ _ (by array_mem_dec) ha1
  have z3 := lt_of_at hn2
  have hk3 := hk2.set (j := H.length) (o := .inst 223 (putF (Str.ofString "a") (.ref H1.length) [])) (by omega) (by omega)
  have hk3' := hk3
  obtain ⟨js', hne', hs3, hj3⟩ := hk3'
  repeat array_get_dec
  have nl : ∀ (kn ls : List Line), (nums kn ls).1.length ≤ kn.length + ls.length := by
    intro kn ls
    induction ls generalizing kn with
    | nil => simp [nums]
    | cons x xs ih =>
      have := ih (num kn x).1
      have := num_len kn x
      show (nums (num kn x).1 xs).1.length ≤ _
      simp only [List.length_cons]; omega
  have nl1 := nl [] a
  simp only [List.length_nil] at nl1
  refine WPV.mono (numbers_ok (ls := b) (by omega) hk3 (by omega) (by decreasing_trivial_pre_omega) (by omega) (by omega)).vc ?_
  rintro r H4 ⟨⟨x4, e4⟩, hk4, rfl, hn4⟩
  simp only [List.length_set] at e4 hn4 ⊢
  have f4 := x4 _ _ (by array_mem_dec) (at_set (i := H.length) (by omega))
  have ha4 := x4 _ _ (by array_mem_dec) (at_set_ne (i := H.length) ha2 (by omega))
  have hb4 := x4 _ _ (by array_mem_dec) (at_set_ne (i := H.length) hb2 (by omega))
  have hn2' := x4 _ _ (by array_mem_dec) (at_set_ne (i := H.length) hn2 (by omega))
  have x04 : Ext H H4 := fun i o hi => x4 i o (by have := lt_of_at hi; simp; omega) (at_set_ne (x2 i o (by have := lt_of_at hi; simp; omega) (x01 i o hi)) (by have := lt_of_at hi; omega))
  repeat array_get_dec
  simp only [List.length_append, List.length_set, List.length_cons, List.length_nil]
  refine ⟨True.intro, h _ H1.length H2.length (H4.length + 1) (H4.length + 3) (by sizeOf_list_dec) (by omega) (by omega) (by omega) (by omega) ⟨at_eq (by decreasing_trivial_pre_omega) (by rfl), (by decreasing_trivial_pre_omega), (by decreasing_trivial_pre_omega), at_eq (by decreasing_trivial_pre_omega) (by simp), at_eq (by decreasing_trivial_pre_omega) (by simp), by omega⟩⟩
theorem sub_Ns {Q : MV → List MObj → Prop} {j : Nat} {k : Int} {ns : List Nat} (h1 : H[j]? = some (Ns ns)) (h0 : 0 ≤ k) (hk : k < ns.length) (h2 : ns.length ≤ 100000) (h : Q (.int ((ns.getD k.toNat 0 : Nat) : Int)) H) : subM (.ref j) (.int k) H Q := by
  obtain ⟨n, rfl⟩ := Int.eq_ofNat_of_zero_le h0
  have hn : n < ns.length := by omega
  refine sub_at n rfl h1 (by simpa using h2) ?_ h
  rw [List.getElem?_map, List.getD_eq_getElem?_getD]
  rw [show ((n : Int)).toNat = n from rfl, List.getElem?_eq_getElem hn]; rfl
theorem sub_Bl {Q : MV → List MObj → Prop} {j : Nat} {k : Int} {ns : List Bool} (h1 : H[j]? = some (Bl ns)) (h0 : 0 ≤ k) (hk : k < ns.length) (h2 : ns.length ≤ 100000) (h : Q (.bool (ns.getD k.toNat false)) H) : subM (.ref j) (.int k) H Q := by
  obtain ⟨n, rfl⟩ := Int.eq_ofNat_of_zero_le h0
  have hn : n < ns.length := by omega
  refine sub_at n rfl h1 (by simpa using h2) ?_ h
  rw [List.getElem?_map, List.getD_eq_getElem?_getD]
  rw [show ((n : Int)).toNat = n from rfl, List.getElem?_eq_getElem hn]; rfl
theorem set_Bl {Q : List MObj → Prop} {j : Nat} {k : Int} {ns : List Bool} {v : Bool} (h1 : H[j]? = some (Bl ns)) (h0 : 0 ≤ k) (hk : k < ns.length) (h2 : ns.length ≤ 100000) (h : Q (H.set j (Bl (ns.set k.toNat v)))) : setM (.ref j) (.int k) (.bool v) H Q := by
  obtain ⟨n, rfl⟩ := Int.eq_ofNat_of_zero_le h0
  refine set_list n rfl h1 (by simp; omega) (by simpa using h2) ?_
  rw [← List.map_set]; exact h
theorem len_Ns {j : Nat} {ns : List Nat} {Q : MV → List MObj → Prop} (hj : H[j]? = some (Ns ns)) (hs : ns.length ≤ 100000) (h : Q (.int ns.length) H) : WPV B d (.con (.builtin "len")) [.ref j] H Q :=
  WPV.len hj (by simpa using hs) (by simpa using h)
end
end
section
local macro_rules | `(tactic| decreasing_trivial_pre_omega) => `(tactic| first
  | with_reducible assumption
  | with_reducible exact at_last _ _
  | ((with_reducible apply at_app); decreasing_trivial_pre_omega)
  | ((with_reducible apply at_set_ne); (focus decreasing_trivial_pre_omega); (focus (first | assumption | omega | (simp only [List.length_append, List.length_set, List.length_cons, List.length_nil]; omega))))
  | ((with_reducible apply at_set); (first | assumption | omega | (simp only [List.length_append, List.length_set, List.length_cons, List.length_nil]; omega)))
  | ((with_reducible apply Ext.get); (focus assumption); (focus decreasing_trivial_pre_omega))
  | ((with_reducible apply at_lastI); (focus array_mem_dec)))
local macro_rules | `(tactic| array_mem_dec) => `(tactic| first
  | with_reducible assumption
  | omega
  | exact Nat.le_of_ble_eq_true rfl
  | ((simp only [List.length_append, List.length_set, List.length_cons, List.length_nil, List.length_map, List.length_replicate, List.length_range]); omega)
  | (simp; omega)
  | (simp; done))
local macro_rules | `(tactic| sizeOf_list_dec) => `(tactic| first
  | assumption
  | with_reducible exact Ext.refl _
  | ((with_reducible refine Ext.app' ?_); sizeOf_list_dec)
  | ((with_reducible refine Ext.set_new ?_ ?_); (focus sizeOf_list_dec); (focus array_mem_dec))
  | ((with_reducible refine Ext.trans ?_ (by assumption)); sizeOf_list_dec)
  | ((with_reducible apply RC.i); (focus decreasing_trivial_pre_omega); (focus first | decreasing_trivial_pre_omega | exact at_eq (by decreasing_trivial_pre_omega) lsnil | exact at_eq (by decreasing_trivial_pre_omega) (sl2 _ _ _ (by omega)) | exact at_eq (by decreasing_trivial_pre_omega) (sl1 _ _ (by omega)) | exact at_eq (by decreasing_trivial_pre_omega) (sl0 _ _)); (focus first | decreasing_trivial_pre_omega | exact at_eq (by decreasing_trivial_pre_omega) lsnil | exact at_eq (by decreasing_trivial_pre_omega) (sl2 _ _ _ (by omega)) | exact at_eq (by decreasing_trivial_pre_omega) (sl1 _ _ (by omega)) | exact at_eq (by decreasing_trivial_pre_omega) (sl0 _ _)); (focus first | decreasing_trivial_pre_omega | exact at_eq (by decreasing_trivial_pre_omega) lsnil | exact at_eq (by decreasing_trivial_pre_omega) (sl2 _ _ _ (by omega)) | exact at_eq (by decreasing_trivial_pre_omega) (sl1 _ _ (by omega)) | exact at_eq (by decreasing_trivial_pre_omega) (sl0 _ _)); (focus array_mem_dec); (focus array_mem_dec); (focus array_mem_dec); (focus array_mem_dec))
  | ((with_reducible apply RCk.i); (focus decreasing_trivial_pre_omega); (focus first | decreasing_trivial_pre_omega | exact at_eq (by decreasing_trivial_pre_omega) lsnil | exact at_eq (by decreasing_trivial_pre_omega) (sl2 _ _ _ (by omega)) | exact at_eq (by decreasing_trivial_pre_omega) (sl1 _ _ (by omega)) | exact at_eq (by decreasing_trivial_pre_omega) (sl0 _ _)); (focus first | decreasing_trivial_pre_omega | exact at_eq (by decreasing_trivial_pre_omega) lsnil | exact at_eq (by decreasing_trivial_pre_omega) (sl2 _ _ _ (by omega)) | exact at_eq (by decreasing_trivial_pre_omega) (sl1 _ _ (by omega)) | exact at_eq (by decreasing_trivial_pre_omega) (sl0 _ _)); (focus first | decreasing_trivial_pre_omega | exact at_eq (by decreasing_trivial_pre_omega) lsnil | exact at_eq (by decreasing_trivial_pre_omega) (sl2 _ _ _ (by omega)) | exact at_eq (by decreasing_trivial_pre_omega) (sl1 _ _ (by omega)) | exact at_eq (by decreasing_trivial_pre_omega) (sl0 _ _))))
local macro_rules | `(tactic| array_get_dec) => `(tactic| first
  | ((with_reducible refine gE ?_); (first | ((with_reducible refine gEn ?_); (first | ((first | with_reducible refine gl_len ?_ ?_ | with_reducible refine gl_list ?_ ?_ | with_reducible refine gl_range ?_ ?_ | with_reducible refine gl_enumerate ?_ ?_ | with_reducible refine gl_zip ?_ ?_ | with_reducible refine gl_min ?_ ?_ | with_reducible refine gl_max ?_ ?_ | with_reducible refine gl_isinstance ?_ ?_ | with_reducible refine gl_sum ?_ ?_ | with_reducible refine gl_bytes ?_ ?_ | with_reducible refine gl_str ?_ ?_ | with_reducible refine gl_Chunk ?_ ?_ | with_reducible refine gl_Change ?_ ?_ | with_reducible refine gl_LineSheet ?_ ?_ | with_reducible refine gl_LineNumbers ?_ ?_ | with_reducible refine gl_BOTH ?_ ?_ | with_reducible refine gl_CONFLICT ?_ ?_ | with_reducible refine gl_OURS ?_ ?_ | with_reducible refine gl_THEIRS ?_ ?_ | with_reducible refine gl_SHORT ?_ ?_ | with_reducible refine gl_line_further ?_ ?_ | with_reducible refine gl_myers ?_ ?_ | with_reducible refine gl_by ?_ ?_ | with_reducible refine gl_conflict_parted ?_ ?_ | with_reducible refine gl_conflict_trimmed ?_ ?_ | with_reducible refine gl_conflicts_closed_up ?_ ?_ | with_reducible refine gl_conflict_pieces ?_ ?_ | with_reducible refine gl_law_draw ?_ ?_ | with_reducible refine gl_law_lines ?_ ?_ | with_reducible refine gl_law_chunk ?_ ?_ | with_reducible refine gl_law_told ?_ ?_ | with_reducible refine gl_law_longest ?_ ?_ | with_reducible refine gl_law_is_parted ?_ ?_ | with_reducible refine gl_law_trimmed ?_ ?_ | with_reducible refine gl_law_closed ?_ ?_); (focus exact rfl)) | ((with_reducible apply WPE.name); (focus exact rfl); (focus first | exact .inl rfl | exact .inr (.inl rfl) | exact .inr (.inr rfl)); (focus exact rfl); (focus first | assumption | (intro h; cases h)); (focus exact rfl)))) | ((with_reducible refine gEk ?_); (first | with_reducible refine WPE.cInt ?_ | with_reducible refine WPE.cStr ?_ | with_reducible refine WPE.cBool ?_ | with_reducible refine WPE.cNone ?_ | with_reducible refine WPE.cBytes ?_)) | ((with_reducible refine gEc ?_); (first | ((with_reducible refine WPE.call ?_ ?_ ?_); (focus exact fun _ => rfl); (focus exact fun _ => rfl)) | with_reducible refine WPE.call0 ?_ | ((with_reducible apply WPE.meth); (focus exact fun _ => rfl); (focus exact fun _ => rfl); (focus exact fun _ => rfl)) | ((with_reducible apply WPE.meth0); (focus exact fun _ => rfl)))) | ((with_reducible refine WPE.attr ?_ ?_); (focus exact fun _ => rfl)) | with_reducible refine WPE.bin ?_ | ((with_reducible refine WPE.cmp ?_ ?_); (focus exact rfl)) | with_reducible refine WPE.slice ?_ | ((with_reducible refine WPE.sub ?_ ?_); (focus exact fun _ _ => rfl)) | with_reducible refine WPE.tup ?_ | with_reducible refine WPE.list ?_ | with_reducible refine WPE.neg ?_ | with_reducible refine WPE.ifx ?_ | with_reducible refine WPE.dict0 ?_ | with_reducible refine WPE.dictI ?_ | ((with_reducible refine WPE.comp1 ?_ ?_ ?_); (focus exact ⟨rfl, by decide, rfl⟩); (focus exact fun _ _ => rfl)) | ((with_reducible refine WPE.compIf ?_ ?_ ?_); (focus exact ⟨rfl, by decide, rfl⟩); (focus exact fun _ _ => rfl)) | ((with_reducible refine WPE.comp2 ?_ ?_ ?_ ?_); (focus exact ⟨rfl, by decide, rfl⟩); (focus exact fun _ _ => rfl); (focus exact fun _ _ => rfl))))
  | ((with_reducible refine gEs ?_); (first | with_reducible refine WPEs.nil ?_ | ((with_reducible refine WPEs.cons ?_ ?_); (focus exact fun _ => rfl))))
  | ((with_reducible refine gS ?_); (first | ((with_reducible apply WPS.nrm); (focus repeat first | exact SetTo.zero | apply SetTo.succ)) | with_reducible refine WPS.nil ?_ | with_reducible refine WPS.cons ?_))
  | ((with_reducible refine g1 ?_); (first | ((with_reducible refine g1a ?_); (first | ((with_reducible apply WP1.asgSwap2); (focus exact fun _ => rfl); (focus exact rfl); (focus exact rfl); (focus exact rfl)) | ((with_reducible apply WP1.asgSwap3); (focus exact fun _ => rfl); (focus exact rfl); (focus exact rfl); (focus exact rfl); (focus exact rfl)) | ((with_reducible refine WP1.asg ?_ ?_ ?_ ?_); (focus exact fun _ => rfl); (focus first | exact fun _ _ _ => rfl | exact fun env hn hk => swapsWith_env rfl env hn hk); (focus first | exact fun _ _ _ => rfl | exact fun env hn hk => swap_env rfl env hn hk)))) | with_reducible refine WP1.ret ?_ | ((with_reducible apply WP1.augName); (focus exact rfl); (focus exact rfl); (focus first | assumption | (intro h; cases h)); (focus exact rfl)) | with_reducible refine WP1.augAttr ?_ | ((with_reducible refine WP1.expr ?_ ?_); (focus exact fun _ => rfl)) | ((with_reducible refine WP1.forI ?_ ?_); (focus exact fun _ _ => rfl))))
  | ((with_reducible refine gX ?_); (first | ((with_reducible apply go_attr); (focus decreasing_trivial_pre_omega); (focus first | with_reducible exact at_301_word _ | with_reducible exact at_301_base _ | with_reducible exact at_301_ours _ | with_reducible exact at_301_theirs _ | with_reducible exact at_92_a_from _ | with_reducible exact at_92_a_to _ | with_reducible exact at_92_b_from _ | with_reducible exact at_92_b_to _ | with_reducible exact at_223_a _ | with_reducible exact at_223_b _ | with_reducible exact at_223_gone _ | with_reducible exact at_223_come _ | with_reducible exact at_125_known _ | with_reducible exact at_125_strange _ | with_reducible exact at_125_count _); (focus exact rfl); (focus exact rfl)) | ((with_reducible apply go_setattr); (focus decreasing_trivial_pre_omega); (focus first | with_reducible exact st_301_word _ | with_reducible exact st_301_base _ | with_reducible exact st_301_ours _ | with_reducible exact st_301_theirs _ | with_reducible exact st_92_a_from _ | with_reducible exact st_92_a_to _ | with_reducible exact st_92_b_from _ | with_reducible exact st_92_b_to _ | with_reducible exact st_223_a _ | with_reducible exact st_223_b _ | with_reducible exact st_223_gone _ | with_reducible exact st_223_come _ | with_reducible exact st_125_known _ | with_reducible exact st_125_strange _ | with_reducible exact st_125_count _); (focus exact Nat.le_of_ble_eq_true rfl)) | ((with_reducible apply go_slice); (focus decreasing_trivial_pre_omega); (focus array_mem_dec)) | ((with_reducible refine go_part ?_ ?_); (focus array_mem_dec)) | with_reducible refine go_neg ?_ | with_reducible refine go_val ?_ | ((with_reducible apply go_swap2); (focus repeat first | exact SetTo.zero | apply SetTo.succ); (focus repeat first | exact SetTo.zero | apply SetTo.succ)) | ((with_reducible apply go_swap3); (focus repeat first | exact SetTo.zero | apply SetTo.succ); (focus repeat first | exact SetTo.zero | apply SetTo.succ); (focus repeat first | exact SetTo.zero | apply SetTo.succ)) | ((with_reducible apply go_enum); (focus decreasing_trivial_pre_omega)) | ((with_reducible apply go_zip); (focus decreasing_trivial_pre_omega); (focus decreasing_trivial_pre_omega)) | ((with_reducible apply go_augAttr); (focus decreasing_trivial_pre_omega); (focus first | with_reducible exact at_301_word _ | with_reducible exact at_301_base _ | with_reducible exact at_301_ours _ | with_reducible exact at_301_theirs _ | with_reducible exact at_92_a_from _ | with_reducible exact at_92_a_to _ | with_reducible exact at_92_b_from _ | with_reducible exact at_92_b_to _ | with_reducible exact at_223_a _ | with_reducible exact at_223_b _ | with_reducible exact at_223_gone _ | with_reducible exact at_223_come _ | with_reducible exact at_125_known _ | with_reducible exact at_125_strange _ | with_reducible exact at_125_count _); (focus first | with_reducible exact st_301_word _ | with_reducible exact st_301_base _ | with_reducible exact st_301_ours _ | with_reducible exact st_301_theirs _ | with_reducible exact st_92_a_from _ | with_reducible exact st_92_a_to _ | with_reducible exact st_92_b_from _ | with_reducible exact st_92_b_to _ | with_reducible exact st_223_a _ | with_reducible exact st_223_b _ | with_reducible exact st_223_gone _ | with_reducible exact st_223_come _ | with_reducible exact st_125_known _ | with_reducible exact st_125_strange _ | with_reducible exact st_125_count _); (focus exact rfl); (focus exact rfl)) | ((with_reducible apply go_augSet); (focus decreasing_trivial_pre_omega); (focus exact Nat.le_of_ble_eq_true rfl)) | ((with_reducible apply go_emit); (focus decreasing_trivial_pre_omega); (focus array_mem_dec)) | ((with_reducible apply go_range); (focus exact rfl); (focus decide); (focus ((with_reducible refine small1 ?_); array_mem_dec)))))
  | ((with_reducible refine gN ?_); (first | with_reducible refine go_calleeB ?_ | with_reducible refine go_calleeT ?_ | with_reducible refine go_typeEq ?_ | ((with_reducible refine go_callee ?_ ?_); (focus first | with_reducible exact co_234 _ | with_reducible exact co_248 _ | with_reducible exact co_270 _ | with_reducible exact co_312 _ | with_reducible exact co_319 _ | with_reducible exact co_326 _ | with_reducible exact co_333 _ | with_reducible exact co_340 _ | with_reducible exact co_345 _ | with_reducible exact co_352 _ | with_reducible exact co_359 _ | with_reducible exact co_366 _ | with_reducible exact co_371 _ | with_reducible exact co_378 _ | with_reducible exact co_383 _ | with_reducible exact co_92 _ | with_reducible exact co_125 _ | with_reducible exact co_223 _ | with_reducible exact co_301 _)) | ((with_reducible refine go_notRef ?_ ?_); (focus exact rfl)) | ((with_reducible refine go_len ?_ ?_); (focus array_mem_dec)) | with_reducible refine go_tt ?_ | with_reducible refine go_ff ?_ | with_reducible refine go_chkT ?_ | ((with_reducible refine go_chkL ?_ ?_); (focus decreasing_trivial_pre_omega)) | ((with_reducible refine go_chkZ ?_ ?_ ?_); (focus decreasing_trivial_pre_omega); (focus decreasing_trivial_pre_omega))))
  | ((with_reducible refine gG ?_); (first | ((with_reducible apply WPG.nameT); (focus exact rfl); (focus first | exact .inl rfl | exact .inr ⟨rfl, by decide⟩); (focus repeat first | exact SetTo.zero | apply SetTo.succ)) | with_reducible refine WPG.attr ?_ | with_reducible refine WPG.sub ?_ | ((with_reducible refine WPG.tup ?_ ?_ ?_); (focus exact rfl); (focus exact fun _ => rfl))))
  | ((with_reducible refine gV ?_); (first | with_reducible refine WPV.nap ?_ | ((with_reducible apply len_Ns); (focus decreasing_trivial_pre_omega); (focus array_mem_dec)) | ((with_reducible refine chunk_go ?_ ?_); (focus omega)) | ((with_reducible refine chunk_goB ?_ ?_); (focus omega)) | ((with_reducible refine chunk_goC ?_ ?_); (focus omega)) | ((with_reducible apply change_go); (focus omega)) | ((with_reducible apply WPV.len); (focus decreasing_trivial_pre_omega); (focus array_mem_dec)) | ((with_reducible apply WPV.list); (focus decreasing_trivial_pre_omega); (focus array_mem_dec)) | ((with_reducible apply WPV.append); (focus decreasing_trivial_pre_omega); (focus array_mem_dec)) | ((with_reducible apply WPV.extend); (focus decreasing_trivial_pre_omega); (focus decreasing_trivial_pre_omega); (focus array_mem_dec)) | ((with_reducible apply pop0_Ls); (focus decreasing_trivial_pre_omega); (focus array_mem_dec); (focus array_mem_dec)) | ((with_reducible apply pop_Ls); (focus decreasing_trivial_pre_omega); (focus array_mem_dec); (focus array_mem_dec)) | with_reducible refine WPV.min ?_ | with_reducible refine WPV.max ?_ | with_reducible refine WPV.isStr ?_ | with_reducible refine WPV.isBs ?_))
  | ((with_reducible refine gT ?_); (first | ((with_reducible refine WPT.cmp ?_ ?_); (focus exact rfl)) | with_reducible refine WPT.not ?_ | with_reducible refine WPT.bop ?_ | ((with_reducible refine WPT.val ?_ ?_); (focus exact fun _ => rfl))))
  | ((with_reducible refine gA ?_); (first | with_reducible refine WPA.andNil ?_ | with_reducible refine WPA.orNil ?_ | with_reducible refine WPA.and ?_ | with_reducible refine WPA.or ?_))
  | ((with_reducible refine gCm ?_); (first | with_reducible refine cmp_lt ?_ | with_reducible refine cmp_le ?_ | with_reducible refine cmp_gt ?_ | with_reducible refine cmp_ge ?_ | with_reducible refine cmp_eq ?_ | with_reducible refine cmp_ne ?_ | with_reducible refine cmp_lb ?_ | with_reducible refine cmp_wd ?_ | with_reducible refine cmpw_both ?_ | with_reducible refine cmpw_conflict ?_ | with_reducible refine cmpw_same ?_ | with_reducible refine cmpw_ours ?_ | with_reducible refine cmpw_theirs ?_ | with_reducible refine cmpw_nconflict ?_ | with_reducible refine cmpw_inOT ?_ | with_reducible refine cmpw_inSB ?_ | with_reducible refine cmpw_ninBC ?_ | ((with_reducible apply cmp_lsnil); (focus decreasing_trivial_pre_omega); (focus decreasing_trivial_pre_omega); (focus array_mem_dec)) | ((with_reducible apply cmp_nilEq); (focus decreasing_trivial_pre_omega); (focus decreasing_trivial_pre_omega); (focus array_mem_dec)) | ((with_reducible apply cmp_lseq); (focus decreasing_trivial_pre_omega); (focus decreasing_trivial_pre_omega); (focus array_mem_dec)) | ((with_reducible apply cmp_lsne); (focus decreasing_trivial_pre_omega); (focus decreasing_trivial_pre_omega); (focus array_mem_dec)) | ((with_reducible apply cmp_nindB); (focus decreasing_trivial_pre_omega)) | ((with_reducible apply cmp_nindI); (focus decreasing_trivial_pre_omega)) | ((with_reducible apply cmp_indI); (focus decreasing_trivial_pre_omega)) | ((with_reducible apply cmp_anynil); (focus decreasing_trivial_pre_omega); (focus decreasing_trivial_pre_omega); (focus array_mem_dec))))
  | ((with_reducible refine gGs ?_); (first | with_reducible refine WPGs.nil ?_ | ((with_reducible refine WPGs.cons ?_ ?_); (focus exact fun _ => rfl))))
  | ((with_reducible refine gBm ?_); (first | with_reducible refine bin_add ?_ | with_reducible refine bin_sub ?_ | ((with_reducible refine bin_mod ?_ ?_); (focus first | decide | omega)) | ((with_reducible refine bin_mul ?_ ?_); (focus first | decide | omega)) | ((with_reducible refine bin_fdiv ?_ ?_); (focus first | decide | omega)) | ((with_reducible apply bin_lapp); (focus decreasing_trivial_pre_omega); (focus decreasing_trivial_pre_omega); (focus array_mem_dec)) | ((with_reducible apply bin_rep); (focus decreasing_trivial_pre_omega); (focus exact ⟨by omega, by omega⟩))))
  | ((with_reducible refine gSm ?_); (first | ((with_reducible apply sub_last); (focus decreasing_trivial_pre_omega); (focus array_mem_dec); (focus array_mem_dec)) | ((with_reducible apply sub_Ns); (focus decreasing_trivial_pre_omega); (focus array_mem_dec); (focus array_mem_dec); (focus array_mem_dec)) | ((with_reducible apply sub_Bl); (focus decreasing_trivial_pre_omega); (focus array_mem_dec); (focus array_mem_dec); (focus array_mem_dec)) | ((with_reducible apply sub_Ls); (focus decreasing_trivial_pre_omega); (focus array_mem_dec); (focus array_mem_dec); (focus array_mem_dec)) | ((with_reducible apply sub_dS); (focus decreasing_trivial_pre_omega); (focus exact rfl))))
  | ((with_reducible refine gZ ?_); (first | ((with_reducible apply set_Bl); (focus decreasing_trivial_pre_omega); (focus array_mem_dec); (focus array_mem_dec); (focus array_mem_dec)) | ((with_reducible apply set_dS); (focus decreasing_trivial_pre_omega); (focus exact Nat.le_of_ble_eq_true rfl))))
  | ((with_reducible refine gMm ?_); (first | ((with_reducible apply meth_append); (focus decreasing_trivial_pre_omega)) | ((with_reducible apply meth_extend); (focus decreasing_trivial_pre_omega)) | ((with_reducible apply meth_pop); (focus decreasing_trivial_pre_omega)) | ((with_reducible apply meth_inst); (focus decreasing_trivial_pre_omega); (focus first | with_reducible exact me_301_joined _ | with_reducible exact me_223_whole _ | with_reducible exact me_223_trimmed _ | with_reducible exact me_223_mark _ | with_reducible exact me_223_changes _ | with_reducible exact me_223_halved _ | with_reducible exact me_223_mark_fewest _ | with_reducible exact me_125_number_of _ | with_reducible exact me_125_numbers_of _); (focus exact rfl))))
  | ((with_reducible refine gI ?_); (first | ((with_reducible refine WPI.range (x := Str.ofString "range") ?_ ?_ ?_); (focus exact fun _ => rfl); (focus exact fun _ => rfl)) | ((with_reducible refine WPI.enum (x := Str.ofString "enumerate") ?_ ?_ ?_); (focus exact fun _ => rfl); (focus exact fun _ => rfl)) | ((with_reducible refine WPI.zip (x := Str.ofString "zip") ?_ ?_ ?_); (focus exact fun _ => rfl); (focus exact fun _ => rfl)) | with_reducible refine WPI.seq ?_))
  | ((with_reducible refine gO ?_); (first | with_reducible refine go_partNone ?_ | with_reducible refine go_partSome ?_))
  | with_reducible refine go_cifN ?_
  | with_reducible refine go_cifS ?_
  | with_reducible refine go_emitI ?_
  | with_reducible refine go_genI ?_
  | with_reducible refine aug_add ?_
  | with_reducible refine aug_sub ?_
  | ((with_reducible apply go_seq); (focus decreasing_trivial_pre_omega))
  | with_reducible refine go_seqT ?_)
section
variable {B : Bs} {d : Nat} {H : List MObj} {s ia ib ig ic : Nat} {na nb : List Nat} {g c : List Bool}
def pt (al ah bl bh : Nat) : MV := .tup [.int al, .int ah, .int bl, .int bh]
theorem whole_ok (hd : 0 < d) (S : Sh s ia ib ig ic H na nb g c) (hl : na.length + nb.length ≤ 1000) : WPF B d (.con (.ref 150)) [.ref s] H (fun r H' => H = H' ∧ r = pt 0 na.length 0 nb.length) := by
  obtain ⟨h1, h2, h3, h4, h5, ne⟩ := S
  refine WPF.fn fn150 (by omega) rfl ?_
  rw [ie150]
  refine WPS.cons ?_
  repeat array_get_dec
  exact ⟨rfl, rfl⟩
def loN (na nb : List Nat) (al ah bl bh : Nat) : Nat := upF (fun i => decide (na.getD (al + i) 0 = nb.getD (bl + i) 0)) 0 (min (ah - al) (bh - bl))
def hiN (na nb : List Nat) (al ah bl bh : Nat) : Nat := upF (fun i => decide (na.getD (ah - 1 - i) 0 = nb.getD (bh - 1 - i) 0)) 0 (min (ah - al) (bh - bl))
theorem sheet_trimmed_ok {al ah bl bh i j : Nat} (hd : 0 < d) (S : Sh s ia ib ig ic H na nb g c) (hl : na.length + nb.length ≤ 1000) (ha : ah ≤ na.length) (hb : bh ≤ nb.length) (ei : loN na nb al ah bl bh = i) (ej : hiN na nb (al + i) ah (bl + i) bh = j) :
    WPF B d (.con (.ref 157)) [.ref s, pt al ah bl bh] H (fun r H' => H = H' ∧ r = pt (al + i) (ah - j) (bl + i) (bh - j)) := by
  obtain ⟨h1, h2, h3, h4, h5, ne⟩ := S
  refine WPF.fn fn157 (by omega) rfl ?_
  rw [ie157]
  refine WPS.cons ?_
  unfold pt
  repeat array_get_dec
  refine WP1.mid (fun ev1 H1 => H = H1 ∧ ev1 = [.ref s, pt al ah bl bh, .int ((al + i : Nat) : Int), .int ah, .int ((bl + i : Nat) : Int), .int bh]) ?_ ?_
  · refine WP1.whileI (fun n ev1 H1 => ∃ x : Nat, x + n = min (ah - al) (bh - bl) ∧ upF (fun i => decide (na.getD (al + i) 0 = nb.getD (bl + i) 0)) x n = i ∧ H = H1 ∧ ev1 = [.ref s, pt al ah bl bh, .int ((al + x : Nat) : Int), .int ah, .int ((bl + x : Nat) : Int), .int bh]) _ ⟨0, Nat.zero_add _, ei, rfl, rfl⟩ ?_
    rintro n ev1 H1 ⟨x, hx, hu, rfl, rfl⟩
    repeat array_get_dec
    refine go_dec (fun h => ?_) (fun h => ?_)
    · repeat array_get_dec
      refine go_dec (fun h' => ?_) (fun h' => ?_)
      · repeat array_get_dec
        obtain ⟨n, rfl⟩ : ∃ m, n = m + 1 := ⟨n - 1, by omega⟩
        unfold upF at hu
        rw [show ((al + x : Nat) : Int).toNat = al + x from rfl, show ((bl + x : Nat) : Int).toNat = bl + x from rfl]
        refine go_dec (fun e => ?_) (fun e => ?_)
        · rw [if_pos (by simpa using (by omega : na.getD (al + x) 0 = nb.getD (bl + x) 0))] at hu
          repeat array_get_dec
          refine ⟨n, by omega, x + 1, by omega, hu, rfl, ?_⟩
          rw [show ((al + (x + 1) : Nat) : Int) = ((al + x : Nat) : Int) + 1 from by omega, show ((bl + (x + 1) : Nat) : Int) = ((bl + x : Nat) : Int) + 1 from by omega]
        · rw [if_neg (by simpa using (by omega : ¬ na.getD (al + x) 0 = nb.getD (bl + x) 0))] at hu
          subst hu
          repeat array_get_dec
          exact ⟨rfl, rfl⟩
      · obtain rfl : n = 0 := by omega
        obtain rfl : x = i := hu
        repeat array_get_dec
        exact ⟨rfl, rfl⟩
    · obtain rfl : n = 0 := by omega
      obtain rfl : x = i := hu
      repeat array_get_dec
      exact ⟨rfl, rfl⟩
  rintro ev1 H1 ⟨rfl, rfl⟩
  repeat array_get_dec
  refine WP1.mid (fun ev1 H1 => H = H1 ∧ ev1 = [.ref s, pt al ah bl bh, .int ((al + i : Nat) : Int), .int ((ah - j : Nat) : Int), .int ((bl + i : Nat) : Int), .int ((bh - j : Nat) : Int)]) ?_ ?_
  · refine WP1.whileI (fun n ev1 H1 => ∃ x : Nat, x + n = min (ah - (al + i)) (bh - (bl + i)) ∧ upF (fun i => decide (na.getD (ah - 1 - i) 0 = nb.getD (bh - 1 - i) 0)) x n = j ∧ H = H1 ∧ ev1 = [.ref s, pt al ah bl bh, .int ((al + i : Nat) : Int), .int ((ah - x : Nat) : Int), .int ((bl + i : Nat) : Int), .int ((bh - x : Nat) : Int)]) _ ⟨0, Nat.zero_add _, ej, rfl, rfl⟩ ?_
    rintro n ev1 H1 ⟨x, hx, hu, rfl, rfl⟩
    repeat array_get_dec
    refine go_dec (fun h => ?_) (fun h => ?_)
    · repeat array_get_dec
      refine go_dec (fun h' => ?_) (fun h' => ?_)
      · repeat array_get_dec
        obtain ⟨n, rfl⟩ : ∃ m, n = m + 1 := ⟨n - 1, by omega⟩
        unfold upF at hu
        rw [show (((ah - x : Nat) : Int) - 1).toNat = ah - 1 - x from by omega, show (((bh - x : Nat) : Int) - 1).toNat = bh - 1 - x from by omega]
        refine go_dec (fun e => ?_) (fun e => ?_)
        · rw [if_pos (by simpa using (by omega : na.getD (ah - 1 - x) 0 = nb.getD (bh - 1 - x) 0))] at hu
          repeat array_get_dec
          refine ⟨n, by omega, x + 1, by omega, hu, rfl, ?_⟩
          rw [show ((ah - (x + 1) : Nat) : Int) = ((ah - x : Nat) : Int) - 1 from by omega, show ((bh - (x + 1) : Nat) : Int) = ((bh - x : Nat) : Int) - 1 from by omega]
        · rw [if_neg (by simpa using (by omega : ¬ na.getD (ah - 1 - x) 0 = nb.getD (bh - 1 - x) 0))] at hu
          subst hu
          repeat array_get_dec
          exact ⟨rfl, rfl⟩
      · obtain rfl : n = 0 := by omega
        obtain rfl : x = j := hu
        repeat array_get_dec
        exact ⟨rfl, rfl⟩
    · obtain rfl : n = 0 := by omega
      obtain rfl : x = j := hu
      repeat array_get_dec
      exact ⟨rfl, rfl⟩
  rintro ev1 H1 ⟨rfl, rfl⟩
  repeat array_get_dec
  exact ⟨rfl, rfl⟩
def markB : List Bool → Nat → Nat → List Bool
  | g, _, 0 => g
  | g, lo, n + 1 => markB (g.set lo true) (lo + 1) n
theorem markB_len : ∀ (n : Nat) (g : List Bool) (lo : Nat), (markB g lo n).length = g.length
  | 0, _, _ => rfl
  | n + 1, g, lo => by unfold markB; rw [markB_len n]; simp
theorem mark_ok {al ah bl bh : Nat} (hd : 0 < d) (S : Sh s ia ib ig ic H na nb g c) (hl : g.length + c.length ≤ 1000) (ha : ah ≤ g.length) (hb : bh ≤ c.length) (ha' : al ≤ ah) (hb' : bl ≤ bh) :
    WPF B d (.con (.ref 164)) [.ref s, pt al ah bl bh] H (fun r H' => (ExtM [ig, ic] H H' ∧ H.length = H'.length) ∧ Sh s ia ib ig ic H' na nb (markB g al (ah - al)) (markB c bl (bh - bl)) ∧ r = .none) := by
  have S0 := S
  obtain ⟨h1, h2, h3, h4, h5, ne⟩ := S
  refine WPF.fn fn164 (by omega) rfl ?_
  rw [ie164]
  refine WPS.cons ?_
  unfold pt
  repeat array_get_dec
  rw [rangeSize1 (by omega), show ((ah : Int) - (al : Int)).toNat = ah - al from by omega]
  refine ForS.ind (fun ms ev1 H1 => ∃ n lo g', ms = rangeL ((lo : Nat) : Int) 1 n ∧ lo + n = ah ∧ markB g' lo n = markB g al (ah - al) ∧ g'.length = g.length ∧ (∃ t, ev1 = [.ref s, pt al ah bl bh, .int al, .int ah, .int bl, .int bh, t, .undef]) ∧ Sh s ia ib ig ic H1 na nb g' c ∧ ExtM [ig, ic] H H1 ∧ H.length = H1.length) ?_ ?_
    ⟨ah - al, al, g, rfl, by omega, rfl, rfl, ⟨_, rfl⟩, S0, .refl _, rfl⟩
  · rintro ev1 H1 ⟨n, lo, g', e1, e2, e3, e4, ⟨t, rfl⟩, S1, x1, l1⟩
    obtain rfl : n = 0 := by cases n with | zero => rfl | succ n => cases e1
    have e3' : g' = markB g al (ah - al) := e3
    subst e3'
    have S1' := S1
    obtain ⟨h1, h2, h3, h4, h5, -⟩ := S1
    repeat array_get_dec
    rw [rangeSize1 (by omega), show ((bh : Int) - (bl : Int)).toNat = bh - bl from by omega]
    refine ForS.ind (fun ms ev1 H1 => ∃ n lo c', ms = rangeL ((lo : Nat) : Int) 1 n ∧ lo + n = bh ∧ markB c' lo n = markB c bl (bh - bl) ∧ c'.length = c.length ∧ (∃ t, ev1 = [.ref s, pt al ah bl bh, .int al, .int ah, .int bl, .int bh, t, .undef]) ∧ Sh s ia ib ig ic H1 na nb (markB g al (ah - al)) c' ∧ ExtM [ig, ic] H H1 ∧ H.length = H1.length) ?_ ?_
      ⟨bh - bl, bl, c, rfl, by omega, rfl, rfl, ⟨_, rfl⟩, S1', x1, l1⟩
    · rintro ev1 H1 ⟨n, lo, c', e1, e2, e3, e4, ⟨t, rfl⟩, S1, x1, l1⟩
      obtain rfl : n = 0 := by cases n with | zero => rfl | succ n => cases e1
      have e3' : c' = markB c bl (bh - bl) := e3
      subst e3'
      repeat array_get_dec
      exact ⟨⟨x1, l1⟩, S1, rfl⟩
    · rintro m ms ev1 H1 ⟨n, lo, c', e1, e2, e3, e4, ⟨t, rfl⟩, S1, x1, l1⟩
      cases n with
      | zero => cases e1
      | succ n =>
      unfold rangeL at e1
      injection e1 with e1 e1'
      subst e1 e1'
      unfold pt
      have S1' := S1
      obtain ⟨h1, h2, h3, h4, h5, -⟩ := S1
      have z4 := lt_of_at h4
      have z5 := lt_of_at h5
      repeat array_get_dec
      refine ⟨True.intro, n, lo + 1, c'.set lo true, by push_cast; rfl, by omega, e3, by simp [e4], ⟨_, rfl⟩, ⟨at_set_ne h1 ne.2.2.2.1, at_set_ne h2 ne.2.2.2.2.1, at_set_ne h3 ne.2.2.2.2.2.1, at_set_ne h4 (Ne.symm ne.2.2.2.2.2.2), at_set z5, ne⟩, x1.trans (ExtM.set (by simp)), by simpa using l1⟩
  · rintro m ms ev1 H1 ⟨n, lo, g', e1, e2, e3, e4, ⟨t, rfl⟩, S1, x1, l1⟩
    cases n with
    | zero => cases e1
    | succ n =>
    unfold rangeL at e1
    injection e1 with e1 e1'
    subst e1 e1'
    unfold pt
    have S1' := S1
    obtain ⟨h1, h2, h3, h4, h5, -⟩ := S1
    have z4 := lt_of_at h4
    repeat array_get_dec
    refine ⟨True.intro, n, lo + 1, g'.set lo true, by push_cast; rfl, by omega, e3, by simp [e4], ⟨_, rfl⟩, ⟨at_set_ne h1 ne.1, at_set_ne h2 ne.2.1, at_set_ne h3 ne.2.2.1, at_set z4, at_set_ne h5 ne.2.2.2.2.2.2, ne⟩, x1.trans (ExtM.set (by simp)), by simpa using l1⟩
end
def chgF (g c : List Bool) : Nat → Nat → Nat → Option (List (Nat × Nat × Nat × Nat))
  | fuel, a, f => if a < g.length ∨ f < c.length then
      match fuel with
      | 0 => none
      | n + 1 =>
        let a' := upF (fun i => g.getD i false) a (g.length - a)
        let f' := upF (fun i => c.getD i false) f (c.length - f)
        if a' > a ∨ f' > f then (chgF g c n a' f').map (fun r => (a, a', f, f') :: r) else chgF g c n (a + 1) (f + 1)
    else some []
theorem upF_ge (p : Nat → Bool) : ∀ f n, n ≤ upF p n f
  | 0, n => Nat.le_refl _
  | f + 1, n => by unfold upF; split; have := upF_ge p f (n + 1); omega; omega
def RCh (H : List MObj) (m : MV) (k : Nat × Nat × Nat × Nat) : Prop := ∃ i, m = .ref i ∧ H[i]? = some (.inst 92 (chF k.1 k.2.1 k.2.2.1 k.2.2.2))
theorem RCh.ext {H H' : List MObj} {m : MV} {k : Nat × Nat × Nat × Nat} (h : RCh H m k) (x : Ext H H') : RCh H' m k := by
  obtain ⟨i, e, h⟩ := h; exact ⟨i, e, x _ _ h⟩
def RChN (j : Nat) (H : List MObj) (m : MV) (k : Nat × Nat × Nat × Nat) : Prop := ∃ i, i ≠ j ∧ m = .ref i ∧ H[i]? = some (.inst 92 (chF k.1 k.2.1 k.2.2.1 k.2.2.2))
section
variable {B : Bs} {d : Nat} {H : List MObj} {s ia ib ig ic : Nat} {na nb : List Nat} {g c : List Bool}
theorem changes_ok {L : List (Nat × Nat × Nat × Nat)} {N : Nat} (hd : 3 ≤ d) (S : Sh s ia ib ig ic H na nb g c) (hl : na.length + nb.length ≤ 1000) (ga : na.length = g.length) (gb : nb.length = c.length) (hL : L.length ≤ 1000) (e : chgF g c N 0 0 = some L) :
    WPF B d (.con (.ref 171)) [.ref s] H (fun r H' => Ext H H' ∧ ∃ j vs, r = .ref j ∧ H.length ≤ j ∧ H'[j]? = some (.list vs) ∧ All2 (RCh H') vs L) := by
  obtain ⟨h1, h2, h3, h4, h5, ne⟩ := S
  refine WPF.fn fn171 (by omega) rfl ?_
  rw [ie171]
  refine WPS.cons ?_
  repeat array_get_dec
  refine WP1.mid (fun ev1 H1 => (∃ x y z w, ev1 = [.ref s, .ref H.length, x, y, z, w, .undef, .undef]) ∧ Ext H H1 ∧ ∃ vs, H1[H.length]? = some (.list vs) ∧ All2 (RChN H.length H1) vs L) ?_ ?_
  · refine WP1.whileI (fun n ev1 H1 => ∃ a f done rest, chgF g c n a f = some rest ∧ L = done ++ rest ∧ (∃ z w, ev1 = [.ref s, .ref H.length, .int (a : Nat), .int (f : Nat), z, w, .undef, .undef]) ∧ Ext H H1 ∧ ∃ vs, H1[H.length]? = some (.list vs) ∧ All2 (RChN H.length H1) vs done) N
      ⟨0, 0, [], L, e, rfl, ⟨_, _, rfl⟩, (by sizeOf_list_dec), _, (by decreasing_trivial_pre_omega), .nil⟩ ?_
    rintro n ev1 H1 ⟨a, f, done, rest, hc, rfl, ⟨z, w, rfl⟩, x1, vs, hv, r1⟩
    have g1 := x1 _ _ h1
    have g2 := x1 _ _ h2
    have g3 := x1 _ _ h3
    have g4 := x1 _ _ h4
    have g5 := x1 _ _ h5
    have z1 := lt_of_at hv
    have lv := r1.length
    have lv2 : vs.length ≤ 1000 := by rw [lv]; simp at hL; omega
    unfold chgF at hc
    refine WPT.mid (fun b H2 => H1 = H2 ∧ b = decide (a < g.length ∨ f < c.length)) ?_ ?_
    · repeat array_get_dec
      refine go_dec (fun h => ?_) (fun h => ?_)
      · repeat array_get_dec
        exact ⟨rfl, by simp; omega⟩
      · repeat array_get_dec
        refine go_dec (fun h' => ?_) (fun h' => ?_)
        · repeat array_get_dec
          exact ⟨rfl, by simp; omega⟩
        · repeat array_get_dec
          exact ⟨rfl, by simp; omega⟩
    rintro b H2 ⟨rfl, rfl⟩
    refine go_dec (fun h => ?_) (fun h => ?_)
    rotate_left
    · rw [if_neg h] at hc
      cases hc
      rw [List.append_nil]
      exact ⟨⟨_, _, _, _, rfl⟩, x1, vs, hv, r1⟩
    rw [if_pos h] at hc
    cases n with
    | zero => cases hc
    | succ n =>
    simp only at hc
    obtain ⟨a', ea⟩ : ∃ a', upF (fun i => g.getD i false) a (g.length - a) = a' := ⟨_, rfl⟩
    obtain ⟨f', ef⟩ : ∃ f', upF (fun i => c.getD i false) f (c.length - f) = f' := ⟨_, rfl⟩
    have ua := upF_le (fun i => g.getD i false) (g.length - a) a
    have uf := upF_le (fun i => c.getD i false) (c.length - f) f
    rw [ea] at hc ua
    rw [ef] at hc uf
    repeat array_get_dec
    refine WP1.mid (fun ev2 H2 => H1 = H2 ∧ ev2 = [.ref s, .ref H.length, .int (a' : Nat), .int (f : Nat), .int (a : Nat), .int (f : Nat), .undef, .undef]) ?_ ?_
    · refine WP1.whileI (fun n ev2 H2 => ∃ x : Nat, (x + n = g.length ∨ n = 0) ∧ upF (fun i => g.getD i false) x n = a' ∧ H1 = H2 ∧ n = g.length - x ∧ ev2 = [.ref s, .ref H.length, .int (x : Nat), .int (f : Nat), .int (a : Nat), .int (f : Nat), .undef, .undef]) _ ⟨a, by omega, ea, rfl, rfl, rfl⟩ ?_
      rintro n ev1 H1 ⟨x, hx, hu, rfl, hn, rfl⟩
      repeat array_get_dec
      refine go_dec (fun h => ?_) (fun h => ?_)
      · obtain ⟨n, rfl⟩ : ∃ m, n = m + 1 := ⟨n - 1, by omega⟩
        unfold upF at hu
        repeat array_get_dec
        rw [show ((x : Nat) : Int).toNat = x from rfl]
        refine ⟨fun e => ?_, fun e => ?_⟩
        · rw [if_pos e] at hu
          repeat array_get_dec
          exact ⟨n, by omega, x + 1, by omega, hu, rfl, by omega, rfl⟩
        · rw [if_neg (by rw [e]; simp)] at hu
          subst hu
          repeat array_get_dec
          exact ⟨rfl, rfl⟩
      · obtain rfl : n = 0 := by omega
        obtain rfl : x = a' := hu
        repeat array_get_dec
        exact ⟨rfl, rfl⟩
    rintro ev2 H2 ⟨rfl, rfl⟩
    repeat array_get_dec
    refine WP1.mid (fun ev2 H2 => H1 = H2 ∧ ev2 = [.ref s, .ref H.length, .int (a' : Nat), .int (f' : Nat), .int (a : Nat), .int (f : Nat), .undef, .undef]) ?_ ?_
    · refine WP1.whileI (fun n ev2 H2 => ∃ x : Nat, (x + n = c.length ∨ n = 0) ∧ upF (fun i => c.getD i false) x n = f' ∧ H1 = H2 ∧ n = c.length - x ∧ ev2 = [.ref s, .ref H.length, .int (a' : Nat), .int (x : Nat), .int (a : Nat), .int (f : Nat), .undef, .undef]) _ ⟨f, by omega, ef, rfl, rfl, rfl⟩ ?_
      rintro n ev1 H1 ⟨x, hx, hu, rfl, hn, rfl⟩
      repeat array_get_dec
      refine go_dec (fun h => ?_) (fun h => ?_)
      · obtain ⟨n, rfl⟩ : ∃ m, n = m + 1 := ⟨n - 1, by omega⟩
        unfold upF at hu
        repeat array_get_dec
        rw [show ((x : Nat) : Int).toNat = x from rfl]
        refine ⟨fun e => ?_, fun e => ?_⟩
        · rw [if_pos e] at hu
          repeat array_get_dec
          exact ⟨n, by omega, x + 1, by omega, hu, rfl, by omega, rfl⟩
        · rw [if_neg (by rw [e]; simp)] at hu
          subst hu
          repeat array_get_dec
          exact ⟨rfl, rfl⟩
      · obtain rfl : n = 0 := by omega
        obtain rfl : x = f' := hu
        repeat array_get_dec
        exact ⟨rfl, rfl⟩
    rintro ev2 H2 ⟨rfl, rfl⟩
    repeat array_get_dec
    refine WP1.ifs ?_
    refine WPT.mid (fun b H2 => H1 = H2 ∧ b = decide (a' > a ∨ f' > f)) ?_ ?_
    · repeat array_get_dec
      refine go_dec (fun h => ?_) (fun h => ?_)
      · repeat array_get_dec
        exact ⟨rfl, by simp; omega⟩
      · repeat array_get_dec
        refine go_dec (fun h' => ?_) (fun h' => ?_)
        · repeat array_get_dec
          exact ⟨rfl, by simp; omega⟩
        · repeat array_get_dec
          exact ⟨rfl, by simp; omega⟩
    rintro b H2 ⟨rfl, rfl⟩
    refine go_dec (fun h => ?_) (fun h => ?_)
    · rw [if_pos h] at hc
      obtain ⟨rest', hc', rfl⟩ := Option.map_eq_some_iff.mp hc
      repeat array_get_dec
      refine ⟨n, by omega, a', f', done ++ [(a, a', f, f')], rest', hc', by simp, ⟨_, _, rfl⟩, (by sizeOf_list_dec), _, (by decreasing_trivial_pre_omega), ?_⟩
      refine All2.app (r1.mono fun m k ⟨i, ni, e, hi⟩ => ⟨i, ni, e, (by decreasing_trivial_pre_omega)⟩) (.cons ⟨_, ?_, rfl, ?_⟩ .nil)
      · omega
      · exact at_eq (by decreasing_trivial_pre_omega) (by rfl)
    · rw [if_neg h] at hc
      have ga' := upF_ge (fun i => g.getD i false) (g.length - a) a
      have gf' := upF_ge (fun i => c.getD i false) (c.length - f) f
      obtain rfl : a = a' := by omega
      obtain rfl : f = f' := by omega
      repeat array_get_dec
      exact ⟨n, by omega, a + 1, f + 1, done, rest, hc, rfl, ⟨_, _, rfl⟩, x1, vs, hv, r1⟩
  · rintro ev1 H1 ⟨⟨x, y, z, w, rfl⟩, x1, vs, hv, r1⟩
    repeat array_get_dec
    exact ⟨x1, _, vs, rfl, Nat.le_refl _, hv, r1.mono fun m k ⟨i, _, e, h⟩ => ⟨i, e, h⟩⟩
end
abbrev Dct := List (Int × Int)
def dE (D : Dct) : List (Int × MV) := D.map fun e => (e.1, .int e.2)
abbrev DI (D : Dct) : MObj := .dI (dE D)
def dhas (D : Dct) (k : Int) : Bool := D.any fun e => decide (e.1 = k)
def dget (D : Dct) (k : Int) : Option Int := (D.find? fun e => decide (e.1 = k)).map (·.2)
def dset (k v : Int) : Dct → Dct
  | [] => [(k, v)]
  | (x, w) :: r => if x = k then (x, v) :: r else (x, w) :: dset k v r
theorem dE_any (D : Dct) (k : Int) : ((dE D).any fun e => decide (e.1 = k)) = dhas D k := by unfold dE dhas; rw [List.any_map]; rfl
theorem dE_find {D : Dct} {k v : Int} (h : dget D k = some v) : ((dE D).find? fun e => decide (e.1 = k)).map (·.2) = some (.int v) := by
  unfold dget at h; unfold dE
  rw [List.find?_map]
  obtain ⟨e, h1, h2⟩ := Option.map_eq_some_iff.mp h
  show Option.map _ (Option.map _ (List.find? (fun e : Int × Int => decide (e.1 = k)) D)) = _
  rw [h1]; simp [h2]
theorem dE_set (k v : Int) : ∀ D : Dct, setD k (.int v) (dE D) = dE (dset k v D)
  | [] => rfl
  | (x, w) :: r => by
    show (if x = k then _ else _) = dE (if x = k then _ else _)
    split
    · rfl
    · show _ :: setD k (.int v) (dE r) = _
      rw [dE_set k v r]; rfl
theorem dset_len (k v : Int) : ∀ D : Dct, (dset k v D).length ≤ D.length + 1
  | [] => by simp [dset]
  | (x, w) :: r => by
    unfold dset; split
    · simp
    · have := dset_len k v r; simp; omega
def fur (D : Dct) (lane : Int) : Option Int :=
  if dhas D (lane - 1) then
    (if dhas D (lane + 1) then (dget D (lane - 1)).bind fun x => (dget D (lane + 1)).map fun y => if y > x + 1 then y else x + 1
     else (dget D (lane - 1)).map (· + 1))
  else dget D (lane + 1)
section
variable {B : Bs} {d : Nat} {H : List MObj}
theorem further_ok {j : Nat} {D : Dct} {lane v : Int} (hd : 0 < d) (hj : H[j]? = some (DI D)) (e : fur D lane = some v) : WPF B d (.con (.ref 234)) [.ref j, .int lane] H (fun r H' => H = H' ∧ r = .int v) := by
  refine WPF.fn fn234 (by omega) rfl ?_
  rw [ie234]
  refine WPS.cons ?_
  unfold fur at e
  refine WP1.ifs ?_
  repeat array_get_dec
  rw [dE_any]
  refine ⟨fun h => ?_, fun h => ?_⟩
  · rw [if_neg (by simpa using h)] at e
    repeat array_get_dec
    refine sub_dI hj (dE_find e) ?_
    exact ⟨rfl, rfl⟩
  rw [if_pos (by simpa using h)] at e
  repeat array_get_dec
  refine WP1.ifs ?_
  repeat array_get_dec
  rw [dE_any]
  refine ⟨fun h' => ?_, fun h' => ?_⟩
  · rw [if_neg (by simpa using h')] at e
    obtain ⟨x, hx, rfl⟩ := Option.map_eq_some_iff.mp e
    repeat array_get_dec
    refine sub_dI hj (dE_find hx) ?_
    repeat array_get_dec
    exact ⟨rfl, rfl⟩
  rw [if_pos (by simpa using h')] at e
  obtain ⟨x, hx, e⟩ := Option.bind_eq_some_iff.mp e
  obtain ⟨y, hy, rfl⟩ := Option.map_eq_some_iff.mp e
  repeat array_get_dec
  refine sub_dI hj (dE_find hx) ?_
  repeat array_get_dec
  refine sub_dI hj (dE_find hy) ?_
  repeat array_get_dec
  exact ⟨rfl, rfl⟩
end
def getI (ns : List Nat) (k : Int) : Option Nat := if 0 ≤ k then ns[k.toNat]? else none
def walkG (p : Int → Option Bool) (wide tall lane : Int) : Nat → Int → Option Int
  | fuel, a => if a < wide ∧ a - lane < tall then
      (match p a with
      | none => none
      | some false => some a
      | some true => match fuel with
        | 0 => none
        | n + 1 => walkG p wide tall lane n (a + 1))
    else some a
inductive Stp where
  | out (x y : Int)
  | on (D : Dct)
def loopL (f : Dct → Int → Option Stp) : List Int → Dct → Option Stp
  | [], D => some (.on D)
  | l :: ls, D => match f D l with
    | none => none
    | some (.out x y) => some (.out x y)
    | some (.on D') => loopL f ls D'
def rangeI (x c : Int) : Nat → List Int
  | 0 => []
  | n + 1 => x :: rangeI (x + c) c n
theorem rangeL_I (c : Int) : ∀ (n : Nat) (x : Int), rangeL x c n = (rangeI x c n).map .int
  | 0, _ => rfl
  | n + 1, x => by unfold rangeL rangeI; rw [rangeL_I c n]; rfl
def pF (na nb : List Nat) (al bl : Nat) (lane : Int) (a : Int) : Option Bool := (getI na (al + a)).bind fun x => (getI nb (bl + a - lane)).map fun y => decide (x = y)
def pB (na nb : List Nat) (ah bh : Nat) (lane : Int) (a : Int) : Option Bool := (getI na (ah - 1 - a)).bind fun x => (getI nb (bh - 1 - a + lane)).map fun y => decide (x = y)
/-- one lane: D is the side that walks, O the other -/
def laneS (p : Int → Int → Option Bool) (wide tall : Int) (par : Int) (O : Dct) (out : Int → Int → Stp) (D : Dct) (lane : Int) : Option Stp :=
  if D.length ≥ 1000 then none else (fur D lane).bind fun a0 => (walkG (p lane) wide tall lane 60 a0).bind fun a =>
    if (wide - tall).fmod 2 = par ∧ dhas O (wide - tall - lane) = true then
      (dget O (wide - tall - lane)).map fun o => if a + o ≥ wide then out a lane else .on (dset lane a D)
    else some (.on (dset lane a D))
def lanesOf (m : Int) : List Int := rangeI (-m) 2 (Builtin.Range.rangeSize (-m) (m + 1) 2).toNat
def manyL (na nb : List Nat) (al ah bl bh : Nat) : List Int → Dct → Dct → Option (Int × Int)
  | [], _, _ => none
  | m :: ms, Da, Db => if ¬ (0 ≤ m ∧ m ≤ 1000) then none else match loopL (laneS (pF na nb al bl) (ah - al) (bh - bl) 1 Db fun a l => .out (al + a) (bl + a - l)) (lanesOf m) Da with
    | none => none
    | some (.out x y) => some (x, y)
    | some (.on Da') => match loopL (laneS (pB na nb ah bh) (ah - al) (bh - bl) 0 Da' fun a l => .out (ah - a) (bh - a + l)) (lanesOf m) Db with
      | none => none
      | some (.out x y) => some (x, y)
      | some (.on Db') => manyL na nb al ah bl bh ms Da' Db'
def halvedS (na nb : List Nat) (al ah bl bh : Nat) : Option (Int × Int) :=
  manyL na nb al ah bl bh (rangeI 1 1 (Builtin.Range.rangeSize 1 (Int.fdiv ((ah : Int) - al + (bh - bl) + 1) 2 + 1) 1).toNat) [(0, 0)] [(0, 0)]
theorem sub_getI {H : List MObj} {Q : MV → List MObj → Prop} {j : Nat} {k : Int} {ns : List Nat} {u : Nat} (h1 : H[j]? = some (Ns ns)) (e : getI ns k = some u) (h2 : ns.length ≤ 1000) (h : Q (.int (u : Int)) H) : subM (.ref j) (.int k) H Q := by
  unfold getI at e
  split at e
  · rename_i h0
    obtain ⟨n, rfl⟩ := Int.eq_ofNat_of_zero_le h0
    have e' : ns[n]? = some u := e
    exact sub_at n rfl h1 (by simp; omega) (by rw [List.getElem?_map, e']; rfl) h
  · cases e
section
variable {B : Bs} {d : Nat} {H : List MObj} {s ia ib ig ic : Nat} {na nb : List Nat} {g c : List Bool}
theorem halved_ok {al ah bl bh : Nat} {x y : Int} (hd : 2 ≤ d) (S : Sh s ia ib ig ic H na nb g c) (hl : na.length + nb.length ≤ 1000) (ha : ah ≤ na.length) (hb : bh ≤ nb.length) (ha' : al ≤ ah) (hb' : bl ≤ bh) (e : halvedS na nb al ah bl bh = some (x, y)) :
    WPF B d (.con (.ref 178)) [.ref s, pt al ah bl bh] H (fun r H' => Ext H H' ∧ r = .tup [.int x, .int y]) := by
  have S0 := S
  obtain ⟨h1, h2, h3, h4, h5, ne⟩ := S
  refine WPF.fn fn178 (by omega) rfl ?_
  rw [ie178]
  refine WPS.cons ?_
  unfold pt
  repeat array_get_dec
  have hq : ∀ X : Int, 0 ≤ X → X.fdiv 2 = X / 2 := fun X h => Int.fdiv_eq_ediv_of_nonneg _ (by decide)
  unfold halvedS at e
  rw [hq _ (by omega)] at e ⊢
  refine go_range rfl (by decide) (small1 ⟨⟨by omega, by omega⟩, by omega, by omega⟩) ?_
  refine ForS.ind (fun ms ev1 H1 => ∃ items Da Db, ms = items.map .int ∧ manyL na nb al ah bl bh items Da Db = some (x, y) ∧ (∃ m l t, ev1 = [.ref s, pt al ah bl bh, .int al, .int ah, .int bl, .int bh, .int (ah - al), .int (bh - bl), .int (ah - al - (bh - bl)), .ref H.length, .ref (H.length + 1), m, l, t, .undef, .undef, .undef]) ∧ Ext H H1 ∧ H1[H.length]? = some (DI Da) ∧ H1[H.length + 1]? = some (DI Db)) ?_ ?_
    ⟨_, [(0, 0)], [(0, 0)], rangeL_I _ _ _, e, ⟨_, _, _, by rw [show (H ++ [MObj.dI [(0, MV.int 0)]]).length = H.length + 1 from by simp]; rfl⟩, (by sizeOf_list_dec), at_eq (by decreasing_trivial_pre_omega) (by rfl), at_eq (by decreasing_trivial_pre_omega) (by rfl)⟩
  · rintro ev1 H1 ⟨items, Da, Db, e1, e2, _⟩
    cases items with
    | nil => cases e2
    | cons a b => cases e1
  rintro m0 ms ev1 H1 ⟨items, Da, Db, e1, e2, ⟨m1, l1, t1, rfl⟩, x1, k1, k2⟩
  cases items with
  | nil => cases e1
  | cons m items =>
  simp only [List.map_cons, List.cons.injEq] at e1
  obtain ⟨rfl, rfl⟩ := e1
  unfold manyL at e2
  split at e2
  · cases e2
  rename_i hm
  have hm : 0 ≤ m ∧ m ≤ 1000 := Classical.not_not.mp hm
  unfold pt
  repeat array_get_dec
  have hsm : Builtin.Range.small (-m) (m + 1) 2 = true := by
    have hrs : Builtin.Range.rangeSize (-m) (m + 1) 2 = m + 1 := by
      unfold Builtin.Range.rangeSize; rw [if_pos (by decide)]; split <;> omega
    unfold Builtin.Range.small
    rw [hrs]
    simp only [Builtin.Range.rangeFitsLong, Bool.and_eq_true, Bool.or_eq_true, decide_eq_true_eq, beq_iff_eq, show (2 : Int) > 0 by decide, if_true]
    omega
  refine go_range rfl (by decide) hsm ?_
  obtain ⟨RF, hRF⟩ : ∃ R, loopL (laneS (pF na nb al bl) (ah - al) (bh - bl) 1 Db fun a l => .out (al + a) (bl + a - l)) (lanesOf m) Da = some R := by
    cases hh : loopL (laneS (pF na nb al bl) (ah - al) (bh - bl) 1 Db fun a l => .out (al + a) (bl + a - l)) (lanesOf m) Da with
    | none => rw [hh] at e2; cases e2
    | some R => exact ⟨R, rfl⟩
  rw [hRF] at e2
  have houtF : ∀ u v, RF = .out u v → ∀ H2, Ext H H2 → Ext H H2 ∧ MV.tup [.int u, .int v] = .tup [.int x, .int y] := by
    rintro u v rfl H2 h
    cases e2
    exact ⟨h, rfl⟩
  refine ForS.ind (fun ms ev2 H2 => ∃ lanes D1, ms = lanes.map .int ∧ loopL (laneS (pF na nb al bl) (ah - al) (bh - bl) 1 Db (fun a l => .out (al + a) (bl + a - l))) lanes D1 = some RF ∧ (∃ l t, ev2 = [.ref s, pt al ah bl bh, .int al, .int ah, .int bl, .int bh, .int (ah - al), .int (bh - bl), .int (ah - al - (bh - bl)), .ref H.length, .ref (H.length + 1), .int m, l, t, .undef, .undef, .undef]) ∧ Ext H H2 ∧ H2[H.length]? = some (DI D1) ∧ H2[H.length + 1]? = some (DI Db)) ?_ ?_
        ⟨_, Da, rangeL_I _ _ _, hRF, ⟨_, _, rfl⟩, x1, k1, k2⟩
  rotate_left
  · rintro ml msl ev2 H2 ⟨lanes, D1, e1, e2, ⟨l, t, rfl⟩, x2, q1, q2⟩
    cases lanes with
    | nil => cases e1
    | cons lane lanes =>
    simp only [List.map_cons, List.cons.injEq] at e1
    obtain ⟨rfl, rfl⟩ := e1
    unfold loopL at e2
    have g1 := x2 _ _ h1
    have g2 := x2 _ _ h2
    have g3 := x2 _ _ h3
    have y1 := lt_of_at q1
    have y2 := lt_of_at q2
    obtain ⟨st, hst⟩ : ∃ st, laneS (pF na nb al bl) (ah - al) (bh - bl) 1 Db (fun a l => .out (al + a) (bl + a - l)) D1 lane = some st := by
      cases hh : laneS (pF na nb al bl) (ah - al) (bh - bl) 1 Db (fun a l => .out (al + a) (bl + a - l)) D1 lane with
      | none => rw [hh] at e2; cases e2
      | some st => exact ⟨st, rfl⟩
    rw [hst] at e2
    unfold laneS at hst
    split at hst
    · cases hst
    rename_i hsz
    obtain ⟨a0, ha0, hst⟩ := Option.bind_eq_some_iff.mp hst
    obtain ⟨a9, ha9, hst⟩ := Option.bind_eq_some_iff.mp hst
    unfold pt
    repeat array_get_dec
    refine WPV.mono (further_ok (by omega) q1 ha0).vc ?_
    rintro r H3 ⟨rfl, rfl⟩
    repeat array_get_dec
    refine WP1.mid (fun ev3 H3 => H2 = H3 ∧ ev3 = [.ref s, pt al ah bl bh, .int al, .int ah, .int bl, .int bh, .int (ah - al), .int (bh - bl), .int (ah - al - (bh - bl)), .ref H.length, .ref (H.length + 1), .int m, .int lane, .int a9, .undef, .undef, .undef]) ?_ ?_
    · refine WP1.whileI (fun n ev3 H3 => ∃ a, walkG ((pF na nb al bl) lane) (ah - al) (bh - bl) lane n a = some a9 ∧ H2 = H3 ∧ ev3 = [.ref s, pt al ah bl bh, .int al, .int ah, .int bl, .int bh, .int (ah - al), .int (bh - bl), .int (ah - al - (bh - bl)), .ref H.length, .ref (H.length + 1), .int m, .int lane, .int a, .undef, .undef, .undef]) 60 ⟨a0, ha9, rfl, rfl⟩ ?_
      rintro n ev3 H3 ⟨a, hw, rfl, rfl⟩
      unfold walkG at hw
      repeat array_get_dec
      refine go_dec (fun t1 => ?_) (fun t1 => ?_)
      · repeat array_get_dec
        refine go_dec (fun t2 => ?_) (fun t2 => ?_)
        · rw [if_pos ⟨t1, t2⟩] at hw
          obtain ⟨b, hb⟩ : ∃ b, (pF na nb al bl) lane a = some b := by
            cases hh : (pF na nb al bl) lane a with
            | none => rw [hh] at hw; cases hw
            | some b => exact ⟨b, rfl⟩
          rw [hb] at hw
          unfold pF at hb
          obtain ⟨u, hu, hb⟩ := Option.bind_eq_some_iff.mp hb
          obtain ⟨v, hv, rfl⟩ := Option.map_eq_some_iff.mp hb
          repeat array_get_dec
          refine sub_getI g2 hu (by omega) ?_
          repeat array_get_dec
          refine sub_getI g3 hv (by omega) ?_
          repeat array_get_dec
          refine go_dec (fun t3 => ?_) (fun t3 => ?_)
          · rw [decide_eq_true (by omega : u = v)] at hw
            cases n with
            | zero => cases hw
            | succ n =>
            repeat array_get_dec
            exact ⟨n, by omega, a + 1, hw, rfl, rfl⟩
          · rw [decide_eq_false (by omega : ¬ u = v)] at hw
            cases hw
            repeat array_get_dec
            exact ⟨rfl, rfl⟩
        · rw [if_neg (fun q => t2 q.2)] at hw
          cases hw
          repeat array_get_dec
          exact ⟨rfl, rfl⟩
      · rw [if_neg (fun q => t1 q.1)] at hw
        cases hw
        repeat array_get_dec
        exact ⟨rfl, rfl⟩
    rintro ev3 H3 ⟨rfl, rfl⟩
    repeat array_get_dec
    refine set_dI q1 (by simp [dE]; omega) ?_
    rw [dE_set]
    have w1 : (H2.set H.length (DI (dset lane a9 D1)))[H.length + 1]? = some (DI Db) := at_set_ne q2 (by omega)
    have w2 : (H2.set H.length (DI (dset lane a9 D1)))[H.length]? = some (DI (dset lane a9 D1)) := at_set (by omega)
    repeat array_get_dec
    refine WP1.ifs ?_
    repeat array_get_dec
    have fin : st = .on (dset lane a9 D1) → True ∧ ∃ lanes9 D9, List.map MV.int lanes = lanes9.map .int ∧ loopL (laneS (pF na nb al bl) (ah - al) (bh - bl) 1 Db (fun a l => .out (al + a) (bl + a - l))) lanes9 D9 = some RF ∧ (∃ l t, ([.ref s, pt al ah bl bh, .int al, .int ah, .int bl, .int bh, .int (ah - al), .int (bh - bl), .int (ah - al - (bh - bl)), .ref H.length, .ref (H.length + 1), .int m, .int lane, .int a9, .undef, .undef, .undef] : List MV) = [.ref s, pt al ah bl bh, .int al, .int ah, .int bl, .int bh, .int (ah - al), .int (bh - bl), .int (ah - al - (bh - bl)), .ref H.length, .ref (H.length + 1), .int m, l, t, .undef, .undef, .undef]) ∧ Ext H (H2.set H.length (DI (dset lane a9 D1))) ∧ (H2.set H.length (DI (dset lane a9 D1)))[H.length]? = some (DI D9) ∧ (H2.set H.length (DI (dset lane a9 D1)))[H.length + 1]? = some (DI Db) := by
      rintro rfl
      refine ⟨True.intro, lanes, _, rfl, e2, ⟨_, _, rfl⟩, x2.set_new (by omega), w2, w1⟩
    refine go_dec (fun t1 => ?_) (fun t1 => ?_)
    · repeat array_get_dec
      rw [dE_any]
      refine ⟨fun t2 => ?_, fun t2 => ?_⟩
      · rw [if_pos ⟨t1, t2⟩] at hst
        obtain ⟨o, ho, hst⟩ := Option.map_eq_some_iff.mp hst
        repeat array_get_dec
        refine sub_dI w1 (dE_find ho) ?_
        repeat array_get_dec
        refine go_dec (fun t3 => ?_) (fun t3 => ?_)
        · rw [if_pos t3] at hst
          repeat array_get_dec
          subst hst
          cases e2
          exact houtF _ _ rfl _ (x2.set_new (by omega))
        · rw [if_neg t3] at hst
          repeat array_get_dec
          exact fin hst.symm
      · rw [if_neg (fun q => by rw [q.2] at t2; cases t2)] at hst
        repeat array_get_dec
        exact fin (Option.some.inj hst).symm
    · rw [if_neg (fun q => t1 q.1)] at hst
      repeat array_get_dec
      exact fin (Option.some.inj hst).symm
  rintro ev2 H2 ⟨lanes, D1, e3, e4, ⟨l, t, rfl⟩, x2, q1, q2⟩
  cases lanes with
  | cons a b => cases e3
  | nil =>
  cases e4
  simp only at e2
  unfold pt
  repeat array_get_dec
  refine go_range rfl (by decide) hsm ?_
  generalize D1 = DA at e2 q1
  obtain ⟨RF, hRF⟩ : ∃ R, loopL (laneS (pB na nb ah bh) (ah - al) (bh - bl) 0 DA fun a l => .out (ah - a) (bh - a + l)) (lanesOf m) Db = some R := by
    cases hh : loopL (laneS (pB na nb ah bh) (ah - al) (bh - bl) 0 DA fun a l => .out (ah - a) (bh - a + l)) (lanesOf m) Db with
    | none => rw [hh] at e2; cases e2
    | some R => exact ⟨R, rfl⟩
  rw [hRF] at e2
  have houtF : ∀ u v, RF = .out u v → ∀ H2, Ext H H2 → Ext H H2 ∧ MV.tup [.int u, .int v] = .tup [.int x, .int y] := by
    rintro u v rfl H2 h
    cases e2
    exact ⟨h, rfl⟩
  refine ForS.ind (fun ms ev2 H2 => ∃ lanes D1, ms = lanes.map .int ∧ loopL (laneS (pB na nb ah bh) (ah - al) (bh - bl) 0 DA (fun a l => .out (ah - a) (bh - a + l))) lanes D1 = some RF ∧ (∃ l t, ev2 = [.ref s, pt al ah bl bh, .int al, .int ah, .int bl, .int bh, .int (ah - al), .int (bh - bl), .int (ah - al - (bh - bl)), .ref H.length, .ref (H.length + 1), .int m, l, t, .undef, .undef, .undef]) ∧ Ext H H2 ∧ H2[H.length]? = some (DI DA) ∧ H2[H.length + 1]? = some (DI D1)) ?_ ?_
        ⟨_, Db, rangeL_I _ _ _, hRF, ⟨_, _, rfl⟩, x2, q1, q2⟩
  rotate_left
  · rintro ml msl ev2 H2 ⟨lanes, D1, e1, e2, ⟨l, t, rfl⟩, x2, q1, q2⟩
    cases lanes with
    | nil => cases e1
    | cons lane lanes =>
    simp only [List.map_cons, List.cons.injEq] at e1
    obtain ⟨rfl, rfl⟩ := e1
    unfold loopL at e2
    have g1 := x2 _ _ h1
    have g2 := x2 _ _ h2
    have g3 := x2 _ _ h3
    have y1 := lt_of_at q1
    have y2 := lt_of_at q2
    obtain ⟨st, hst⟩ : ∃ st, laneS (pB na nb ah bh) (ah - al) (bh - bl) 0 DA (fun a l => .out (ah - a) (bh - a + l)) D1 lane = some st := by
      cases hh : laneS (pB na nb ah bh) (ah - al) (bh - bl) 0 DA (fun a l => .out (ah - a) (bh - a + l)) D1 lane with
      | none => rw [hh] at e2; cases e2
      | some st => exact ⟨st, rfl⟩
    rw [hst] at e2
    unfold laneS at hst
    split at hst
    · cases hst
    rename_i hsz
    obtain ⟨a0, ha0, hst⟩ := Option.bind_eq_some_iff.mp hst
    obtain ⟨a9, ha9, hst⟩ := Option.bind_eq_some_iff.mp hst
    unfold pt
    repeat array_get_dec
    refine WPV.mono (further_ok (by omega) q2 ha0).vc ?_
    rintro r H3 ⟨rfl, rfl⟩
    repeat array_get_dec
    refine WP1.mid (fun ev3 H3 => H2 = H3 ∧ ev3 = [.ref s, pt al ah bl bh, .int al, .int ah, .int bl, .int bh, .int (ah - al), .int (bh - bl), .int (ah - al - (bh - bl)), .ref H.length, .ref (H.length + 1), .int m, .int lane, .int a9, .undef, .undef, .undef]) ?_ ?_
    · refine WP1.whileI (fun n ev3 H3 => ∃ a, walkG ((pB na nb ah bh) lane) (ah - al) (bh - bl) lane n a = some a9 ∧ H2 = H3 ∧ ev3 = [.ref s, pt al ah bl bh, .int al, .int ah, .int bl, .int bh, .int (ah - al), .int (bh - bl), .int (ah - al - (bh - bl)), .ref H.length, .ref (H.length + 1), .int m, .int lane, .int a, .undef, .undef, .undef]) 60 ⟨a0, ha9, rfl, rfl⟩ ?_
      rintro n ev3 H3 ⟨a, hw, rfl, rfl⟩
      unfold walkG at hw
      repeat array_get_dec
      refine go_dec (fun t1 => ?_) (fun t1 => ?_)
      · repeat array_get_dec
        refine go_dec (fun t2 => ?_) (fun t2 => ?_)
        · rw [if_pos ⟨t1, t2⟩] at hw
          obtain ⟨b, hb⟩ : ∃ b, (pB na nb ah bh) lane a = some b := by
            cases hh : (pB na nb ah bh) lane a with
            | none => rw [hh] at hw; cases hw
            | some b => exact ⟨b, rfl⟩
          rw [hb] at hw
          unfold pB at hb
          obtain ⟨u, hu, hb⟩ := Option.bind_eq_some_iff.mp hb
          obtain ⟨v, hv, rfl⟩ := Option.map_eq_some_iff.mp hb
          repeat array_get_dec
          refine sub_getI g2 hu (by omega) ?_
          repeat array_get_dec
          refine sub_getI g3 hv (by omega) ?_
          repeat array_get_dec
          refine go_dec (fun t3 => ?_) (fun t3 => ?_)
          · rw [decide_eq_true (by omega : u = v)] at hw
            cases n with
            | zero => cases hw
            | succ n =>
            repeat array_get_dec
            exact ⟨n, by omega, a + 1, hw, rfl, rfl⟩
          · rw [decide_eq_false (by omega : ¬ u = v)] at hw
            cases hw
            repeat array_get_dec
            exact ⟨rfl, rfl⟩
        · rw [if_neg (fun q => t2 q.2)] at hw
          cases hw
          repeat array_get_dec
          exact ⟨rfl, rfl⟩
      · rw [if_neg (fun q => t1 q.1)] at hw
        cases hw
        repeat array_get_dec
        exact ⟨rfl, rfl⟩
    rintro ev3 H3 ⟨rfl, rfl⟩
    repeat array_get_dec
    refine set_dI q2 (by simp [dE]; omega) ?_
    rw [dE_set]
    have w1 : (H2.set (H.length + 1) (DI (dset lane a9 D1)))[H.length]? = some (DI DA) := at_set_ne q1 (by omega)
    have w2 : (H2.set (H.length + 1) (DI (dset lane a9 D1)))[H.length + 1]? = some (DI (dset lane a9 D1)) := at_set (by omega)
    repeat array_get_dec
    refine WP1.ifs ?_
    repeat array_get_dec
    have fin : st = .on (dset lane a9 D1) → True ∧ ∃ lanes9 D9, List.map MV.int lanes = lanes9.map .int ∧ loopL (laneS (pB na nb ah bh) (ah - al) (bh - bl) 0 DA (fun a l => .out (ah - a) (bh - a + l))) lanes9 D9 = some RF ∧ (∃ l t, ([.ref s, pt al ah bl bh, .int al, .int ah, .int bl, .int bh, .int (ah - al), .int (bh - bl), .int (ah - al - (bh - bl)), .ref H.length, .ref (H.length + 1), .int m, .int lane, .int a9, .undef, .undef, .undef] : List MV) = [.ref s, pt al ah bl bh, .int al, .int ah, .int bl, .int bh, .int (ah - al), .int (bh - bl), .int (ah - al - (bh - bl)), .ref H.length, .ref (H.length + 1), .int m, l, t, .undef, .undef, .undef]) ∧ Ext H (H2.set (H.length + 1) (DI (dset lane a9 D1))) ∧ (H2.set (H.length + 1) (DI (dset lane a9 D1)))[H.length]? = some (DI DA) ∧ (H2.set (H.length + 1) (DI (dset lane a9 D1)))[H.length + 1]? = some (DI D9) := by
      rintro rfl
      refine ⟨True.intro, lanes, _, rfl, e2, ⟨_, _, rfl⟩, x2.set_new (by omega), w1, w2⟩
    refine go_dec (fun t1 => ?_) (fun t1 => ?_)
    · repeat array_get_dec
      rw [dE_any]
      refine ⟨fun t2 => ?_, fun t2 => ?_⟩
      · rw [if_pos ⟨t1, t2⟩] at hst
        obtain ⟨o, ho, hst⟩ := Option.map_eq_some_iff.mp hst
        repeat array_get_dec
        refine sub_dI w1 (dE_find ho) ?_
        repeat array_get_dec
        refine go_dec (fun t3 => ?_) (fun t3 => ?_)
        · rw [if_pos t3] at hst
          repeat array_get_dec
          subst hst
          cases e2
          exact houtF _ _ rfl _ (x2.set_new (by omega))
        · rw [if_neg t3] at hst
          repeat array_get_dec
          exact fin hst.symm
      · rw [if_neg (fun q => by rw [q.2] at t2; cases t2)] at hst
        repeat array_get_dec
        exact fin (Option.some.inj hst).symm
    · rw [if_neg (fun q => t1 q.1)] at hst
      repeat array_get_dec
      exact fin (Option.some.inj hst).symm
  rintro ev2 H2 ⟨lanes, D1, e3, e4, ⟨l, t, rfl⟩, x2, q1, q2⟩
  cases lanes with
  | cons a b => cases e3
  | nil =>
  cases e4
  simp only at e2
  unfold pt
  repeat array_get_dec
  exact ⟨True.intro, items, DA, D1, rfl, e2, ⟨_, _, _, rfl⟩, x2, q1, q2⟩
end
abbrev Pt := Nat × Nat × Nat × Nat
def ptV (p : Pt) : MV := pt p.1 p.2.1 p.2.2.1 p.2.2.2
def fewS (na nb : List Nat) : Nat → List Pt → List Bool → List Bool → Option (List Bool × List Bool)
  | n, st, g, c =>
    match st with
    | [] => some (g, c)
    | (al, ah, bl, bh) :: r =>
      match n with
      | 0 => none
      | n + 1 =>
        if al ≤ ah ∧ ah ≤ na.length ∧ bl ≤ bh ∧ bh ≤ nb.length ∧ r.length ≤ 100 then
          let i := loN na nb al ah bl bh
          let j := hiN na nb (al + i) ah (bl + i) bh
          if al + i = ah - j ∨ bl + i = bh - j then fewS na nb n r (markB g (al + i) (ah - j - (al + i))) (markB c (bl + i) (bh - j - (bl + i)))
          else match halvedS na nb (al + i) (ah - j) (bl + i) (bh - j) with
            | none => none
            | some (x, y) => if 0 ≤ x ∧ 0 ≤ y then fewS na nb n ((x.toNat, ah - j, y.toNat, bh - j) :: (al + i, x.toNat, bl + i, y.toNat) :: r) g c else none
        else none
section
variable {B : Bs} {d : Nat} {H : List MObj} {s ia ib ig ic : Nat} {na nb : List Nat} {g c : List Bool}
theorem Sh.ext {H' : List MObj} (S : Sh s ia ib ig ic H na nb g c) (x : Ext H H') : Sh s ia ib ig ic H' na nb g c := ⟨x _ _ S.hs, x _ _ S.ha, x _ _ S.hb, x _ _ S.hg, x _ _ S.hc, S.ne⟩
theorem Sh.set {j : Nat} {o : MObj} (S : Sh s ia ib ig ic H na nb g c) (h : j ≠ s ∧ j ≠ ia ∧ j ≠ ib ∧ j ≠ ig ∧ j ≠ ic) : Sh s ia ib ig ic (H.set j o) na nb g c :=
  ⟨at_set_ne S.hs h.1, at_set_ne S.ha h.2.1, at_set_ne S.hb h.2.2.1, at_set_ne S.hg h.2.2.2.1, at_set_ne S.hc h.2.2.2.2, S.ne⟩
theorem Sh.lt (S : Sh s ia ib ig ic H na nb g c) : s < H.length ∧ ia < H.length ∧ ib < H.length ∧ ig < H.length ∧ ic < H.length := ⟨lt_of_at S.hs, lt_of_at S.ha, lt_of_at S.hb, lt_of_at S.hg, lt_of_at S.hc⟩
theorem pop_st {j : Nat} {p : Pt} {st : List Pt} {Q : MV → List MObj → Prop} (hj : H[j]? = some (.list ((p :: st).reverse.map ptV))) (hs : st.length ≤ 1000) (h : Q (ptV p) (H.set j (.list (st.reverse.map ptV)))) : WPV B d (.con (.builtin "list.pop")) [.ref j] H Q := by
  have e : (p :: st).reverse.map ptV = st.reverse.map ptV ++ [ptV p] := by simp
  rw [e] at hj
  refine WPV.pop hj (by simp; omega) (m := ptV p) (by simp) ?_
  have e2 : (st.reverse.map ptV ++ [ptV p]).eraseIdx ((st.reverse.map ptV ++ [ptV p]).length - 1) = st.reverse.map ptV := by
    rw [List.length_append, List.eraseIdx_append_of_length_le (by simp)]; simp
  rw [e2]; exact h
theorem few_ok {al ah bl bh n : Nat} {G C : List Bool} (hd : 6 ≤ d) (S : Sh s ia ib ig ic H na nb g c) (hl : na.length + nb.length ≤ 900) (lg : g.length = na.length) (lc : c.length = nb.length) (e : fewS na nb n [(al, ah, bl, bh)] g c = some (G, C)) :
    WPF B d (.con (.ref 185)) [.ref s, pt al ah bl bh] H (fun r H' => (ExtM [ig, ic] H H' ∧ H.length ≤ H'.length) ∧ Sh s ia ib ig ic H' na nb G C ∧ r = .none) := by
  have S0 := S
  have y0 := S.lt
  obtain ⟨h1, h2, h3, h4, h5, ne⟩ := S
  refine WPF.fn fn185 (by omega) rfl ?_
  rw [ie185]
  refine WPS.cons ?_
  repeat array_get_dec
  refine WP1.whileI (fun n ev1 H1 => ∃ st g' c', fewS na nb n st g' c' = some (G, C) ∧ g'.length = na.length ∧ c'.length = nb.length ∧ (∃ a1 a2 a3 a4 a5 a6, ev1 = [.ref s, pt al ah bl bh, .ref H.length, a1, a2, a3, a4, a5, a6]) ∧ ExtM [ig, ic] H H1 ∧ H.length < H1.length ∧ H1[H.length]? = some (.list (st.reverse.map ptV)) ∧ Sh s ia ib ig ic H1 na nb g' c') n
    ⟨[(al, ah, bl, bh)], g, c, e, lg, lc, ⟨_, _, _, _, _, _, rfl⟩, Ext.toM (by sizeOf_list_dec), by simp, at_eq (by decreasing_trivial_pre_omega) (by rfl), S0.ext (by sizeOf_list_dec)⟩ ?_
  clear h1 h2 h3 h4 h5
  rintro n ev1 H1 ⟨st, g', c', e1, lg', lc', ⟨a1, a2, a3, a4, a5, a6, rfl⟩, x1, l1, hw, S1⟩
  repeat array_get_dec
  replace S1 := S1.ext (Ext.app _ [.list []])
  replace hw := at_app (X := [.list []]) hw
  replace x1 := x1.app' (X := [.list []])
  replace l1 : H.length < (H1 ++ [MObj.list []]).length := by simp; omega
  generalize H1 ++ [MObj.list []] = H1 at S1 hw x1 l1 ⊢
  have hsh := S1.lt
  refine go_dec (fun h => ?_) (fun h => ?_)
  rotate_left
  · obtain rfl : st = [] := by simpa using h
    unfold fewS at e1
    cases e1
    repeat array_get_dec
    exact ⟨⟨x1, by omega⟩, S1, rfl⟩
  cases st with
  | nil => exact absurd rfl h
  | cons p st =>
  obtain ⟨al1, ah1, bl1, bh1⟩ := p
  cases n with
  | zero => unfold fewS at e1; cases e1
  | succ n =>
  unfold fewS at e1
  simp only at e1
  split at e1
  rotate_left
  · cases e1
  rename_i hg
  obtain ⟨k1, k2, k3, k4, k5⟩ := hg
  obtain ⟨i, hi⟩ : ∃ i, loN na nb al1 ah1 bl1 bh1 = i := ⟨_, rfl⟩
  rw [hi] at e1
  obtain ⟨j, hj⟩ : ∃ j, hiN na nb (al1 + i) ah1 (bl1 + i) bh1 = j := ⟨_, rfl⟩
  rw [hj] at e1
  have q1 := upF_le (fun i => decide (na.getD (al1 + i) 0 = nb.getD (bl1 + i) 0)) (min (ah1 - al1) (bh1 - bl1)) 0
  have q2 := upF_le (fun i_1 => decide (na.getD (ah1 - 1 - i_1) 0 = nb.getD (bh1 - 1 - i_1) 0)) (min (ah1 - (al1 + i)) (bh1 - (bl1 + i))) 0
  unfold loN at hi
  unfold hiN at hj
  have q1' : i ≤ min (ah1 - al1) (bh1 - bl1) := by omega
  have q2' : j ≤ min (ah1 - (al1 + i)) (bh1 - (bl1 + i)) := by omega
  clear q1 q2
  obtain ⟨sh1, sh2, sh3, sh4, sh5, -⟩ := id S1
  repeat array_get_dec
  refine pop_st hw (by omega) ?_
  have S2 := S1.set (j := H.length) (o := .list (st.reverse.map ptV)) (by omega)
  have hw2 : (H1.set H.length (.list (st.reverse.map ptV)))[H.length]? = some (.list (st.reverse.map ptV)) := at_set l1
  have x2 : ExtM [ig, ic] H (H1.set H.length (.list (st.reverse.map ptV))) := x1.set_new (Nat.le_refl _)
  have l2 : H.length < (H1.set H.length (.list (st.reverse.map ptV))).length := by simpa using l1
  generalize H1.set H.length (.list (st.reverse.map ptV)) = H2 at S2 hw2 x2 l2 ⊢
  clear S1 hw x1 l1 sh1 sh2 sh3 sh4 sh5
  obtain ⟨sh1, sh2, sh3, sh4, sh5, -⟩ := id S2
  repeat array_get_dec
  refine WPV.mono (sheet_trimmed_ok (by omega) S2 (by omega) k2 k4 hi hj).vc ?_
  rintro r H3 ⟨rfl, rfl⟩
  unfold pt
  repeat array_get_dec
  refine WP1.ifs ?_
  refine WPT.mid (fun b H4 => H2 = H4 ∧ b = decide (al1 + i = ah1 - j ∨ bl1 + i = bh1 - j)) ?_ ?_
  · repeat array_get_dec
    refine go_dec (fun h => ?_) (fun h => ?_)
    · repeat array_get_dec
      exact ⟨rfl, by simp; omega⟩
    · repeat array_get_dec
      refine go_dec (fun h' => ?_) (fun h' => ?_)
      · repeat array_get_dec
        exact ⟨rfl, by simp; omega⟩
      · repeat array_get_dec
        exact ⟨rfl, by simp; omega⟩
  rintro b H4 ⟨rfl, rfl⟩
  refine go_dec (fun h => ?_) (fun h => ?_)
  · rw [if_pos h] at e1
    repeat array_get_dec
    refine WPV.mono (mark_ok (by omega) S2 (by omega) (by omega) (by omega) (by omega) (by omega)).vc ?_
    rintro r H5 ⟨⟨x5, l5⟩, S5, rfl⟩
    repeat array_get_dec
    exact ⟨n, by omega, st, _, _, e1, by rw [markB_len]; exact lg', by rw [markB_len]; exact lc', ⟨_, _, _, _, _, _, rfl⟩, x2.trans x5, by omega, x5 _ _ (by simp; omega) hw2, S5⟩
  · rw [if_neg h] at e1
    obtain ⟨⟨x, y⟩, hxy⟩ : ∃ p, halvedS na nb (al1 + i) (ah1 - j) (bl1 + i) (bh1 - j) = some p := by
      cases hh : halvedS na nb (al1 + i) (ah1 - j) (bl1 + i) (bh1 - j) with
      | none => rw [hh] at e1; cases e1
      | some p => exact ⟨p, rfl⟩
    rw [hxy] at e1
    simp only at e1
    split at e1
    rotate_left
    · cases e1
    rename_i hpos
    obtain ⟨x, rfl⟩ := Int.eq_ofNat_of_zero_le hpos.1
    obtain ⟨y, rfl⟩ := Int.eq_ofNat_of_zero_le hpos.2
    repeat array_get_dec
    refine WPV.mono (halved_ok (by omega) S2 (by omega) (by omega) (by omega) (by omega) (by omega) hxy).vc ?_
    rintro r H5 ⟨x5, rfl⟩
    have l5 := x5.len
    have hw5 := x5 _ _ hw2
    have S5 := S2.ext x5
    repeat array_get_dec
    refine ⟨n, by omega, (x, ah1 - j, y, bh1 - j) :: (al1 + i, x, bl1 + i, y) :: st, g', c', e1, lg', lc', ⟨_, _, _, _, _, _, rfl⟩, ?_, by simp; omega, at_eq (by decreasing_trivial_pre_omega) ?_, ?_⟩
    · exact ((x2.trans x5.toM).set_new (Nat.le_refl _)).set_new (Nat.le_refl _)
    · simp; exact ⟨rfl, rfl⟩
    · exact (S5.set (by omega)).set (by omega)
end
def myersS (a b : List Line) : Option (List Pt) :=
  (fewS (nums [] a).2 (nums (nums [] a).1 b).2 50 [(0, a.length, 0, b.length)] (List.replicate a.length false) (List.replicate b.length false)).bind fun r =>
    (chgF r.1 r.2 50 0 0).bind fun L => if L.length ≤ 50 ∧ r.1.length = a.length ∧ r.2.length = b.length then some L else none
theorem nums_len : ∀ (ls kn : List Line), (nums kn ls).2.length = ls.length
  | [], _ => rfl
  | x :: xs, kn => by show (nums (num kn x).1 xs).2.length + 1 = xs.length + 1; rw [nums_len xs]
section
variable {B : Bs} {d : Nat} {H : List MObj}
theorem myers_ok {la lb' : Nat} {a b : List Line} {L : List Pt} (hd : 8 ≤ d) (ha : H[la]? = some (Ls a)) (hb : H[lb']? = some (Ls b)) (hl : a.length + b.length ≤ 800) (e : myersS a b = some L) :
    WPF B d (.con (.ref 248)) [.ref la, .ref lb'] H (fun r H' => Ext H H' ∧ ∃ j vs, r = .ref j ∧ H.length ≤ j ∧ H'[j]? = some (.list vs) ∧ All2 (RCh H') vs L ∧ L.length ≤ 50) := by
  refine WPF.fn fn248 (by omega) rfl ?_
  rw [ie248]
  unfold myersS at e
  obtain ⟨⟨G, C⟩, e1, e⟩ := Option.bind_eq_some_iff.mp e
  obtain ⟨L', e2, e⟩ := Option.bind_eq_some_iff.mp e
  split at e
  rotate_left
  · cases e
  cases e
  rename_i hL
  refine WPS.cons ?_
  repeat array_get_dec
  refine sheet_new (by omega) ha hb (by omega) fun H1 ia ib ig ic x1 k1 k2 k3 k4 S1 => ?_
  have n1 := nums_len a []
  have n2 := nums_len b (nums [] a).1
  obtain ⟨sh1, sh2, sh3, sh4, sh5, ne⟩ := id S1
  repeat array_get_dec
  refine WPV.mono (whole_ok (by omega) S1 (by omega)).vc ?_
  rintro r H2 ⟨rfl, rfl⟩
  rw [n1, n2]
  repeat array_get_dec
  refine WPV.mono (few_ok (by omega) S1 (by omega) (by simp [n1]) (by simp [n2]) e1).vc ?_
  rintro r H3 ⟨⟨x3, l3⟩, S3, rfl⟩
  have x03 : Ext H H3 := fun i o hi => x3 i o (by have := lt_of_at hi; simp; omega) (x1 i o hi)
  obtain ⟨sh1', -⟩ := id S3
  repeat array_get_dec
  refine WPV.mono (changes_ok (by omega) S3 (by omega) (by rw [n1]; exact hL.2.1.symm) (by rw [n2]; exact hL.2.2.symm) (by omega) e2).vc ?_
  rintro r H4 ⟨x4, j, vs, rfl, hj, hv, r4⟩
  exact ⟨x03.trans x4, j, vs, rfl, by have := x03.len; omega, hv, r4, hL.1⟩
theorem cmp_streq {x y : Str} {r : Bool} {P : Bool → Prop} (hr : (x == y) = r) (h : P r) : cmpM .Eq (.str x) (.str y) H P := by show P (x == y); rw [hr]; exact h
theorem by_ok {la lb' : Nat} {a b : List Line} {L : List Pt} (hd : 9 ≤ d) (ha : H[la]? = some (Ls a)) (hb : H[lb']? = some (Ls b)) (hl : a.length + b.length ≤ 800) (e : myersS a b = some L) :
    WPF B d (.con (.ref 270)) [.str (Str.ofString "myers"), .ref la, .ref lb'] H (fun r H' => Ext H H' ∧ ∃ j vs, r = .ref j ∧ H.length ≤ j ∧ H'[j]? = some (.list vs) ∧ All2 (RCh H') vs L ∧ L.length ≤ 50) := by
  refine WPF.fn fn270 (by omega) rfl ?_
  rw [ie270]
  refine WPS.cons ?_
  refine WP1.ifs ?_
  repeat array_get_dec
  refine cmp_streq (r := true) (by rfl) (go_tt ?_)
  repeat array_get_dec
  exact WPV.mono (myers_ok (by omega) ha hb hl e).vc fun _ _ h => h
end
def parGo (o t : List Line) : Nat → List Pt → List Ck
  | p, [] => if p < o.length then [⟨.both, [], o.drop p, o.drop p⟩] else []
  | p, q :: r => (if q.1 > p then [⟨.both, [], (o.drop p).take (q.1 - p), (o.drop p).take (q.1 - p)⟩] else []) ++ (⟨.conflict, [], (o.drop q.1).take (q.2.1 - q.1), (t.drop q.2.2.1).take (q.2.2.2 - q.2.2.1)⟩ :: parGo o t q.2.1 r)
def parS (k : Ck) : Option (List Ck) := (myersS k.ours k.theirs).map (parGo k.ours k.theirs 0)
theorem RCh.set {H : List MObj} {j : Nat} {vs us : List MV} {m : MV} {k : Pt} (h : RCh H m k) (hj : H[j]? = some (.list vs)) : RCh (H.set j (.list us)) m k := by
  obtain ⟨i, e, hi⟩ := h
  refine ⟨i, e, at_set_ne hi ?_⟩
  rintro rfl
  rw [hj] at hi; cases hi
section
variable {B : Bs} {d : Nat} {H : List MObj}
theorem parted_ok {m : MV} {k : Ck} {ps : List Ck} (hd : 10 ≤ d) (hk : RCk H m k) (hs : k.small 300) (e : parS k = some ps) (hp : ps.length ≤ 200) :
    WPF B d (.con (.ref 312)) [m, .str (Str.ofString "myers")] H (fun r H' => Ext H H' ∧ ∃ j vs, r = .ref j ∧ H.length ≤ j ∧ H'[j]? = some (.list vs) ∧ All2 (RC (fun i => H.length < i) H') vs ps) := by
  obtain ⟨c, b, o, t, rfl, hc, hb, ho, ht⟩ := hk
  obtain ⟨s1, s2, s3⟩ := hs
  refine WPF.fn fn312 (by omega) rfl ?_
  rw [ie312]
  obtain ⟨L, eL, rfl⟩ := Option.map_eq_some_iff.mp e
  have l1 : (k.ours.map lb).length = k.ours.length := List.length_map _
  have l2 : (k.theirs.map lb).length = k.theirs.length := List.length_map _
  refine WPS.cons ?_
  repeat array_get_dec
  refine WPV.mono (by_ok (by omega) (at_app ho) (at_app ht) (by omega) eL).vc ?_
  rintro r H1 ⟨x1, j, vs, rfl, hj, hv, r1, hL⟩
  refine go_seq hv ?_
  have x01 : Ext H H1 := (Ext.app _ _).trans x1
  have hf1 := x1 _ _ (at_last H (.list []))
  have z0 := lt_of_at hc
  simp only [List.length_append, List.length_cons, List.length_nil] at hj
  generalize hps : parGo k.ours k.theirs 0 L = ps at hp ⊢
  refine ForS.ind (fun ms ev2 H2 => ∃ (rest : List Pt) (done : List Ck) (p : Nat), All2 (RCh H2) ms rest ∧ done ++ parGo k.ours k.theirs p rest = ps ∧ (∃ a1 a2 a3 a4 a5 a6 a7 a8, ev2 = [.ref c, .str (Str.ofString "myers"), .ref H.length, .int (p : Nat), a1, a2, a3, a4, a5, a6, a7, a8]) ∧ Ext H H2 ∧ H2[j]? = some (.list vs) ∧
    ∃ us, H2[H.length]? = some (.list us) ∧ All2 (RC (fun i => H.length < i) H2) us done) ?_ ?_ ⟨L, [], 0, r1, hps, ⟨_, _, _, _, _, _, _, _, rfl⟩, x01, hv, [], hf1, .nil⟩
  · rintro ev2 H2 ⟨rest, done, p, r2, hp2, ⟨a1, a2, a3, a4, a5, a6, a7, a8, rfl⟩, x2, hv2, us, hu, r3⟩
    cases r2
    have g1 := x2 _ _ hc
    have g2 := x2 _ _ hb
    have g3 := x2 _ _ ho
    have g4 := x2 _ _ ht
    have lu := r3.length
    have lz : us.length ≤ 200 := by rw [lu]; have := congrArg List.length hp2; simp at this; omega
    have z1 := lt_of_at hu
    have z2 := lt_of_at ho
    unfold parGo at hp2
    refine WPS.cons ?_
    refine WP1.ifs ?_
    repeat array_get_dec
    refine go_dec (fun h => ?_) (fun h => ?_)
    · rw [if_pos (by omega)] at hp2
      repeat array_get_dec
      subst hp2
      refine ⟨(by sizeOf_list_dec), _, _, rfl, Nat.le_refl _, (by decreasing_trivial_pre_omega), All2.app (r3.mono fun m a h => ?_) (.cons ?_ .nil)⟩
      · exact ((((h.ext (Ext.app _ _)).ext (Ext.app _ _)).ext (Ext.app _ _)).ext (Ext.app _ _)).setP (fun _ h => Nat.ne_of_lt h)
      · sizeOf_list_dec
    · rw [if_neg (by omega), List.append_nil] at hp2
      subst hp2
      repeat array_get_dec
      exact ⟨x2, _, _, rfl, Nat.le_refl _, hu, r3⟩
  · rintro m ms ev2 H2 ⟨rest, done, p, r2, hp2, ⟨a1, a2, a3, a4, a5, a6, a7, a8, rfl⟩, x2, hv2, us, hu, r3⟩
    cases r2 with
    | cons ch r2 =>
    rename_i q rest
    obtain ⟨q1, q2, q3, q4⟩ := q
    obtain ⟨i, rfl, hi⟩ := id ch
    have g1 := x2 _ _ hc
    have g2 := x2 _ _ hb
    have g3 := x2 _ _ ho
    have g4 := x2 _ _ ht
    have lu := r3.length
    have lz : us.length ≤ 200 := by rw [lu]; have := congrArg List.length hp2; simp at this; omega
    have z1 := lt_of_at hu
    have z2 := lt_of_at ho
    have z3 := lt_of_at ht
    have z4 := lt_of_at hv2
    have ni : i ≠ H.length := by
      rintro rfl
      rw [hu] at hi; cases hi
    have z5 := lt_of_at hi
    unfold chF at hi
    simp only at hi
    repeat array_get_dec
    unfold parGo at hp2
    simp only at hp2
    have ld : done.length ≤ 200 := by have := congrArg List.length hp2; simp at this; omega
    refine WP1.mid (fun ev3 H3 => (∃ a2 a3 a4 a5 a6 a7 a8, ev3 = [.ref c, .str (Str.ofString "myers"), .ref H.length, .int (p : Nat), .ref i, a2, a3, a4, a5, a6, a7, a8]) ∧ (Ext H H3 ∧ H2.length ≤ H3.length) ∧ H3[j]? = some (.list vs) ∧ H3[i]? = some (.inst 92 [(Str.ofString "a_from", .int (q1 : Nat)), (Str.ofString "a_to", .int (q2 : Nat)), (Str.ofString "b_from", .int (q3 : Nat)), (Str.ofString "b_to", .int (q4 : Nat))]) ∧
      All2 (RCh H3) ms rest ∧ ∃ us, H3[H.length]? = some (.list us) ∧ All2 (RC (fun i => H.length < i) H3) us (done ++ (if q1 > p then [⟨.both, [], (k.ours.drop p).take (q1 - p), (k.ours.drop p).take (q1 - p)⟩] else []))) ?_ ?_
    · refine WP1.ifs ?_
      repeat array_get_dec
      refine go_dec (fun h => ?_) (fun h => ?_)
      · repeat array_get_dec
        rw [if_pos (show q1 > p by omega)]
        refine ⟨⟨_, _, _, _, _, _, _, rfl⟩, ⟨(by sizeOf_list_dec), (by array_mem_dec)⟩, (by decreasing_trivial_pre_omega), (by decreasing_trivial_pre_omega), r2.mono fun m a h => ?_, _, (by decreasing_trivial_pre_omega), All2.app (r3.mono fun m a h => ?_) (.cons ?_ .nil)⟩
        · exact (((h.ext (Ext.app _ _)).ext (Ext.app _ _)).ext (Ext.app _ _)).set (by decreasing_trivial_pre_omega)
        · exact (((h.ext (Ext.app _ _)).ext (Ext.app _ _)).ext (Ext.app _ _)).setP (fun _ h => Nat.ne_of_lt h)
        · sizeOf_list_dec
      · repeat array_get_dec
        rw [if_neg (show ¬ q1 > p by omega), List.append_nil]
        exact ⟨⟨_, _, _, _, _, _, _, rfl⟩, ⟨x2, Nat.le_refl _⟩, hv2, hi, r2, us, hu, r3⟩
    clear g1 g2 g3 g4 hi r3 r2 hu hv2 x2 lu lz
    rintro ev3 H3 ⟨⟨a2, a3, a4, a5, a6, a7, a8, rfl⟩, ⟨x3, l3⟩, hv3, hi, r2, us, hu, r3⟩
    have g1 := x3 _ _ hc
    have g2 := x3 _ _ hb
    have g3 := x3 _ _ ho
    have g4 := x3 _ _ ht
    have lu := r3.length
    have lz : us.length ≤ 201 := by
      rw [lu]; have : (if q1 > p then [(⟨.both, [], (k.ours.drop p).take (q1 - p), (k.ours.drop p).take (q1 - p)⟩ : Ck)] else []).length ≤ 1 := by split <;> simp
      simp only [List.length_append]; omega
    repeat array_get_dec
    refine ⟨(by decreasing_trivial_pre_omega), rest, _ ++ [⟨.conflict, [], (k.ours.drop q1).take (q2 - q1), (k.theirs.drop q3).take (q4 - q3)⟩], q2, r2.mono fun m a h => ?_, ?_, ⟨_, _, _, _, _, _, _, _, rfl⟩, (by sizeOf_list_dec), (by decreasing_trivial_pre_omega), _, (by decreasing_trivial_pre_omega), All2.app (r3.mono fun m a h => ?_) (.cons ?_ .nil)⟩
    · exact ((((h.ext (Ext.app _ _)).ext (Ext.app _ _)).ext (Ext.app _ _)).ext (Ext.app _ _)).set (by decreasing_trivial_pre_omega)
    · rw [← hp2]; simp
    · exact ((((h.ext (Ext.app _ _)).ext (Ext.app _ _)).ext (Ext.app _ _)).ext (Ext.app _ _)).setP (fun _ h => Nat.ne_of_lt h)
    · exact RC.i (w := .conflict) (x := []) (y := (k.ours.drop q1).take (q2 - q1)) (z := (k.theirs.drop q3).take (q4 - q3)) (by decreasing_trivial_pre_omega) (at_eq (by decreasing_trivial_pre_omega) lsnil) (at_eq (by decreasing_trivial_pre_omega) (sl2 _ _ _ rfl)) (at_eq (by decreasing_trivial_pre_omega) (sl2 _ _ _ rfl)) (by array_mem_dec) (by array_mem_dec) (by array_mem_dec) (by array_mem_dec)
end
end
section
/-! the closing, in plain Lean -/
def isSB (k : Ck) : Bool := decide (k.word = .same ∨ k.word = .both)
def isC (k : Ck) : Bool := decide (k.word = .conflict)
def osum : List Ck → Nat
  | [] => 0
  | k :: r => k.ours.length + osum r
theorem osum_app (a b : List Ck) : osum (a ++ b) = osum a + osum b := by
  induction a with
  | nil => simp [osum]
  | cons x a ih => show _ + osum (a ++ b) = _ + osum a + osum b; rw [ih]; omega
def cat (f : Ck → List Line) : List Ck → List Line
  | [] => []
  | k :: r => f k ++ cat f r
theorem cat_app (f : Ck → List Line) (a b : List Ck) : cat f (a ++ b) = cat f a ++ cat f b := by
  induction a with
  | nil => rfl
  | cons x a ih => show f x ++ cat f (a ++ b) = f x ++ cat f a ++ cat f b; rw [ih, List.append_assoc]
def joinC (l : List Ck) : Ck := ⟨.conflict, cat (·.base) l, cat (·.ours) l, cat (·.theirs) l⟩
theorem joinC_in (a b c : List Ck) : joinC (a ++ joinC b :: c) = joinC (a ++ b ++ c) := by
  unfold joinC; simp [cat_app, cat]
def goC : Option (Ck × List Ck) → List Ck → List Ck
  | none, [] => []
  | some (c, bs), [] => c :: bs
  | none, p :: r => if isC p then goC (some (p, [])) r else p :: goC none r
  | some (c, bs), p :: r => if isC p then (if osum bs ≤ 3 then goC (some (joinC (c :: bs ++ [p]), [])) r else c :: bs ++ goC (some (p, [])) r)
      else if isSB p then goC (some (c, bs ++ [p])) r else c :: bs ++ p :: goC none r
theorem isC_join (l : List Ck) : isC (joinC l) = true := rfl
theorem isSB_notC {k : Ck} (h : isSB k = true) : isC k = false := by
  unfold isSB at h; unfold isC
  have h' := of_decide_eq_true h
  rcases h' with h' | h' <;> rw [h'] <;> rfl
theorem goC_betw {c : Ck} : ∀ (bs b0 r : List Ck), (∀ x ∈ bs, isSB x = true) → goC (some (c, b0)) (bs ++ r) = goC (some (c, b0 ++ bs)) r
  | [], b0, r, _ => by simp
  | x :: bs, b0, r, h => by
    have hx := h x (by simp)
    show goC (some (c, b0)) (x :: (bs ++ r)) = _
    rw [goC, isSB_notC hx, hx]
    simp only [if_true, if_false, Bool.false_eq_true]
    rw [goC_betw bs (b0 ++ [x]) r fun y hy => h y (by simp [hy])]
    simp
theorem goC_step {c c2 : Ck} {bs : List Ck} (hc : isC c = true) (hc2 : isC c2 = true) (hb : ∀ x ∈ bs, isSB x = true) (hs : osum bs ≤ 3) (r : List Ck) :
    ∀ (a : List Ck) (s : Option (Ck × List Ck)), goC s (a ++ c :: bs ++ c2 :: r) = goC s (a ++ joinC (c :: bs ++ [c2]) :: r)
  | [], none => by
    show goC none (c :: (bs ++ c2 :: r)) = goC none (joinC (c :: bs ++ [c2]) :: r)
    rw [goC, goC, if_pos hc, if_pos (isC_join _), goC_betw _ _ _ hb, goC, if_pos hc2, List.nil_append, if_pos hs]
  | [], some (c0, b0) => by
    show goC (some (c0, b0)) (c :: (bs ++ c2 :: r)) = goC (some (c0, b0)) (joinC (c :: bs ++ [c2]) :: r)
    rw [goC, goC, if_pos hc, if_pos (isC_join _), goC_betw _ _ _ hb, goC_betw _ _ _ hb, goC, goC, if_pos hc2, if_pos hc2, List.nil_append, if_pos hs, if_pos hs]
    congr 3
    have e := joinC_in (c0 :: b0) (c :: bs ++ [c2]) []
    have e2 := joinC_in [] (c0 :: b0 ++ [c]) (bs ++ [c2])
    simp only [List.nil_append, List.append_nil, List.cons_append, List.append_assoc] at e e2 ⊢
    rw [e, e2]
  | x :: a, none => by
    show goC none (x :: (a ++ c :: bs ++ c2 :: r)) = goC none (x :: (a ++ joinC (c :: bs ++ [c2]) :: r))
    rw [goC, goC, goC_step hc hc2 hb hs r a, goC_step hc hc2 hb hs r a]
  | x :: a, some (c0, b0) => by
    show goC (some (c0, b0)) (x :: (a ++ c :: bs ++ c2 :: r)) = goC (some (c0, b0)) (x :: (a ++ joinC (c :: bs ++ [c2]) :: r))
    rw [goC, goC]
    simp only [goC_step hc hc2 hb hs r a]
def flatS : Option (Ck × List Ck) → List Ck
  | none => []
  | some (c, bs) => c :: bs
def stOk : Option (Ck × List Ck) → Prop
  | none => True
  | some (c, bs) => isC c = true ∧ ∀ x ∈ bs, isSB x = true
theorem goC_still (l : List Ck) (h : ∀ (a : List Ck) (c c2 : Ck) (bs r : List Ck), l = a ++ c :: bs ++ c2 :: r → isC c = true → isC c2 = true → (∀ x ∈ bs, isSB x = true) → ¬ osum bs ≤ 3) :
    ∀ (r a : List Ck) (s : Option (Ck × List Ck)), stOk s → l = a ++ flatS s ++ r → goC s r = flatS s ++ r
  | [], a, none, _, _ => rfl
  | [], a, some (c, bs), _, _ => by simp [goC, flatS]
  | p :: r, a, none, _, e => by
    rw [goC]
    have e' : l = a ++ p :: r := by simpa [flatS] using e
    split
    · rename_i hp
      rw [goC_still l h r a (some (p, [])) ⟨hp, by simp⟩ (by rw [e']; simp [flatS])]; rfl
    · rw [goC_still l h r (a ++ [p]) none trivial (by rw [e']; simp [flatS])]; rfl
  | p :: r, a, some (c, bs), ⟨hc, hb⟩, e => by
    have e' : l = a ++ c :: bs ++ p :: r := by simpa [flatS] using e
    rw [goC]
    split
    · rename_i hp
      rw [if_neg (h a c p bs r e' hc hp hb)]
      rw [goC_still l h r (a ++ c :: bs) (some (p, [])) ⟨hp, by simp⟩ (by rw [e']; simp [flatS])]; rfl
    · split
      · rename_i hp
        rw [goC_still l h r a (some (c, bs ++ [p])) ⟨hc, by intro x hx; rcases List.mem_append.mp hx with hx | hx; exact hb x hx; simp at hx; rw [hx]; exact hp⟩ (by rw [e']; simp [flatS])]
        simp [flatS]
      · rw [goC_still l h r (a ++ c :: bs ++ [p]) none trivial (by rw [e']; simp [flatS])]
        simp [flatS]
def closS (l : List Ck) : List Ck := goC none l
theorem closS_step {c c2 : Ck} {bs a r : List Ck} (hc : isC c = true) (hc2 : isC c2 = true) (hb : ∀ x ∈ bs, isSB x = true) (hs : osum bs ≤ 3) :
    closS (a ++ c :: bs ++ c2 :: r) = closS (a ++ joinC (c :: bs ++ [c2]) :: r) := goC_step hc hc2 hb hs r a none
theorem closS_still {l : List Ck} (h : ∀ (a : List Ck) (c c2 : Ck) (bs r : List Ck), l = a ++ c :: bs ++ c2 :: r → isC c = true → isC c2 = true → (∀ x ∈ bs, isSB x = true) → ¬ osum bs ≤ 3) : closS l = l :=
  goC_still l h l [] none trivial (by simp [flatS])
def longIn (x : Line) (row : List Nat) : List Line → List Nat → List Nat
  | [], fresh => fresh
  | y :: ys, fresh => longIn x row ys (fresh ++ [if x = y then row.getD (fresh.length - 1) 0 + 1 else (if fresh.getD (fresh.length - 1) 0 > row.getD fresh.length 0 then fresh.getD (fresh.length - 1) 0 else row.getD fresh.length 0)])
def longOut (b : List Line) : List Line → List Nat → List Nat
  | [], row => row
  | x :: xs, row => longOut b xs (longIn x row b [0])
def longS (a b : List Line) : Nat := (longOut b a (List.replicate (b.length + 1) 0)).getD b.length 0
def bsum : List Ck → Nat
  | [] => 0
  | k :: r => (if k.word = .both then k.ours.length else 0) + bsum r
def pieceOk (prev : Option Wd) (k : Ck) : Bool :=
  decide (k.base = []) && (decide (k.word = .both) || decide (k.word = .conflict)) && decide (prev ≠ some k.word) && (decide (k.word ≠ .both) || (decide (k.ours = k.theirs) && decide (k.ours ≠ []))) &&
    (decide (k.word ≠ .conflict) || decide (k.ours ≠ []) || decide (k.theirs ≠ []))
def piecesOk : Option Wd → List Ck → Bool
  | _, [] => true
  | w, k :: r => pieceOk w k && piecesOk (some k.word) r
def isParted (a b : List Line) (ps : List Ck) : Bool :=
  piecesOk none ps && decide (cat (·.ours) ps = a) && decide (cat (·.theirs) ps = b) && decide (bsum ps = longS a b) && decide (ps.length ≤ 7)
def okPair (a b : List Line) : Bool := match myersS a b with
  | none => false
  | some L => isParted a b (parGo a b 0 L)

def allL : List (List Line) := [] :: ([0, 1, 2] : List Line).flatMap fun x => [x] :: ([0, 1, 2] : List Line).flatMap fun y => [x, y] :: ([0, 1, 2] : List Line).map fun z => [x, y, z]
theorem mem_allL : ∀ a : List Line, a.length ≤ 3 → a ∈ allL
  | [], _ => by decide
  | [x], _ => by revert x; decide
  | [x, y], _ => by revert x y; decide
  | [x, y, z], _ => by revert x y z; decide
  | _ :: _ :: _ :: _ :: _, h => by simp at h
end
section
local macro_rules | `(tactic| decreasing_trivial_pre_omega) => `(tactic| first
  | with_reducible assumption
  | with_reducible exact at_last _ _
  | ((with_reducible apply at_app); decreasing_trivial_pre_omega)
  | ((with_reducible apply at_set_ne); (focus decreasing_trivial_pre_omega); (focus (first | assumption | omega | (simp only [List.length_append, List.length_set, List.length_cons, List.length_nil]; omega))))
  | ((with_reducible apply at_set); (first | assumption | omega | (simp only [List.length_append, List.length_set, List.length_cons, List.length_nil]; omega)))
  | ((with_reducible apply Ext.get); (focus assumption); (focus decreasing_trivial_pre_omega))
  | ((with_reducible apply at_lastI); (focus array_mem_dec)))
local macro_rules | `(tactic| array_mem_dec) => `(tactic| first
  | with_reducible assumption
  | omega
  | exact Nat.le_of_ble_eq_true rfl
  | ((simp only [List.length_append, List.length_set, List.length_cons, List.length_nil, List.length_map, List.length_replicate, List.length_range]); omega)
  | (simp; omega)
  | (simp; done))
local macro_rules | `(tactic| sizeOf_list_dec) => `(tactic| first
  | assumption
  | with_reducible exact Ext.refl _
  | ((with_reducible refine Ext.app' ?_); sizeOf_list_dec)
  | ((with_reducible refine Ext.set_new ?_ ?_); (focus sizeOf_list_dec); (focus array_mem_dec))
  | ((with_reducible refine Ext.trans ?_ (by assumption)); sizeOf_list_dec)
  | ((with_reducible apply RC.i); (focus decreasing_trivial_pre_omega); (focus first | decreasing_trivial_pre_omega | exact at_eq (by decreasing_trivial_pre_omega) lsnil | exact at_eq (by decreasing_trivial_pre_omega) (sl2 _ _ _ (by omega)) | exact at_eq (by decreasing_trivial_pre_omega) (sl1 _ _ (by omega)) | exact at_eq (by decreasing_trivial_pre_omega) (sl0 _ _)); (focus first | decreasing_trivial_pre_omega | exact at_eq (by decreasing_trivial_pre_omega) lsnil | exact at_eq (by decreasing_trivial_pre_omega) (sl2 _ _ _ (by omega)) | exact at_eq (by decreasing_trivial_pre_omega) (sl1 _ _ (by omega)) | exact at_eq (by decreasing_trivial_pre_omega) (sl0 _ _)); (focus first | decreasing_trivial_pre_omega | exact at_eq (by decreasing_trivial_pre_omega) lsnil | exact at_eq (by decreasing_trivial_pre_omega) (sl2 _ _ _ (by omega)) | exact at_eq (by decreasing_trivial_pre_omega) (sl1 _ _ (by omega)) | exact at_eq (by decreasing_trivial_pre_omega) (sl0 _ _)); (focus array_mem_dec); (focus array_mem_dec); (focus array_mem_dec); (focus array_mem_dec))
  | ((with_reducible apply RCk.i); (focus decreasing_trivial_pre_omega); (focus first | decreasing_trivial_pre_omega | exact at_eq (by decreasing_trivial_pre_omega) lsnil | exact at_eq (by decreasing_trivial_pre_omega) (sl2 _ _ _ (by omega)) | exact at_eq (by decreasing_trivial_pre_omega) (sl1 _ _ (by omega)) | exact at_eq (by decreasing_trivial_pre_omega) (sl0 _ _)); (focus first | decreasing_trivial_pre_omega | exact at_eq (by decreasing_trivial_pre_omega) lsnil | exact at_eq (by decreasing_trivial_pre_omega) (sl2 _ _ _ (by omega)) | exact at_eq (by decreasing_trivial_pre_omega) (sl1 _ _ (by omega)) | exact at_eq (by decreasing_trivial_pre_omega) (sl0 _ _)); (focus first | decreasing_trivial_pre_omega | exact at_eq (by decreasing_trivial_pre_omega) lsnil | exact at_eq (by decreasing_trivial_pre_omega) (sl2 _ _ _ (by omega)) | exact at_eq (by decreasing_trivial_pre_omega) (sl1 _ _ (by omega)) | exact at_eq (by decreasing_trivial_pre_omega) (sl0 _ _))))
local macro_rules | `(tactic| array_get_dec) => `(tactic| first
  | ((with_reducible refine gE ?_); (first | ((with_reducible refine gEn ?_); (first | ((first | with_reducible refine gl_len ?_ ?_ | with_reducible refine gl_list ?_ ?_ | with_reducible refine gl_range ?_ ?_ | with_reducible refine gl_enumerate ?_ ?_ | with_reducible refine gl_zip ?_ ?_ | with_reducible refine gl_min ?_ ?_ | with_reducible refine gl_max ?_ ?_ | with_reducible refine gl_isinstance ?_ ?_ | with_reducible refine gl_sum ?_ ?_ | with_reducible refine gl_bytes ?_ ?_ | with_reducible refine gl_str ?_ ?_ | with_reducible refine gl_Chunk ?_ ?_ | with_reducible refine gl_Change ?_ ?_ | with_reducible refine gl_LineSheet ?_ ?_ | with_reducible refine gl_LineNumbers ?_ ?_ | with_reducible refine gl_BOTH ?_ ?_ | with_reducible refine gl_CONFLICT ?_ ?_ | with_reducible refine gl_OURS ?_ ?_ | with_reducible refine gl_THEIRS ?_ ?_ | with_reducible refine gl_SHORT ?_ ?_ | with_reducible refine gl_line_further ?_ ?_ | with_reducible refine gl_myers ?_ ?_ | with_reducible refine gl_by ?_ ?_ | with_reducible refine gl_conflict_parted ?_ ?_ | with_reducible refine gl_conflict_trimmed ?_ ?_ | with_reducible refine gl_conflicts_closed_up ?_ ?_ | with_reducible refine gl_conflict_pieces ?_ ?_ | with_reducible refine gl_law_draw ?_ ?_ | with_reducible refine gl_law_lines ?_ ?_ | with_reducible refine gl_law_chunk ?_ ?_ | with_reducible refine gl_law_told ?_ ?_ | with_reducible refine gl_law_longest ?_ ?_ | with_reducible refine gl_law_is_parted ?_ ?_ | with_reducible refine gl_law_trimmed ?_ ?_ | with_reducible refine gl_law_closed ?_ ?_); (focus exact rfl)) | ((with_reducible apply WPE.name); (focus exact rfl); (focus first | exact .inl rfl | exact .inr (.inl rfl) | exact .inr (.inr rfl)); (focus exact rfl); (focus first | assumption | (intro h; cases h)); (focus exact rfl)))) | ((with_reducible refine gEk ?_); (first | with_reducible refine WPE.cInt ?_ | with_reducible refine WPE.cStr ?_ | with_reducible refine WPE.cBool ?_ | with_reducible refine WPE.cNone ?_ | with_reducible refine WPE.cBytes ?_)) | ((with_reducible refine gEc ?_); (first | ((with_reducible refine WPE.call ?_ ?_ ?_); (focus exact fun _ => rfl); (focus exact fun _ => rfl)) | with_reducible refine WPE.call0 ?_ | ((with_reducible apply WPE.meth); (focus exact fun _ => rfl); (focus exact fun _ => rfl); (focus exact fun _ => rfl)) | ((with_reducible apply WPE.meth0); (focus exact fun _ => rfl)))) | ((with_reducible refine WPE.attr ?_ ?_); (focus exact fun _ => rfl)) | with_reducible refine WPE.bin ?_ | ((with_reducible refine WPE.cmp ?_ ?_); (focus exact rfl)) | with_reducible refine WPE.slice ?_ | ((with_reducible refine WPE.sub ?_ ?_); (focus exact fun _ _ => rfl)) | with_reducible refine WPE.tup ?_ | with_reducible refine WPE.list ?_ | with_reducible refine WPE.neg ?_ | with_reducible refine WPE.ifx ?_ | with_reducible refine WPE.dict0 ?_ | with_reducible refine WPE.dictI ?_ | ((with_reducible refine WPE.comp1 ?_ ?_ ?_); (focus exact ⟨rfl, by decide, rfl⟩); (focus exact fun _ _ => rfl)) | ((with_reducible refine WPE.compIf ?_ ?_ ?_); (focus exact ⟨rfl, by decide, rfl⟩); (focus exact fun _ _ => rfl)) | ((with_reducible refine WPE.comp2 ?_ ?_ ?_ ?_); (focus exact ⟨rfl, by decide, rfl⟩); (focus exact fun _ _ => rfl); (focus exact fun _ _ => rfl))))
  | ((with_reducible refine gEs ?_); (first | with_reducible refine WPEs.nil ?_ | ((with_reducible refine WPEs.cons ?_ ?_); (focus exact fun _ => rfl))))
  | ((with_reducible refine gS ?_); (first | ((with_reducible apply WPS.nrm); (focus repeat first | exact SetTo.zero | apply SetTo.succ)) | with_reducible refine WPS.nil ?_ | with_reducible refine WPS.cons ?_))
  | ((with_reducible refine g1 ?_); (first | ((with_reducible refine g1a ?_); (first | ((with_reducible apply WP1.asgSwap2); (focus exact fun _ => rfl); (focus exact rfl); (focus exact rfl); (focus exact rfl)) | ((with_reducible apply WP1.asgSwap3); (focus exact fun _ => rfl); (focus exact rfl); (focus exact rfl); (focus exact rfl); (focus exact rfl)) | ((with_reducible refine WP1.asg ?_ ?_ ?_ ?_); (focus exact fun _ => rfl); (focus first | exact fun _ _ _ => rfl | exact fun env hn hk => swapsWith_env rfl env hn hk); (focus first | exact fun _ _ _ => rfl | exact fun env hn hk => swap_env rfl env hn hk)))) | with_reducible refine WP1.ret ?_ | ((with_reducible apply WP1.augName); (focus exact rfl); (focus exact rfl); (focus first | assumption | (intro h; cases h)); (focus exact rfl)) | with_reducible refine WP1.augAttr ?_ | ((with_reducible refine WP1.expr ?_ ?_); (focus exact fun _ => rfl)) | ((with_reducible refine WP1.forI ?_ ?_); (focus exact fun _ _ => rfl))))
  | ((with_reducible refine gX ?_); (first | ((with_reducible apply go_attr); (focus decreasing_trivial_pre_omega); (focus first | with_reducible exact at_301_word _ | with_reducible exact at_301_base _ | with_reducible exact at_301_ours _ | with_reducible exact at_301_theirs _ | with_reducible exact at_92_a_from _ | with_reducible exact at_92_a_to _ | with_reducible exact at_92_b_from _ | with_reducible exact at_92_b_to _ | with_reducible exact at_223_a _ | with_reducible exact at_223_b _ | with_reducible exact at_223_gone _ | with_reducible exact at_223_come _ | with_reducible exact at_125_known _ | with_reducible exact at_125_strange _ | with_reducible exact at_125_count _); (focus exact rfl); (focus exact rfl)) | ((with_reducible apply go_setattr); (focus decreasing_trivial_pre_omega); (focus first | with_reducible exact st_301_word _ | with_reducible exact st_301_base _ | with_reducible exact st_301_ours _ | with_reducible exact st_301_theirs _ | with_reducible exact st_92_a_from _ | with_reducible exact st_92_a_to _ | with_reducible exact st_92_b_from _ | with_reducible exact st_92_b_to _ | with_reducible exact st_223_a _ | with_reducible exact st_223_b _ | with_reducible exact st_223_gone _ | with_reducible exact st_223_come _ | with_reducible exact st_125_known _ | with_reducible exact st_125_strange _ | with_reducible exact st_125_count _); (focus exact Nat.le_of_ble_eq_true rfl)) | ((with_reducible apply go_slice); (focus decreasing_trivial_pre_omega); (focus array_mem_dec)) | ((with_reducible refine go_part ?_ ?_); (focus array_mem_dec)) | with_reducible refine go_neg ?_ | with_reducible refine go_val ?_ | ((with_reducible apply go_swap2); (focus repeat first | exact SetTo.zero | apply SetTo.succ); (focus repeat first | exact SetTo.zero | apply SetTo.succ)) | ((with_reducible apply go_swap3); (focus repeat first | exact SetTo.zero | apply SetTo.succ); (focus repeat first | exact SetTo.zero | apply SetTo.succ); (focus repeat first | exact SetTo.zero | apply SetTo.succ)) | ((with_reducible apply go_enum); (focus decreasing_trivial_pre_omega)) | ((with_reducible apply go_zip); (focus decreasing_trivial_pre_omega); (focus decreasing_trivial_pre_omega)) | ((with_reducible apply go_augAttr); (focus decreasing_trivial_pre_omega); (focus first | with_reducible exact at_301_word _ | with_reducible exact at_301_base _ | with_reducible exact at_301_ours _ | with_reducible exact at_301_theirs _ | with_reducible exact at_92_a_from _ | with_reducible exact at_92_a_to _ | with_reducible exact at_92_b_from _ | with_reducible exact at_92_b_to _ | with_reducible exact at_223_a _ | with_reducible exact at_223_b _ | with_reducible exact at_223_gone _ | with_reducible exact at_223_come _ | with_reducible exact at_125_known _ | with_reducible exact at_125_strange _ | with_reducible exact at_125_count _); (focus first | with_reducible exact st_301_word _ | with_reducible exact st_301_base _ | with_reducible exact st_301_ours _ | with_reducible exact st_301_theirs _ | with_reducible exact st_92_a_from _ | with_reducible exact st_92_a_to _ | with_reducible exact st_92_b_from _ | with_reducible exact st_92_b_to _ | with_reducible exact st_223_a _ | with_reducible exact st_223_b _ | with_reducible exact st_223_gone _ | with_reducible exact st_223_come _ | with_reducible exact st_125_known _ | with_reducible exact st_125_strange _ | with_reducible exact st_125_count _); (focus exact rfl); (focus exact rfl)) | ((with_reducible apply go_augSet); (focus decreasing_trivial_pre_omega); (focus exact Nat.le_of_ble_eq_true rfl)) | ((with_reducible apply go_emit); (focus decreasing_trivial_pre_omega); (focus array_mem_dec)) | ((with_reducible apply go_range); (focus exact rfl); (focus decide); (focus ((with_reducible refine small1 ?_); array_mem_dec)))))
  | ((with_reducible refine gN ?_); (first | with_reducible refine go_calleeB ?_ | with_reducible refine go_calleeT ?_ | with_reducible refine go_typeEq ?_ | ((with_reducible refine go_callee ?_ ?_); (focus first | with_reducible exact co_234 _ | with_reducible exact co_248 _ | with_reducible exact co_270 _ | with_reducible exact co_312 _ | with_reducible exact co_319 _ | with_reducible exact co_326 _ | with_reducible exact co_333 _ | with_reducible exact co_340 _ | with_reducible exact co_345 _ | with_reducible exact co_352 _ | with_reducible exact co_359 _ | with_reducible exact co_366 _ | with_reducible exact co_371 _ | with_reducible exact co_378 _ | with_reducible exact co_383 _ | with_reducible exact co_92 _ | with_reducible exact co_125 _ | with_reducible exact co_223 _ | with_reducible exact co_301 _)) | ((with_reducible refine go_notRef ?_ ?_); (focus exact rfl)) | ((with_reducible refine go_len ?_ ?_); (focus array_mem_dec)) | with_reducible refine go_tt ?_ | with_reducible refine go_ff ?_ | with_reducible refine go_chkT ?_ | ((with_reducible refine go_chkL ?_ ?_); (focus decreasing_trivial_pre_omega)) | ((with_reducible refine go_chkZ ?_ ?_ ?_); (focus decreasing_trivial_pre_omega); (focus decreasing_trivial_pre_omega))))
  | ((with_reducible refine gG ?_); (first | ((with_reducible apply WPG.nameT); (focus exact rfl); (focus first | exact .inl rfl | exact .inr ⟨rfl, by decide⟩); (focus repeat first | exact SetTo.zero | apply SetTo.succ)) | with_reducible refine WPG.attr ?_ | with_reducible refine WPG.sub ?_ | ((with_reducible refine WPG.tup ?_ ?_ ?_); (focus exact rfl); (focus exact fun _ => rfl))))
  | ((with_reducible refine gV ?_); (first | with_reducible refine WPV.nap ?_ | ((with_reducible apply len_Ns); (focus decreasing_trivial_pre_omega); (focus array_mem_dec)) | ((with_reducible refine chunk_go ?_ ?_); (focus omega)) | ((with_reducible refine chunk_goB ?_ ?_); (focus omega)) | ((with_reducible refine chunk_goC ?_ ?_); (focus omega)) | ((with_reducible apply change_go); (focus omega)) | ((with_reducible apply WPV.len); (focus decreasing_trivial_pre_omega); (focus array_mem_dec)) | ((with_reducible apply WPV.list); (focus decreasing_trivial_pre_omega); (focus array_mem_dec)) | ((with_reducible apply WPV.append); (focus decreasing_trivial_pre_omega); (focus array_mem_dec)) | ((with_reducible apply WPV.extend); (focus decreasing_trivial_pre_omega); (focus decreasing_trivial_pre_omega); (focus array_mem_dec)) | ((with_reducible apply pop0_Ls); (focus decreasing_trivial_pre_omega); (focus array_mem_dec); (focus array_mem_dec)) | ((with_reducible apply pop_Ls); (focus decreasing_trivial_pre_omega); (focus array_mem_dec); (focus array_mem_dec)) | with_reducible refine WPV.min ?_ | with_reducible refine WPV.max ?_ | with_reducible refine WPV.isStr ?_ | with_reducible refine WPV.isBs ?_))
  | ((with_reducible refine gT ?_); (first | ((with_reducible refine WPT.cmp ?_ ?_); (focus exact rfl)) | with_reducible refine WPT.not ?_ | with_reducible refine WPT.bop ?_ | ((with_reducible refine WPT.val ?_ ?_); (focus exact fun _ => rfl))))
  | ((with_reducible refine gA ?_); (first | with_reducible refine WPA.andNil ?_ | with_reducible refine WPA.orNil ?_ | with_reducible refine WPA.and ?_ | with_reducible refine WPA.or ?_))
  | ((with_reducible refine gCm ?_); (first | with_reducible refine cmp_lt ?_ | with_reducible refine cmp_le ?_ | with_reducible refine cmp_gt ?_ | with_reducible refine cmp_ge ?_ | with_reducible refine cmp_eq ?_ | with_reducible refine cmp_ne ?_ | with_reducible refine cmp_lb ?_ | with_reducible refine cmp_wd ?_ | with_reducible refine cmpw_both ?_ | with_reducible refine cmpw_conflict ?_ | with_reducible refine cmpw_same ?_ | with_reducible refine cmpw_ours ?_ | with_reducible refine cmpw_theirs ?_ | with_reducible refine cmpw_nconflict ?_ | with_reducible refine cmpw_inOT ?_ | with_reducible refine cmpw_inSB ?_ | with_reducible refine cmpw_ninBC ?_ | ((with_reducible apply cmp_lsnil); (focus decreasing_trivial_pre_omega); (focus decreasing_trivial_pre_omega); (focus array_mem_dec)) | ((with_reducible apply cmp_nilEq); (focus decreasing_trivial_pre_omega); (focus decreasing_trivial_pre_omega); (focus array_mem_dec)) | ((with_reducible apply cmp_lseq); (focus decreasing_trivial_pre_omega); (focus decreasing_trivial_pre_omega); (focus array_mem_dec)) | ((with_reducible apply cmp_lsne); (focus decreasing_trivial_pre_omega); (focus decreasing_trivial_pre_omega); (focus array_mem_dec)) | ((with_reducible apply cmp_nindB); (focus decreasing_trivial_pre_omega)) | ((with_reducible apply cmp_nindI); (focus decreasing_trivial_pre_omega)) | ((with_reducible apply cmp_indI); (focus decreasing_trivial_pre_omega)) | ((with_reducible apply cmp_anynil); (focus decreasing_trivial_pre_omega); (focus decreasing_trivial_pre_omega); (focus array_mem_dec))))
  | ((with_reducible refine gGs ?_); (first | with_reducible refine WPGs.nil ?_ | ((with_reducible refine WPGs.cons ?_ ?_); (focus exact fun _ => rfl))))
  | ((with_reducible refine gBm ?_); (first | with_reducible refine bin_add ?_ | with_reducible refine bin_sub ?_ | ((with_reducible refine bin_mod ?_ ?_); (focus first | decide | omega)) | ((with_reducible refine bin_mul ?_ ?_); (focus first | decide | omega)) | ((with_reducible refine bin_fdiv ?_ ?_); (focus first | decide | omega)) | ((with_reducible apply bin_lapp); (focus decreasing_trivial_pre_omega); (focus decreasing_trivial_pre_omega); (focus array_mem_dec)) | ((with_reducible apply bin_rep); (focus decreasing_trivial_pre_omega); (focus exact ⟨by omega, by omega⟩))))
  | ((with_reducible refine gSm ?_); (first | ((with_reducible apply sub_last); (focus decreasing_trivial_pre_omega); (focus array_mem_dec); (focus array_mem_dec)) | ((with_reducible apply sub_Ns); (focus decreasing_trivial_pre_omega); (focus array_mem_dec); (focus array_mem_dec); (focus array_mem_dec)) | ((with_reducible apply sub_Bl); (focus decreasing_trivial_pre_omega); (focus array_mem_dec); (focus array_mem_dec); (focus array_mem_dec)) | ((with_reducible apply sub_Ls); (focus decreasing_trivial_pre_omega); (focus array_mem_dec); (focus array_mem_dec); (focus array_mem_dec)) | ((with_reducible apply sub_dS); (focus decreasing_trivial_pre_omega); (focus exact rfl))))
  | ((with_reducible refine gZ ?_); (first | ((with_reducible apply set_Bl); (focus decreasing_trivial_pre_omega); (focus array_mem_dec); (focus array_mem_dec); (focus array_mem_dec)) | ((with_reducible apply set_dS); (focus decreasing_trivial_pre_omega); (focus exact Nat.le_of_ble_eq_true rfl))))
  | ((with_reducible refine gMm ?_); (first | ((with_reducible apply meth_append); (focus decreasing_trivial_pre_omega)) | ((with_reducible apply meth_extend); (focus decreasing_trivial_pre_omega)) | ((with_reducible apply meth_pop); (focus decreasing_trivial_pre_omega)) | ((with_reducible apply meth_inst); (focus decreasing_trivial_pre_omega); (focus first | with_reducible exact me_301_joined _ | with_reducible exact me_223_whole _ | with_reducible exact me_223_trimmed _ | with_reducible exact me_223_mark _ | with_reducible exact me_223_changes _ | with_reducible exact me_223_halved _ | with_reducible exact me_223_mark_fewest _ | with_reducible exact me_125_number_of _ | with_reducible exact me_125_numbers_of _); (focus exact rfl))))
  | ((with_reducible refine gI ?_); (first | ((with_reducible refine WPI.range (x := Str.ofString "range") ?_ ?_ ?_); (focus exact fun _ => rfl); (focus exact fun _ => rfl)) | ((with_reducible refine WPI.enum (x := Str.ofString "enumerate") ?_ ?_ ?_); (focus exact fun _ => rfl); (focus exact fun _ => rfl)) | ((with_reducible refine WPI.zip (x := Str.ofString "zip") ?_ ?_ ?_); (focus exact fun _ => rfl); (focus exact fun _ => rfl)) | with_reducible refine WPI.seq ?_))
  | ((with_reducible refine gO ?_); (first | with_reducible refine go_partNone ?_ | with_reducible refine go_partSome ?_))
  | with_reducible refine go_cifN ?_
  | with_reducible refine go_cifS ?_
  | with_reducible refine go_emitI ?_
  | with_reducible refine go_genI ?_
  | with_reducible refine aug_add ?_
  | with_reducible refine aug_sub ?_
  | ((with_reducible apply go_seq); (focus decreasing_trivial_pre_omega))
  | with_reducible refine go_seqT ?_)
section
variable {B : Bs} {d : Nat} {H : List MObj}
theorem longIn_len (x : Line) (row : List Nat) : ∀ (b : List Line) (f : List Nat), (longIn x row b f).length = f.length + b.length
  | [], f => rfl
  | y :: ys, f => by unfold longIn; rw [longIn_len x row ys]; simp; omega
theorem longIn_cons (x : Line) (row : List Nat) (y : Line) (ys : List Line) (f : List Nat) : longIn x row (y :: ys) f = longIn x row ys (f ++ [if x = y then row.getD (f.length - 1) 0 + 1 else (if f.getD (f.length - 1) 0 > row.getD f.length 0 then f.getD (f.length - 1) 0 else row.getD f.length 0)]) := rfl
theorem cast_if {p : Prop} [Decidable p] (a b : Nat) : ((if p then a else b : Nat) : Int) = if p then (a : Int) else (b : Int) := by split <;> rfl
theorem longest_ok {la lb' : Nat} {a b : List Line} (hd : 1 ≤ d) (ha : H[la]? = some (Ls a)) (hb : H[lb']? = some (Ls b)) (hl : a.length + b.length ≤ 800) :
    WPF B d (.con (.ref 366)) [.ref la, .ref lb'] H (fun r H' => Ext H H' ∧ r = .int ((longS a b : Nat) : Int)) := by
  refine WPF.fn fn366 (by omega) rfl ?_
  rw [ie366]
  have l2 : (b.map lb).length = b.length := List.length_map _
  refine WPS.cons ?_
  repeat array_get_dec
  refine ForS.ind (fun ms ev2 H2 => ∃ (rest : List Line) (row : List Nat) (jr : Nat), ms = rest.map lb ∧ longOut b rest row = longOut b a (List.replicate (b.length + 1) 0) ∧ row.length = b.length + 1 ∧ (∃ a1 a2 a3 a4 a5 a6 a7, ev2 = [.ref la, .ref lb', .ref jr, a1, a2, a3, a4, a5, a6, a7]) ∧ Ext H H2 ∧ H2[jr]? = some (Ns row)) ?_ ?_
    ⟨a, List.replicate (b.length + 1) 0, _, rfl, rfl, by simp, ⟨_, _, _, _, _, _, _, rfl⟩, (by sizeOf_list_dec), at_eq (by decreasing_trivial_pre_omega) ?_⟩
  rotate_right
  · rw [show (((b.map lb).length : Int) + 1).toNat = b.length + 1 from by omega]; simp
  · rintro ev2 H2 ⟨rest, row, jr, e1, e2, e3, ⟨a1, a2, a3, a4, a5, a6, a7, rfl⟩, x2, hr⟩
    obtain rfl : rest = [] := by simpa using e1.symm
    have e2' : row = longOut b a (List.replicate (b.length + 1) 0) := e2
    repeat array_get_dec
    refine sub_neg hr (by simp; omega) (m := .int ((longS a b : Nat) : Int)) ?_ ⟨x2, rfl⟩
    rw [List.length_map, List.getElem?_map, e3, Nat.add_sub_cancel, List.getElem?_eq_getElem (by omega)]
    unfold longS
    rw [← e2', List.getD_eq_getElem?_getD, List.getElem?_eq_getElem (by omega)]; rfl
  · rintro m ms ev2 H2 ⟨rest, row, jr, e1, e2, e3, ⟨a1, a2, a3, a4, a5, a6, a7, rfl⟩, x2, hr⟩
    obtain ⟨x, rest, rfl⟩ : ∃ x r, rest = x :: r := by cases rest with | nil => cases e1 | cons x r => exact ⟨x, r, rfl⟩
    simp only [List.map_cons, List.cons.injEq] at e1
    obtain ⟨rfl, rfl⟩ := e1
    have g1 := x2 _ _ ha
    have g2 := x2 _ _ hb
    have z1 := lt_of_at hr
    have z2 := lt_of_at ha
    have z3 := lt_of_at hb
    have y2 := x2.len
    repeat array_get_dec
    refine ForS.ind (fun ms ev3 H3 => ∃ (rs : List Line) (f : List Nat) (i : Nat), ms = enumL (rs.map lb) i ∧ longIn x row rs f = longIn x row b [0] ∧ f.length = i + 1 ∧ i + rs.length = b.length ∧ (∃ a2 a3 a4 a5 a6, ev3 = [.ref la, .ref lb', .ref jr, lb x, .ref H2.length, a2, a3, a4, a5, a6]) ∧ Ext H2 H3 ∧ H3[H2.length]? = some (Ns f)) ?_ ?_
      ⟨b, [0], 0, rfl, rfl, rfl, by simp, ⟨_, _, _, _, _, rfl⟩, (by sizeOf_list_dec), at_eq (by decreasing_trivial_pre_omega) (by rfl)⟩
    · rintro ev3 H3 ⟨rs, f, i, f1, f2, f3, f4, ⟨a2, a3, a4, a5, a6, rfl⟩, x3, hf⟩
      obtain rfl : rs = [] := by cases rs with | nil => rfl | cons a b => cases f1
      have f2' : f = longIn x row b [0] := f2
      have g1' := x3 _ _ g1
      repeat array_get_dec
      refine ⟨(by decreasing_trivial_pre_omega), rest, f, _, rfl, ?_, by simp at f4; omega, ⟨_, _, _, _, _, _, _, rfl⟩, x2.trans x3, hf⟩
      rw [f2', ← e2]; rfl
    · rintro m ms ev3 H3 ⟨rs, f, i, f1, f2, f3, f4, ⟨a2, a3, a4, a5, a6, rfl⟩, x3, hf⟩
      obtain ⟨y, rs, rfl⟩ : ∃ x r, rs = x :: r := by cases rs with | nil => cases f1 | cons x r => exact ⟨x, r, rfl⟩
      simp only [List.map_cons, enumL, List.cons.injEq] at f1
      obtain ⟨rfl, rfl⟩ := f1
      have g2' := x3 _ _ g2
      have hr' := x3 _ _ hr
      simp only [List.length_cons] at f4
      have z4 := lt_of_at hf
      rw [longIn_cons] at f2
      have le1 : enumL (rs.map lb) (i + 1) = enumL (rs.map lb) (i + 1) := rfl
      repeat array_get_dec
      refine go_dec (fun h => ?_) (fun h => ?_)
      · rw [if_pos h] at f2
        repeat array_get_dec
        exact ⟨(by decreasing_trivial_pre_omega), rs, _, i + 1, rfl, f2, by simp; omega, by omega, ⟨_, _, _, _, _, rfl⟩, (by sizeOf_list_dec), at_eq (by decreasing_trivial_pre_omega) (by simp [f3])⟩
      · rw [if_neg h] at f2
        repeat array_get_dec
        refine ⟨(by decreasing_trivial_pre_omega), rs, _, i + 1, rfl, f2, by simp; omega, by omega, ⟨_, _, _, _, _, rfl⟩, (by sizeOf_list_dec), at_eq (by decreasing_trivial_pre_omega) ?_⟩
        show MObj.list _ = MObj.list _
        rw [List.map_append]
        congr 2
        simp only [List.map_cons, List.map_nil, f3, Nat.add_sub_cancel, show ((i : Int)).toNat = i from rfl, show ((i : Int) + 1).toNat = i + 1 from by omega]
        congr 2
        split <;> split <;> first | rfl | omega
end
section
variable {B : Bs} {d : Nat} {H : List MObj}
theorem told_comp {fi' : FI} {x : Str} {p1 p2 p3 p4 : Pos} {i : Nat} {ev0 : List MV} {ks : List Ck} {vs : List MV} {H0 : List MObj} {chk : List MObj → Prop} {Q : List MV → List MObj → Prop}
    (hd : 2 ≤ d) (hx : slot fi'.ns x = some (i, .local)) (hl : i < ev0.length) (hg : fi'.ns.lookup (Str.ofString "_law_told") = some .globalImplicit) (hdb : ((x == ("__debug__" : Str)) || (x == ("__classdict__" : Str))) = false)
    (hv : All2 (RCk H0) vs ks) (hs : ∀ k ∈ ks, k.small 1000) (hlen : ks.length ≤ 1000) (hc : ∀ H', Ext H0 H' → chk H')
    (hQ : ∀ ev' H' us, Ext H0 H' → H0.length < H'.length → H'[H0.length]? = some (.list us) → All2 (RTm (H0.length + 1) H') us ks → Q ev' H') :
    CompS B fi' d (.Name x p1) none (emitI B fi' d H0.length (.Call (.Name (Str.ofString "_law_told") p2) [.Name x p3] [] p4)) chk Q vs ev0 (H0 ++ [.list []]) := by
  refine CompS.ind (fun ms ev H1 => ∃ done rest us, ks = done ++ rest ∧ All2 (RCk H0) ms rest ∧ ev.length = ev0.length ∧ Ext H0 H1 ∧ H0.length < H1.length ∧ H1[H0.length]? = some (.list us) ∧ All2 (RTm (H0.length + 1) H1) us done) ?_ emitI_mono ?_
    ⟨[], ks, [], rfl, hv, rfl, Ext.app _ _, by simp, at_last _ _, .nil⟩
  · rintro ev H1 ⟨done, rest, us, rfl, r1, e1, x1, l1, h1, r2⟩
    cases r1
    rw [List.append_nil] at hQ
    exact hQ _ _ us x1 l1 h1 r2
  · rintro m ms ev H1 ⟨done, rest, us, rfl, r1, e1, x1, l1, h1, r2⟩
    cases r1 with
    | cons hm r1 =>
    rename_i k rest
    refine WPG.name hx (.inl rfl) ?_
    refine go_cifN ?_
    refine go_emitI ?_
    refine WPE.call (fun _ => rfl) (fun _ => rfl) ?_
    refine gl_law_told hg ?_
    refine go_callee (co_359 _) ?_
    refine WPEs.cons (fun _ => rfl) ?_
    refine WPE.name (m := m) hx (.inl rfl) (by rw [List.getElem?_set_self (by omega)]) (by obtain ⟨c, b, o, t, rfl, -⟩ := hm; intro q; cases q) hdb ?_
    refine WPEs.nil ?_
    refine WPV.mono (told_ok (by omega) (hm.ext x1) (hs k (by simp))).vc ?_
    rintro r H2 ⟨x2, r3⟩
    have h2 := x2 _ _ h1
    have le : us.length ≤ 1000 := by rw [r2.length]; simp at hlen; omega
    have z := x2.len
    refine go_emit h2 (by omega) ?_
    refine ⟨hc _ ((x1.trans x2).set_new (Nat.le_refl _)), done ++ [k], rest, us ++ [r], by simp, r1, by simpa using e1, (x1.trans x2).set_new (Nat.le_refl _), by simp; omega, at_set (by omega), All2.app (r2.mono fun m a h => (h.ext x2).set (by omega)) (.cons ((r3.le (by omega)).set (by omega)) .nil)⟩
theorem go_bF {b : Bool} {X Y : Prop} (h : b = false) (k : Y) : (b = true → X) ∧ (b = false → Y) := ⟨fun q => (by rw [h] at q; cases q), fun _ => k⟩
theorem go_bT {b : Bool} {X Y : Prop} (h : b = true) (k : X) : (b = true → X) ∧ (b = false → Y) := ⟨fun _ => k, fun q => (by rw [h] at q; cases q)⟩
theorem WPI.mono {fi : FI} {tg e : Expr} {ev : List MV} {Q Q' : (List MObj → Prop) → List MV → List MObj → Prop} (h : WPI B fi d tg e ev H Q) (k : ∀ chk items H', Q chk items H' → Q' chk items H') : WPI B fi d tg e ev H Q' :=
  fun A env Φ g s ok I => wpAny_mono (h A env Φ g s ok I) (fun x s1 h1 => wpAny_mono h1 (fun r s2 ⟨it, g2, H2, Ψ, P, chk, items, a1, a2, a3, a4, a5, a6, a7, a8⟩ => ⟨it, g2, H2, Ψ, P, chk, items, a1, a2, a3, a4, a5, a6, a7, k _ _ _ a8⟩) (fun _ _ h => h)) (fun _ _ h => h)
theorem genI_mono {fi : FI} {a : Nat} {tg iter elt : Expr} (ev : List MV) (H : List MObj) (K K' : List MV → List MObj → Prop) (k : ∀ ev' H', K ev' H' → K' ev' H') (h : genI B fi d a tg iter elt ev H K) : genI B fi d a tg iter elt ev H K' :=
  WPI.mono h fun chk items H1 q => CompS.mono (fun ev H K K' hk h => emitI_mono ev H K K' hk h) k q
def fIdx : Nat → Ck → List Line
  | 1 => (·.base)
  | 2 => (·.ours)
  | _ => (·.theirs)
theorem flat_comp {fi' : FI} {x y : Str} {p1 p2 p3 p4 p5 : Pos} {i1 i2 n : Nat} {ie : Expr} {ev0 : List MV} {ks : List Ck} {vs : List MV} {H0 : List MObj} {chk : List MObj → Prop} {Q : List MV → List MObj → Prop}
    (hx : slot fi'.ns x = some (i1, .local)) (hy : slot fi'.ns y = some (i2, .local)) (h12 : i1 ≠ i2) (hl1 : i1 < ev0.length) (hl2 : i2 < ev0.length) (hn : n = 1 ∨ n = 2 ∨ n = 3)
    (hdx : ((x == ("__debug__" : Str)) || (x == ("__classdict__" : Str))) = false) (hdy : ((y == ("__debug__" : Str)) || (y == ("__classdict__" : Str))) = false)
    (hsub : ∀ o v, subscripted ie false o v = operate [o, v] (getItem o v))
    (hie : ∀ (ev' : List MV) (H' : List MObj) (Q : MV → List MObj → Prop), (∀ n, n ≠ i1 → n ≠ i2 → ev'[n]? = ev0[n]?) → Q (.int (n : Int)) H' → WPE B fi' d ie ev' H' Q)
    (hv : All2 (RTd H0) vs ks) (hlen : (cat (fIdx n) ks).length ≤ 10000) (hc : ∀ H', Ext H0 H' → chk H')
    (hQ : ∀ ev' H', Ext H0 H' → H0.length < H'.length → H'[H0.length]? = some (Ls (cat (fIdx n) ks)) → Q ev' H') :
    CompS B fi' d (.Name x p1) none (genI B fi' d H0.length (.Name y p2) (.Subscript (.Name x p3) ie p4) (.Name y p5)) chk Q vs ev0 (H0 ++ [.list []]) := by
  refine CompS.ind (fun ms ev H1 => ∃ done rest, ks = done ++ rest ∧ All2 (RTd H0) ms rest ∧ ev.length = ev0.length ∧ (∀ n, n ≠ i1 → n ≠ i2 → ev[n]? = ev0[n]?) ∧ Ext H0 H1 ∧ H0.length < H1.length ∧ H1[H0.length]? = some (Ls (cat (fIdx n) done))) ?_ ?_ ?_
    ⟨[], ks, rfl, hv, rfl, fun _ _ _ => rfl, Ext.app _ _, by simp, at_last _ _⟩
  · rintro ev H1 ⟨done, rest, rfl, r1, e1, _, x1, l1, h1⟩
    cases r1
    rw [List.append_nil] at hQ
    exact hQ _ _ x1 l1 h1
  · exact genI_mono
  · rintro m ms ev H1 ⟨done, rest, rfl, r1, e1, f1, x1, l1, h1⟩
    cases r1 with
    | cons hm r1 =>
    rename_i k rest
    refine WPG.name hx (.inl rfl) ?_
    refine go_cifN ?_
    refine go_genI ?_
    refine WPI.seq ?_
    refine WPE.sub hsub ?_
    obtain ⟨b, o, t, rfl, hb, ho, ht⟩ := hm
    refine WPE.name hx (.inl rfl) (List.getElem?_set_self (by omega)) (by intro q; cases q) hdx ?_
    refine hie _ _ _ (fun n a b => by rw [List.getElem?_set_ne a.symm]; exact f1 n a b) ?_
    obtain ⟨j, hj, hjm⟩ : ∃ j, H0[j]? = some (Ls (fIdx n k)) ∧ ([.str (wS k.word), .ref b, .ref o, .ref t] : List MV)[n]? = some (.ref j) := by
      rcases hn with rfl | rfl | rfl
      · exact ⟨b, hb, rfl⟩
      · exact ⟨o, ho, rfl⟩
      · exact ⟨t, ht, rfl⟩
    refine sub_tup n rfl (by simp) hjm ?_
    have hj1 := x1 _ _ hj
    have zj := lt_of_at hj
    refine go_seq hj1 ?_
    refine CompS.ind (fun ms2 ev2 H2 => ∃ d2 r2, fIdx n k = d2 ++ r2 ∧ ms2 = r2.map lb ∧ ev2.length = ev0.length ∧ (∀ n, n ≠ i1 → n ≠ i2 → ev2[n]? = ev0[n]?) ∧ Ext H0 H2 ∧ H0.length < H2.length ∧ H2[H0.length]? = some (Ls (cat (fIdx n) done ++ d2))) ?_ emitI_mono ?_
      ⟨[], fIdx n k, rfl, rfl, by simpa using e1, fun n a b => by rw [List.getElem?_set_ne a.symm]; exact f1 n a b, x1, l1, by rw [List.append_nil]; exact h1⟩
    · rintro ev2 H2 ⟨d2, r2, g1, g2, g3, g4, g5, g6, g7⟩
      obtain rfl : r2 = [] := by simpa using g2.symm
      rw [List.append_nil] at g1
      subst g1
      refine ⟨hc _ g5, done ++ [k], rest, by simp, r1, g3, g4, g5, g6, at_eq g7 ?_⟩
      rw [cat_app]; simp [cat]
    · rintro m2 ms2 ev2 H2 ⟨d2, r2, g1, g2, g3, g4, g5, g6, g7⟩
      obtain ⟨u, r2, rfl⟩ : ∃ x r, r2 = x :: r := by cases r2 with | nil => cases g2 | cons x r => exact ⟨x, r, rfl⟩
      simp only [List.map_cons, List.cons.injEq] at g2
      obtain ⟨rfl, rfl⟩ := g2
      have lz : (cat (fIdx n) done ++ d2).length ≤ 10000 := by
        rw [cat_app] at hlen
        have e3 : cat (fIdx n) (k :: rest) = fIdx n k ++ cat (fIdx n) rest := rfl
        rw [e3, g1] at hlen
        simp only [List.length_append] at hlen ⊢
        omega
      refine WPG.name hy (.inl rfl) ?_
      refine go_cifN ?_
      refine go_emitI ?_
      refine WPE.name hy (.inl rfl) (List.getElem?_set_self (by omega)) (by intro q; cases q) hdy ?_
      refine go_emit g7 (by rw [List.length_map]; omega) ?_
      exact ⟨at_set_ne (g5 _ _ hj) (by omega), d2 ++ [u], r2, by rw [g1]; simp, rfl, by simpa using g3, fun n a b => by rw [List.getElem?_set_ne b.symm]; exact g4 n a b, g5.set_new (Nat.le_refl _), by simpa using g6, at_eq (at_set (by omega)) (by simp)⟩
theorem bsum_cons (k : Ck) (r : List Ck) : bsum (k :: r) = (if k.word = .both then k.ours.length else 0) + bsum r := rfl
theorem isparted_ok {m : MV} {k : Ck} {j : Nat} {vs : List MV} {ps : List Ck} (hd : 3 ≤ d) (hk : RCk H m k) (hks : k.small 300) (hj : H[j]? = some (.list vs)) (hv : All2 (RCk H) vs ps) (hs : ∀ p ∈ ps, p.small 300) (hlp : ps.length ≤ 1000) (hp : piecesOk none ps = true ∧ cat (·.ours) ps = k.ours ∧ cat (·.theirs) ps = k.theirs ∧ bsum ps = longS k.ours k.theirs) :
    WPF B d (.con (.ref 371)) [m, .ref j] H (fun r H' => Ext H H' ∧ r = .bool true) := by
  obtain ⟨c, b, o, t, rfl, hc, hb, ho, ht⟩ := hk
  obtain ⟨s1, s2, s3⟩ := hks
  refine WPF.fn fn371 (by omega) rfl ?_
  rw [ie371]
  have l1 : (k.ours.map lb).length = k.ours.length := List.length_map _
  have l2 : (k.theirs.map lb).length = k.theirs.length := List.length_map _
  refine WPS.cons ?_
  repeat array_get_dec
  refine told_comp (by omega) rfl (by simp [evC]) rfl rfl hv (fun p hp => ⟨by have := (hs p hp).1; omega, by have := (hs p hp).2.1; omega, by have := (hs p hp).2.2; omega⟩) hlp (fun H' x => x _ _ hj) ?_
  rintro ev' H1 us x1 l1 h1 r1
  obtain ⟨hp1, hp2, hp3, hp4⟩ := hp
  have lus := r1.length
  repeat array_get_dec
  refine ForS.ind (fun ms ev2 H2 => ∃ (done rest : List Ck) (ud ur : List MV) (many : Nat), ps = done ++ rest ∧ us = ud ++ ur ∧ ud.length = done.length ∧ ms = enumL ur ud.length ∧ All2 (RTm (H.length + 1) H1) ur rest ∧ All2 (RTm (H.length + 1) H1) ud done ∧ piecesOk (done.getLast?.map (·.word)) rest = true ∧ many + bsum rest = bsum ps ∧
    (∃ a1 a2 a3 a4 a5 a6 a7 a8, ev2 = [.ref c, .ref j, .ref H.length, .int (many : Nat), a1, a2, a3, a4, a5, a6, a7, a8]) ∧ Ext H1 H2) ?_ ?_ ⟨[], ps, [], us, 0, rfl, rfl, rfl, rfl, r1, .nil, hp1, by simp, ⟨_, _, _, _, _, _, _, _, rfl⟩, .refl _⟩
  · rintro ev2 H2 ⟨done, rest, ud, ur, many, e1, e2, e3, e4, r2, r3, e5, e6, ⟨a1, a2, a3, a4, a5, a6, a7, a8, rfl⟩, x2⟩
    obtain rfl : ur = [] := by cases ur with | nil => rfl | cons a b => cases e4
    cases r2
    have x02 := x1.trans x2
    have g1 := x02 _ _ hc
    have g2 := x02 _ _ hb
    have g3 := x02 _ _ ho
    have g4 := x02 _ _ ht
    have g5 := x2 _ _ h1
    have z1 := lt_of_at ho
    have z2 := lt_of_at ht
    have z3 := x1.len
    have z4 := x2.len
    have rr : All2 (RTd H2) us ps := r1.mono fun m a h => (h.ext x2).n.td
    repeat array_get_dec
    refine WP1.ifs ?_
    repeat array_get_dec
    refine flat_comp (n := 2) rfl rfl (by decide) (by simp [evC]) (by simp [evC]) (by omega) rfl rfl (fun _ _ => rfl) (fun _ _ _ _ h => WPE.cInt h) rr (by rw [show fIdx 2 = (·.ours) from rfl, hp2]; omega) (fun H' x => x _ _ g5) ?_
    intro ev3 H3 x3 l3 h3
    have h3' : H3[H2.length]? = some (Ls k.ours) := by rw [← hp2]; exact h3
    have f1 := x3 _ _ g1
    have f2 := x3 _ _ g2
    have f3 := x3 _ _ g3
    have f4 := x3 _ _ g4
    have f5 := x3 _ _ g5
    repeat array_get_dec
    refine go_bF (by simp) ?_
    repeat array_get_dec
    refine flat_comp (n := 3) rfl rfl (by decide) (by simp [evC]) (by simp [evC]) (by omega) rfl rfl (fun _ _ => rfl) (fun _ _ _ _ h => WPE.cInt h) (rr.mono fun m a h => h.ext x3) (by rw [show fIdx 3 = (·.theirs) from rfl, hp3]; omega) (fun H' x => x _ _ f5) ?_
    intro ev4 H4 x4 l4 h4
    have h4' : H4[H3.length]? = some (Ls k.theirs) := by rw [← hp3]; exact h4
    have d1 := x4 _ _ f1
    have d2 := x4 _ _ f2
    have d3 := x4 _ _ f3
    have d4 := x4 _ _ f4
    repeat array_get_dec
    refine go_bF (by simp) ?_
    repeat array_get_dec
    refine WPV.mono (longest_ok (by omega) d3 d4 (by omega)).vc ?_
    rintro r H5 ⟨x5, rfl⟩
    repeat array_get_dec
    refine ⟨(x02.trans x3).trans (x4.trans x5), ?_⟩
    have : many = longS k.ours k.theirs := by rw [← hp4, ← e6]; rfl
    rw [this]; simp
  · rintro m ms ev2 H2 ⟨done, rest, ud, ur, many, e1, e2, e3, e4, r2, r3, e5, e6, ⟨a1, a2, a3, a4, a5, a6, a7, a8, rfl⟩, x2⟩
    obtain ⟨u, ur, rfl⟩ : ∃ x r, ur = x :: r := by cases ur with | nil => cases e4 | cons x r => exact ⟨x, r, rfl⟩
    simp only [enumL, List.cons.injEq] at e4
    obtain ⟨rfl, rfl⟩ := e4
    cases r2 with
    | cons hm r2 =>
    rename_i p rest
    obtain ⟨w, pb, po, pt⟩ := p
    obtain ⟨tb, to, tt, rfl, ⟨q1, q2, q3, q4⟩, k1, k2, k3⟩ := id hm
    have g5 := x2 _ _ h1
    have z3 := x1.len
    have z4 := x2.len
    have lud : ud.length + ur.length ≤ 1000 := by
      have := r2.length
      rw [e1] at hlp; simp at hlp; omega
    have ez : us = ud ++ (.tup [.str (wS w), .ref tb, .ref to, .ref tt]) :: ur := e2
    have hps : (⟨w, pb, po, pt⟩ : Ck).small 300 := hs _ (by rw [e1]; simp)
    obtain ⟨b1, b2, b3⟩ := hps
    simp only at b1 b2 b3
    unfold piecesOk at e5
    rw [Bool.and_eq_true] at e5
    obtain ⟨e5, e7⟩ := e5
    unfold pieceOk at e5
    simp only [Bool.and_eq_true, Bool.or_eq_true, decide_eq_true_eq] at e5
    obtain ⟨⟨⟨⟨rfl, hw⟩, hne⟩, hb'⟩, hc'⟩ := e5
    have j1 := x2 _ _ k1
    have j2 := x2 _ _ k2
    have j3 := x2 _ _ k3
    simp only at j1 j2 j3
    have zz1 := lt_of_at j1
    have zz2 := lt_of_at j2
    have zz3 := lt_of_at j3
    have llus : us.length ≤ 1000 := by rw [lus]; exact hlp
    repeat array_get_dec
    refine WP1.ifs ?_
    refine WPT.mid (fun b H3 => b = false ∧ Ext H2 H3) ?_ ?_
    · repeat array_get_dec
      refine go_bF (by simp) ?_
      repeat array_get_dec
      refine go_bF (by rcases hw with rfl | rfl <;> rfl) ?_
      repeat array_get_dec
      refine go_dec (fun hz => ?_) (fun hz => ?_)
      rotate_left
      · repeat array_get_dec
        exact ⟨rfl, (by sizeOf_list_dec)⟩
      repeat array_get_dec
      obtain ⟨pl, hpl⟩ : ∃ pl, done.getLast? = some pl := by
        cases hh : done.getLast? with
        | none => rw [List.getLast?_eq_none_iff] at hh; have : ud.length = 0 := by rw [e3, hh]; rfl
                  omega
        | some a => exact ⟨a, rfl⟩
      rw [hpl] at hne
      rw [List.getLast?_eq_getElem?] at hpl
      obtain ⟨mp, hmp, tb', to', tt', rfl, -⟩ := r3.get hpl
      rw [← e3] at hmp
      have hlt : ud.length - 1 < ud.length := by omega
      have hmp2 : us[ud.length - 1]? = some (.tup [.str (wS pl.word), .ref tb', .ref to', .ref tt']) := by rw [ez, List.getElem?_append_left hlt]; exact hmp
      refine sub_at (ud.length - 1) (by omega) (at_app g5) (by omega) hmp2 ?_
      repeat array_get_dec
      refine sub_tup 0 rfl (by simp) rfl ?_
      repeat array_get_dec
      refine go_bF (by simpa using hne) ?_
      repeat array_get_dec
      exact ⟨rfl, (by sizeOf_list_dec)⟩
    rintro bb H3 ⟨rfl, x3⟩
    refine go_ff ?_
    replace j1 := x3 _ _ j1
    replace j2 := x3 _ _ j2
    replace j3 := x3 _ _ j3
    replace g5 := x3 _ _ g5
    have z5 := x3.len
    repeat array_get_dec
    refine WP1.ifs ?_
    refine WPT.mid (fun b H4 => b = false ∧ Ext H3 H4) ?_ ?_
    · rcases hw with rfl | rfl
      · repeat array_get_dec
        refine go_bT (by rfl) ?_
        repeat array_get_dec
        refine go_bF (by simpa using (hb'.resolve_left (by simp)).1) ?_
        repeat array_get_dec
        refine go_bF (by simpa using (hb'.resolve_left (by simp)).2) ?_
        repeat array_get_dec
        refine go_bF (by rfl) ?_
        repeat array_get_dec
        exact ⟨rfl, (by sizeOf_list_dec)⟩
      · repeat array_get_dec
        refine go_bF (by rfl) ?_
        repeat array_get_dec
        refine go_bT (by rfl) ?_
        repeat array_get_dec
        refine go_dec (fun hz => ?_) (fun hz => ?_)
        · repeat array_get_dec
          refine go_bF (by subst hz; simpa using hc') ?_
          repeat array_get_dec
          exact ⟨rfl, (by sizeOf_list_dec)⟩
        · repeat array_get_dec
          exact ⟨rfl, (by sizeOf_list_dec)⟩
    rintro bb H4 ⟨rfl, x4⟩
    refine go_ff ?_
    replace j2 := x4 _ _ j2
    replace g5 := x4 _ _ g5
    repeat array_get_dec
    refine go_dec (fun hz => ?_) (fun hz => ?_)
    · repeat array_get_dec
      rw [show ((many : Int) + ((po.map lb).length : Int)) = ((many + po.length : Nat) : Int) from by simp]
      refine ⟨(by decreasing_trivial_pre_omega), done ++ [⟨w, [], po, pt⟩], rest, ud ++ [_], ur, many + po.length, by rw [e1]; simp, by rw [ez]; simp, by simp [e3], by simp, r2, All2.app r3 (.cons hm .nil), by simpa using e7, ?_, ⟨_, _, _, _, _, _, _, _, rfl⟩, x2.trans (x3.trans x4)⟩
      rw [← e6, bsum_cons]; simp only at hz; rw [if_pos hz]; simp only; omega
    · repeat array_get_dec
      rw [Int.add_zero]
      refine ⟨(by decreasing_trivial_pre_omega), done ++ [⟨w, [], po, pt⟩], rest, ud ++ [_], ur, many, by rw [e1]; simp, by rw [ez]; simp, by simp [e3], by simp, r2, All2.app r3 (.cons hm .nil), by simpa using e7, ?_, ⟨_, _, _, _, _, _, _, _, rfl⟩, x2.trans (x3.trans x4)⟩
      rw [← e6, bsum_cons]; simp only at hz; rw [if_neg hz]; omega
end
section
variable {B : Bs} {d : Nat} {H : List MObj}
theorem joined_ok {m m2 : MV} {k k2 : Ck} (hd : 3 ≤ d) (hk : RCk H m k) (hf : RCk H m2 k2) (h1 : k.base.length + k2.base.length ≤ 90000) (h2 : k.ours.length + k2.ours.length ≤ 90000) (h3 : k.theirs.length + k2.theirs.length ≤ 90000) :
    WPF B d (.con (.ref 291)) [m, m2] H (fun r H' => Ext H H' ∧ RC (fun i => H.length ≤ i) H' r ⟨.conflict, k.base ++ k2.base, k.ours ++ k2.ours, k.theirs ++ k2.theirs⟩) := by
  obtain ⟨c, b, o, t, rfl, hc, hb, ho, ht⟩ := hk
  obtain ⟨c2, b2, o2, t2, rfl, hc2, hb2, ho2, ht2⟩ := hf
  refine WPF.fn fn291 (by omega) rfl ?_
  rw [ie291]
  refine WPS.cons ?_
  repeat array_get_dec
  exact ⟨(by sizeOf_list_dec), RC.i (w := .conflict) (by decreasing_trivial_pre_omega) (at_eq (by decreasing_trivial_pre_omega) (by simp)) (at_eq (by decreasing_trivial_pre_omega) (by simp)) (at_eq (by decreasing_trivial_pre_omega) (by simp)) (by array_mem_dec) (by array_mem_dec) (by array_mem_dec) (by array_mem_dec)⟩
theorem cmp_isnN {P : Bool → Prop} (h : P false) : cmpM .IsNot .none .none H P := h
theorem cmp_isnI {a : Int} {P : Bool → Prop} (h : P true) : cmpM .IsNot (.int a) .none H P := h
theorem goC_out {st : Option (Ck × List Ck)} {p : Ck} {r : List Ck} (h1 : isC p = false) (h2 : isSB p = false) : goC st (p :: r) = flatS st ++ p :: goC none r := by
  cases st with
  | none => rw [goC, h1]; rfl
  | some cb => rw [goC, h1, h2]; rfl
theorem goC_sb0 {p : Ck} {r : List Ck} (h1 : isC p = false) : goC none (p :: r) = p :: goC none r := by rw [goC, h1]; rfl
theorem goC_sb1 {p c : Ck} {bs r : List Ck} (h1 : isC p = false) (h2 : isSB p = true) : goC (some (c, bs)) (p :: r) = goC (some (c, bs ++ [p])) r := by rw [goC, h1, h2]; rfl
theorem goC_c0 {p : Ck} {r : List Ck} (h1 : isC p = true) : goC none (p :: r) = goC (some (p, [])) r := by rw [goC, h1]; rfl
theorem goC_c1 {p c : Ck} {bs r : List Ck} (h1 : isC p = true) (h : osum bs ≤ 3) : goC (some (c, bs)) (p :: r) = goC (some (joinC (c :: bs ++ [p]), [])) r := by rw [goC, h1, if_pos rfl, if_pos h]
theorem goC_c2 {p c : Ck} {bs r : List Ck} (h1 : isC p = true) (h : ¬ osum bs ≤ 3) : goC (some (c, bs)) (p :: r) = c :: bs ++ goC (some (p, [])) r := by rw [goC, h1, if_pos rfl, if_neg h]
theorem joinC_one {c : Ck} (h : isC c = true) : joinC [c] = c := by
  obtain ⟨w, a, b, e⟩ := c
  have : w = .conflict := of_decide_eq_true h
  subst this
  simp [joinC, cat]
theorem joinC_snoc (l : List Ck) (k : Ck) : joinC (l ++ [k]) = ⟨.conflict, (joinC l).base ++ k.base, (joinC l).ours ++ k.ours, (joinC l).theirs ++ k.theirs⟩ := by
  simp [joinC, cat_app, cat]
theorem slice_from {vs : List MV} {k : Int} {n : Nat} (h : k = (n : Int)) : MObj.list (sliceM vs (some k) none) = .list (vs.drop n) := by
  subst h; unfold sliceM; simp only [Option.elim, Int.toNat_natCast]; rw [List.take_of_length_le (by simp)]
theorem slice_to {vs : List MV} {n : Nat} : MObj.list (sliceM vs none (some (n : Int))) = .list (vs.take n) := by
  unfold sliceM; simp
theorem cat_mid {f : Ck → List Line} {l a x b : List Ck} {n : Nat} (h : cat f (a ++ x ++ b) = cat f l) (hl : (cat f l).length ≤ n) : (cat f x).length ≤ n := by
  rw [← h, cat_app, cat_app] at hl; simp only [List.length_append] at hl; omega
def lastV (n : Nat) : Option (Ck × List Ck) → MV
  | none => .none
  | some _ => .int (n : Int)
theorem closeup_ok {j : Nat} {vs : List MV} {ps : List Ck} (hd : 5 ≤ d) (hj : H[j]? = some (.list vs)) (hv : All2 (RCk H) vs ps) (hl : ps.length ≤ 1000) (hs : (cat (·.base) ps).length ≤ 10000 ∧ (cat (·.ours) ps).length ≤ 10000 ∧ (cat (·.theirs) ps).length ≤ 10000) :
    WPF B d (.con (.ref 326)) [.ref j] H (fun r H' => Ext H H' ∧ ∃ j' vs', r = .ref j' ∧ H.length ≤ j' ∧ H'[j']? = some (.list vs') ∧ All2 (RC (· ≠ j') H') vs' (closS ps)) := by
  refine WPF.fn fn326 (by omega) rfl ?_
  rw [ie326]
  refine WPS.cons ?_
  repeat array_get_dec
  refine ForS.ind (fun ms ev2 H2 => ∃ (rest pre : List Ck) (st : Option (Ck × List Ck)) (jf : Nat) (us : List MV) (many : Nat), All2 (RCk H) ms rest ∧ closS ps = pre ++ goC st rest ∧ stOk st ∧ (pre.length + (flatS st).length + rest.length ≤ ps.length) ∧
    (cat (·.base) (pre ++ flatS st ++ rest) = cat (·.base) ps ∧ cat (·.ours) (pre ++ flatS st ++ rest) = cat (·.ours) ps ∧ cat (·.theirs) (pre ++ flatS st ++ rest) = cat (·.theirs) ps) ∧
    (∀ c bs, st = some (c, bs) → many = osum bs) ∧ (∃ a1 a2 a3 a4 a5 a6 a7 a8, ev2 = [.ref j, .ref jf, lastV pre.length st, .int (many : Nat), a1, a2, a3, a4, a5, a6, a7, a8]) ∧ Ext H H2 ∧ H.length ≤ jf ∧ H2[jf]? = some (.list us) ∧ All2 (RC (· ≠ jf) H2) us (pre ++ flatS st)) ?_ ?_
    ⟨ps, [], none, H.length, [], 0, hv, rfl, trivial, by simp [flatS], by simp [flatS], by simp, ⟨_, _, _, _, _, _, _, _, rfl⟩, (by sizeOf_list_dec), Nat.le_refl _, (by decreasing_trivial_pre_omega), .nil⟩
  · rintro ev2 H2 ⟨rest, pre, st, jf, us, many, r1, e1, e2, e3, e4, e5, ⟨a1, a2, a3, a4, a5, a6, a7, a8, rfl⟩, x2, l2, h2, r2⟩
    cases r1
    repeat array_get_dec
    refine ⟨x2, jf, us, rfl, l2, h2, ?_⟩
    rw [e1]
    cases st with
    | none => exact r2
    | some cb => exact r2
  · rintro m ms ev2 H2 ⟨rest, pre, st, jf, us, many, r1, e1, e2, e3, e4, e5, ⟨a1, a2, a3, a4, a5, a6, a7, a8, rfl⟩, x2, l2, h2, r2⟩
    cases r1 with
    | cons hm r1 =>
    rename_i p rest
    obtain ⟨c, b, o, t, rfl, hc, hb, ho, ht⟩ := id hm
    have g1 := x2 _ _ hc
    have g2 := x2 _ _ hb
    have g3 := x2 _ _ ho
    have g4 := x2 _ _ ht
    have gj := x2 _ _ hj
    have z1 := lt_of_at h2
    have z2 := lt_of_at hc
    have z3 := lt_of_at hb
    have z4 := lt_of_at ho
    have z5 := lt_of_at ht
    have z6 := lt_of_at hj
    have lus := r2.length
    simp only [List.length_append, List.length_cons] at lus e3
    have rp : RC (· ≠ jf) H2 (.ref c) p := RC.mono (P := (· < H.length)) ⟨c, b, o, t, rfl, ⟨z2, z3, z4, z5⟩, g1, g2, g3, g4⟩ (fun i _ h => by omega)
    have lpo : p.ours.length ≤ 10000 := by
      have := congrArg List.length e4.2.1
      rw [cat_app] at this
      have e : cat (·.ours) (p :: rest) = p.ours ++ cat (·.ours) rest := rfl
      rw [e] at this; simp only [List.length_append] at this; omega
    repeat array_get_dec
    refine WP1.ifs ?_
    repeat array_get_dec
    refine go_dec (fun hw => ?_) (fun hw => ?_)
    · have nC : isC p = false := decide_eq_false hw
      repeat array_get_dec
      have r2' : All2 (RC (· ≠ jf) (H2.set jf (MObj.list (us ++ [MV.ref c])))) (us ++ [MV.ref c]) ((pre ++ flatS st) ++ [p]) := All2.app (r2.mono fun m a h => h.set) (.cons rp.set .nil)
      have x2' : Ext H (H2.set jf (MObj.list (us ++ [MV.ref c]))) := x2.set_new l2
      rw [show (many : Int) + ((p.ours.map lb).length : Int) = ((many + p.ours.length : Nat) : Int) from by simp]
      refine WP1.ifs ?_
      repeat array_get_dec
      refine ⟨fun hz => ?_, fun hz => ?_⟩
      · have nS : isSB p = false := by
          unfold isSB
          simp only [List.any_cons, List.any_nil, Bool.or_false, Bool.or_eq_true, decide_eq_true_eq] at hz
          rcases hz with hz | hz <;> rw [← hz] <;> rfl
        repeat array_get_dec
        refine ⟨(by decreasing_trivial_pre_omega), rest, pre ++ flatS st ++ [p], none, jf, _, many + p.ours.length, r1, by rw [e1, goC_out nC nS]; simp, trivial, by simp only [List.length_append, List.length_cons, List.length_nil, show flatS none = [] from rfl]; omega, by simpa [flatS] using e4, by simp, ⟨_, _, _, _, _, _, _, _, rfl⟩, x2', l2, (by decreasing_trivial_pre_omega), by simpa [flatS] using r2'⟩
      · have yS : isSB p = true := by
          unfold isSB
          revert hw hz
          cases p.word <;> decide
        repeat array_get_dec
        cases st with
        | none =>
          refine ⟨(by decreasing_trivial_pre_omega), rest, pre ++ [p], none, jf, _, many + p.ours.length, r1, by rw [e1, goC_sb0 nC]; simp, trivial, by simp [flatS] at e3 ⊢; omega, by simpa [flatS] using e4, by simp, ⟨_, _, _, _, _, _, _, _, rfl⟩, x2', l2, (by decreasing_trivial_pre_omega), by simpa [flatS] using r2'⟩
        | some cb =>
          obtain ⟨c0, bs⟩ := cb
          refine ⟨(by decreasing_trivial_pre_omega), rest, pre, some (c0, bs ++ [p]), jf, _, many + p.ours.length, r1, by rw [e1, goC_sb1 nC yS], ⟨e2.1, fun x hx => ?_⟩, by simp [flatS] at e3 ⊢; omega, by simpa [flatS] using e4, ?_, ⟨_, _, _, _, _, _, _, _, rfl⟩, x2', l2, (by decreasing_trivial_pre_omega), by simpa [flatS] using r2'⟩
          · rcases List.mem_append.mp hx with hx | hx
            · exact e2.2 x hx
            · simp at hx; rw [hx]; exact yS
          · rintro c' bs' h'
            cases h'
            rw [e5 c0 bs rfl, osum_app]; rfl
    · have yC : isC p = true := decide_eq_true (Classical.not_not.mp hw)
      cases st with
      | none =>
        rw [show lastV pre.length none = MV.none from rfl]
        repeat array_get_dec
        refine WP1.ifs ?_
        repeat array_get_dec
        refine cmp_isnN (go_ff ?_)
        repeat array_get_dec
        simp only [show flatS none = [] from rfl, List.append_nil, List.length_nil, Nat.add_zero] at lus e3 e4 r2
        rw [lus]
        refine ⟨(by decreasing_trivial_pre_omega), rest, pre, some (p, []), jf, _, 0, r1, by rw [e1, goC_c0 yC], ⟨yC, by simp⟩, by simp only [List.length_cons, List.length_nil, flatS]; omega, by simpa [flatS] using e4, by rintro c' bs' h'; cases h'; rfl, ⟨_, _, _, _, _, _, _, _, rfl⟩, x2.set_new l2, l2, (by decreasing_trivial_pre_omega), All2.app (r2.mono fun m a h => h.set) (.cons rp.set .nil)⟩
      | some cb =>
        obtain ⟨c0, bs⟩ := cb
        rw [show lastV pre.length (some (c0, bs)) = MV.int (pre.length : Nat) from rfl]
        have em := e5 c0 bs rfl
        repeat array_get_dec
        refine WP1.ifs ?_
        repeat array_get_dec
        refine cmp_isnI (go_tt ?_)
        repeat array_get_dec
        refine go_dec (fun hz => ?_) (fun hz => ?_)
        · have ho3 : osum bs ≤ 3 := by omega
          repeat array_get_dec
          obtain ⟨m0, hm0, rm0⟩ := r2.get (show (pre ++ flatS (some (c0, bs)))[pre.length]? = some c0 by simp [flatS])
          obtain ⟨i0, ib0, io0, it0, rfl, -⟩ := id rm0
          refine sub_at pre.length rfl h2 (by omega) hm0 ?_
          have rdr : All2 (RC (· ≠ jf) H2) (us.drop (pre.length + 1)) bs := by
            have q := r2.drop (pre.length + 1)
            have e : (pre ++ flatS (some (c0, bs))).drop (pre.length + 1) = bs := by
              rw [List.drop_append]; simp [flatS]
            rw [e] at q; exact q
          have rtk : All2 (RC (· ≠ jf) H2) (us.take pre.length) pre := by
            have q := r2.take pre.length
            have e : (pre ++ flatS (some (c0, bs))).take pre.length = pre := by simp [flatS]
            rw [e] at q; exact q
          have bnd : ∀ bd br, bs = bd ++ br → (cat (·.base) (c0 :: bd)).length ≤ 10000 ∧ (cat (·.ours) (c0 :: bd)).length ≤ 10000 ∧ (cat (·.theirs) (c0 :: bd)).length ≤ 10000 := by
            rintro bd br rfl
            have e : pre ++ flatS (some (c0, bd ++ br)) ++ p :: rest = pre ++ (c0 :: bd) ++ (br ++ p :: rest) := by simp [flatS]
            rw [e] at e4
            exact ⟨cat_mid e4.1 hs.1, cat_mid e4.2.1 hs.2.1, cat_mid e4.2.2 hs.2.2⟩
          have bnd2 : ∀ k, (k ∈ bs ∨ k = p) → k.base.length ≤ 10000 ∧ k.ours.length ≤ 10000 ∧ k.theirs.length ≤ 10000 := by
            intro k hk
            have : ∃ a b, pre ++ flatS (some (c0, bs)) ++ p :: rest = a ++ [k] ++ b := by
              rcases hk with hk | rfl
              · obtain ⟨u, v, rfl⟩ := List.append_of_mem hk
                exact ⟨pre ++ c0 :: u, v ++ p :: rest, by simp [flatS]⟩
              · exact ⟨pre ++ flatS (some (c0, bs)), rest, by simp⟩
            obtain ⟨a, b, e⟩ := this
            rw [e] at e4
            have := cat_mid e4.1 hs.1
            have := cat_mid e4.2.1 hs.2.1
            have := cat_mid e4.2.2 hs.2.2
            simp [cat] at *
            omega
          repeat array_get_dec
          refine ForS.ind (fun ms3 ev3 H3 => ∃ (bd br : List Ck) (w : Nat), bs = bd ++ br ∧ All2 (RC (· ≠ jf) H2) ms3 br ∧ RC (fun i => i ≠ jf) H3 (.ref w) (joinC (c0 :: bd)) ∧ (∃ a3, ev3 = [.ref j, .ref jf, .int (pre.length : Nat), .int (many : Nat), .ref c, .ref w, a3, a4, a5, a6, a7, a8]) ∧ Ext H2 H3 ∧ H3[H2.length]? = some (.list (us.drop (pre.length + 1)))) ?_ ?_ ⟨[], bs, i0, rfl, ?_, ?_, ⟨_, rfl⟩, (by sizeOf_list_dec), at_eq (by decreasing_trivial_pre_omega) (slice_from (by omega))⟩
          · rintro ev3 H3 ⟨bd, br, w, e6, q1, q2, ⟨a3', rfl⟩, x3, h3⟩
            cases q1
            rw [List.append_nil] at e6
            subst e6
            obtain ⟨iw, wb, wo, wt, ew, -, w1, w2, w3, w4⟩ := id q2
            cases ew
            have k1 := x3 _ _ h2
            have k2 := rp.ext x3
            have y3 := x3.len
            have b1 := bnd bs [] (by simp)
            have b2 := bnd2 p (.inr rfl)
            repeat array_get_dec
            have x4a : Ext H2 (H3 ++ [MObj.list (sliceM us none (some ((pre.length : Nat) : Int)))]) := x3.trans (Ext.app _ _)
            have hsl : (H3 ++ [MObj.list (sliceM us none (some ((pre.length : Nat) : Int)))])[H3.length]? = some (.list (us.take pre.length)) := at_eq (at_last _ _) slice_to
            have q2' := q2.ext (Ext.app H3 [MObj.list (sliceM us none (some ((pre.length : Nat) : Int)))])
            have k2' := k2.ext (Ext.app H3 [MObj.list (sliceM us none (some ((pre.length : Nat) : Int)))])
            have yl : (H3 ++ [MObj.list (sliceM us none (some ((pre.length : Nat) : Int)))]).length = H3.length + 1 := by simp
            generalize H3 ++ [MObj.list (sliceM us none (some ((pre.length : Nat) : Int)))] = H4 at x4a hsl q2' k2' yl ⊢
            refine WPV.mono (joined_ok (by omega) q2'.rck k2'.rck (by simp only [joinC]; omega) (by simp only [joinC]; omega) (by simp only [joinC]; omega)).vc ?_
            rintro r H5 ⟨x5, q5⟩
            have hsl5 := x5 _ _ hsl
            have y5 := x5.len
            obtain ⟨ir, rb, ro, rt, rfl, -⟩ := id q5
            have ltk : (us.take pre.length).length ≤ 1000 := by simp; omega
            repeat array_get_dec
            have x05 : Ext H2 (H5 ++ [MObj.list [MV.ref ir]] ++ [MObj.list (us.take pre.length ++ [MV.ref ir])]) := (x4a.trans x5).trans ((Ext.app _ _).trans (Ext.app _ _))
            refine ⟨(by decreasing_trivial_pre_omega), rest, pre, some (joinC (c0 :: bs ++ [p]), []), _, _, 0, r1, by rw [e1, goC_c1 yC ho3], ⟨rfl, by simp⟩, by simp only [flatS, List.length_cons, List.length_nil] at e3 ⊢; omega, ?_, by rintro c' bs' h'; cases h'; rfl, ⟨_, _, _, _, _, _, _, _, rfl⟩, x2.trans x05, ?_, at_last _ _, ?_⟩
            · simp only [flatS, cat_app, cat, joinC, List.append_assoc, List.append_nil, List.cons_append] at e4 ⊢
              exact e4
            · have := x2.len; simp; omega
            · refine All2.app (rtk.mono fun m a h => ?_) (.cons ?_ .nil)
              · exact ((h.mono (P' := (· < H2.length)) (fun i a b => a)).ext x05).mono fun i a b => by simp; omega
              · rw [joinC_snoc]
                exact ((q5.mono (P' := (· < H5.length)) (fun i a b => a)).ext ((Ext.app _ _).trans (Ext.app _ _))).mono fun i a b => by simp; omega
          · rintro m3 ms3 ev3 H3 ⟨bd, br, w, e6, q1, q2, ⟨a3', rfl⟩, x3, h3⟩
            cases q1 with
            | cons hb q1 =>
            rename_i kb br
            obtain ⟨iw, wb, wo, wt, ew, -, w1, w2, w3, w4⟩ := id q2
            cases ew
            obtain ⟨ib, bb, bo, bt, rfl, -⟩ := id hb
            have b1 := bnd bd (kb :: br) e6
            have b2 := bnd2 kb (.inl (by rw [e6]; simp))
            have y3 := x3.len
            repeat array_get_dec
            refine WPV.mono (joined_ok (by omega) q2.rck (hb.ext x3).rck (by simp only [joinC]; omega) (by simp only [joinC]; omega) (by simp only [joinC]; omega)).vc ?_
            rintro r H5 ⟨x5, q5⟩
            obtain ⟨ir, rb, ro, rt, rfl, -⟩ := id q5
            repeat array_get_dec
            refine ⟨at_eq (x5 _ _ h3) (slice_from (by omega)).symm, bd ++ [kb], br, ir, by rw [e6]; simp, q1, ?_, ⟨_, rfl⟩, x3.trans x5, x5 _ _ h3⟩
            have e8 : joinC (c0 :: (bd ++ [kb])) = ⟨.conflict, (joinC (c0 :: bd)).base ++ kb.base, (joinC (c0 :: bd)).ours ++ kb.ours, (joinC (c0 :: bd)).theirs ++ kb.theirs⟩ := joinC_snoc (c0 :: bd) kb
            rw [e8]
            exact q5.mono fun i a b => by omega
          · have e : us.drop (pre.length + 1) = us.drop (pre.length + 1) := rfl
            rw [show sliceM us (some ((pre.length : Int) + 1)) none = us.drop (pre.length + 1) from by have := slice_from (vs := us) (k := (pre.length : Int) + 1) (n := pre.length + 1) (by omega); injection this]
            exact rdr
          · rw [joinC_one e2.1]
            exact rm0.ext (by sizeOf_list_dec)
        · have ho3 : ¬ osum bs ≤ 3 := by omega
          repeat array_get_dec
          have e7 : us.length = (pre ++ c0 :: bs).length := by rw [lus]; simp [flatS]
          rw [e7]
          refine ⟨(by decreasing_trivial_pre_omega), rest, pre ++ c0 :: bs, some (p, []), jf, _, 0, r1, by rw [e1, goC_c2 yC ho3]; simp, ⟨yC, by simp⟩, by simp [flatS] at e3 ⊢; omega, by simpa [flatS] using e4, by rintro c' bs' h'; cases h'; rfl, ⟨_, _, _, _, _, _, _, _, rfl⟩, x2.set_new l2, l2, (by decreasing_trivial_pre_omega), All2.app (r2.mono fun m a h => h.set) (.cons rp.set .nil)⟩
end
def NoM (ks : List Ck) (l : Nat) : Prop := ∀ (a : List Ck) (c c2 : Ck) (bs r : List Ck), ks = a ++ c :: bs ++ c2 :: r → a.length = l → isC c = true → isC c2 = true → (∀ x ∈ bs, isSB x = true) → ¬ osum bs ≤ 3
theorem closS_noM {ks : List Ck} (h : ∀ l, l < ks.length → NoM ks l) : closS ks = ks :=
  closS_still fun a c c2 bs r e h1 h2 h3 => h a.length (by rw [e]; simp only [List.length_append, List.length_cons]; omega) a c c2 bs r e rfl h1 h2 h3
theorem sb_unique : ∀ {bs bs' tail r : List Ck} {c2 : Ck}, bs ++ tail = bs' ++ c2 :: r → (∀ x ∈ bs, isSB x = true) → (∀ x ∈ bs', isSB x = true) → isSB c2 = false → (∀ x t, tail = x :: t → isSB x = false) → bs = bs' ∧ tail = c2 :: r
  | [], [], tail, r, c2, e, _, _, _, _ => ⟨rfl, e⟩
  | [], y :: ys, tail, r, c2, e, _, h2, _, h4 => by
    have := h4 y (ys ++ c2 :: r) e
    rw [h2 y (by simp)] at this; cases this
  | x :: xs, [], tail, r, c2, e, h1, _, h3, _ => by
    simp only [List.cons_append, List.nil_append, List.cons.injEq] at e
    rw [← e.1, h1 x (by simp)] at h3; cases h3
  | x :: xs, y :: ys, tail, r, c2, e, h1, h2, h3, h4 => by
    simp only [List.cons_append, List.cons.injEq] at e
    obtain ⟨a, b⟩ := sb_unique e.2 (fun z hz => h1 z (by simp [hz])) (fun z hz => h2 z (by simp [hz])) h3 h4
    exact ⟨by rw [e.1, a], b⟩
section
variable {B : Bs} {d : Nat} {H : List MObj}
theorem comp_cons {fi : FI} {tg : Expr} {c : Option Expr} {inner : Inner} {chk : List MObj → Prop} {Q : List MV → List MObj → Prop} {m : MV} {ms ev : List MV}
    (h : WPG B fi d tg m ev H fun ev1 H1 => CIf B fi d c ev1 H1 (fun H2 => inner ev1 H2 fun ev2 H3 => chk H3 ∧ CompS B fi d tg c inner chk Q ms ev2 H3) (fun H2 => chk H2 ∧ CompS B fi d tg c inner chk Q ms ev1 H2)) : CompS B fi d tg c inner chk Q (m :: ms) ev H := h
theorem comp_nil {fi : FI} {tg : Expr} {c : Option Expr} {inner : Inner} {chk : List MObj → Prop} {Q : List MV → List MObj → Prop} {ev : List MV} (h : Q ev H) : CompS B fi d tg c inner chk Q [] ev H := h
theorem lens_comp {fi' : FI} {x : Str} {p1 p2 p3 p4 p5 p6 : Pos} {kk i1 : Nat} {ev0 : List MV} {ks : List Ck} {vs : List MV} {H0 : List MObj} {chk : List MObj → Prop} {Q : List MV → List MObj → Prop}
    (hx : slot fi'.ns x = some (i1, .local)) (hl1 : i1 < ev0.length) (hg : fi'.ns.lookup (Str.ofString "len") = some .globalImplicit) (hdx : ((x == ("__debug__" : Str)) || (x == ("__classdict__" : Str))) = false)
    (hv : All2 (RTd H0) vs ks) (hlen : ks.length ≤ 1000) (hs : ∀ k ∈ ks, k.ours.length ≤ 1000) (hc : ∀ H', Ext H0 H' → chk H')
    (hQ : ∀ ev' H', Ext H0 H' → H0.length < H'.length → H'[H0.length]? = some (.list ((ks.map fun k => ((k.ours.length : Nat) : Int)).map .int)) → Q ev' H') :
    CompS B fi' d (.Name x p1) none (emitI B fi' d H0.length (.Call (.Name (Str.ofString "len") p2) [.Subscript (.Name x p3) (.Constant (.int 2) kk p4) p5] [] p6)) chk Q vs ev0 (H0 ++ [.list []]) := by
  refine CompS.ind (fun ms ev H1 => ∃ done rest, ks = done ++ rest ∧ All2 (RTd H0) ms rest ∧ ev.length = ev0.length ∧ Ext H0 H1 ∧ H0.length < H1.length ∧ H1[H0.length]? = some (.list ((done.map fun k => ((k.ours.length : Nat) : Int)).map .int))) ?_ emitI_mono ?_
    ⟨[], ks, rfl, hv, rfl, Ext.app _ _, by simp, at_last _ _⟩
  · rintro ev H1 ⟨done, rest, rfl, r1, e1, x1, l1, h1⟩
    cases r1
    rw [List.append_nil] at hQ
    exact hQ _ _ x1 l1 h1
  · rintro m ms ev H1 ⟨done, rest, rfl, r1, e1, x1, l1, h1⟩
    cases r1 with
    | cons hm r1 =>
    rename_i k rest
    obtain ⟨b, o, t, rfl, hb, ho, ht⟩ := hm
    refine WPG.name hx (.inl rfl) ?_
    refine go_cifN ?_
    refine go_emitI ?_
    refine WPE.call (fun _ => rfl) (fun _ => rfl) ?_
    refine gl_len hg ?_
    refine go_calleeB ?_
    refine WPEs.cons (fun _ => rfl) ?_
    refine WPE.sub (fun _ _ => rfl) ?_
    refine WPE.name hx (.inl rfl) (List.getElem?_set_self (by omega)) (by intro q; cases q) hdx ?_
    refine WPE.cInt ?_
    refine sub_tup 2 rfl (by simp) rfl ?_
    refine WPEs.nil ?_
    have := hs k (by simp)
    refine WPV.len (x1 _ _ ho) (by simp; omega) ?_
    simp only [List.length_append, List.length_cons] at hlen
    refine go_emit h1 (by simp; omega) ?_
    exact ⟨hc _ (x1.set_new (Nat.le_refl _)), done ++ [k], rest, by simp, r1, by simpa using e1, x1.set_new (Nat.le_refl _), by simpa using l1, at_eq (at_set (by omega)) (by simp)⟩
theorem sum_osum : ∀ (ks : List Ck), (ks.map fun k => ((k.ours.length : Nat) : Int)).sum = ((osum ks : Nat) : Int)
  | [] => rfl
  | k :: r => by
    rw [List.map_cons, List.sum_cons, sum_osum r]; show _ = ((k.ours.length + osum r : Nat) : Int); push_cast; rfl
theorem slice_mid {vs : List MV} {a b : Int} {n m : Nat} (h : a = (n : Int)) (h' : b = (m : Int)) : sliceM vs (some a) (some b) = (vs.drop n).take (m - n) := by
  subst h h'; unfold sliceM; simp
theorem closed_ok : ∀ (n : Nat) {d : Nat} {H : List MObj} {j : Nat} {vs : List MV} {ks : List Ck}, ks.length ≤ n → n + 3 ≤ d → n ≤ 1000 → H[j]? = some (.list vs) → All2 (RTd H) vs ks →
    ((cat (·.base) ks).length ≤ 1000 ∧ (cat (·.ours) ks).length ≤ 1000 ∧ (cat (·.theirs) ks).length ≤ 1000) →
    WPF B d (.con (.ref 383)) [.ref j] H (fun r H' => Ext H H' ∧ ∃ j' vs', r = .ref j' ∧ H'[j']? = some (.list vs') ∧ All2 (RTd H') vs' (closS ks)) := by
  intro n
  induction n using Nat.strongRecOn with
  | ind n ih =>
  intro d H j vs ks hn hd hn1 hj hv hb
  refine WPF.fn fn383 (by omega) rfl ?_
  rw [ie383]
  have lvs := hv.length
  refine WPS.cons ?_
  repeat array_get_dec
  rw [rangeSize1 (by omega), show ((vs.length : Int) - 0).toNat = ks.length from by omega]
  refine ForS.ind (fun ms ev2 H2 => ∃ low cnt : Nat, ms = rangeL ((low : Nat) : Int) 1 cnt ∧ low + cnt = ks.length ∧ (∀ l, l < low → NoM ks l) ∧ (∃ a1 a2 a3 a4, ev2 = [.ref j, a1, a2, a3, a4, .undef, .undef, .undef, .undef]) ∧ Ext H H2) ?_ ?_ ⟨0, ks.length, rfl, by omega, by omega, ⟨_, _, _, _, rfl⟩, .refl _⟩
  · rintro ev2 H2 ⟨low, cnt, e1, e2, e3, ⟨a1, a2, a3, a4, rfl⟩, x2⟩
    obtain rfl : cnt = 0 := by cases cnt with | zero => rfl | succ n => cases e1
    repeat array_get_dec
    refine ⟨x2, j, vs, rfl, x2 _ _ hj, ?_⟩
    rw [closS_noM fun l hl => e3 l (by omega)]
    exact hv.mono fun m a h => h.ext x2
  · rintro m ms ev2 H2 ⟨low, cnt, e1, e2, e3, ⟨a1, a2, a3, a4, rfl⟩, x2⟩
    cases cnt with
    | zero => cases e1
    | succ cnt =>
    unfold rangeL at e1
    injection e1 with e1 e1'
    subst e1 e1'
    have gj := x2 _ _ hj
    have zj := lt_of_at hj
    have hlow : low < ks.length := by omega
    obtain ⟨c0, hc0⟩ : ∃ c, ks[low]? = some c := ⟨_, List.getElem?_eq_getElem hlow⟩
    obtain ⟨m0, hm0, rm0⟩ := hv.get hc0
    obtain ⟨b0, o0, t0, rfl, f1, f2, f3⟩ := id rm0
    have next : NoM ks low → ∀ ev3 H3, Ext H H3 → (∃ a1 a2 a3 a4, ev3 = ([.ref j, a1, a2, a3, a4, .undef, .undef, .undef, .undef] : List MV)) → True ∧ ∃ low' cnt' : Nat, rangeL ((low : Int) + 1) 1 cnt = rangeL ((low' : Nat) : Int) 1 cnt' ∧ low' + cnt' = ks.length ∧ (∀ l, l < low' → NoM ks l) ∧ (∃ a1 a2 a3 a4, ev3 = ([.ref j, a1, a2, a3, a4, .undef, .undef, .undef, .undef] : List MV)) ∧ Ext H H3 := by
      intro hno ev3 H3 x3 he
      refine ⟨trivial, low + 1, cnt, by push_cast; rfl, by omega, fun l hl => ?_, he, x3⟩
      rcases Nat.lt_or_ge l low with h | h
      · exact e3 l h
      · rw [show l = low from by omega]; exact hno
    have dec : ks = ks.take low ++ c0 :: ks.drop (low + 1) := by
      rw [List.getElem?_eq_getElem hlow] at hc0
      injection hc0 with hc0
      rw [← hc0, List.getElem_cons_drop hlow, List.take_append_drop]
    have hta : (ks.take low).length = low := by simp; omega
    generalize ks.drop (low + 1) = rest at dec
    repeat array_get_dec
    refine WP1.ifs ?_
    repeat array_get_dec
    refine sub_at low rfl gj (by omega) hm0 ?_
    repeat array_get_dec
    refine sub_tup 0 rfl (by simp) rfl ?_
    repeat array_get_dec
    have uniq : ∀ (a : List Ck) (c c2 : Ck) (bs r : List Ck), ks = a ++ c :: bs ++ c2 :: r → a.length = low → c = c0 ∧ rest = bs ++ c2 :: r := by
      intro a c c2 bs r e ha
      rw [dec, List.append_assoc] at e
      obtain ⟨q1, q2⟩ := List.append_inj e (by rw [hta, ha])
      simp only [List.cons_append, List.cons.injEq] at q2
      exact ⟨q2.1.symm, q2.2⟩
    refine go_dec (fun hw => ?_) (fun hw => ?_)
    rotate_left
    · repeat array_get_dec
      refine next ?_ _ _ x2 ⟨_, _, _, _, rfl⟩
      intro a c c2 bs r e h1 h2 _ _
      obtain ⟨rfl, -⟩ := uniq a c c2 bs r e h1
      exact absurd (of_decide_eq_true h2) hw
    have yC0 : isC c0 = true := decide_eq_true hw
    repeat array_get_dec
    refine WP1.mid (fun ev3 H3 => ∃ bs tail, rest = bs ++ tail ∧ (∀ x ∈ bs, isSB x = true) ∧ (∀ x t, tail = x :: t → isSB x = false) ∧ H2 = H3 ∧ ev3 = [.ref j, .int (low : Nat), .int ((low + 1 + bs.length : Nat) : Int), a3, a4, .undef, .undef, .undef, .undef]) ?_ ?_
    · refine WP1.whileI (fun n ev3 H3 => ∃ bs tail, rest = bs ++ tail ∧ (∀ x ∈ bs, isSB x = true) ∧ n = tail.length ∧ H2 = H3 ∧ ev3 = [.ref j, .int (low : Nat), .int ((low + 1 + bs.length : Nat) : Int), a3, a4, .undef, .undef, .undef, .undef]) rest.length ⟨[], rest, rfl, by simp, rfl, rfl, rfl⟩ ?_
      rintro n1 ev3 H3 ⟨bs, tail, e4, e5, e6, rfl, rfl⟩
      have lks : ks.length = low + 1 + bs.length + tail.length := by rw [dec, e4]; simp only [List.length_append, List.length_cons, hta]; omega
      repeat array_get_dec
      refine go_dec (fun h => ?_) (fun h => ?_)
      · obtain ⟨x, tail, rfl⟩ : ∃ x t, tail = x :: t := by cases tail with | nil => simp at lks; omega | cons x t => exact ⟨x, t, rfl⟩
        have hx : ks[low + 1 + bs.length]? = some x := by
          rw [dec, e4, List.getElem?_append_right (by omega), hta, show low + 1 + bs.length - low = bs.length + 1 from by omega, List.getElem?_cons_succ, List.getElem?_append_right (by omega)]; simp
        obtain ⟨mx, hmx, rx⟩ := hv.get hx
        obtain ⟨xb, xo, xt, rfl, -⟩ := id rx
        repeat array_get_dec
        refine sub_at (low + 1 + bs.length) rfl gj (by omega) hmx ?_
        repeat array_get_dec
        refine sub_tup 0 rfl (by simp) rfl ?_
        repeat array_get_dec
        refine ⟨fun hz => ?_, fun hz => ?_⟩
        · repeat array_get_dec
          refine ⟨tail.length, by rw [e6]; simp, bs ++ [x], tail, by rw [e4]; simp, ?_, rfl, rfl, ?_⟩
          · intro y hy
            rcases List.mem_append.mp hy with hy | hy
            · exact e5 y hy
            · simp at hy; subst hy
              unfold isSB; revert hz; cases y.word <;> decide
          · simp; omega
        · repeat array_get_dec
          refine ⟨bs, x :: tail, e4, e5, ?_, rfl, rfl⟩
          rintro y t h
          injection h with h1 h2
          subst h1
          unfold isSB; revert hz; cases x.word <;> decide
      · repeat array_get_dec
        refine ⟨bs, tail, e4, e5, ?_, rfl, rfl⟩
        rintro y t rfl
        simp at lks; omega
    rintro ev3 H3 ⟨bs, tail, e4, e5, e6, rfl, rfl⟩
    have noM_of : (∀ c2 r, tail = c2 :: r → isC c2 = true → ¬ osum bs ≤ 3) → NoM ks low := by
      intro h a c c2 bs' r e h1 h2 h3 h4
      obtain ⟨rfl, e'⟩ := uniq a c c2 bs' r e h1
      rw [e4] at e'
      have nS : isSB c2 = false := by
        cases hh : isSB c2 with
        | false => rfl
        | true => rw [isSB_notC hh] at h3; cases h3
      obtain ⟨rfl, q⟩ := sb_unique e' e5 h4 nS e6
      exact h _ _ q h3
    have lks : ks.length = low + 1 + bs.length + tail.length := by rw [dec, e4]; simp only [List.length_append, List.length_cons, hta]; omega
    have hsl : sliceM vs (some ((low : Int) + 1)) (some ((low + 1 + bs.length : Nat) : Int)) = (vs.drop (low + 1)).take bs.length := by
      rw [slice_mid (n := low + 1) (m := low + 1 + bs.length) (by omega) rfl, Nat.add_sub_cancel_left]
    have kdr : ks.drop (low + 1) = rest := by
      rw [dec, List.drop_append, List.drop_of_length_le (by omega), hta, show low + 1 - low = 1 from by omega]; rfl
    have rbs : All2 (RTd H) ((vs.drop (low + 1)).take bs.length) bs := by
      have q := (hv.drop (low + 1)).take bs.length
      rw [kdr, e4, List.take_left] at q; exact q
    have bb : ∀ k ∈ ks, k.base.length ≤ 1000 ∧ k.ours.length ≤ 1000 ∧ k.theirs.length ≤ 1000 := by
      intro k hk
      obtain ⟨u, v, e⟩ := List.append_of_mem hk
      have e' : ks = u ++ [k] ++ v := by rw [e]; simp
      have q1 := cat_mid (f := (·.base)) (l := ks) (a := u) (x := [k]) (b := v) (by rw [← e']) hb.1
      have q2 := cat_mid (f := (·.ours)) (l := ks) (a := u) (x := [k]) (b := v) (by rw [← e']) hb.2.1
      have q3 := cat_mid (f := (·.theirs)) (l := ks) (a := u) (x := [k]) (b := v) (by rw [← e']) hb.2.2
      simp [cat] at q1 q2 q3
      exact ⟨q1, q2, q3⟩
    repeat array_get_dec
    rw [hsl]
    refine lens_comp rfl (by simp [evC]) rfl rfl (rbs.mono fun m a h => h.ext (x2.trans (Ext.app _ _))) (by omega) (fun k hk => (bb k (by rw [dec, e4]; simp [hk])).2.1) (fun H' x => x _ _ (at_last _ _)) ?_
    intro ev4 H4 x4 l4 h4
    repeat array_get_dec
    refine WPV.sum h4 ?_
    rw [sum_osum]
    have gj4 := x4 _ _ (at_app gj)
    repeat array_get_dec
    refine WP1.ifs ?_
    repeat array_get_dec
    refine go_dec (fun h => ?_) (fun h => ?_)
    rotate_left
    · have : tail = [] := by
        cases tail with
        | nil => rfl
        | cons x t => simp at lks; omega
      subst this
      repeat array_get_dec
      exact next (noM_of (by rintro c2 r h; cases h)) _ _ ((x2.trans (Ext.app _ _)).trans x4) ⟨_, _, _, _, rfl⟩
    obtain ⟨x, t, rfl⟩ : ∃ x t, tail = x :: t := by cases tail with | nil => simp at lks; omega | cons x t => exact ⟨x, t, rfl⟩
    have hx : ks[low + 1 + bs.length]? = some x := by
      rw [dec, e4, List.getElem?_append_right (by omega), hta, show low + 1 + bs.length - low = bs.length + 1 from by omega, List.getElem?_cons_succ, List.getElem?_append_right (by omega)]; simp
    obtain ⟨mx, hmx, rx⟩ := hv.get hx
    obtain ⟨xb, xo, xt, rfl, -⟩ := id rx
    have x04 : Ext H H4 := (x2.trans (Ext.app _ _)).trans x4
    repeat array_get_dec
    refine sub_at (low + 1 + bs.length) rfl gj4 (by omega) hmx ?_
    repeat array_get_dec
    refine sub_tup 0 rfl (by simp) rfl ?_
    repeat array_get_dec
    refine go_dec (fun hz => ?_) (fun hz => ?_)
    rotate_left
    · repeat array_get_dec
      refine next (noM_of ?_) _ _ x04 ⟨_, _, _, _, rfl⟩
      rintro c2 r h hc2
      injection h with h1 h2
      subst h1
      exact absurd (of_decide_eq_true hc2) hz
    repeat array_get_dec
    refine go_dec (fun h3 => ?_) (fun h3 => ?_)
    rotate_left
    · repeat array_get_dec
      refine next (noM_of ?_) _ _ x04 ⟨_, _, _, _, rfl⟩
      intro c2 r h hc2
      omega
    have yCx : isC x = true := decide_eq_true hz
    have o3 : osum bs ≤ 3 := by omega
    clear next noM_of uniq e3 e6
    repeat array_get_dec
    refine WP1.asgComp ⟨rfl, by decide, rfl⟩ (fun _ _ => rfl) (fun env hn hk => swapsWith_env rfl env hn hk) rfl ?_
    repeat array_get_dec
    have hsl2 : sliceM vs (some ((low : Nat) : Int)) (some (((low + 1 + bs.length : Nat) : Int) + 1)) = (vs.drop low).take (bs.length + 2) := by
      rw [slice_mid (n := low) (m := low + 1 + bs.length + 1) rfl (by omega)]; congr 1; omega
    have kdr2 : (ks.drop low).take (bs.length + 2) = c0 :: bs ++ [x] := by
      rw [dec, List.drop_left' hta, e4, List.take_succ_cons, List.take_append]
      simp
      exact List.take_of_length_le (by omega)
    have rL : All2 (RTd H) ((vs.drop low).take (bs.length + 2)) (c0 :: bs ++ [x]) := by
      have q := (hv.drop low).take (bs.length + 2)
      rw [kdr2] at q; exact q
    have eL : ks = ks.take low ++ (c0 :: bs ++ [x]) ++ t := by
      conv => lhs; rw [dec, e4]
      simp
    have bL : ∀ n, (cat (fIdx n) (c0 :: bs ++ [x])).length ≤ 1000 := by
      intro n
      have q1 := cat_mid (f := (·.base)) (l := ks) (by rw [← eL]) hb.1
      have q2 := cat_mid (f := (·.ours)) (l := ks) (by rw [← eL]) hb.2.1
      have q3 := cat_mid (f := (·.theirs)) (l := ks) (by rw [← eL]) hb.2.2
      match n with
      | 0 => exact q3
      | 1 => exact q1
      | 2 => exact q2
      | n + 3 => exact q3
    generalize hLL : c0 :: bs ++ [x] = LL at rL eL bL
    refine CompS.ind (fun ms ev5 H5 => ∃ (i : Nat) (rs : List MV), i ≤ 3 ∧ ms = ([.int 1, .int 2, .int 3] : List MV).drop i ∧ Ext H4 H5 ∧ H4.length < H5.length ∧ H5[H4.length]? = some (.list rs) ∧ rs.length = i ∧ (∀ q, q < i → ∃ r, rs[q]? = some (.ref r) ∧ H4.length < r ∧ H5[r]? = some (Ls (cat (fIdx (q + 1)) LL))) ∧
       (∃ w, ev5 = [.undef, w, .int ((low + 1 + bs.length : Nat) : Int), .int (low : Nat), .ref j])) ?_ emitI_mono ?_ ⟨0, [], by omega, rfl, (by sizeOf_list_dec), by simp, at_last _ _, rfl, by omega, _, rfl⟩
    · rintro ev5 H5 ⟨i, rs, i3, e7, x5, l5, h5, e8, e9, ⟨w, rfl⟩⟩
      obtain rfl : i = 3 := by
        rcases i with _ | _ | _ | _ | i
        · cases e7
        · cases e7
        · cases e7
        · rfl
        · omega
      obtain ⟨r1, hr1, lr1, k1⟩ := e9 0 (by omega)
      obtain ⟨r2, hr2, lr2, k2⟩ := e9 1 (by omega)
      obtain ⟨r3, hr3, lr3, k3⟩ := e9 2 (by omega)
      have gj5 := x5 _ _ gj4
      repeat array_get_dec
      refine sub_at 0 rfl (at_app h5) (by omega) hr1 ?_
      repeat array_get_dec
      refine sub_at 1 rfl (at_app h5) (by omega) hr2 ?_
      repeat array_get_dec
      refine sub_at 2 rfl (at_app h5) (by omega) hr3 ?_
      have hs1 : sliceM vs none (some ((low : Nat) : Int)) = vs.take low := by have := slice_to (vs := vs) (n := low); injection this
      have hs2 : sliceM vs (some (((low + 1 + bs.length : Nat) : Int) + 1)) none = vs.drop (low + 1 + bs.length + 1) := by
        have := slice_from (vs := vs) (k := ((low + 1 + bs.length : Nat) : Int) + 1) (n := low + 1 + bs.length + 1) (by omega); injection this
      rw [hs1]
      have lt1 : (vs.take low).length ≤ 1000 := by simp; omega
      have lt2 : (vs.drop (low + 1 + bs.length + 1)).length ≤ 1000 := by simp; omega
      repeat array_get_dec
      rw [hs2]
      repeat array_get_dec
      have x56 : Ext H5 (H5 ++ [MObj.list (List.take low vs)] ++ [MObj.list [MV.tup [MV.str (Str.ofString "conflict"), MV.ref r1, MV.ref r2, MV.ref r3]]] ++ [MObj.list (List.take low vs ++ [MV.tup [MV.str (Str.ofString "conflict"), MV.ref r1, MV.ref r2, MV.ref r3]])] ++
        [MObj.list (List.drop (low + 1 + bs.length + 1) vs)] ++ [MObj.list (List.take low vs ++ [MV.tup [MV.str (Str.ofString "conflict"), MV.ref r1, MV.ref r2, MV.ref r3]] ++ List.drop (low + 1 + bs.length + 1) vs)]) := (by sizeOf_list_dec)
      have x06 := (x04.trans x5).trans x56
      have kdr3 : ks.drop (low + 1 + bs.length + 1) = t := by
        conv => lhs; rw [eL]
        rw [List.drop_left']
        rw [← hLL]; simp only [List.length_append, List.length_cons, List.length_nil, hta]; omega
      have rA := hv.take low
      have rB := hv.drop (low + 1 + bs.length + 1)
      rw [kdr3] at rB
      refine WPV.mono (ih (n - 1) (by omega) (ks := ks.take low ++ joinC LL :: t) (by simp only [List.length_append, List.length_cons, hta]; simp only [List.length_cons] at lks; omega) (by omega) (by omega) (at_last _ _) ?_ ?_).vc ?_
      · rw [show ks.take low ++ joinC LL :: t = ks.take low ++ [joinC LL] ++ t from by simp]
        refine All2.app (All2.app (rA.mono fun m a h => h.ext x06) (.cons ⟨r1, r2, r3, rfl, x56 _ _ k1, x56 _ _ k2, x56 _ _ k3⟩ .nil)) (rB.mono fun m a h => h.ext x06)
      · have e : ∀ f : Ck → List Line, f (joinC LL) = cat f LL → cat f (ks.take low ++ joinC LL :: t) = cat f ks := by
          intro f hf
          conv => rhs; rw [eL]
          simp only [cat_app, cat, hf, List.append_assoc]
        rw [e (·.base) rfl, e (·.ours) rfl, e (·.theirs) rfl]
        exact hb
      · rintro r H7 ⟨x7, j7, vs7, rfl, h7, r7⟩
        refine ⟨x06.trans x7, j7, vs7, rfl, h7, ?_⟩
        have e : closS ks = closS (ks.take low ++ joinC LL :: t) := by
          have q := closS_step (a := ks.take low) (r := t) yC0 yCx e5 o3
          rw [hLL] at q
          rw [← q]
          congr 1
          conv => lhs; rw [eL]
          rw [← hLL]; simp
        rw [e]; exact r7
    · rintro m ms ev5 H5 ⟨i, rs, i3, e7, x5, l5, h5, e8, e9, ⟨w, rfl⟩⟩
      have i2 : i < 3 := by
        rcases Nat.lt_or_ge i 3 with h | h
        · exact h
        · rw [List.drop_of_length_le (by simpa using h)] at e7; cases e7
      have em : m = .int ((i + 1 : Nat) : Int) ∧ ms = ([.int 1, .int 2, .int 3] : List MV).drop (i + 1) := by
        rcases i with _ | _ | _ | i
        · injection e7 with a b; exact ⟨a, b⟩
        · injection e7 with a b; exact ⟨a, b⟩
        · injection e7 with a b; exact ⟨a, b⟩
        · omega
      obtain ⟨rfl, rfl⟩ := em
      have gj5 := x5 _ _ gj4
      repeat array_get_dec
      rw [hsl2]
      refine flat_comp (n := i + 1) rfl rfl (by decide) (by simp [evC]) (by simp [evC]) (by omega) rfl rfl (fun _ _ => rfl) ?_ (rL.mono fun m a h => h.ext ((x04.trans x5).trans (Ext.app _ _))) (by have := bL (i + 1); omega) (fun H' x => x _ _ (at_last _ _)) ?_
      · intro ev' H' Q he h
        exact WPE.name (i := 3) (k := .cell) rfl (.inr (.inl rfl)) (by rw [he 3 (by decide) (by decide)]; rfl) (by intro q; cases q) rfl h
      · intro ev6 H6 x6 l6 h6
        have h56 := x6 _ _ (at_app h5)
        simp only [List.length_append, List.length_cons, List.length_nil] at l6 h6 ⊢
        refine go_emit h56 (by omega) ?_
        have x56 : Ext H5 H6 := (Ext.app _ _).trans x6
        refine ⟨trivial, i + 1, rs ++ [.ref (H5.length + 1)], by omega, rfl, (x5.trans x56).set_new (Nat.le_refl _), by simp; omega, at_set (by omega), by simp [e8], ?_, _, rfl⟩
        intro q hq
        rcases Nat.lt_or_ge q i with h | h
        · obtain ⟨r, k1, k2, k3⟩ := e9 q h
          exact ⟨r, by rw [List.getElem?_append_left (by omega)]; exact k1, k2, at_set_ne (x56 _ _ k3) (by omega)⟩
        · obtain rfl : q = i := by omega
          exact ⟨H5.length + 1, by rw [List.getElem?_append_right (by omega), e8]; simp, by omega, at_set_ne h6 (by omega)⟩
end
def zdS (ks : List Ck) : List Ck := ks.flatMap fun k => if k.word ≠ .conflict then [k] else trimS k
def parD (k : Ck) : List Ck := (parS k).getD []
def ptS (ks : List Ck) : List Ck := ks.flatMap fun k => if k.word ≠ .conflict then [k] else parD k
section
variable {B : Bs} {d : Nat} {H : List MObj}
theorem cmp_strin {a : Str} {vs : List MV} {ss : List Str} {r : Bool} {P : Bool → Prop} (h1 : vs = ss.map .str) (h2 : ss.any (· == a) = r) (h : P r) : cmpM .In (.str a) (.tup vs) H P := ⟨ss, h1, by rw [h2]; exact h⟩
theorem pieces_diff {j : Nat} {vs : List MV} {ks : List Ck} (hd : 5 ≤ d) (hj : H[j]? = some (.list vs)) (hv : All2 (RCk H) vs ks) (hl : ks.length ≤ 1000) :
    WPF B d (.con (.ref 333)) [.ref j, .str (Str.ofString "diff3"), .str (Str.ofString "myers")] H (fun r H' => Ext H H' ∧ ∃ j', r = .ref j' ∧ H.length ≤ j' ∧ H'[j']? = some (.list vs)) := by
  refine WPF.fn fn333 (by omega) rfl ?_
  rw [ie333]
  have lv := hv.length
  refine WPS.cons ?_
  repeat array_get_dec
  refine ForS.ind (fun ms ev2 H2 => ∃ (done : List MV) (rest : List Ck), vs = done ++ ms ∧ All2 (RCk H) ms rest ∧ (∃ a1, ev2 = [.ref j, .str (Str.ofString "diff3"), .str (Str.ofString "myers"), .ref H.length, a1, .undef, .undef, .undef, .undef]) ∧ Ext H H2 ∧ H2[H.length]? = some (.list done)) ?_ ?_ ⟨[], ks, rfl, hv, ⟨_, rfl⟩, (by sizeOf_list_dec), (by decreasing_trivial_pre_omega)⟩
  · rintro ev2 H2 ⟨done, rest, e1, r1, ⟨a1, rfl⟩, x2, h2⟩
    repeat array_get_dec
    refine cmp_strin (ss := [Str.ofString "diff3", Str.ofString "zdiff3"]) (r := true) rfl (by rfl) (go_tt ?_)
    repeat array_get_dec
    rw [List.append_nil] at e1
    exact ⟨x2, _, rfl, Nat.le_refl _, e1 ▸ h2⟩
  · rintro m ms ev2 H2 ⟨done, rest, e1, r1, ⟨a1, rfl⟩, x2, h2⟩
    cases r1 with
    | cons hm r1 =>
    rename_i p rest
    obtain ⟨c, b, o, t, rfl, hc, hb, ho, ht⟩ := id hm
    have g1 := x2 _ _ hc
    have z1 := lt_of_at hj
    have gj := x2 _ _ hj
    have ld : done.length ≤ 1000 := by rw [← lv, e1] at hl; simp at hl; omega
    have z2 := lt_of_at h2
    repeat array_get_dec
    refine WP1.ifs ?_
    refine WPT.mid (fun b H3 => b = true ∧ H2 = H3) ?_ ?_
    · repeat array_get_dec
      refine go_dec (fun h => ?_) (fun h => ?_)
      · repeat array_get_dec
        exact ⟨rfl, rfl⟩
      · repeat array_get_dec
        refine cmp_streq (r := true) (by rfl) (go_tt ?_)
        exact ⟨rfl, rfl⟩
    rintro bb H3 ⟨rfl, rfl⟩
    refine go_tt ?_
    repeat array_get_dec
    exact ⟨(by decreasing_trivial_pre_omega), done ++ [.ref c], rest, by rw [e1]; simp, r1, ⟨_, rfl⟩, (by sizeOf_list_dec), (by decreasing_trivial_pre_omega)⟩
theorem pieces_zdiff {j : Nat} {vs : List MV} {ks : List Ck} (hd : 5 ≤ d) (hj : H[j]? = some (.list vs)) (hv : All2 (RCk H) vs ks) (hs : ∀ k ∈ ks, k.small 1000) (hl : (zdS ks).length ≤ 1000) :
    WPF B d (.con (.ref 333)) [.ref j, .str (Str.ofString "zdiff3"), .str (Str.ofString "myers")] H (fun r H' => Ext H H' ∧ ∃ j' vs', r = .ref j' ∧ H.length ≤ j' ∧ H'[j']? = some (.list vs') ∧ All2 (RC (· ≠ j') H') vs' (zdS ks)) := by
  refine WPF.fn fn333 (by omega) rfl ?_
  rw [ie333]
  refine WPS.cons ?_
  repeat array_get_dec
  refine ForS.ind (fun ms ev2 H2 => ∃ (done rest : List Ck) (us : List MV), ks = done ++ rest ∧ All2 (RCk H) ms rest ∧ (∃ a1, ev2 = [.ref j, .str (Str.ofString "zdiff3"), .str (Str.ofString "myers"), .ref H.length, a1, .undef, .undef, .undef, .undef]) ∧ Ext H H2 ∧ H2[H.length]? = some (.list us) ∧ All2 (RC (· ≠ H.length) H2) us (zdS done)) ?_ ?_ ⟨[], ks, [], rfl, hv, ⟨_, rfl⟩, (by sizeOf_list_dec), (by decreasing_trivial_pre_omega), .nil⟩
  · rintro ev2 H2 ⟨done, rest, us, e1, r1, ⟨a1, rfl⟩, x2, h2, r2⟩
    cases r1
    repeat array_get_dec
    refine cmp_strin (ss := [Str.ofString "diff3", Str.ofString "zdiff3"]) (r := true) rfl (by rfl) (go_tt ?_)
    repeat array_get_dec
    rw [List.append_nil] at e1
    exact ⟨x2, _, us, rfl, Nat.le_refl _, h2, e1 ▸ r2⟩
  · rintro m ms ev2 H2 ⟨done, rest, us, e1, r1, ⟨a1, rfl⟩, x2, h2, r2⟩
    cases r1 with
    | cons hm r1 =>
    rename_i p rest
    obtain ⟨c, b, o, t, rfl, hc, hb, ho, ht⟩ := id hm
    have g1 := x2 _ _ hc
    have z1 := lt_of_at hj
    have z3 := lt_of_at hc
    have z4 := lt_of_at hb
    have z5 := lt_of_at ho
    have z6 := lt_of_at ht
    have gj := x2 _ _ hj
    have z2 := lt_of_at h2
    have rp : RC (· ≠ H.length) H2 (.ref c) p := RC.mono (P := (· < H.length)) ⟨c, b, o, t, rfl, ⟨z3, z4, z5, z6⟩, g1, x2 _ _ hb, x2 _ _ ho, x2 _ _ ht⟩ (fun i _ h => by omega)
    have ezd : zdS (done ++ [p]) = zdS done ++ (if p.word ≠ .conflict then [p] else trimS p) := by simp [zdS]
    have ezl : (zdS done).length + (if p.word ≠ .conflict then [p] else trimS p).length ≤ 1000 := by
      have : zdS ks = zdS done ++ (if p.word ≠ .conflict then [p] else trimS p) ++ zdS rest := by rw [e1]; simp [zdS]
      rw [this] at hl; simp only [List.length_append] at hl; omega
    have lus := r2.length
    repeat array_get_dec
    refine WP1.ifs ?_
    repeat array_get_dec
    refine go_dec (fun h => ?_) (fun h => ?_)
    · repeat array_get_dec
      rw [if_pos h] at ezd
      exact ⟨(by decreasing_trivial_pre_omega), done ++ [p], rest, _, by rw [e1]; simp, r1, ⟨_, rfl⟩, (by sizeOf_list_dec), (by decreasing_trivial_pre_omega), by rw [ezd]; exact All2.app (r2.mono fun m a h => h.set) (.cons rp.set .nil)⟩
    · rw [if_neg h] at ezd ezl
      repeat array_get_dec
      refine cmp_streq (r := false) (by rfl) (go_ff ?_)
      repeat array_get_dec
      refine WP1.ifs ?_
      repeat array_get_dec
      refine cmp_streq (r := true) (by rfl) (go_tt ?_)
      repeat array_get_dec
      refine WPV.mono (trim_ok (q := H.length) (by omega) rp z2 (hs p (by rw [e1]; simp))).vc ?_
      rintro r H3 ⟨x3, j3, vs3, rfl, l3, h3, r3⟩
      have h23 := x3 _ _ h2
      have lv3 := r3.length
      have y3 := x3.len
      repeat array_get_dec
      refine ⟨at_set_ne (x3 _ _ gj) (by omega), done ++ [p], rest, _, by rw [e1]; simp, r1, ⟨_, rfl⟩, (x2.trans x3).set_new (Nat.le_refl _), at_set (by omega), by rw [ezd]; exact All2.app (r2.mono fun m a h => (h.ext x3).set) (r3.mono fun m a h => h.set)⟩
theorem pieces_merge {j : Nat} {vs : List MV} {ks : List Ck} (hd : 11 ≤ d) (hj : H[j]? = some (.list vs)) (hv : All2 (RCk H) vs ks) (hs : ∀ k ∈ ks, k.small 300) (hpar : ∀ k ∈ ks, k.word = .conflict → (parS k).isSome = true) (hl : (ptS ks).length ≤ 200)
    (hcat : (cat (·.base) (ptS ks)).length ≤ 10000 ∧ (cat (·.ours) (ptS ks)).length ≤ 10000 ∧ (cat (·.theirs) (ptS ks)).length ≤ 10000) :
    WPF B d (.con (.ref 333)) [.ref j, .str (Str.ofString "merge"), .str (Str.ofString "myers")] H (fun r H' => Ext H H' ∧ ∃ j' vs', r = .ref j' ∧ H.length ≤ j' ∧ H'[j']? = some (.list vs') ∧ All2 (RCk H') vs' (closS (ptS ks))) := by
  refine WPF.fn fn333 (by omega) rfl ?_
  rw [ie333]
  refine WPS.cons ?_
  repeat array_get_dec
  refine ForS.ind (fun ms ev2 H2 => ∃ (done rest : List Ck) (us : List MV), ks = done ++ rest ∧ All2 (RCk H) ms rest ∧ (∃ a1, ev2 = [.ref j, .str (Str.ofString "merge"), .str (Str.ofString "myers"), .ref H.length, a1, .undef, .undef, .undef, .undef]) ∧ Ext H H2 ∧ H2[H.length]? = some (.list us) ∧ All2 (RC (· ≠ H.length) H2) us (ptS done)) ?_ ?_ ⟨[], ks, [], rfl, hv, ⟨_, rfl⟩, (by sizeOf_list_dec), (by decreasing_trivial_pre_omega), .nil⟩
  · rintro ev2 H2 ⟨done, rest, us, e1, r1, ⟨a1, rfl⟩, x2, h2, r2⟩
    cases r1
    repeat array_get_dec
    refine cmp_strin (ss := [Str.ofString "diff3", Str.ofString "zdiff3"]) (r := false) rfl (by rfl) (go_ff ?_)
    rw [List.append_nil] at e1
    subst e1
    repeat array_get_dec
    refine WPV.mono (closeup_ok (by omega) h2 (r2.mono fun m a h => h.rck) (by omega) hcat).vc ?_
    rintro r H3 ⟨x3, j3, vs3, rfl, l3, h3, r3⟩
    have := x2.len
    exact ⟨x2.trans x3, _, vs3, rfl, by omega, h3, r3.mono fun m a h => h.rck⟩
  · rintro m ms ev2 H2 ⟨done, rest, us, e1, r1, ⟨a1, rfl⟩, x2, h2, r2⟩
    cases r1 with
    | cons hm r1 =>
    rename_i p rest
    obtain ⟨c, b, o, t, rfl, hc, hb, ho, ht⟩ := id hm
    have g1 := x2 _ _ hc
    have z1 := lt_of_at hj
    have z3 := lt_of_at hc
    have z4 := lt_of_at hb
    have z5 := lt_of_at ho
    have z6 := lt_of_at ht
    have gj := x2 _ _ hj
    have z2 := lt_of_at h2
    have rp : RC (· ≠ H.length) H2 (.ref c) p := RC.mono (P := (· < H.length)) ⟨c, b, o, t, rfl, ⟨z3, z4, z5, z6⟩, g1, x2 _ _ hb, x2 _ _ ho, x2 _ _ ht⟩ (fun i _ h => by omega)
    have ezd : ptS (done ++ [p]) = ptS done ++ (if p.word ≠ .conflict then [p] else parD p) := by simp [ptS]
    have ezl : (ptS done).length + (if p.word ≠ .conflict then [p] else parD p).length ≤ 200 := by
      have : ptS ks = ptS done ++ (if p.word ≠ .conflict then [p] else parD p) ++ ptS rest := by rw [e1]; simp [ptS]
      rw [this] at hl; simp only [List.length_append] at hl; omega
    have lus := r2.length
    repeat array_get_dec
    refine WP1.ifs ?_
    repeat array_get_dec
    refine go_dec (fun h => ?_) (fun h => ?_)
    · repeat array_get_dec
      rw [if_pos h] at ezd
      exact ⟨(by decreasing_trivial_pre_omega), done ++ [p], rest, _, by rw [e1]; simp, r1, ⟨_, rfl⟩, (by sizeOf_list_dec), (by decreasing_trivial_pre_omega), by rw [ezd]; exact All2.app (r2.mono fun m a h => h.set) (.cons rp.set .nil)⟩
    · rw [if_neg h] at ezd ezl
      repeat array_get_dec
      refine cmp_streq (r := false) (by rfl) (go_ff ?_)
      repeat array_get_dec
      refine WP1.ifs ?_
      repeat array_get_dec
      refine cmp_streq (r := false) (by rfl) (go_ff ?_)
      repeat array_get_dec
      have hps : parS p = some (parD p) := by
        have := hpar p (by rw [e1]; simp) (Classical.not_not.mp h)
        unfold parD
        cases hh : parS p with
        | none => rw [hh] at this; cases this
        | some x => rfl
      refine WPV.mono (parted_ok (by omega) rp.rck (hs p (by rw [e1]; simp)) hps (by omega)).vc ?_
      rintro r H3 ⟨x3, j3, vs3, rfl, l3, h3, r3⟩
      have h23 := x3 _ _ h2
      have lv3 := r3.length
      have y3 := x3.len
      repeat array_get_dec
      refine ⟨at_set_ne (x3 _ _ gj) (by omega), done ++ [p], rest, _, by rw [e1]; simp, r1, ⟨_, rfl⟩, (x2.trans x3).set_new (Nat.le_refl _), at_set (by omega), by rw [ezd]; exact All2.app (r2.mono fun m a h => (h.ext x3).set) (r3.mono fun m a h => (h.mono (fun i a b => by omega)).set)⟩
end
theorem RC.extMP {P : Nat → Prop} {M : List Nat} {H H' : List MObj} {m : MV} {k : Ck} (h : RC P H m k) (x : ExtM M H H') (hP : ∀ i, P i → i ∉ M) : RC P H' m k := by
  obtain ⟨c, b, o, t, e, p, h1, h2, h3, h4⟩ := h
  exact ⟨c, b, o, t, e, p, x _ _ (hP _ p.1) h1, x _ _ (hP _ p.2.1) h2, x _ _ (hP _ p.2.2.1) h3, x _ _ (hP _ p.2.2.2) h4⟩
def lawT (n : Nat) : List Stmt := sb388.1.drop n
section
variable {B : Bs} {d : Nat} {H : List MObj}
def LawB (B : Bs) (d : Nat) : Prop := ∀ (H : List MObj) (jf : Nat) (vs : List MV) (ks : List Ck) (a0 a1 : MV), H[jf]? = some (.list vs) → All2 (RCk H) vs ks → ks.length ≤ 4 → (∀ k ∈ ks, k.small 3) →
  WPS B fi388 d (lawT 2) [a0, a1, .ref jf, .undef, .undef, .undef, .undef, .undef, .undef, .undef, .undef, .undef, .undef, .undef, .undef, .undef, .undef, .undef, .undef, .undef, .undef, .undef, .undef] H (fun _ _ => False) (fun r _ => r = .bool true)
/-- a slice of a list that was there before the call -/
theorem WPE.sliceF {fi : FI} {ev : List MV} {e : Expr} {lo hi : Option Expr} {p pos : Pos} {Q : MV → List MObj → Prop} {a1 : Addr} {it1 : Array Value} {vs : List MV} (hl1 : B.hb.IsList a1 it1) (hr : ∀ g, VRs g vs it1.toList) (hsz : vs.length ≤ 100000)
    (h : WPE B fi d e ev H fun o H1 => WPO B fi d lo ev H1 fun a H2 => WPO B fi d hi ev H2 fun b H3 => o = .con (.ref a1) ∧ Q (.ref H3.length) (H3 ++ [.list (sliceM vs a b)])) :
    WPE B fi d (.Subscript e (.Slice lo hi none p) pos) ev H Q := fun A env Φ g s ok I => by
  refine Subscript_ ((h A env Φ g s ok I).to fun g1 ev1 H1 v s1 l1 I1 ⟨e1, o, ro, h1⟩ => ?_)
  subst e1
  refine wpAny_Slice ((W_part ok I1 h1).to fun g2 ev2 H2 va s2 l2 I2 ⟨e2, pa, ia, na, h2⟩ => ?_)
  subst e2
  refine (W_part ok I2 h2).to fun g3 ev3 H3 vb s3 l3 I3 ⟨e3, pb, ib, nb, e4, hq⟩ => ?_
  subst e3 e4
  rw [evalPart_none]
  refine wpAny_pure ?_
  have ev' := ro.inv_con
  subst ev'
  have hl3 : s3.heap.IsList a1 it1 := let ⟨o, ho, r⟩ := hl1; ⟨o, I3.keepB _ _ ho, r⟩
  have I4 := I3.push { cls := .type "slice", data := .fields #[va, vb, .none] }
  have hl := hl3.push { cls := .type "slice", data := .fields #[va, vb, .none] }
  have r1 := hr g3
  refine tail_any (ops := [.ref s3.heap.objs.size, .ref a1]) hl.typeIs slot_list_getitem.lookup (wpAny_getItem_list_slice hl (Heap.IsSliceOf.new ..) ia ib .none (by simp) ?_ (by rw [r1.size]; exact Nat.le_trans hsz (by decide))) rfl
  obtain ⟨g5, l5, I5, hσ⟩ := I4.newList (items := slicePick it1 pa pb none) (n := 0) (vs := sliceM vs pa pb) (pick_rel r1 na nb)
  exact ⟨g5, _, _, ((l1.trans l2).trans l3).trans l5, I5, rfl, _, .ref' hσ, hq⟩
theorem law_ok {a1 : Addr} {it1 : Array Value} {sc : List Int} (hd : 40 ≤ d) (hl1 : B.hb.IsList a1 it1) (hr : ∀ g, VRs g (sc.map .int) it1.toList) (hl : sc.length ≤ 100) (hB : LawB B d) :
    WPS B fi388 d sb388.1 (initEv fi388.ns [Str.ofString "script"] [.con (.ref a1)]) H (fun _ _ => False) (fun r _ => r = .bool true) := by
  rw [ie388]
  refine WPS.cons ?_
  have lsc : (sc.map MV.int).length ≤ 100 := by simpa using hl
  repeat array_get_dec
  refine WPE.dictS (by decide) (by decide) (by decide) ?_
  refine WPE.comp1 ⟨rfl, by decide, rfl⟩ (fun _ _ => rfl) ?_
  refine WPI.seq ?_
  refine WPE.sliceF hl1 hr (by omega) ?_
  repeat array_get_dec
  refine ⟨rfl, ?_⟩
  repeat array_get_dec
  have hsl : sliceM (sc.map MV.int) none (some 48) = (sc.take 48).map .int := by rw [sliceM_map]; simp
  rw [hsl]
  refine CompS.ind (fun ms ev2 H2 => ∃ (done rest : List Int), ms = rest.map .int ∧ done.length + rest.length ≤ 100 ∧ (∃ t, ev2 = [.undef, t]) ∧ Ext (H ++ [.list ((sc.take 48).map .int)]) H2 ∧ H.length + 1 < H2.length ∧ H2[H.length + 1]? = some (.list (done.map .int))) ?_ emitI_mono ?_
    ⟨[], sc.take 48, rfl, by simp; omega, ⟨_, rfl⟩, Ext.app _ _, by simp, at_eq (at_lastI (by simp)) (by rfl)⟩
  rotate_left
  · rintro m ms ev2 H2 ⟨done, rest, e1, e2, ⟨t, rfl⟩, x2, l2, h2⟩
    obtain ⟨x, rest, rfl⟩ : ∃ x r, rest = x :: r := by cases rest with | nil => cases e1 | cons x r => exact ⟨x, r, rfl⟩
    simp only [List.map_cons, List.cons.injEq, List.length_cons] at e1 e2
    obtain ⟨rfl, rfl⟩ := e1
    have ld : (done.map MV.int).length ≤ 100 := by simp; omega
    have hl1 : (H ++ [MObj.list ((sc.take 48).map .int)]).length = H.length + 1 := by simp
    have hls := x2 _ _ (at_last H (.list ((sc.take 48).map .int)))
    rw [hl1]
    repeat array_get_dec
    exact ⟨(by decreasing_trivial_pre_omega), done ++ [x.fmod 1000003], rest, rfl, by simp; omega, ⟨_, rfl⟩, x2.set_new (by simp), by simpa using l2, at_eq (by decreasing_trivial_pre_omega) (by simp)⟩
  rintro ev2 H2 ⟨cells, rest, e1, e2, ⟨t, rfl⟩, x2, l2, h2⟩
  obtain rfl : rest = [] := by cases rest with | nil => rfl | cons x r => cases e1
  have lc : cells.length ≤ 100 := by simpa using e2
  clear hsl
  rw [show (H ++ [MObj.list ((sc.take 48).map .int)]).length = H.length + 1 from by simp]
  generalize hjc : H.length + 1 = jc at h2 ⊢
  clear x2 lsc hjc
  repeat array_get_dec
  have hk : Deck H2.length jc (H2 ++ [MObj.dS [(Str.ofString "cells", MV.ref jc), (Str.ofString "at", MV.int 0), (Str.ofString "stir", MV.int 155)]]) :=
    ⟨cells, 0, 155, by have := lt_of_at h2; omega, at_last _ _, at_app h2, by omega, by omega⟩
  have zc := lt_of_at h2
  generalize H2 ++ [MObj.dS [(Str.ofString "cells", MV.ref jc), (Str.ofString "at", MV.int 0), (Str.ofString "stir", MV.int 155)]] = H3 at hk ⊢
  generalize H2.length = jd at hk zc ⊢
  clear h2
  refine WP1.asgComp ⟨rfl, by decide, rfl⟩ (fun _ _ => rfl) (fun env hn hk => swapsWith_env rfl env hn hk) rfl ?_
  repeat array_get_dec
  refine WPV.mono (draw_ok (by omega) hk (by decide)).vc ?_
  rintro m H4 ⟨⟨x4, e4⟩, hk4, v, rfl, hv0, hv4⟩
  repeat array_get_dec
  rw [rangeSize1 (by omega)]
  have l0 := rangeLen 0 1 ((1 + v) - 0).toNat
  have y4 := hk4.lt
  refine CompS.ind (fun ms ev5 H5 => ∃ (done : List Ck) (us : List MV), done.length + ms.length ≤ 4 ∧ (∃ t, ev5 = [.undef, t, .undef, .ref jd]) ∧ H4.length < H5.length ∧ Deck jd jc H5 ∧ H5[H4.length]? = some (.list us) ∧ All2 (RC (H4.length < ·) H5) us done ∧ (∀ k ∈ done, k.small 3)) ?_ emitI_mono ?_
    ⟨[], [], by rw [l0]; simp; omega, ⟨_, rfl⟩, by simp, hk4.ext (Ext.app _ _), at_last _ _, .nil, by simp⟩
  rotate_left
  · rintro m ms ev5 H5 ⟨done, us, e5, ⟨t, rfl⟩, l5, hk5, h5, r5, s5⟩
    repeat array_get_dec
    refine WPV.mono (lchunk_ok (by omega) hk5).vc ?_
    rintro r H6 ⟨⟨x6, e6⟩, hk6, k, rk, sk⟩
    have h6 := x6 _ _ (by simp; omega) h5
    have lu := r5.length
    simp only [List.length_cons] at e5
    have r6 : All2 (RC (H4.length < ·) H6) us done := r5.mono fun m a h => h.extMP x6 (fun i hi q => by simp at q; omega)
    refine go_emit h6 (by omega) ?_
    exact ⟨trivial, done ++ [k], us ++ [r], by simp; omega, ⟨_, rfl⟩, by simp; omega, hk6.set (by omega) (by omega), at_set (by omega), All2.app (r6.mono fun m a h => h.setP (fun i hi => by omega)) (.cons ((rk.mono fun i a b => by omega).setP (fun i hi => by omega)) .nil), fun k' hk' => by
      rcases List.mem_append.mp hk' with q | q
      · exact s5 k' q
      · simp at q; rw [q]; exact sk⟩
  rintro ev5 H5 ⟨done, us, e5, ⟨t, rfl⟩, l5, hk5, h5, r5, s5⟩
  exact hB H5 H4.length us done _ _ h5 (r5.mono fun m a h => h.rck) (by simpa using e5) s5
end
def AllOk : Prop := ∀ a b : List Line, a.length ≤ 3 → b.length ≤ 3 → okPair a b = true
theorem pieces_base : ∀ {ps : List Ck} {w : Option Wd}, piecesOk w ps = true → ∀ k ∈ ps, k.base = []
  | [], _, _, k, h => by cases h
  | p :: r, w, e, k, h => by
    unfold piecesOk at e
    rw [Bool.and_eq_true] at e
    rcases List.mem_cons.mp h with rfl | h
    · have := e.1
      unfold pieceOk at this
      simp only [Bool.and_eq_true, decide_eq_true_eq] at this
      exact this.1.1.1.1
    · exact pieces_base e.2 k h
theorem cat_mem_le {f : Ck → List Line} {k : Ck} : ∀ {l : List Ck}, k ∈ l → (f k).length ≤ (cat f l).length
  | [], h => by cases h
  | p :: r, h => by
    show _ ≤ (f p ++ cat f r).length
    rw [List.length_append]
    rcases List.mem_cons.mp h with rfl | h
    · omega
    · have := cat_mem_le (f := f) h; omega
theorem par_facts (hall : AllOk) {k : Ck} (hk : k.small 3) : parS k = some (parD k) ∧ (piecesOk none (parD k) = true ∧ cat (·.ours) (parD k) = k.ours ∧ cat (·.theirs) (parD k) = k.theirs ∧ bsum (parD k) = longS k.ours k.theirs) ∧ (parD k).length ≤ 7 ∧ (∀ p ∈ parD k, p.small 3) := by
  have h := hall k.ours k.theirs hk.2.1 hk.2.2
  unfold okPair at h
  cases e : myersS k.ours k.theirs with
  | none => rw [e] at h; cases h
  | some L =>
    rw [e] at h
    have e2 : parS k = some (parGo k.ours k.theirs 0 L) := by unfold parS; rw [e]; rfl
    have e3 : parD k = parGo k.ours k.theirs 0 L := by unfold parD; rw [e2]; rfl
    rw [e3]
    unfold isParted at h
    simp only [Bool.and_eq_true, decide_eq_true_eq] at h
    obtain ⟨⟨⟨⟨h1, h2⟩, h3⟩, h4⟩, h5⟩ := h
    refine ⟨e2, ⟨h1, h2, h3, h4⟩, h5, fun p hp => ⟨?_, ?_, ?_⟩⟩
    · rw [pieces_base h1 p hp]; simp
    · have := cat_mem_le (f := (·.ours)) hp; rw [h2] at this; exact Nat.le_trans this hk.2.1
    · have := cat_mem_le (f := (·.theirs)) hp; rw [h3] at this; exact Nat.le_trans this hk.2.2
theorem trim_len (k : Ck) : (trimS k).length ≤ 3 := by
  unfold trimS trimP
  split <;> split <;> simp
theorem zd_len : ∀ (ks : List Ck), (zdS ks).length ≤ 3 * ks.length
  | [] => by simp [zdS]
  | k :: r => by
    have e : zdS (k :: r) = (if k.word ≠ .conflict then [k] else trimS k) ++ zdS r := by simp [zdS]
    rw [e, List.length_append, List.length_cons]
    have := zd_len r
    have := trim_len k
    split
    · simp only [List.length_cons, List.length_nil]; omega
    · omega
theorem pt_len (hall : AllOk) : ∀ (ks : List Ck), (∀ k ∈ ks, k.small 3) → (ptS ks).length ≤ 7 * ks.length
  | [], _ => by simp [ptS]
  | k :: r, h => by
    have e : ptS (k :: r) = (if k.word ≠ .conflict then [k] else parD k) ++ ptS r := by simp [ptS]
    rw [e, List.length_append, List.length_cons]
    have := pt_len hall r (fun k hk => h k (by simp [hk]))
    have := (par_facts hall (h k (by simp))).2.2.1
    split
    · simp only [List.length_cons, List.length_nil]; omega
    · omega
theorem pt_small (hall : AllOk) {ks : List Ck} (h : ∀ k ∈ ks, k.small 3) : ∀ p ∈ ptS ks, p.small 3 := by
  intro p hp
  unfold ptS at hp
  obtain ⟨k, hk, hp⟩ := List.mem_flatMap.mp hp
  split at hp
  · simp at hp; rw [hp]; exact h k hk
  · exact (par_facts hall (h k hk)).2.2.2 p hp
theorem trim_small {k p : Ck} {n : Nat} (hk : k.small n) (hp : p ∈ trimS k) : p.small n := by
  obtain ⟨h1, h2, h3⟩ := hk
  unfold trimS trimP at hp
  simp only [List.mem_append, List.mem_cons] at hp
  rcases hp with hp | rfl | hp
  · split at hp
    · simp at hp; subst hp; exact ⟨by simp, by simp; omega, by simp; omega⟩
    · cases hp
  · exact ⟨h1, by simp; omega, by simp; omega⟩
  · split at hp
    · simp at hp; subst hp; exact ⟨by simp, by simp; omega, by simp; omega⟩
    · cases hp
theorem zd_small {ks : List Ck} {n : Nat} (h : ∀ k ∈ ks, k.small n) : ∀ p ∈ zdS ks, p.small n := by
  intro p hp
  unfold zdS at hp
  obtain ⟨k, hk, hp⟩ := List.mem_flatMap.mp hp
  split at hp
  · simp at hp; rw [hp]; exact h k hk
  · exact trim_small (h k hk) hp
theorem cat_len_le {f : Ck → List Line} {n : Nat} : ∀ {l : List Ck}, (∀ k ∈ l, (f k).length ≤ n) → (cat f l).length ≤ n * l.length
  | [], _ => by simp [cat]
  | p :: r, h => by
    show (f p ++ cat f r).length ≤ _
    have h1 := h p (by simp)
    have h2 := cat_len_le (l := r) fun k hk => h k (by simp [hk])
    rw [List.length_append, List.length_cons, Nat.mul_succ]; omega
theorem eq_tup {H : List MObj} {n : Nat} {m m' : MV} {k : Ck} (h : RTd H m k) (h' : RTd H m' k) : EqM H (n + 2) m m' true := by
  obtain ⟨b, o, t, rfl, h1, h2, h3⟩ := h
  obtain ⟨b', o', t', rfl, h1', h2', h3'⟩ := h'
  rw [show true = (List.range ([.str (wS k.word), .ref b, .ref o, .ref t] : List MV).length).all (fun _ => true) from rfl]
  refine .tups _ rfl fun i x y hx hy => ?_
  rcases i with _ | _ | _ | _ | i
  · cases hx; cases hy
    have : EqM H (n + 1) (.str (wS k.word)) (.str (wS k.word)) (wS k.word == wS k.word) := .str
    rw [beq_self_eq_true] at this; exact this
  · cases hx; cases hy
    have := eq_Ls (n := n) h1 h1'
    rw [decide_eq_true rfl] at this; exact this
  · cases hx; cases hy
    have := eq_Ls (n := n) h2 h2'
    rw [decide_eq_true rfl] at this; exact this
  · cases hx; cases hy
    have := eq_Ls (n := n) h3 h3'
    rw [decide_eq_true rfl] at this; exact this
  · cases hx
theorem eq_told {H : List MObj} {n i j : Nat} {xs ys : List MV} {ks : List Ck} (h1 : H[i]? = some (.list xs)) (h2 : H[j]? = some (.list ys)) (hne : i ≠ j) (r1 : All2 (RTd H) xs ks) (r2 : All2 (RTd H) ys ks) : EqM H (n + 3) (.ref i) (.ref j) true := by
  have e : true = (List.range xs.length).all (fun _ => true) := by simp
  rw [e]
  refine .lists _ hne h1 h2 (by rw [r1.length, r2.length]) fun k x y hx hy => ?_
  have hk : k < ks.length := by have := (List.getElem?_eq_some_iff.mp hx).1; rw [r1.length] at this; exact this
  obtain ⟨m1, e1, q1⟩ := r1.get (List.getElem?_eq_getElem hk)
  obtain ⟨m2, e2, q2⟩ := r2.get (List.getElem?_eq_getElem hk)
  rw [hx] at e1; rw [hy] at e2
  cases e1; cases e2
  exact eq_tup q1 q2
theorem cmp_toldN {H : List MObj} {i j : Nat} {xs ys : List MV} {ks : List Ck} {P : Bool → Prop} (h1 : H[i]? = some (.list xs)) (h2 : H[j]? = some (.list ys)) (hne : i ≠ j) (r1 : All2 (RTd H) xs ks) (r2 : All2 (RTd H) ys ks) (h : P false) : cmpM .NotEq (.ref i) (.ref j) H P :=
  ⟨hne, true, eq_told h1 h2 hne r1 r2, h⟩
theorem cmp_toldE {H : List MObj} {i j : Nat} {xs ys : List MV} {ks : List Ck} {P : Bool → Prop} (h1 : H[i]? = some (.list xs)) (h2 : H[j]? = some (.list ys)) (hne : i ≠ j) (r1 : All2 (RTd H) xs ks) (r2 : All2 (RTd H) ys ks) (h : P true) : cmpM .Eq (.ref i) (.ref j) H P :=
  ⟨hne, true, eq_told h1 h2 hne r1 r2, h⟩
section
variable {B : Bs} {d : Nat} {H : List MObj}
def LawC (B : Bs) (d : Nat) : Prop := ∀ (H : List MObj) (jf jw jt jp : Nat) (vs ws ts qs : List MV) (ks : List Ck) (a0 a1 a3 a7 : MV), H[jf]? = some (.list vs) → All2 (RCk H) vs ks → H[jw]? = some (.list ws) → All2 (RTd H) ws ks →
  H[jt]? = some (.list ts) → All2 (RTd H) ts (zdS ks) → H[jp]? = some (.list qs) → All2 (RCk H) qs (ptS ks) → ks.length ≤ 4 → (∀ k ∈ ks, k.small 3) →
  WPS B fi388 d (lawT 4) [a0, a1, .ref jf, a3, .ref jw, .ref jt, .ref jp, a7, .undef, .undef, .undef, .undef, .undef, .undef, .undef, .undef, .undef, .undef, .undef, .undef, .undef, .undef, .undef] H (fun _ _ => False) (fun r _ => r = .bool true)
theorem lawB_ok (hd : 40 ≤ d) (hall : AllOk) (hC : LawC B d) : LawB B d := by
  intro H jf vs ks a0 a1 hj hv hl hs
  have hs1 : ∀ k ∈ ks, k.small 1000 := fun k hk => by have := hs k hk; unfold Ck.small at this ⊢; omega
  refine WPS.cons ?_
  repeat array_get_dec
  refine told_comp (by omega) rfl (by simp [evC]) rfl rfl hv hs1 (by omega) (fun H' x => x _ _ hj) ?_
  intro ev1 H1 ws x1 l1 h1 r1
  repeat array_get_dec
  rw [show (H1 ++ [MObj.list []]).length = H1.length + 1 from by simp]
  have hja := x1 _ _ hj
  have rv1 : All2 (RCk H1) vs ks := hv.mono fun m a h => h.ext x1
  have zj := lt_of_at hja
  have zw := lt_of_at h1
  refine ForS.ind (fun ms ev2 H2 => ∃ (done rest : List Ck) (ut up : List MV), ks = done ++ rest ∧ All2 (RCk H1) ms rest ∧ (∃ a3 a7, ev2 = [a0, a1, .ref jf, a3, .ref H.length, .ref H1.length, .ref (H1.length + 1), a7, .undef, .undef, .undef, .undef, .undef, .undef, .undef, .undef, .undef, .undef, .undef, .undef, .undef, .undef, .undef]) ∧
    Ext H1 H2 ∧ H1.length + 1 < H2.length ∧ H2[H1.length]? = some (.list ut) ∧ H2[H1.length + 1]? = some (.list up) ∧ All2 (RTp (fun i => i ≠ H1.length ∧ i ≠ H1.length + 1) H2) ut (zdS done) ∧ All2 (RC (fun i => i ≠ H1.length ∧ i ≠ H1.length + 1) H2) up (ptS done)) ?_ ?_
    ⟨[], ks, [], [], rfl, rv1, ⟨_, _, rfl⟩, (Ext.app _ _).trans (Ext.app _ _), by simp, (by decreasing_trivial_pre_omega), (by decreasing_trivial_pre_omega), .nil, .nil⟩
  · rintro ev2 H2 ⟨done, rest, ut, up, e1, r2, ⟨a3, a7, rfl⟩, x2, l2, h2, h3, r3, r4⟩
    cases r2
    rw [List.append_nil] at e1
    subst e1
    exact hC H2 jf H.length H1.length (H1.length + 1) vs ws ut up ks a0 a1 a3 a7 (x2 _ _ hja) (rv1.mono fun m a h => h.ext x2) (x2 _ _ h1) (r1.mono fun m a h => (h.ext x2).n.td) h2 (r3.mono fun m a h => h.td) h3 (r4.mono fun m a h => h.rck) hl hs
  · rintro m ms ev2 H2 ⟨done, rest, ut, up, e1, r2, ⟨a3, a7, rfl⟩, x2, l2, h2, h3, r3, r4⟩
    cases r2 with
    | cons hm r2 =>
    rename_i p rest
    obtain ⟨c, b, o, t, rfl, hc, hb, ho, ht⟩ := id hm
    have g1 := x2 _ _ hc
    have z3 := lt_of_at hc
    have z4 := lt_of_at hb
    have z5 := lt_of_at ho
    have z6 := lt_of_at ht
    have gj := x2 _ _ hja
    have rlt : RC (· < H1.length) H2 (.ref c) p := ⟨c, b, o, t, rfl, ⟨z3, z4, z5, z6⟩, g1, x2 _ _ hb, x2 _ _ ho, x2 _ _ ht⟩
    have hp : p ∈ ks := by rw [e1]; simp
    have ezd : zdS (done ++ [p]) = zdS done ++ (if p.word ≠ .conflict then [p] else trimS p) := by simp [zdS]
    have ept : ptS (done ++ [p]) = ptS done ++ (if p.word ≠ .conflict then [p] else parD p) := by simp [ptS]
    have hdl : done.length ≤ 3 := by rw [e1] at hl; simp at hl; omega
    have hds : ∀ k ∈ done, k.small 3 := fun k hk => hs k (by rw [e1]; simp [hk])
    have lt1 : ut.length ≤ 9 := by rw [r3.length]; have := zd_len done; omega
    have lp1 : up.length ≤ 21 := by rw [r4.length]; have := pt_len hall done hds; omega
    have sp := hs p hp
    have sp1 := hs1 p hp
    have sp3 : p.small 300 := by unfold Ck.small at sp ⊢; omega
    obtain ⟨f1, f2, f3, f4⟩ := par_facts hall sp
    repeat array_get_dec
    refine WP1.ifs ?_
    repeat array_get_dec
    refine go_dec (fun h => ?_) (fun h => ?_)
    · rw [if_neg (by simp [h])] at ezd ept
      repeat array_get_dec
      refine WP1.ifs ?_
      refine WPT.mid (fun b H3 => b = false ∧ Ext H2 H3) ?_ ?_
      · repeat array_get_dec
        refine WPV.mono (trim_ok (q := H1.length) (by omega) (rlt.mono fun i _ h => by omega) (by omega) sp1).vc ?_
        rintro r H3 ⟨x3, j3, vs3, rfl, l3, h4, r5⟩
        refine go_seq h4 ?_
        repeat array_get_dec
        refine told_comp (by omega) rfl (by simp [evC]) rfl rfl (r5.mono fun m a h => h.rck) (fun k hk => trim_small sp1 hk) (by have := trim_len p; omega) (fun H' x => x _ _ h4) ?_
        intro ev4 H4 us4 x4 l4 h5 r6
        have x24 := x3.trans x4
        repeat array_get_dec
        refine WPV.mono (ltrim_ok (by omega) (rlt.rck.ext x24) sp1).vc ?_
        rintro r H5 ⟨x5, j5, vs5, rfl, l5, h6, r7⟩
        refine cmp_toldN (x5 _ _ h5) h6 (by omega) (r6.mono fun m a h => (h.ext x5).n.td) (r7.mono fun m a h => h.td) ?_
        exact ⟨rfl, x24.trans x5⟩
      rintro bb H3 ⟨rfl, x3⟩
      refine go_ff ?_
      replace x2 := x2.trans x3
      have rlt3 := rlt.ext x3
      have h23 := x3 _ _ h2
      have h33 := x3 _ _ h3
      have gj3 := x3 _ _ gj
      have g13 := x3 _ _ g1
      have y3 := x3.len
      replace r3 := r3.mono fun m a h => h.ext x3
      replace r4 := r4.mono fun m a h => h.ext x3
      clear x3 h2 h3 gj g1
      repeat array_get_dec
      refine WPV.mono (parted_ok (by omega) rlt3.rck sp3 f1 (by omega)).vc ?_
      rintro r H4 ⟨x4, j4, vs4, rfl, l4, h4, r5⟩
      have lv4 : vs4.length ≤ 7 := by rw [r5.length]; exact f3
      repeat array_get_dec
      have x4' : Ext H3 (H4 ++ [MObj.list vs4]) := x4.trans (Ext.app _ _)
      have hp4 : (H4 ++ [MObj.list vs4])[H4.length]? = some (.list vs4) := at_last _ _
      have y4 := x4.len
      have r5' : All2 (RC (fun i => H3.length < i) (H4 ++ [MObj.list vs4])) vs4 (parD p) := r5.mono fun m a h => h.ext (Ext.app _ _)
      generalize hj4 : H4.length = jq at hp4 y4 ⊢
      have y5 : (H4 ++ [MObj.list vs4]).length = jq + 1 := by rw [← hj4]; simp
      generalize H4 ++ [MObj.list vs4] = H5 at x4' hp4 r5' y5 ⊢
      clear h4 r5 x4 hj4
      refine WP1.ifs ?_
      refine WPT.mid (fun b H6 => b = false ∧ Ext H5 H6) ?_ ?_
      · repeat array_get_dec
        refine WPV.mono (isparted_ok (by omega) (rlt3.rck.ext x4') sp3 hp4 (r5'.mono fun m a h => h.rck) (fun q hq => by have := f4 q hq; unfold Ck.small at this ⊢; omega) (by omega) f2).vc ?_
        rintro r H6 ⟨x6, rfl⟩
        repeat array_get_dec
        exact ⟨rfl, x6⟩
      rintro bb H6 ⟨rfl, x6⟩
      refine go_ff ?_
      have x36 := x4'.trans x6
      have h26 := x36 _ _ h23
      have h36 := x36 _ _ h33
      have hp6 := x6 _ _ hp4
      have y6 := x6.len
      have gj6 := x36 _ _ gj3
      have rlt6 := rlt3.ext x36
      repeat array_get_dec
      refine WPV.mono (ltrim_ok (by omega) rlt6.rck sp1).vc ?_
      rintro r H7 ⟨x7, j7, vs7, rfl, l7, h7, r7⟩
      have h27 := x7 _ _ h26
      have h37 := x7 _ _ h36
      have hp7 := x7 _ _ hp6
      have y7 := x7.len
      have lv7 : vs7.length ≤ 3 := by rw [r7.length]; exact trim_len p
      have x37 := x36.trans x7
      repeat array_get_dec
      refine ⟨?_, done ++ [p], rest, _, _, by rw [e1]; simp, r2, ⟨_, _, rfl⟩, ?_, by simp; omega, at_set_ne (at_set (by omega)) (by omega), at_set (by simp; omega), ?_, ?_⟩
      · exact at_set_ne (at_set_ne (x7 _ _ gj6) (by omega)) (by omega)
      · exact ((x2.trans x37).set_new (Nat.le_refl _)).set_new (by omega)
      · rw [ezd]
        refine All2.app (r3.mono fun m a h => ((h.ext x37).setP (fun i hi => hi.1.symm)).setP (fun i hi => hi.2.symm)) (r7.mono fun m a h => RTp.setP (RTp.setP (h.mono fun i a b => by omega) (fun i hi => hi.1.symm)) (fun i hi => hi.2.symm))
      · rw [ept]
        refine All2.app (r4.mono fun m a h => ((h.ext x37).setP (fun i hi => hi.1.symm)).setP (fun i hi => hi.2.symm)) (r5'.mono fun m a h => RC.setP (RC.setP (((h.ext x6).ext x7).mono fun i a b => by omega) (fun i hi => hi.1.symm)) (fun i hi => hi.2.symm))
    · rw [if_pos h] at ezd ept
      repeat array_get_dec
      refine WPV.mono (told_ok (by omega) rlt.rck sp1).vc ?_
      rintro r H3 ⟨x3, r5⟩
      have h23 := x3 _ _ h2
      have h33 := x3 _ _ h3
      have y3 := x3.len
      have nr : r ≠ .undef := by obtain ⟨_, _, _, e, -⟩ := r5; rw [e]; intro q; cases q
      repeat array_get_dec
      refine ⟨?_, done ++ [p], rest, _, _, by rw [e1]; simp, r2, ⟨_, _, rfl⟩, ?_, by simp; omega, at_set_ne (at_set (by omega)) (by omega), at_set (by simp; omega), ?_, ?_⟩
      · exact at_set_ne (at_set_ne (x3 _ _ gj) (by omega)) (by omega)
      · exact ((x2.trans x3).set_new (Nat.le_refl _)).set_new (by omega)
      · rw [ezd]
        refine All2.app (r3.mono fun m a h => ((h.ext x3).setP (fun i hi => hi.1.symm)).setP (fun i hi => hi.2.symm)) (.cons (RTp.setP (RTp.setP (r5.p.mono fun i a b => by omega) (fun i hi => hi.1.symm)) (fun i hi => hi.2.symm)) .nil)
      · rw [ept]
        refine All2.app (r4.mono fun m a h => ((h.ext x3).setP (fun i hi => hi.1.symm)).setP (fun i hi => hi.2.symm)) (.cons (RC.setP (RC.setP ((rlt.ext x3).mono fun i a b => by omega) (fun i hi => hi.1.symm)) (fun i hi => hi.2.symm)) .nil)
end
theorem goC_len : ∀ (l : List Ck) (s : Option (Ck × List Ck)), (goC s l).length ≤ (flatS s).length + l.length
  | [], none => by simp [goC, flatS]
  | [], some (c, bs) => by simp [goC, flatS]
  | p :: r, none => by
    have h1 := goC_len r (some (p, []))
    have h2 := goC_len r none
    rw [goC]
    simp only [flatS, List.length_cons, List.length_nil] at h1 h2 ⊢
    split
    · omega
    · simp only [List.length_cons]; omega
  | p :: r, some (c, bs) => by
    have h1 := goC_len r (some (p, []))
    have h2 := goC_len r none
    have h3 := goC_len r (some (joinC (c :: bs ++ [p]), []))
    have h4 := goC_len r (some (c, bs ++ [p]))
    rw [goC]
    simp only [flatS, List.length_cons, List.length_nil, List.length_append] at h1 h2 h3 h4 ⊢
    split
    · split
      · omega
      · simp only [List.length_cons, List.length_append]; omega
    · split
      · omega
      · simp only [List.length_cons, List.length_append]; omega
theorem closS_len (l : List Ck) : (closS l).length ≤ l.length := by
  have := goC_len l none; simp only [flatS, List.length_nil, Nat.zero_add] at this; exact this
theorem goC_cat {f : Ck → List Line} (hf : ∀ l, f (joinC l) = cat f l) : ∀ (l : List Ck) (s : Option (Ck × List Ck)), cat f (goC s l) = cat f (flatS s ++ l)
  | [], none => by simp [goC, flatS]
  | [], some (c, bs) => by simp [goC, flatS]
  | p :: r, none => by
    rw [goC]
    split
    · rw [goC_cat hf r]; simp [flatS]
    · show f p ++ cat f (goC none r) = _
      rw [goC_cat hf r]; simp [flatS, cat]
  | p :: r, some (c, bs) => by
    rw [goC]
    split
    · split
      · rw [goC_cat hf r]
        simp only [flatS, List.cons_append, List.nil_append]
        show f _ ++ cat f r = _
        rw [hf]
        simp [cat, cat_app]
      · rw [cat_app, goC_cat hf r]; simp [flatS, cat, cat_app]
    · split
      · rw [goC_cat hf r]; simp [flatS]
      · rw [cat_app]
        show _ ++ (f p ++ cat f (goC none r)) = _
        rw [goC_cat hf r]; simp [flatS, cat, cat_app]
theorem closS_cat {f : Ck → List Line} (l : List Ck) (hf : ∀ l, f (joinC l) = cat f l) : cat f (closS l) = cat f l := by
  have := goC_cat hf l none; simp only [flatS, List.nil_append] at this; exact this
section
variable {B : Bs} {d : Nat} {H : List MObj}
theorem cmp_isnR {i j : Nat} {C : Addr} {f : List (Str × MV)} {o : MObj} {P : Bool → Prop} (h1 : H[j]? = some (.inst C f)) (h2 : H[i]? = some o) (h : P (i != j)) : cmpM .IsNot (.ref i) (.ref j) H P := ⟨⟨C, f, h1⟩, ⟨o, h2⟩, h⟩
theorem lawC_ok (hd : 40 ≤ d) (hall : AllOk) : LawC B d := by
  intro H jf jw jt jp vs ws ts qs ks a0 a1 a3 a7 hf rf hw rw' ht rt hp rp hl hs
  have hs1 : ∀ k ∈ ks, k.small 1000 := fun k hk => by have := hs k hk; unfold Ck.small at this ⊢; omega
  have hs3 : ∀ k ∈ ks, k.small 300 := fun k hk => by have := hs k hk; unfold Ck.small at this ⊢; omega
  have lz := zd_len ks
  have lp := pt_len hall ks hs
  have lvs := rf.length
  have sz : ∀ k ∈ zdS ks, k.small 1000 := zd_small hs1
  have sp := pt_small hall hs
  have c1 : (cat (·.base) (ptS ks)).length ≤ 3 * (ptS ks).length := cat_len_le fun k hk => (sp k hk).1
  have c2 : (cat (·.ours) (ptS ks)).length ≤ 3 * (ptS ks).length := cat_len_le fun k hk => (sp k hk).2.1
  have c3 : (cat (·.theirs) (ptS ks)).length ≤ 3 * (ptS ks).length := cat_len_le fun k hk => (sp k hk).2.2
  have clos_len : (closS (ptS ks)).length ≤ 1000 := by have := closS_len (ptS ks); omega
  have clos_small : ∀ k ∈ closS (ptS ks), k.small 1000 := by
    intro k hk
    have q1 := cat_mem_le (f := (·.base)) hk
    have q2 := cat_mem_le (f := (·.ours)) hk
    have q3 := cat_mem_le (f := (·.theirs)) hk
    rw [closS_cat _ (fun l => rfl)] at q1 q2 q3
    exact ⟨by omega, by omega, by omega⟩
  refine WPS.cons ?_
  repeat array_get_dec
  refine WPV.mono (pieces_diff (by omega) hf rf (by omega)).vc ?_
  rintro r H1 ⟨x1, j1, rfl, l1, h1⟩
  repeat array_get_dec
  have hpl : (H1 ++ [MObj.list vs])[H1.length]? = some (.list vs) := at_last _ _
  have x1' : Ext H (H1 ++ [MObj.list vs]) := x1.trans (Ext.app _ _)
  have y1 := x1.len
  generalize hpp : H1.length = jl at hpl y1 ⊢
  have yl : (H1 ++ [MObj.list vs]).length = jl + 1 := by rw [← hpp]; simp
  generalize H1 ++ [MObj.list vs] = H2 at hpl x1' yl ⊢
  clear h1 x1 hpp
  have f2 := x1' _ _ hf
  have rf2 := rf.mono fun m a h => h.ext x1'
  refine WP1.ifs ?_
  refine WPT.mid (fun b H3 => b = false ∧ Ext H2 H3) ?_ ?_
  · repeat array_get_dec
    refine go_bF (by simp) ?_
    repeat array_get_dec
    refine CompS.ind (fun ms ev3 H3 => ∃ (us : List MV) (rest : List Ck), ms = zipL us us ∧ All2 (RCk H2) us rest ∧ (∃ t1 t2, ev3 = [.undef, t1, t2]) ∧ Ext H2 H3 ∧ H2.length < H3.length ∧ H3[H2.length]? = some (.list [])) ?_ emitI_mono ?_ ⟨vs, ks, rfl, rf2, ⟨_, _, rfl⟩, (by sizeOf_list_dec), by simp, (by decreasing_trivial_pre_omega)⟩
    · rintro ev3 H3 ⟨us, rest, e1, r1, ⟨t1, t2, rfl⟩, x3, l3, h3⟩
      repeat array_get_dec
      refine go_bF (by simp) ?_
      repeat array_get_dec
      exact ⟨rfl, (by sizeOf_list_dec)⟩
    · rintro m ms ev3 H3 ⟨us, rest, e1, r1, ⟨t1, t2, rfl⟩, x3, l3, h3⟩
      cases r1 with
      | nil => cases e1
      | cons hm r1 =>
      simp only [zipL, List.cons.injEq] at e1
      obtain ⟨rfl, rfl⟩ := e1
      obtain ⟨c, b, o, t, rfl, hc, -⟩ := id hm
      have g1 := x3 _ _ hc
      repeat array_get_dec
      refine cmp_isnR g1 g1 ?_
      refine go_bF (by simp) ?_
      exact ⟨⟨x3 _ _ hpl, x3 _ _ f2⟩, _, _, rfl, r1, ⟨_, _, rfl⟩, x3, l3, h3⟩
  rintro bb H3 ⟨rfl, x3⟩
  refine go_ff ?_
  have x03 := x1'.trans x3
  clear x1' hpl f2 rf2
  have f3 := x03 _ _ hf
  have t3 := x03 _ _ ht
  have z3 := x03.len
  have zt := lt_of_at ht
  repeat array_get_dec
  refine WP1.ifs ?_
  refine WPT.mid (fun b H4 => b = false ∧ Ext H3 H4) ?_ ?_
  · repeat array_get_dec
    refine WPV.mono (pieces_zdiff (by omega) f3 (rf.mono fun m a h => h.ext x03) hs1 (by omega)).vc ?_
    rintro r H4 ⟨x4, j4, vs4, rfl, l4, h4, r4⟩
    refine go_seq h4 ?_
    repeat array_get_dec
    refine told_comp (by omega) rfl (by simp [evC]) rfl rfl (r4.mono fun m a h => h.rck) sz (by omega) (fun H' x => x _ _ h4) ?_
    intro ev5 H5 us5 x5 l5 h5 r5
    have t5 := x5 _ _ (x4 _ _ t3)
    have y4 := x4.len
    repeat array_get_dec
    refine cmp_toldN h5 t5 (by omega) (r5.mono fun m a h => h.n.td) (rt.mono fun m a h => ((h.ext x03).ext x4).ext x5) ?_
    exact ⟨rfl, x4.trans x5⟩
  rintro bb H4 ⟨rfl, x4⟩
  refine go_ff ?_
  have x04 := x03.trans x4
  clear x03 f3 t3
  have p4 := x04 _ _ hp
  repeat array_get_dec
  refine told_comp (by omega) rfl (by simp [evC]) rfl rfl (rp.mono fun m a h => h.ext x04) (fun k hk => by have := sp k hk; unfold Ck.small at this ⊢; omega) (by omega) (fun H' x => x _ _ p4) ?_
  intro ev5 H5 us5 x5 l5 h5 r5
  repeat array_get_dec
  refine WPV.mono (closed_ok 28 (by omega) (by omega) (by omega) h5 (r5.mono fun m a h => h.n.td) ⟨by omega, by omega, by omega⟩).vc ?_
  rintro r H6 ⟨x6, jd, ds, rfl, h6, r6⟩
  have x06 := (x04.trans x5).trans x6
  have p6 := x06 _ _ hp
  have f6 := x06 _ _ hf
  have w6 := x06 _ _ hw
  have zd := lt_of_at h6
  repeat array_get_dec
  refine WP1.ifs ?_
  refine WPT.mid (fun b H7 => b = false ∧ Ext H6 H7) ?_ ?_
  · repeat array_get_dec
    refine WPV.mono (closeup_ok (by omega) p6 (rp.mono fun m a h => h.ext x06) (by omega) ⟨by omega, by omega, by omega⟩).vc ?_
    rintro r H7 ⟨x7, j7, vs7, rfl, l7, h7, r7⟩
    refine go_seq h7 ?_
    repeat array_get_dec
    refine told_comp (by omega) rfl (by simp [evC]) rfl rfl (r7.mono fun m a h => h.rck) clos_small clos_len (fun H' x => x _ _ h7) ?_
    intro ev8 H8 us8 x8 l8 h8 r8
    have d8 := x8 _ _ (x7 _ _ h6)
    have y7 := x7.len
    repeat array_get_dec
    refine cmp_toldN h8 d8 (by omega) (r8.mono fun m a h => h.n.td) (r6.mono fun m a h => (h.ext x7).ext x8) ?_
    exact ⟨rfl, x7.trans x8⟩
  rintro bb H7 ⟨rfl, x7⟩
  refine go_ff ?_
  have f7 := x7 _ _ f6
  have x07 := x06.trans x7
  have h67 := x7 _ _ h6
  have zd7 := lt_of_at h67
  repeat array_get_dec
  refine WP1.ifs ?_
  refine WPT.mid (fun b H8 => b = false ∧ Ext H7 H8) ?_ ?_
  · repeat array_get_dec
    refine WPV.mono (pieces_merge (by omega) f7 (rf.mono fun m a h => h.ext x07) hs3 (fun k hk _ => by rw [(par_facts hall (hs k hk)).1]; rfl) (by omega) ⟨by omega, by omega, by omega⟩).vc ?_
    rintro r H8 ⟨x8, j8, vs8, rfl, l8, h8, r8⟩
    refine go_seq h8 ?_
    repeat array_get_dec
    refine told_comp (by omega) rfl (by simp [evC]) rfl rfl r8 clos_small clos_len (fun H' x => x _ _ h8) ?_
    intro ev9 H9 us9 x9 l9 h9 r9
    have d9 := x9 _ _ (x8 _ _ h67)
    have y8 := x8.len
    repeat array_get_dec
    refine cmp_toldN h9 d9 (by omega) (r9.mono fun m a h => h.n.td) (r6.mono fun m a h => ((h.ext x7).ext x8).ext x9) ?_
    exact ⟨rfl, x8.trans x9⟩
  rintro bb H8 ⟨rfl, x8⟩
  refine go_ff ?_
  have x08 := x07.trans x8
  have f8 := x08 _ _ hf
  have w8 := x08 _ _ hw
  have zw := lt_of_at w8
  repeat array_get_dec
  refine told_comp (by omega) rfl (by simp [evC]) rfl rfl (rf.mono fun m a h => h.ext x08) hs1 (by omega) (fun H' x => x _ _ f8) ?_
  intro ev9 H9 us9 x9 l9 h9 r9
  have w9 := x9 _ _ w8
  repeat array_get_dec
  exact cmp_toldE h9 w9 (by omega) (r9.mono fun m a h => h.n.td) (rw'.mono fun m a h => (h.ext x08).ext x9) rfl
end
end
section
theorem ints_rel {g : G} : ∀ {vs : List Value} {ns : List Int}, IntsAre vs ns → VRs g (ns.map .int) vs
  | _, _, .nil => by simp [VRs]
  | _, _, .cons n t h => by
    simp only [List.map_cons, VRs]
    exact ⟨_, _, rfl, .int', ints_rel h⟩
theorem ev388 (a1 : Addr) : ∀ (i : Nat) (m : MV), (initEv fi388.ns [Str.ofString "script"] [.con (.ref a1)])[i]? = some m → (i = 0 ∧ m = .con (.ref a1)) ∨ m = .undef := by
  intro i m h
  rw [ie388] at h
  match i with
  | 0 => exact .inl ⟨rfl, (Option.some.inj h).symm⟩
  | i + 1 =>
    refine .inr ?_
    have h' : (List.replicate 22 MV.undef)[i]? = some m := h
    rw [List.getElem?_replicate] at h'
    split at h'
    · exact (Option.some.inj h').symm
    · cases h'
theorem top_run {w : World} {A : Around} {s₁ : Shared} {env : Env} {mg mb : Str → Option Value} {a1 L c : Addr} {it : List Value} {sc : List Int} {h₁ : Heap} {tk : Nat} {m : Str → Option Value} {oc : Obj} {vc : Option Value}
    (hA : OkA 40 A) (hall : AllOk) (hg : s₁.gens = #[]) (KX : (Kw w).In s₁.heap) (T : TopRead hd.view_39 Loose mg mb s₁.heap)
    (hL : s₁.heap.IsList a1 it.toArray) (hI : IntsAre it sc) (hl : sc.length ≤ 63)
    (e1 : env.scope.names = fi388.ns) (e2 : env.scope.kind = .function) (e3 : env.globals = mainGlobals) (e4 : env.builtins = builtinsNs) (eL : env.locals = L)
    (F : Fr s₁.heap L h₁ m) (hm : m (Str.ofString "script") = some (.ref a1)) (hc : env.cells.lookup (Str.ofString "deck") = some c) (N : News s₁.heap L h₁ [(c, oc)]) (hdc : oc.data = .cell vc) :
    wpAny (model Prg w) A (execs sb388.1 env) (fun f s' => f = .ret (.bool true) ∧ (∀ b o, s₁.heap.get? b = some o → s'.heap.get? b = some o) ∧ s'.os = s₁.os ∧ s'.gens = #[]) (fun _ _ => False) ⟨h₁, s₁.gens, s₁.drawn, tk, s₁.os⟩ := by
  let B : Bs := ⟨w, s₁.heap, s₁.os, KX, mg, mb, T⟩
  let g : G := ⟨s₁.heap.get?, [], fun a => if a = L then .fr none else if a = c then .fr (some (Str.ofString "deck")) else if (s₁.heap.get? a).isSome then .fz else .no⟩
  have Nc := N (c, oc) (by simp)
  have hold : ∀ a o, s₁.heap.get? a = some o → a ≠ L ∧ a ≠ c := fun a o e => ⟨Nat.ne_of_lt (Nat.lt_of_lt_of_le (Heap.lt_size e) F.above), fun q => by subst q; rw [Nc.2.2] at e; cases e⟩
  have owL : g.ow L = .fr none := by show (if L = L then _ else _) = _; rw [if_pos rfl]
  have owc : g.ow c = .fr (some (Str.ofString "deck")) := by show (if c = L then _ else _) = _; rw [if_neg Nc.2.1, if_pos rfl]
  have I : Inv B fi388 env (fun _ => none) g (initEv fi388.ns [Str.ofString "script"] [.con (.ref a1)]) [] ⟨h₁, s₁.gens, s₁.drawn, tk, s₁.os⟩ := {
    gens := hg
    os := rfl
    F := fun a o e => ⟨F.keep a o e, by
      have q := hold a o e
      show (if a = L then _ else _) = _
      rw [if_neg q.1, if_neg q.2, if_pos (by rw [show s₁.heap.get? a = some o from e]; rfl)]⟩
    hb := fun a o e => e
    pk := fun a e => by
      have e' : (if a = L then Ow.fr none else if a = c then .fr (some (Str.ofString "deck")) else if (s₁.heap.get? a).isSome then .fz else .no) = .pk := e
      split at e'
      · cases e'
      · split at e'
        · cases e'
        · split at e' <;> cases e'
    Φ := fun a o e => by cases e
    sz := fun a e => by
      show (if a = L then _ else _) = _
      have e : h₁.get? a = none := e
      split
      · rename_i q; subst q
        obtain ⟨o, es, ep, q1, q2⟩ := F.ns
        rw [q1] at e; cases e
      · split
        · rename_i q; subst q; rw [Nc.1] at e; cases e
        · split
          · rename_i q
            obtain ⟨o, ho⟩ := Option.isSome_iff_exists.mp q
            rw [F.keep a o ho] at e; cases e
          · rfl
    lo := fun a i e => by
      have e' : (if a = L then Ow.fr none else if a = c then .fr (some (Str.ofString "deck")) else if (s₁.heap.get? a).isSome then .fz else .no) = .lv i := e
      split at e'
      · cases e'
      · split at e'
        · cases e'
        · split at e' <;> cases e'
    len := rfl
    live := fun i a o h1 h2 => by cases h2
    fr := by
      have hmem : ∀ p ∈ fi388.ns, p.2 ≠ .free ∧ (p.2 = .cell → p.1 = Str.ofString "deck") := by decide
      have hs0 : slot fi388.ns (Str.ofString "script") = some (0, .local) := rfl
      have hd1 : ∃ k, slot fi388.ns (Str.ofString "deck") = some (1, k) := ⟨_, rfl⟩
      refine ⟨e1, e2, e3, e4, ⟨by rw [eL]; exact owL, m, by rw [eL]; exact F.ns, fun x i e y hy => ?_⟩, fun x i k e hk => ?_⟩
      · rcases ev388 a1 i y hy with ⟨rfl, rfl⟩ | rfl
        · have : x = Str.ofString "script" := slot_inj e hs0
          subst this
          exact ⟨_, hm, .con'⟩
        · trivial
      · have hx := hmem _ (mem_of_lookup (slot_lookup e))
        have hkc : k = .cell := by
          rcases hk with hk | hk
          · exact hk
          · exact absurd hk hx.1
        have hxd : x = Str.ofString "deck" := hx.2 hkc
        subst hxd
        refine ⟨c, vc, hc, ⟨oc, Nc.1, hdc⟩, fun y hy => ?_, .inl owc⟩
        obtain ⟨k', hd1⟩ := hd1
        rw [hd1] at e
        cases e
        rcases ev388 a1 1 y hy with ⟨q, _⟩ | rfl
        · cases q
        · trivial }
  have hrun := law_ok (B := B) (d := 40) (H := []) (a1 := a1) (it1 := it.toArray) (sc := sc) (Nat.le_refl _) hL (fun g => by simpa using ints_rel hI) (by omega) (lawB_ok (Nat.le_refl _) hall (lawC_ok (Nat.le_refl _) hall))
  refine wpAny_mono (hrun A env _ g _ hA I) ?_ (fun _ _ h => h)
  rintro f s' ⟨g', ev', H', l, I', q⟩
  refine ⟨?_, I'.keepB, I'.os, I'.gens⟩
  cases f with
  | next => exact q.elim
  | ret v =>
    obtain ⟨m, r, rfl⟩ := q
    rw [r.inv_bool]
  | brk => exact q.elim
  | cont => exact q.elim
theorem okTop (env : Env) : OkA 40 (callerA.deeper env) := by
  refine ⟨rfl, ?_, ?_⟩
  · show 1 + claimMargin + 1 + 2 * 40 + 2 < 1000
    decide
  · show 4 + 3 + 30 * 40 + 30 < cLine
    decide
/-! the table, up to other names for the lines -/
section
variable {σ : Line → Line}
theorem mem_mapI (hσ : ∀ x y, σ x = σ y → x = y) {x : Line} {l : List Line} : σ x ∈ l.map σ ↔ x ∈ l := by
  rw [List.mem_map]
  constructor
  · rintro ⟨y, hy, e⟩; rw [← hσ _ _ e]; exact hy
  · intro h; exact ⟨x, h, rfl⟩
theorem idx_map (hσ : ∀ x y, σ x = σ y → x = y) {x : Line} : ∀ l : List Line, (l.map σ).idxOf (σ x) = l.idxOf x
  | [] => rfl
  | y :: ys => by
    rw [List.map_cons, List.idxOf_cons, List.idxOf_cons, idx_map hσ ys]
    by_cases h : y = x
    · subst h; simp
    · have h1 : (y == x) = false := by simpa using h
      have h2 : (σ y == σ x) = false := by
        have : σ y ≠ σ x := fun q => h (hσ _ _ q)
        simpa using this
      rw [h1, h2]
theorem num_map (hσ : ∀ x y, σ x = σ y → x = y) (kn : List Line) (x : Line) : num (kn.map σ) (σ x) = ((num kn x).1.map σ, (num kn x).2) := by
  unfold num
  by_cases h : x ∈ kn
  · rw [if_pos h, if_pos ((mem_mapI hσ).mpr h), idx_map hσ]
  · rw [if_neg h, if_neg (fun q => h ((mem_mapI hσ).mp q))]; simp
theorem nums_map (hσ : ∀ x y, σ x = σ y → x = y) : ∀ (ls kn : List Line), nums (kn.map σ) (ls.map σ) = ((nums kn ls).1.map σ, (nums kn ls).2)
  | [], kn => rfl
  | x :: xs, kn => by
    show ((nums (num (kn.map σ) (σ x)).1 (xs.map σ)).1, (num (kn.map σ) (σ x)).2 :: (nums (num (kn.map σ) (σ x)).1 (xs.map σ)).2) = _
    rw [num_map hσ, nums_map hσ xs]
    rfl
theorem myersS_map (hσ : ∀ x y, σ x = σ y → x = y) (a b : List Line) : myersS (a.map σ) (b.map σ) = myersS a b := by
  have h1 := nums_map hσ a []
  have h2 := nums_map hσ b (nums [] a).1
  rw [List.map_nil] at h1
  unfold myersS
  rw [h1, h2, List.length_map, List.length_map]
def ckMap (σ : Line → Line) (k : Ck) : Ck := ⟨k.word, k.base.map σ, k.ours.map σ, k.theirs.map σ⟩
theorem parGo_map (o t : List Line) : ∀ (L : List Pt) (p : Nat), parGo (o.map σ) (t.map σ) p L = (parGo o t p L).map (ckMap σ)
  | [], p => by
    unfold parGo
    rw [List.length_map]
    split
    · simp [ckMap]
    · rfl
  | q :: r, p => by
    unfold parGo
    rw [parGo_map o t r]
    split <;> simp [ckMap]
theorem map_nilI {l : List Line} : l.map σ = [] ↔ l = [] := by simp
theorem map_eqI (hσ : ∀ x y, σ x = σ y → x = y) {a b : List Line} : a.map σ = b.map σ ↔ a = b := List.map_inj_right (fun x y h => hσ x y h)
theorem piecesOk_map (hσ : ∀ x y, σ x = σ y → x = y) : ∀ (ps : List Ck) (w : Option Wd), piecesOk w (ps.map (ckMap σ)) = piecesOk w ps
  | [], _ => rfl
  | k :: r, w => by
    show (pieceOk w (ckMap σ k) && piecesOk (some (ckMap σ k).word) (r.map (ckMap σ))) = _
    rw [piecesOk_map hσ r]
    have : pieceOk w (ckMap σ k) = pieceOk w k := by
      unfold pieceOk ckMap
      simp only [map_nilI, map_eqI hσ, ne_eq]
    rw [this]; rfl
theorem cat_mapC (f : Ck → List Line) (hf : ∀ k, f (ckMap σ k) = (f k).map σ) : ∀ ps : List Ck, cat f (ps.map (ckMap σ)) = (cat f ps).map σ
  | [] => rfl
  | k :: r => by
    show f (ckMap σ k) ++ cat f (r.map (ckMap σ)) = (f k ++ cat f r).map σ
    rw [hf, cat_mapC f hf r, List.map_append]
theorem bsum_map : ∀ ps : List Ck, bsum (ps.map (ckMap σ)) = bsum ps
  | [] => rfl
  | k :: r => by
    show (if k.word = .both then (k.ours.map σ).length else 0) + bsum (r.map (ckMap σ)) = _
    rw [bsum_map r, List.length_map]; rfl
theorem longIn_map (hσ : ∀ x y, σ x = σ y → x = y) (x : Line) (row : List Nat) : ∀ (ys : List Line) (f : List Nat), longIn (σ x) row (ys.map σ) f = longIn x row ys f
  | [], f => rfl
  | y :: ys, f => by
    have e : (σ x = σ y) = (x = y) := propext ⟨hσ x y, congrArg σ⟩
    rw [List.map_cons]
    show longIn (σ x) row (ys.map σ) (f ++ [if σ x = σ y then _ else _]) = longIn x row ys (f ++ [if x = y then _ else _])
    rw [longIn_map hσ x row ys]
    congr 3
    simp only [e]
theorem longOut_map (hσ : ∀ x y, σ x = σ y → x = y) (b : List Line) : ∀ (a : List Line) (row : List Nat), longOut (b.map σ) (a.map σ) row = longOut b a row
  | [], row => rfl
  | x :: xs, row => by
    show longOut (b.map σ) (xs.map σ) (longIn (σ x) row (b.map σ) [0]) = _
    rw [longIn_map hσ, longOut_map hσ b xs]; rfl
theorem longS_map (hσ : ∀ x y, σ x = σ y → x = y) (a b : List Line) : longS (a.map σ) (b.map σ) = longS a b := by
  unfold longS
  rw [longOut_map hσ, List.length_map]
theorem okPair_map (hσ : ∀ x y, σ x = σ y → x = y) (a b : List Line) : okPair (a.map σ) (b.map σ) = okPair a b := by
  unfold okPair
  rw [myersS_map hσ]
  cases myersS a b with
  | none => rfl
  | some L =>
    show isParted (a.map σ) (b.map σ) (parGo (a.map σ) (b.map σ) 0 L) = isParted a b (parGo a b 0 L)
    unfold isParted
    rw [parGo_map, piecesOk_map hσ, cat_mapC (·.ours) (fun _ => rfl), cat_mapC (·.theirs) (fun _ => rfl), bsum_map, longS_map hσ, List.length_map]
    simp only [map_eqI hσ]
end
def sw (i : Fin 6) (x : Line) : Line := match i, x with
  | 0, x => x
  | 1, 0 => 0 | 1, 1 => 2 | 1, 2 => 1
  | 2, 0 => 1 | 2, 1 => 0 | 2, 2 => 2
  | 3, 0 => 1 | 3, 1 => 2 | 3, 2 => 0
  | 4, 0 => 2 | 4, 1 => 0 | 4, 2 => 1
  | 5, 0 => 2 | 5, 1 => 1 | 5, 2 => 0
def canon : List (List Line) := [[], [0], [0, 0], [0, 1], [0, 0, 0], [0, 0, 1], [0, 1, 0], [0, 1, 1], [0, 1, 2]]
theorem sw_inj (i : Fin 6) : ∀ x y, sw i x = sw i y → x = y := by revert i; decide
theorem to_canon : ∀ a ∈ allL, ∃ i : Fin 6, a.map (sw i) ∈ canon := by decide +kernel
theorem okC0 : (allL.all fun b => okPair [] b) = true := by decide +kernel
theorem okC1 : (allL.all fun b => okPair [0] b) = true := by decide +kernel
theorem okC2 : (allL.all fun b => okPair [0, 0] b) = true := by decide +kernel
theorem okC3 : (allL.all fun b => okPair [0, 1] b) = true := by decide +kernel
theorem okC4 : (allL.all fun b => okPair [0, 0, 0] b) = true := by decide +kernel
theorem okC5 : (allL.all fun b => okPair [0, 0, 1] b) = true := by decide +kernel
theorem okC6 : (allL.all fun b => okPair [0, 1, 0] b) = true := by decide +kernel
theorem okC7 : (allL.all fun b => okPair [0, 1, 1] b) = true := by decide +kernel
theorem okC8 : (allL.all fun b => okPair [0, 1, 2] b) = true := by decide +kernel
theorem okC : ∀ a ∈ canon, ∀ b ∈ allL, okPair a b = true := by
  intro a ha b hb
  unfold canon at ha
  simp only [List.mem_cons, List.not_mem_nil, or_false] at ha
  rcases ha with rfl | rfl | rfl | rfl | rfl | rfl | rfl | rfl | rfl
  · exact List.all_eq_true.mp okC0 b hb
  · exact List.all_eq_true.mp okC1 b hb
  · exact List.all_eq_true.mp okC2 b hb
  · exact List.all_eq_true.mp okC3 b hb
  · exact List.all_eq_true.mp okC4 b hb
  · exact List.all_eq_true.mp okC5 b hb
  · exact List.all_eq_true.mp okC6 b hb
  · exact List.all_eq_true.mp okC7 b hb
  · exact List.all_eq_true.mp okC8 b hb
theorem all_ok : AllOk := by
  intro a b ha hb
  obtain ⟨i, hi⟩ := to_canon a (mem_allL a ha)
  rw [← okPair_map (sw_inj i) a b]
  exact okC _ hi _ (mem_allL _ (by rw [List.length_map]; exact hb))
end
end
end Mine
theorem PySem.Challenge.cw_pb0120_01_holds : PySem.Challenge.rw_pb0120_01.Holds := by
  refine Mine.hd ?_
  k_go0
  refine wpAny_mono (Mine.top_run (Mine.okTop _) Mine.all_ok (by assumption) (by assumption) (topRead_of (by assumption)) (by assumption) (by assumption) (by omega) rfl rfl rfl rfl rfl (by assumption) rfl rfl (by assumption) (by assumption)) ?_ (fun _ _ h => h.elim)
  rintro f s' ⟨rfl, h1, h2, h3⟩
  exact ⟨.inl ⟨_, _, [], rfl, fun _ => rfl, ReadsW.bool true, (by wrow_post), fun _ => ⟨List.nodup_nil, fun _ hm => (nomatch hm)⟩⟩, h1, h2, h3⟩
