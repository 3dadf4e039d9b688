import PyProof.Rows.All
import Wide.All
import OpenK.AllK
import Wide.FinOn
import PySem.Challenge.RW_np0096_01
open PySem PySem.Calls PyProof.Rows PySem.W
set_option Elab.async false
set_option maxRecDepth 100000
set_option genSizeOf false

set_option backward.match.sparseCases false
namespace Np

-- abstract values, abstract objects
inductive AV where
  | non
  | bool (b : Bool)
  | int (i : Int)
  | str (s : Str)
  | tup (l : List AV)
  | ref (a : Addr)
  | val (v : Value)

inductive AO where
  | lst (l : List AV)
  | inst (C : Addr) (at_ : List (Nat × AV))
  | dcs (kvs : List (Str × AV))
  | dct (kvs : List (List Int × AV))
  | fro (l : List AV)

noncomputable abbrev ASt := Addr → Option AO
noncomputable def upd (σ : ASt) (a : Addr) (o : AO) : ASt := fun b => if b = a then some o else σ b
theorem upd_self (σ : ASt) (a : Addr) (o : AO) : upd σ a o a = some o := by simp [upd]
theorem upd_ne {σ : ASt} {a b : Addr} {o : AO} (h : b ≠ a) : upd σ a o b = σ b := by simp [upd, h]

-- values and what they stand for
mutual
inductive VR (h : Heap) : Value → AV → Prop
  | non : VR h .none .non
  | bool {b} : VR h (.bool b) (.bool b)
  | int {i t} : VR h (.int i t) (.int i)
  | str {s t} : VR h (.str s t) (.str s)
  | tup {a vs l n} : PySem.IsT h a (List.toArray vs) n → VRs h vs l → VR h (.ref a) (.tup l)
  | ref {a} : VR h (.ref a) (.ref a)
  | val {v} : VR h v (.val v)
inductive VRs (h : Heap) : List Value → List AV → Prop
  | nil : VRs h [] []
  | cons {v x vs xs} : VR h v x → VRs h vs xs → VRs h (v :: vs) (x :: xs)
end

noncomputable def TK (h h' : Heap) : Prop := ∀ a o, h.get? a = some o → o.cls = .type "tuple" → (∃ vs n, o.data = .seq vs n) → h'.get? a = some o

theorem VR.mono {h h' : Heap} (k : TK h h') {v : Value} {x : AV} (r : VR h v x) : VR h' v x := by
  refine VR.rec (motive_1 := fun v x _ => VR h' v x) (motive_2 := fun vs xs _ => VRs h' vs xs) ?_ ?_ ?_ ?_ ?_ ?_ ?_ ?_ ?_ r
  · exact .non
  · exact .bool
  · exact .int
  · exact .str
  · intro a vs l n ht _ ih; exact .tup (k _ _ ht rfl ⟨_, _, rfl⟩) ih
  · exact .ref
  · exact .val
  · exact .nil
  · intro v x vs xs _ _ a b; exact .cons a b
theorem VRs.ind {h : Heap} {P : List Value → List AV → Prop} (n : P [] []) (c : ∀ v x vs xs, VR h v x → VRs h vs xs → P vs xs → P (v :: vs) (x :: xs)) {vs xs} (r : VRs h vs xs) : P vs xs := by
  refine VRs.rec (motive_1 := fun _ _ _ => True) (motive_2 := fun vs xs _ => P vs xs) trivial trivial trivial trivial ?_ trivial trivial n ?_ r
  · intros; trivial
  · intro v x vs xs a b _ ih; exact c v x vs xs a b ih
theorem VRs.mono {h h' : Heap} (k : TK h h') {vs : List Value} {xs : List AV} (r : VRs h vs xs) : VRs h' vs xs :=
  VRs.ind (P := fun vs xs => VRs h' vs xs) .nil (fun _ _ _ _ a _ ih => .cons (a.mono k) ih) r
theorem VRs.length {h : Heap} {vs : List Value} {xs : List AV} (r : VRs h vs xs) : vs.length = xs.length :=
  VRs.ind (P := fun vs xs => vs.length = xs.length) rfl (fun _ _ _ _ _ _ ih => congrArg Nat.succ ih) r
theorem VRs.app {h : Heap} {vs ws : List Value} {xs ys : List AV} (r : VRs h vs xs) (q : VRs h ws ys) : VRs h (vs ++ ws) (xs ++ ys) :=
  VRs.ind (P := fun vs xs => VRs h (vs ++ ws) (xs ++ ys)) q (fun _ _ _ _ a _ ih => .cons a ih) r
theorem VRs.get {h : Heap} {vs : List Value} {xs : List AV} (r : VRs h vs xs) {i : Nat} {x : AV} (e : xs[i]? = some x) : ∃ v, vs[i]? = some v ∧ VR h v x := by
  refine VRs.ind (P := fun vs xs => ∀ (i : Nat) (x : AV), xs[i]? = some x → ∃ v, vs[i]? = some v ∧ VR h v x) (fun i x e => by cases e) (fun v y _ _ a _ ih i x e => ?_) r i x e
  rcases i with _ | i
  · cases e; exact ⟨v, rfl, a⟩
  · exact ih i x e
theorem VRs.getV {h : Heap} {vs : List Value} {xs : List AV} (r : VRs h vs xs) {i : Nat} {v : Value} (e : vs[i]? = some v) : ∃ x, xs[i]? = some x ∧ VR h v x := by
  refine VRs.ind (P := fun vs xs => ∀ (i : Nat) (v : Value), vs[i]? = some v → ∃ x, xs[i]? = some x ∧ VR h v x) (fun i x e => by cases e) (fun v y _ _ a _ ih i x e => ?_) r i v e
  rcases i with _ | i
  · cases e; exact ⟨y, rfl, a⟩
  · exact ih i x e
theorem VRs.take {h : Heap} {vs : List Value} {xs : List AV} (r : VRs h vs xs) (n : Nat) : VRs h (vs.take n) (xs.take n) := by
  refine VRs.ind (P := fun vs xs => ∀ n, VRs h (vs.take n) (xs.take n)) (fun n => by rw [List.take_nil, List.take_nil]; exact .nil) (fun v y _ _ a _ ih n => ?_) r n
  rcases n with _ | n
  · exact .nil
  · exact .cons a (ih n)
theorem VRs.drop {h : Heap} {vs : List Value} {xs : List AV} (r : VRs h vs xs) (n : Nat) : VRs h (vs.drop n) (xs.drop n) := by
  refine VRs.ind (P := fun vs xs => ∀ n, VRs h (vs.drop n) (xs.drop n)) (fun n => by rw [List.drop_nil, List.drop_nil]; exact .nil) (fun v y _ _ a b ih n => ?_) r n
  rcases n with _ | n
  · exact .cons a b
  · exact ih n
theorem VRs.set {h : Heap} {vs : List Value} {xs : List AV} (r : VRs h vs xs) (n : Nat) {v x} (q : VR h v x) : VRs h (vs.set n v) (xs.set n x) := by
  refine VRs.ind (P := fun vs xs => ∀ n, VRs h (vs.set n v) (xs.set n x)) (fun n => .nil) (fun _ _ _ _ a b ih n => ?_) r n
  rcases n with _ | n
  · exact .cons q b
  · exact .cons a (ih n)
theorem VRs.rev {h : Heap} {vs : List Value} {xs : List AV} (r : VRs h vs xs) : VRs h vs.reverse xs.reverse :=
  VRs.ind (P := fun vs xs => VRs h vs.reverse xs.reverse) .nil (fun _ _ _ _ a _ ih => by rw [List.reverse_cons, List.reverse_cons]; exact ih.app (.cons a .nil)) r
theorem VRs.rep {h : Heap} {vs : List Value} {xs : List AV} (r : VRs h vs xs) : ∀ n, VRs h (List.replicate n vs).flatten (List.replicate n xs).flatten
  | 0 => .nil
  | n + 1 => by simp only [List.replicate_succ, List.flatten_cons]; exact r.app (r.rep n)

-- attribute names
noncomputable def anmS : List String := ["tab_width", "has_carets", "truncates", "wraps_words", "hscroll", "name", "file", "mode", "begin", "end", "top", "bottom", "line", "column",
  "is_modified", "is_read_only", "is_narrowed", "deep", "form", "faces", "has_signs", "cells", "codes", "first", "rows", "after", "reach", "view", "table", "place",
  "number", "here", "start", "next_column", "glyphs", "is_line_end", "is_break", "is_end", "mark", "left", "width", "height", "is_selected", "mode_line", "facts",
  "names", "cursor", "parts", "parents", "by_name", "looks", "numbers",
  "put", "keep", "code_at", "faces_at", "hidden_at", "shown_at", "strings_at", "settle", "sign", "step", "spot", "stop", "cut_back", "has_bar", "text_width", "text_height",
  "told", "merged", "define", "number_of"]
noncomputable def anms : List Str := anmS.map Str.ofString
noncomputable def anm (k : Nat) : Str := anms.getD k Str.empty
noncomputable def aget (k : Nat) : List (Nat × AV) → Option AV
  | [] => none
  | (j, x) :: r => if j = k then some x else aget k r
noncomputable def aset (k : Nat) (x : AV) : List (Nat × AV) → List (Nat × AV)
  | [] => [(k, x)]
  | (j, y) :: r => if j = k then (k, x) :: r else (j, y) :: aset k x r

theorem anm_inj {j k : Nat} (hj : j < 72) (hk : k < 72) (h : anm j = anm k) : j = k := by
  have : ∀ j : Fin 72, ∀ k : Fin 72, anm j.1 = anm k.1 → j = k := by decide +kernel
  have := this ⟨j, hj⟩ ⟨k, hk⟩ h
  exact congrArg Fin.val this

inductive ER (h : Heap) : List DictEntry → List (Nat × AV) → Prop
  | nil : ER h [] []
  | cons {e : DictEntry} {es k x at_ t} : k < 72 → e.key = .str (anm k) t → VR h e.val x → ER h es at_ → ER h (e :: es) ((k, x) :: at_)
theorem ER.mono {h h' : Heap} (k : TK h h') {es at_} (r : ER h es at_) : ER h' es at_ := by
  induction r with
  | nil => exact .nil
  | cons a b c _ ih => exact .cons a b (c.mono k) ih
theorem ER.length {h : Heap} {es at_} (r : ER h es at_) : es.length = at_.length := by
  induction r with
  | nil => rfl
  | cons _ _ _ _ ih => exact congrArg Nat.succ ih
theorem isStr_anm {v : Value} {j k : Nat} {t} (hv : v = .str (anm j) t) (hj : j < 72) (hk : k < 72) : v.isStr (anm k) = decide (j = k) := by
  subst hv
  show (anm j == anm k) = _
  by_cases e : j = k
  · subst e; simp
  · rw [decide_eq_false e]
    exact beq_eq_false_iff_ne.mpr fun q => e (anm_inj hj hk q)
theorem ER.get {h : Heap} {k : Nat} (hk : k < 72) {es at_} (r : ER h es at_) {x} (e : aget k at_ = some x) : ∃ v, getL (anm k) es = some (some v) ∧ VR h v x := by
  induction r with
  | nil => cases e
  | @cons en es j y at_ t hj hkey hv r ih =>
    replace e : (if j = k then some y else aget k at_) = some x := e
    have q := isStr_anm hkey hj hk
    unfold getL
    rw [List.find?_cons]
    by_cases z : j = k
    · rw [if_pos z] at e; cases e
      rw [q, decide_eq_true z]; exact ⟨_, rfl, hv⟩
    · rw [if_neg z] at e
      rw [q, decide_eq_false z]
      obtain ⟨v, h1, h2⟩ := ih e
      refine ⟨v, ?_, h2⟩
      unfold getL at h1
      dsimp only
      split at h1
      · rename_i e' he; rw [he]; exact h1
      · split at h1 <;> cases h1
theorem ER.noRef {h : Heap} {es at_} (r : ER h es at_) : es.any (·.refKey) = false := by
  induction r with
  | nil => rfl
  | cons hj hkey hv r ih => rw [List.any_cons, ih]; simp [DictEntry.refKey, hkey]
theorem ER.getNone {h : Heap} {name : Str} : ∀ {es at_}, ER h es at_ → (∀ k x, (k, x) ∈ at_ → anm k ≠ name) → getL name es = some none := by
  intro es at_ r hn
  have : es.find? (·.key.isStr name) = none := by
    induction r with
    | nil => rfl
    | cons hj hkey hv r ih =>
      rw [List.find?_cons]
      rw [show Value.isStr (_ : DictEntry).key name = false from by rw [hkey]; exact beq_eq_false_iff_ne.mpr (hn _ _ (.head _))]
      exact ih fun k x m => hn k x (.tail _ m)
  unfold getL
  rw [this]
  dsimp only
  rw [r.noRef]; rfl
theorem ER.some {h : Heap} {name : Str} {es at_} (r : ER h es at_) : (getL name es).isSome = true := by
  unfold getL
  split
  · rfl
  · rw [r.noRef]; rfl
theorem ER.put {h : Heap} {k : Nat} (hk : k < 72) {hs : Int} {t : Tok} {v : Value} {x : AV} (hv : VR h v x) {es at_} (r : ER h es at_) : ER h (putL (anm k) hs (.str (anm k) t) v es) (aset k x at_) := by
  induction r with
  | nil => exact .cons hk rfl hv .nil
  | @cons en es j y at_ t hj hkey hw r ih =>
    have q := isStr_anm hkey hj hk
    rw [show aset k x ((j, y) :: at_) = if j = k then (k, x) :: at_ else (j, y) :: aset k x at_ from rfl]
    unfold putL
    by_cases z : j = k
    · subst z
      rw [q, decide_eq_true rfl, if_pos rfl, if_pos rfl]; exact .cons hk hkey hv r
    · rw [q, decide_eq_false z, if_neg z]
      rw [if_neg Bool.false_ne_true]
      exact .cons hj hkey hw ih

end Np

set_option genInjectivity false
namespace Np

noncomputable abbrev pg : Program := PySem.Challenge.rw_np0096_01.row.prog

structure Cx where
  w : World
  base : Heap
  gens : Array GenState
  os : OsState
  K : Frag

-- the ground: what is written of the top
structure Gd (X : Cx) : Prop where
  kin : X.K.In X.base
  glob : X.base.Ns mainGlobals (X.base.nsMap mainGlobals)
  blt : X.base.Ns builtinsNs (X.base.nsMap builtinsNs)
  boot : ∀ x : Str, x ≠ "__name__" → X.base.nsMap builtinsNs x = bootBuiltins x
  nolim : X.base.NoLimit
  sysm : ∃ o, X.base.get? sysModules = some o

noncomputable abbrev tupK (X : Cx) : HeapKind pg X.w (List Int) := tupleKind (intKind pg X.w)

inductive KR (h : Heap) : List (Str × Value) → List (Str × AV) → Prop
  | nil : KR h [] []
  | cons {k v x xs kvs} : VR h v x → KR h xs kvs → KR h ((k, v) :: xs) ((k, x) :: kvs)

inductive DR (h : Heap) : List (List Int × Addr × Value) → List (List Int × AV) → Prop
  | nil : DR h [] []
  | cons {k a v x xs kvs} : VR h v x → DR h xs kvs → DR h ((k, a, v) :: xs) ((k, x) :: kvs)

noncomputable def OR (X : Cx) (D : Addr → Addr) (h : Heap) (a : Addr) : AO → Prop
  | .lst l => ∃ (vs : List Value) (n : Nat), IsL h a vs.toArray n ∧ VRs h vs l
  | .inst C at_ => h.get? a = some (instObj C (D a)) ∧ ∃ es n, h.get? (D a) = some (dictOf es n) ∧ ER h es at_
  | .dcs kvs => ∃ xs, h.DictOf (strKind pg X.w) a xs ∧ KR h xs kvs
  | .dct kvs => ∃ xs, h.DictOfH (tupK X) a xs ∧ DR h xs kvs
  | .fro l => ∃ (vs : List Value) (n : Nat), IsL X.base a vs.toArray n ∧ VRs X.base vs l

noncomputable def AO.own : AO → Bool
  | .inst .. => false
  | .fro _ => false
  | _ => true

noncomputable def Own (D : Addr → Addr) (σ : ASt) (b : Addr) : Prop := (∃ o, σ b = some o ∧ o.own = true) ∨ ∃ a C at_, σ a = some (.inst C at_) ∧ D a = b

structure Rel (X : Cx) (D : Addr → Addr) (σ : ASt) (s : Shared) : Prop where
  base : ∀ b o, X.base.get? b = some o → s.heap.get? b = some o
  objs : ∀ a o, σ a = some o → OR X D s.heap a o
  ownb : ∀ b, Own D σ b → X.base.get? b = none
  inj : ∀ a b C C' at_ at', σ a = some (.inst C at_) → σ b = some (.inst C' at') → D a = D b → a = b
  sep : ∀ a C at_, σ a = some (.inst C at_) → σ (D a) = none
  gens : s.gens = X.gens
  os : s.os = X.os

structure Tr (D : Addr → Addr) (σ : ASt) (s : Shared) (D' : Addr → Addr) (σ' : ASt) (s' : Shared) : Prop where
  keep : ∀ b o, s.heap.get? b = some o → ¬ Own D σ b → s'.heap.get? b = some o
  fresh : ∀ b, Own D' σ' b → Own D σ b ∨ s.heap.get? b = none

theorem Tr.refl (D σ s) : Tr D σ s D σ s := ⟨fun _ _ e _ => e, fun _ h => .inl h⟩
theorem Tr.trans {D σ s D' σ' s' D'' σ'' s''} (x : Tr D σ s D' σ' s') (y : Tr D' σ' s' D'' σ'' s'') : Tr D σ s D'' σ'' s'' := by
  refine ⟨fun b o e n => ?_, fun b h => ?_⟩
  · refine y.keep b o (x.keep b o e n) fun q => ?_
    rcases x.fresh b q with q | q
    · exact n q
    · rw [e] at q; cases q
  · rcases y.fresh b h with q | q
    · exact x.fresh b q
    · by_cases z : Own D σ b
      · exact .inl z
      · cases e : s.heap.get? b with
        | none => exact .inr rfl
        | some o => rw [x.keep b o e z] at q; cases q

theorem DictOf.obj {X : Cx} {h : Heap} {a : Addr} {f} (m : h.DictOf (strKind pg X.w) a f) : ∃ o, h.get? a = some o ∧ o.cls = .type "dict" := by
  obtain ⟨o, es, ep, ho, hx, _⟩ := m
  exact ⟨o, ho, hx.1⟩
theorem DictOfH.obj {X : Cx} {h : Heap} {a : Addr} {xs} (m : h.DictOfH (tupK X) a xs) : ∃ o, h.get? a = some o ∧ o.cls = .type "dict" := by
  obtain ⟨o, es, ep, ho, hx, _⟩ := m
  first | exact ⟨o, ho, hx.1⟩ | exact ⟨o, ho, hx⟩

theorem Rel.notTuple {X : Cx} {D σ s} (R : Rel X D σ s) {b : Addr} (w : Own D σ b) : ∃ o, s.heap.get? b = some o ∧ o.cls ≠ .type "tuple" ∧ o.cls ≠ .type "frame" := by
  rcases w with ⟨o, e, hw⟩ | ⟨a, C, at_, e, rfl⟩
  · have z := R.objs _ _ e
    cases o with
    | inst => cases hw
    | lst l => obtain ⟨vs, n, ho, _⟩ := z; exact ⟨_, ho, by show Value.type "list" ≠ _; decide, by show Value.type "list" ≠ _; decide⟩
    | dcs => obtain ⟨f, m, _⟩ := z; obtain ⟨o, ho, hc⟩ := DictOf.obj m; exact ⟨o, ho, by rw [hc]; decide, by rw [hc]; decide⟩
    | dct => obtain ⟨f, m, _⟩ := z; obtain ⟨o, ho, hc⟩ := DictOfH.obj m; exact ⟨o, ho, by rw [hc]; decide, by rw [hc]; decide⟩
    | fro => cases hw
  · obtain ⟨_, es, n, h2, _⟩ := R.objs _ _ e
    exact ⟨_, h2, by show Value.type "dict" ≠ _; decide, by show Value.type "dict" ≠ _; decide⟩
theorem Rel.live {X : Cx} {D σ s} (R : Rel X D σ s) {b : Addr} (w : Own D σ b) : ∃ o, s.heap.get? b = some o := let ⟨o, h, _⟩ := R.notTuple w; ⟨o, h⟩
theorem Rel.obj {X : Cx} {D σ s} (R : Rel X D σ s) {a : Addr} {o : AO} (e : σ a = some o) : ∃ ob, s.heap.get? a = some ob := by
  have z := R.objs _ _ e
  cases o with
  | inst => exact ⟨_, z.1⟩
  | lst l => exact R.live (.inl ⟨_, e, rfl⟩)
  | dcs => exact R.live (.inl ⟨_, e, rfl⟩)
  | dct => exact R.live (.inl ⟨_, e, rfl⟩)
  | fro l => obtain ⟨vs, n, ho, _⟩ := z; exact ⟨_, R.base _ _ ho⟩
theorem Rel.none_of_free {X : Cx} {D σ s} (R : Rel X D σ s) {a : Addr} (e : s.heap.get? a = none) : σ a = none := by
  cases q : σ a with
  | none => rfl
  | some o => obtain ⟨ob, h⟩ := R.obj q; rw [e] at h; cases h
theorem Rel.baseFree {X : Cx} {D σ s} (R : Rel X D σ s) {a : Addr} (e : s.heap.get? a = none) : X.base.get? a = none := by
  cases q : X.base.get? a with
  | none => rfl
  | some o => rw [R.base _ _ q] at e; cases e
theorem Tr.tk {X : Cx} {D σ s D' σ' s'} (R : Rel X D σ s) (T : Tr D σ s D' σ' s') : TK s.heap s'.heap := by
  intro a o ho hc _
  refine T.keep a o ho fun w => ?_
  obtain ⟨o', h1, h2, _⟩ := R.notTuple w
  rw [ho] at h1; cases h1; exact h2 hc

theorem KR.mono {h h' : Heap} (k : TK h h') {xs kvs} (r : KR h xs kvs) : KR h' xs kvs := by
  induction r with
  | nil => exact .nil
  | cons a _ ih => exact .cons (a.mono k) ih
theorem KR.length {h : Heap} {xs kvs} (r : KR h xs kvs) : xs.length = kvs.length := by
  induction r with
  | nil => rfl
  | cons _ _ ih => exact congrArg Nat.succ ih
theorem DR.mono {h h' : Heap} (k : TK h h') {xs kvs} (r : DR h xs kvs) : DR h' xs kvs := by
  induction r with
  | nil => exact .nil
  | cons a _ ih => exact .cons (a.mono k) ih
theorem DR.length {h : Heap} {xs kvs} (r : DR h xs kvs) : xs.length = kvs.length := by
  induction r with
  | nil => rfl
  | cons _ _ ih => exact congrArg Nat.succ ih


theorem tupKey_mono {X : Cx} {h h' : Heap} (k : TK h h') {ks : List Int} {a : Addr} (r : (tupK X).is h ks a) : (tupK X).is h' ks a := by
  obtain ⟨o, items, n, ho, hc, hd, hi⟩ := r
  exact ⟨o, items, n, k a o ho hc ⟨_, _, hd⟩, hc, hd, hi⟩

-- an object of the abstract heap stays where the concrete parts stay
theorem OR.keeps {X : Cx} {D D' : Addr → Addr} {h h' : Heap} {a : Addr} {o : AO} (r : OR X D h a o) (k : TK h h') (h1 : ∀ ob, h.get? a = some ob → h'.get? a = some ob)
    (h2 : ∀ C at_, o = .inst C at_ → D' a = D a ∧ ∀ ob, h.get? (D a) = some ob → h'.get? (D a) = some ob) : OR X D' h' a o := by
  cases o with
  | lst l => obtain ⟨vs, n, ho, q⟩ := r; exact ⟨vs, n, h1 _ ho, q.mono k⟩
  | inst C at_ =>
    obtain ⟨r1, es, n, r2, r3⟩ := r
    obtain ⟨hD, h2⟩ := h2 C at_ rfl
    exact ⟨by rw [hD]; exact h1 _ r1, es, n, by rw [hD]; exact h2 _ r2, r3.mono k⟩
  | dcs kvs => obtain ⟨f, ⟨ob, es, ep, ho, r⟩, q⟩ := r; exact ⟨f, ⟨ob, es, ep, h1 _ ho, r⟩, q.mono k⟩
  | dct kvs =>
    obtain ⟨xs, ⟨ob, es, ep, ho, hx, hd, he, hk, hn⟩, q⟩ := r
    exact ⟨xs, ⟨ob, es, ep, h1 _ ho, hx, hd, he, fun x hx => tupKey_mono k (hk x hx), hn⟩, q.mono k⟩
  | fro l => exact r

-- nothing owned is touched: a store into a frame
theorem Rel.ext {X : Cx} {D σ s s'} (R : Rel X D σ s) {c : Addr} (hc : ¬ Own D σ c) (hcb : X.base.get? c = none) (hct : ∃ o, s.heap.get? c = some o ∧ (∀ vs n, o.data ≠ .seq vs n) ∧ o.data ≠ .plain)
    (k : ∀ b o, b ≠ c → s.heap.get? b = some o → s'.heap.get? b = some o) (g : s'.gens = s.gens) (os : s'.os = s.os) : Rel X D σ s' ∧ TK s.heap s'.heap := by
  obtain ⟨oc, hoc, hs, hp⟩ := hct
  have tk : TK s.heap s'.heap := fun a o ho _ ⟨vs, n, r⟩ => k a o (fun e => by subst e; rw [hoc] at ho; cases ho; exact hs _ _ r) ho
  refine ⟨⟨fun b o e => k b o (fun q => ?_) (R.base b o e), fun a o e => ?_, R.ownb, R.inj, R.sep, g.trans R.gens, os.trans R.os⟩, tk⟩
  · subst q; rw [hcb] at e; cases e
  · refine (R.objs a o e).keeps tk (fun ob ho => k a ob (fun q => ?_) ho) fun C at_ q => ⟨rfl, fun ob ho => k _ ob (fun z => ?_) ho⟩
    · subst q
      cases o with
      | inst C at_ => have := (R.objs _ _ e).1; rw [hoc] at this; cases this; exact hp rfl
      | lst => exact hc (.inl ⟨_, e, rfl⟩)
      | dcs => exact hc (.inl ⟨_, e, rfl⟩)
      | dct => exact hc (.inl ⟨_, e, rfl⟩)
      | fro l => obtain ⟨vs, n, ho, _⟩ := R.objs _ _ e; cases hcb.symm.trans ho
    · subst q; exact hc (.inr ⟨a, C, at_, e, z⟩)
theorem Rel.all {X : Cx} {D σ s s'} (R : Rel X D σ s) (k : ∀ b o, s.heap.get? b = some o → s'.heap.get? b = some o) (g : s'.gens = s.gens) (os : s'.os = s.os) : Rel X D σ s' := by
  have tk : TK s.heap s'.heap := fun a o ho _ _ => k a o ho
  refine ⟨fun b o e => k b o (R.base b o e), fun a o e => (R.objs a o e).keeps tk (fun ob ho => k a ob ho) fun C at_ q => ⟨rfl, fun ob ho => k _ ob ho⟩, R.ownb, R.inj, R.sep, g.trans R.gens, os.trans R.os⟩
theorem Tr.all {D σ s s'} (k : ∀ b o, s.heap.get? b = some o → s'.heap.get? b = some o) : Tr D σ s D σ s' := ⟨fun b o e _ => k b o e, fun _ h => .inl h⟩

theorem own_upd {D : Addr → Addr} {σ : ASt} {a : Addr} {o : AO} (ho : o.own = true) {b : Addr} (w : Own D (upd σ a o) b) : b = a ∨ Own D σ b := by
  rcases w with ⟨o', e, hw⟩ | ⟨a', C, at_, e, z⟩
  · by_cases q : b = a
    · exact .inl q
    · rw [upd_ne q] at e; exact .inr (.inl ⟨o', e, hw⟩)
  · by_cases q : a' = a
    · subst q; rw [upd_self] at e; cases e; cases ho
    · rw [upd_ne q] at e; exact .inr (.inr ⟨a', C, at_, e, z⟩)

-- a new list or dict, tracked
theorem Rel.new {X : Cx} {D σ s s'} (R : Rel X D σ s) {a : Addr} {o : AO} (ho : o.own = true) (hf : s.heap.get? a = none) (k : ∀ b o, s.heap.get? b = some o → s'.heap.get? b = some o)
    (r : OR X D s'.heap a o) (g : s'.gens = s.gens) (os : s'.os = s.os) : Rel X D (upd σ a o) s' ∧ Tr D σ s D (upd σ a o) s' := by
  have R' := R.all k g os
  have hn := R.none_of_free hf
  refine ⟨⟨R'.base, fun b o' e => ?_, fun b w => ?_, fun x y C C' at_ at' e1 e2 e3 => ?_, fun x C at_ e => ?_, R'.gens, R'.os⟩, ⟨fun b o e _ => k b o e, fun b w => ?_⟩⟩
  · by_cases q : b = a
    · subst q; rw [upd_self] at e; cases e; exact r
    · rw [upd_ne q] at e; exact R'.objs b o' e
  · rcases own_upd ho w with rfl | w
    · exact R.baseFree hf
    · exact R.ownb b w
  · by_cases q : x = a
    · subst q; rw [upd_self] at e1; cases e1; cases ho
    · by_cases q' : y = a
      · subst q'; rw [upd_self] at e2; cases e2; cases ho
      · rw [upd_ne q] at e1; rw [upd_ne q'] at e2; exact R.inj x y C C' at_ at' e1 e2 e3
  · by_cases q : x = a
    · subst q; rw [upd_self] at e; cases e; cases ho
    · rw [upd_ne q] at e
      have : D x ≠ a := fun z => by
        obtain ⟨ob, hb⟩ := R.live (.inr ⟨x, C, at_, e, rfl⟩)
        rw [z, hf] at hb; cases hb
      rw [upd_ne this]; exact R.sep x C at_ e
  · rcases own_upd ho w with rfl | w
    · exact .inr hf
    · exact .inl w

-- a tracked list or dict is changed in place
theorem Rel.put {X : Cx} {D σ s s'} (R : Rel X D σ s) {a : Addr} {o o' : AO} (e0 : σ a = some o) (ho : o.own = true) (ho' : o'.own = true) (k : ∀ b o, b ≠ a → s.heap.get? b = some o → s'.heap.get? b = some o)
    (r : TK s.heap s'.heap → OR X D s'.heap a o') (g : s'.gens = s.gens) (os : s'.os = s.os) : Rel X D (upd σ a o') s' ∧ Tr D σ s D (upd σ a o') s' := by
  have wa : Own D σ a := .inl ⟨o, e0, ho⟩
  have tk : TK s.heap s'.heap := fun b ob hb hcl _ => k b ob (fun z => by
    subst z
    obtain ⟨o1, h1, h2, _⟩ := R.notTuple wa
    rw [hb] at h1; cases h1; exact h2 hcl) hb
  have w' : ∀ b, Own D (upd σ a o') b → Own D σ b := fun b w => by
    rcases own_upd ho' w with rfl | w
    · exact wa
    · exact w
  refine ⟨⟨fun b ob e => k b ob (fun z => ?_) (R.base b ob e), fun b ob e => ?_, fun b w => R.ownb b (w' b w), fun x y C C' at_ at' e1 e2 e3 => ?_, fun x C at_ e => ?_, g.trans R.gens, os.trans R.os⟩,
    ⟨fun b ob e n => k b ob (fun z => n (z ▸ wa)) e, fun b w => .inl (w' b w)⟩⟩
  · subst z; rw [R.ownb _ wa] at e; cases e
  · by_cases q : b = a
    · subst q; rw [upd_self] at e; cases e; exact r tk
    · rw [upd_ne q] at e
      refine (R.objs b ob e).keeps tk (fun x hx => k b x q hx) fun C at_ z => ⟨rfl, fun x hx => k _ x (fun z' => ?_) hx⟩
      subst z
      have := R.sep b C at_ e
      rw [z', e0] at this; cases this
  · by_cases q : x = a
    · subst q; rw [upd_self] at e1; cases e1; cases ho'
    · by_cases q' : y = a
      · subst q'; rw [upd_self] at e2; cases e2; cases ho'
      · rw [upd_ne q] at e1; rw [upd_ne q'] at e2; exact R.inj x y C C' at_ at' e1 e2 e3
  · by_cases q : x = a
    · subst q; rw [upd_self] at e; cases e; cases ho'
    · rw [upd_ne q] at e
      have hs := R.sep x C at_ e
      have : D x ≠ a := fun z => by rw [z, e0] at hs; cases hs
      rw [upd_ne this]; exact hs

-- an attribute is stored
theorem Rel.attr {X : Cx} {D σ s s'} (R : Rel X D σ s) {a C : Addr} {at_ at' : List (Nat × AV)} (e0 : σ a = some (.inst C at_)) (k : ∀ b o, b ≠ D a → s.heap.get? b = some o → s'.heap.get? b = some o)
    (r : TK s.heap s'.heap → ∃ es n, s'.heap.get? (D a) = some (dictOf es n) ∧ ER s'.heap es at') (g : s'.gens = s.gens) (os : s'.os = s.os) : Rel X D (upd σ a (.inst C at')) s' ∧ Tr D σ s D (upd σ a (.inst C at')) s' := by
  have wa : Own D σ (D a) := .inr ⟨a, C, at_, e0, rfl⟩
  have tk : TK s.heap s'.heap := fun b ob hb hcl _ => k b ob (fun z => by
    subst z
    obtain ⟨o1, h1, h2, _⟩ := R.notTuple wa
    rw [hb] at h1; cases h1; exact h2 hcl) hb
  have hsep := R.sep a C at_ e0
  have w' : ∀ b, Own D (upd σ a (.inst C at')) b → Own D σ b := fun b w => by
    rcases w with ⟨o', e, hw⟩ | ⟨x, C', at2, e, z⟩
    · by_cases q : b = a
      · subst q; rw [upd_self] at e; cases e; cases hw
      · rw [upd_ne q] at e; exact .inl ⟨o', e, hw⟩
    · by_cases q : x = a
      · subst q; exact z ▸ wa
      · rw [upd_ne q] at e; exact .inr ⟨x, C', at2, e, z⟩
  have i' : ∀ x C1 at1, upd σ a (.inst C at') x = some (.inst C1 at1) → ∃ at2, σ x = some (.inst C1 at2) := fun x C1 at1 e => by
    by_cases q : x = a
    · subst q; rw [upd_self] at e; cases e; exact ⟨_, e0⟩
    · rw [upd_ne q] at e; exact ⟨_, e⟩
  refine ⟨⟨fun b ob e => k b ob (fun z => ?_) (R.base b ob e), fun b ob e => ?_, fun b w => R.ownb b (w' b w), fun x y C1 C2 at1 at2 e1 e2 e3 => ?_, fun x C1 at1 e => ?_, g.trans R.gens, os.trans R.os⟩,
    ⟨fun b ob e n => k b ob (fun z => n (z ▸ wa)) e, fun b w => .inl (w' b w)⟩⟩
  · subst z; rw [R.ownb _ wa] at e; cases e
  · by_cases q : b = a
    · subst q; rw [upd_self] at e; cases e
      obtain ⟨r1, _⟩ := R.objs _ _ e0
      exact ⟨k _ _ (fun z => by rw [← z, e0] at hsep; cases hsep) r1, r tk⟩
    · rw [upd_ne q] at e
      refine (R.objs b ob e).keeps tk (fun x hx => k b x (fun z => ?_) hx) fun C1 at1 z => ⟨rfl, fun x hx => k _ x (fun z' => ?_) hx⟩
      · subst z; rw [hsep] at e; cases e
      · subst z; exact q (R.inj b a C1 C at1 at_ e e0 z')
  · obtain ⟨_, q1⟩ := i' x C1 at1 e1
    obtain ⟨_, q2⟩ := i' y C2 at2 e2
    exact R.inj x y _ _ _ _ q1 q2 e3
  · obtain ⟨_, q1⟩ := i' x C1 at1 e
    have hs := R.sep x C1 _ q1
    have : D x ≠ a := fun z => by rw [z, e0] at hs; cases hs
    rw [upd_ne this]; exact hs

-- a new object
theorem Rel.inst {X : Cx} {D σ s s'} (R : Rel X D σ s) {x dx C : Addr} (hx : s.heap.get? x = none) (hd : s.heap.get? dx = none) (hne : x ≠ dx) (k : ∀ b o, s.heap.get? b = some o → s'.heap.get? b = some o)
    (r1 : s'.heap.get? x = some (instObj C dx)) (r2 : s'.heap.get? dx = some (dictOf [] 0)) (g : s'.gens = s.gens) (os : s'.os = s.os) :
    Rel X (fun b => if b = x then dx else D b) (upd σ x (.inst C [])) s' ∧ Tr D σ s (fun b => if b = x then dx else D b) (upd σ x (.inst C [])) s' := by
  have R' := R.all k g os
  have hnx := R.none_of_free hx
  have hnd := R.none_of_free hd
  have i' : ∀ y C1 at1, upd σ x (.inst C []) y = some (.inst C1 at1) → y = x ∨ (y ≠ x ∧ σ y = some (.inst C1 at1)) := fun y C1 at1 e => by
    by_cases q : y = x
    · exact .inl q
    · rw [upd_ne q] at e; exact .inr ⟨q, e⟩
  have nd : ∀ y C1 at1, σ y = some (.inst C1 at1) → D y ≠ dx ∧ D y ≠ x := fun y C1 at1 e => by
    obtain ⟨ob, hb⟩ := R.live (.inr ⟨y, C1, at1, e, rfl⟩)
    exact ⟨fun z => by rw [z, hd] at hb; (cases hb), fun z => by rw [z, hx] at hb; cases hb⟩
  have w' : ∀ b, Own (fun b => if b = x then dx else D b) (upd σ x (.inst C [])) b → b = dx ∨ Own D σ b := fun b w => by
    rcases w with ⟨o', e, hw⟩ | ⟨y, C', at2, e, z⟩
    · by_cases q : b = x
      · subst q; rw [upd_self] at e; cases e; cases hw
      · rw [upd_ne q] at e; exact .inr (.inl ⟨o', e, hw⟩)
    · dsimp only at z
      rcases i' y C' at2 e with rfl | ⟨q, e⟩
      · rw [if_pos rfl] at z; exact .inl z.symm
      · rw [if_neg q] at z; exact .inr (.inr ⟨y, C', at2, e, z⟩)
  refine ⟨⟨R'.base, fun b ob e => ?_, fun b w => ?_, fun y z C1 C2 at1 at2 e1 e2 e3 => ?_, fun y C1 at1 e => ?_, R'.gens, R'.os⟩, ⟨fun b ob e _ => k b ob e, fun b w => ?_⟩⟩
  · by_cases q : b = x
    · subst q; rw [upd_self] at e; cases e
      exact ⟨by dsimp only; rw [if_pos rfl]; exact r1, [], 0, by dsimp only; rw [if_pos rfl]; exact r2, .nil⟩
    · rw [upd_ne q] at e
      refine (R.objs b ob e).keeps (fun a o ho _ _ => k a o ho) (fun o ho => k b o ho) fun C1 at1 z => ⟨by first | rw [if_neg q] | (dsimp only; rw [if_neg q]), fun o ho => k _ o ho⟩
  · rcases w' b w with rfl | w
    · exact R.baseFree hd
    · exact R.ownb b w
  · try dsimp only at e3
    rcases i' y C1 at1 e1 with q1 | ⟨q1, e1⟩ <;> rcases i' z C2 at2 e2 with q2 | ⟨q2, e2⟩
    · rw [q1, q2]
    · rw [if_pos q1, if_neg q2] at e3; exact absurd e3.symm (nd z C2 at2 e2).1
    · rw [if_neg q1, if_pos q2] at e3; exact absurd e3 (nd y C1 at1 e1).1
    · rw [if_neg q1, if_neg q2] at e3; exact R.inj y z _ _ _ _ e1 e2 e3
  · try dsimp only
    rcases i' y C1 at1 e with q | ⟨q, e⟩
    · rw [if_pos q, upd_ne (Ne.symm hne)]; exact hnd
    · rw [if_neg q, upd_ne (nd y C1 at1 e).2]; exact R.sep y C1 at1 e
  · rcases w' b w with rfl | w
    · exact .inr hd
    · exact .inl w

end Np

namespace Np

noncomputable abbrev LE := List (Option AV)
noncomputable def no : Value → Shared → Prop := fun _ _ => False

inductive PostR {α β : Type} (R : Heap → α → β → Prop) (X : Cx) (D : Addr → Addr) (σ : ASt) (s : Shared) (Q : β → ASt → Prop) (v : α) (s' : Shared) : Prop
  | mk (x : β) (D' : Addr → Addr) (σ' : ASt) (r : R s'.heap v x) (R' : Rel X D' σ' s') (T : Tr D σ s D' σ' s') (q : Q x σ') : PostR R X D σ s Q v s'
noncomputable def EVg {α β : Type} (R : Heap → α → β → Prop) (X : Cx) (A : Around) (t : Sem α) (D : Addr → Addr) (σ : ASt) (s : Shared) (Q : β → ASt → Prop) : Prop :=
  wpAny (model pg X.w) A t (PostR R X D σ s Q) no s
noncomputable abbrev EV := @EVg Value AV VR
noncomputable abbrev EL := @EVg (List Value) (List AV) VRs
noncomputable abbrev BR : Heap → Bool → Bool → Prop := fun _ a b => a = b
noncomputable abbrev UR : Heap → Unit → Unit → Prop := fun _ _ _ => True
noncomputable abbrev EB := @EVg Bool Bool BR
noncomputable abbrev EU := @EVg Unit Unit UR

theorem PostR.tr {α β : Type} {R : Heap → α → β → Prop} {X D₀ σ₀ s₀ D σ s} {Q : β → ASt → Prop} (T : Tr D₀ σ₀ s₀ D σ s) {v : α} {s' : Shared} (p : PostR R X D σ s Q v s') : PostR R X D₀ σ₀ s₀ Q v s' := by
  obtain ⟨x, D', σ', h1, h2, h3, h4⟩ := p
  exact ⟨x, D', σ', h1, h2, T.trans h3, h4⟩
theorem EVg.tr {α β : Type} {R : Heap → α → β → Prop} {X A D₀ σ₀ s₀ D σ s} {t : Sem α} {Q : β → ASt → Prop} (T : Tr D₀ σ₀ s₀ D σ s) (h : EVg R X A t D σ s Q) : wpAny (model pg X.w) A t (PostR R X D₀ σ₀ s₀ Q) no s :=
  wpAny_mono h (fun _ _ p => p.tr T) fun _ _ e => e
-- as above, the rest in any shape
theorem EVg.then {α β γ : Type} {R : Heap → α → β → Prop} {X A D σ s} {t : Sem α} {Q : β → ASt → Prop} {P : α → Shared → Prop} (h : EVg R X A t D σ s Q)
    (k : ∀ v x D' σ' s', R s'.heap v x → Rel X D' σ' s' → Tr D σ s D' σ' s' → Q x σ' → P v s') : wpAny (model pg X.w) A t P no s :=
  let _ := γ
  wpAny_mono h (fun v s' ⟨x, D', σ', h1, h2, h3, h4⟩ => k v x D' σ' s' h1 h2 h3 h4) fun _ _ e => e
theorem PostR.here {α β : Type} {R : Heap → α → β → Prop} {X D σ s} {Q : β → ASt → Prop} {v : α} {x : β} {s' : Shared} (r : R s'.heap v x) (R' : Rel X D σ s) (k : ∀ b o, s.heap.get? b = some o → s'.heap.get? b = some o)
    (g : s'.gens = s.gens) (os : s'.os = s.os) (q : Q x σ) : PostR R X D σ s Q v s' := ⟨x, D, σ, r, R'.all k g os, Tr.all k, q⟩
-- nothing but tokens
theorem PostR.tok {α β : Type} {R : Heap → α → β → Prop} {X D σ s} {Q : β → ASt → Prop} {v : α} {x : β} {tk : Nat} (r : R s.heap v x) (R' : Rel X D σ s) (q : Q x σ) : PostR R X D σ s Q v { s with toks := tk } :=
  PostR.here (s' := { s with toks := tk }) r R' (fun _ _ e => e) rfl rfl q

-- the frame
structure EnvS (env : Env) : Prop where
  kind : env.scope.kind = .function
  glob : env.globals = mainGlobals
  blt : env.builtins = builtinsNs
  nod : ∀ (i : Nat) x k, env.scope.names[i]? = some (x, k) → env.scope.names.lookup x = some k ∧ ∀ j k', env.scope.names[j]? = some (x, k') → j = i
  apart : ∀ x y c, env.cells.lookup x = some c → env.cells.lookup y = some c → x = y
  ncell : ∀ x c, env.cells.lookup x = some c → c ≠ env.locals

structure EnvR (X : Cx) (env : Env) (ρ : LE) (D : Addr → Addr) (σ : ASt) (h : Heap) : Prop where
  loc : ∃ m, h.Ns env.locals m ∧ ∀ (i : Nat) x, env.scope.names[i]? = some (x, .local) → ∀ a, ρ[i]? = some (some a) → ∃ v, m x = some v ∧ VR h v a
  cel : ∀ (i : Nat) x k, env.scope.names[i]? = some (x, k) → (k = .cell ∨ k = .free) → ∃ c v, env.cells.lookup x = some c ∧ h.IsCell c v ∧ ¬ Own D σ c ∧ X.base.get? c = none ∧ ∀ a, ρ[i]? = some (some a) → ∃ u, v = some u ∧ VR h u a
  nown : ¬ Own D σ env.locals
  above : X.base.objs.size ≤ env.locals
  len : ρ.length = env.scope.names.length

theorem EnvR.live {X env ρ D σ h} (e : EnvR X env ρ D σ h) : ∃ o, h.get? env.locals = some o := by
  obtain ⟨⟨m, ⟨o, _, _, ho, _⟩, _⟩, _⟩ := e
  exact ⟨o, ho⟩
theorem EnvR.baseFree {X env ρ D σ h} (e : EnvR X env ρ D σ h) : X.base.get? env.locals = none := by
  cases q : X.base.get? env.locals with
  | none => rfl
  | some o => exact absurd (Heap.lt_size q) (Nat.not_lt.mpr e.above)

-- the frame stands where its objects stand
theorem EnvR.keeps {X env ρ D σ h D' σ' h'} (e : EnvR X env ρ D σ h) (tk : TK h h') (k : ∀ b o, h.get? b = some o → ¬ Own D σ b → h'.get? b = some o) (w : ∀ b, Own D' σ' b → Own D σ b ∨ h.get? b = none) : EnvR X env ρ D' σ' h' := by
  have nown' : ∀ b o, h.get? b = some o → ¬ Own D σ b → ¬ Own D' σ' b := fun b o ho n q => by
    rcases w b q with q | q
    · exact n q
    · rw [ho] at q; cases q
  obtain ⟨⟨m, hn, hl⟩, hc, hw, ha, hlen⟩ := e
  obtain ⟨oL, hoL⟩ := (show ∃ o, h.get? env.locals = some o from let ⟨o, _, _, ho, _⟩ := hn; ⟨o, ho⟩)
  refine ⟨⟨m, hn.at' fun o e => k _ o e hw, fun i x hx a ha => ?_⟩, fun i x kd hx hk => ?_, nown' _ _ hoL hw, ha, hlen⟩
  · obtain ⟨v, h1, h2⟩ := hl i x hx a ha
    exact ⟨v, h1, h2.mono tk⟩
  · obtain ⟨c, v, h1, ⟨o, ho, hd⟩, h3, h4, h5⟩ := hc i x kd hx hk
    refine ⟨c, v, h1, ⟨o, k _ _ ho h3, hd⟩, nown' _ _ ho h3, h4, fun a ha => ?_⟩
    obtain ⟨u, q1, q2⟩ := h5 a ha
    exact ⟨u, q1, q2.mono tk⟩
theorem EnvR.tr {X env ρ D σ D' σ'} {s s' : Shared} (e : EnvR X env ρ D σ s.heap) (R : Rel X D σ s) (T : Tr D σ s D' σ' s') : EnvR X env ρ D' σ' s'.heap :=
  e.keeps (T.tk R) T.keep T.fresh

noncomputable def FrAddr (env : Env) (b : Addr) : Prop := b = env.locals ∨ ∃ x, env.cells.lookup x = some b


theorem kindOf_at {env : Env} (S : EnvS env) {i : Nat} {x : Str} {k : NameKind} (hx : env.scope.names[i]? = some (x, k)) : env.kindOf x = some k := (S.nod i x k hx).1

theorem ev_load {X A env ρ D σ s} (S : EnvS env) (e : EnvR X env ρ D σ s.heap) (R : Rel X D σ s) {i : Nat} {x : Str} {k : NameKind} (hx : env.scope.names[i]? = some (x, k)) (hk : k = .local ∨ k = .cell ∨ k = .free) (hnd : (x == ("__debug__" : Str)) = false ∧ (x == ("__classdict__" : Str)) = false)
    {a : AV} (ha : ρ[i]? = some (some a)) {Q : AV → ASt → Prop} (q : Q a σ) {pos : Pos} : EV X A (eval (.Name x pos) env) D σ s Q := by
  refine wpAny_Name ?_ hnd.1
  have fin : ∀ v, VR s.heap v a → PostR VR X D σ s Q v s := fun v hv => PostR.here hv R (fun _ _ e => e) rfl rfl q
  rcases hk with rfl | hk
  · obtain ⟨⟨m, hn, hl⟩, _⟩ := e
    obtain ⟨v, h1, h2⟩ := hl i x hx a ha
    exact wpAny_loadName_local S.kind (kindOf_at S hx) hn h1 (fin v h2)
  · obtain ⟨c, v, h1, h2, _, _, h5⟩ := e.cel i x k hx hk
    obtain ⟨u, rfl, h6⟩ := h5 a ha
    rcases hk with rfl | rfl
    · exact wpAny_loadName_cell S.kind (kindOf_at S hx) h1 h2 (fin u h6)
    · exact wpAny_loadName_free S.kind (kindOf_at S hx) h1 h2 (fin u h6) hnd.2




-- what is asked of the run around
structure Room (A : Around) (k : Nat) : Prop where
  hd : A.handled = none
  depth : A.depth + 5 * k + 10 < recursionLimit
  units : A.units + 60 * k + 200 < cLine
theorem Room.le {A : Around} {j k : Nat} (r : Room A k) (h : j ≤ k) : Room A j := ⟨r.hd, by have := r.depth; lia, by have := r.units; lia⟩
theorem Room.deeper {A : Around} {k : Nat} {env : Env} (r : Room A (k + 1)) : Room (A.deeper env) k := ⟨r.hd, by have := r.depth; show A.depth + 1 + 5 * k + 10 < _; lia, by have := r.units; show A.units + 3 + 60 * k + 200 < _; lia⟩

end Np

namespace Np

noncomputable abbrev Post := AV → ASt → Prop

theorem VR.int_inv {h v i} (r : VR h v (.int i)) : ∃ t, v = .int i t := by cases r; exact ⟨_, rfl⟩
theorem VR.str_inv {h v x} (r : VR h v (.str x)) : ∃ t, v = .str x t := by cases r; exact ⟨_, rfl⟩
theorem VR.bool_inv {h v b} (r : VR h v (.bool b)) : v = .bool b := by cases r; rfl
theorem VR.non_inv {h v} (r : VR h v .non) : v = .none := by cases r; rfl
theorem VR.ref_inv {h v a} (r : VR h v (.ref a)) : v = .ref a := by cases r; rfl
inductive TupI (h : Heap) (l : List AV) (v : Value) : Prop
  | mk (a : Addr) (vs : List Value) (n : Nat) (e : v = .ref a) (ht : IsT h a (List.toArray vs) n) (p : VRs h vs l) : TupI h l v
inductive LstI (h : Heap) (a : Addr) (l : List AV) : Prop
  | mk (vs : List Value) (n : Nat) (h1 : IsL h a vs.toArray n) (p : VRs h vs l) : LstI h a l
theorem VR.tup_inv {h v l} (r : VR h v (.tup l)) : TupI h l v := by cases r; exact ⟨_, _, _, rfl, by assumption, by assumption⟩
theorem OR.lst_inv {X D h a l} (r : OR X D h a (.lst l)) : LstI h a l := let ⟨a, b, c, d⟩ := r; ⟨a, b, c, d⟩

theorem push_keep {h : Heap} (o : Obj) : ∀ b p, h.get? b = some p → (h.push o).get? b = some p := fun _ _ e => Heap.get?_push_of_some o e
theorem size_free (h : Heap) : h.get? h.objs.size = none := by
  cases e : h.get? h.objs.size with
  | none => rfl
  | some o => exact absurd (Heap.lt_size e) (Nat.lt_irrefl _)

-- a new tuple, by what comes out
theorem PostR.newTup {X D σ s} {Q : Post} {vs : List Value} {l : List AV} {h' : Heap} {tk : Nat} {a : Addr} {n : Nat} (R : Rel X D σ s) (k : ∀ b o, s.heap.get? b = some o → h'.get? b = some o) (ht : IsT h' a vs.toArray n) (r : VRs s.heap vs l)
    (q : Q (.tup l) σ) : PostR VR X D σ s Q (.ref a) { s with heap := h', toks := tk } :=
  PostR.here (.tup ht (r.mono fun a o e _ _ => k a o e)) R k rfl rfl q
noncomputable def newO (σ : ASt) (o : AO) (Q : Post) : Prop := ∀ a, σ a = none → Q (.ref a) (upd σ a o)
-- a new list
theorem PostR.newLst {X D σ s} {Q : Post} {vs : List Value} {l : List AV} {h' : Heap} {tk : Nat} {a : Addr} (R : Rel X D σ s) (k : ∀ b o, s.heap.get? b = some o → h'.get? b = some o) (hf : s.heap.get? a = none) {n : Nat} (ht : IsL h' a vs.toArray n) (r : VRs s.heap vs l)
    (q : newO σ (.lst l) Q) : PostR VR X D σ s Q (.ref a) { s with heap := h', toks := tk } := by
  obtain ⟨R', T⟩ := R.new (s' := { s with heap := h', toks := tk }) (o := .lst l) rfl hf k ⟨vs, n, ht, r.mono fun a o e _ _ => k a o e⟩ rfl rfl
  exact ⟨.ref a, D, _, .ref, R', T, q a (R.none_of_free hf)⟩
theorem isList_push (h : Heap) (vs : List Value) (n : Nat) : IsL (h.push { cls := .type "list", data := .seq vs.toArray n }) h.objs.size vs.toArray n := Heap.get?_push_size _ rfl
theorem isT_push (h : Heap) (vs : List Value) : IsT (h.push { cls := .type "tuple", data := .seq vs.toArray }) h.objs.size vs.toArray 0 := Heap.get?_push_size _ rfl

theorem itef {p : Prop} [Decidable p] {A : Prop} (h : if p then A else False) : p ∧ A := by
  by_cases hp : p
  · exact ⟨hp, by rw [if_pos hp] at h; exact h⟩
  · rw [if_neg hp] at h; exact h.elim
theorem iteo {p : Prop} [Decidable p] {A B : Prop} (h : if p then A else B) : p ∧ A ∨ B := by
  by_cases hp : p
  · exact .inl ⟨hp, by rw [if_pos hp] at h; exact h⟩
  · rw [if_neg hp] at h; exact .inr h
noncomputable def vbin (o : Operator) (x y : AV) (σ : ASt) (Q : Post) : Prop :=
  match x with
  | .int a => (match y with
    | .int b => if o = .Add then Q (.int (a + b)) σ else if o = .Sub then Q (.int (a - b)) σ else if o = .Mult then IntMulOk a b ∧ Q (.int (a * b)) σ else if o = .Mod then b ≠ 0 ∧ Q (.int (a.fmod b)) σ else False
    | _ => False)
  | .str a => (match y with
    | .str b => if o = .Add then a.length + b.length ≤ sizeLine ∧ Q (.str (a ++ b)) σ else False
    | .int n => if o = .Mult then MulOk a n ∧ Q (.str (Txt.mul a n)) σ else False
    | _ => False)
  | .tup a => (match y with
    | .tup b => if o = .Add then a.length + b.length ≤ sizeLine ∧ Q (.tup (a ++ b)) σ else False
    | _ => False)
  | .ref a => (match y with
    | .ref b => if o = .Add then ∃ l m, σ a = some (.lst l) ∧ σ b = some (.lst m) ∧ l.length + m.length ≤ sizeLine ∧ newO σ (.lst (l ++ m)) Q else False
    | .int n => if o = .Mult then ∃ l, σ a = some (.lst l) ∧ (-(2 ^ 63 : Int) ≤ n ∧ n < 2 ^ 63 ∧ l.length * n.toNat ≤ 256) ∧ newO σ (.lst (List.replicate n.toNat l).flatten) Q else False
    | _ => False)
  | _ => False

theorem add_lists' {X A D σ s} {a b : Addr} {l m : List AV} {Q : Post} (R : Rel X D σ s) (e1 : σ a = some (.lst l)) (e2 : σ b = some (.lst m)) (hsz : l.length + m.length ≤ sizeLine) (q : newO σ (.lst (l ++ m)) Q) :
    EV X A (binaryOp .Add (.ref a) (.ref b)) D σ s Q := by
  obtain ⟨vs, n, ho, r1⟩ := OR.lst_inv (R.objs _ _ e1)
  obtain ⟨ws, n2, ho2, r2⟩ := OR.lst_inv (R.objs _ _ e2)
  have e : vs.toArray ++ ws.toArray = (vs ++ ws).toArray := by simp
  refine concat_meets ⟨_, ho, rfl⟩ ⟨_, ho2, rfl⟩ noFill_list_add seq_list_add PySem.F.slot_list_add PySem.F.entry_list_add (PySem.F.args_list_add_2 _ _) (list_addW a b vs.toArray ws.toArray n n2 none none #[] #[] (by simp [r1.length, r2.length]; exact hsz)) ⟨ho, ho2, ?_⟩
  rw [e]
  exact PostR.newLst (h' := s.heap.push { cls := .type "list", data := .seq (vs ++ ws).toArray }) R (push_keep _) (size_free _) (isList_push _ _ _) (r1.app r2) q

theorem mul_list' {X A D σ s} {a : Addr} {l : List AV} {n : Int} {u : Tok} {Q : Post} (R : Rel X D σ s) (e1 : σ a = some (.lst l)) (hsz : -(2 ^ 63 : Int) ≤ n ∧ n < 2 ^ 63 ∧ l.length * n.toNat ≤ 256) (q : newO σ (.lst (List.replicate n.toNat l).flatten) Q) :
    EV X A (binaryOp .Mult (.ref a) (.int n u)) D σ s Q := by
  obtain ⟨hlo, hhi, hsz⟩ := hsz
  obtain ⟨vs, k, ho, r1⟩ := OR.lst_inv (R.objs _ _ e1)
  have hz : vs.toArray.size = l.length := by simp [r1.length]
  have hsz' : vs.toArray.size * n.toNat ≤ 256 := by rw [hz]; exact hsz
  refine wpAny_binaryOp_repeat_ref (T := "list") (U := "int") (by decide) ⟨_, ho, rfl⟩ (fun s' => typeIs_int s' n u) noFill_list_mul F.fills_int_mul F.slot_int_rmul repeat_list F.slot_int_index.lookup
    (call_meets F.slot_int_rmul (typeIs_int s n u) F.entry_int_rmul (F.args_int_rmul_2 _ _) (lm_int_rmul_list_any n u a vs.toArray k none #[])
      ⟨ho, rfl, ⟨_, ho, rfl⟩, call_meets F.slot_list_mul ⟨_, ho, rfl⟩ F.entry_list_mul (F.args_list_mul_2 _ _)
        (lm_list_mul_any a vs.toArray k none #[] n u (by simp [Builtin.List.listFitsIndex]; lia) (by lia) (by generalize vs.toArray.size * n.toNat = z at hsz' ⊢; simp [Builtin.List.listTooLong, sizeLine]; lia))
        ⟨ho, ?_⟩⟩)
  rw [listMul_foldl_if]
  exact PostR.newLst (h' := s.heap.push _) R (push_keep _) (size_free _) (isList_push _ _ _) (r1.rep _) q

theorem add_tups' {X A D σ s} {v w : Value} {l m : List AV} {Q : Post} (R : Rel X D σ s) (r1 : VR s.heap v (.tup l)) (r2 : VR s.heap w (.tup m)) (hsz : l.length + m.length ≤ sizeLine) (q : Q (.tup (l ++ m)) σ) :
    EV X A (binaryOp .Add v w) D σ s Q := by
  obtain ⟨a, vs, n, rfl, ho, p1⟩ := r1.tup_inv; obtain ⟨b, ws, k, rfl, ho2, p2⟩ := r2.tup_inv
  have e : vs.toArray ++ ws.toArray = (vs ++ ws).toArray := by simp
  by_cases hv : vs = []
  · subst hv
    cases p1
    exact concat_meets ⟨_, ho, rfl⟩ ⟨_, ho2, rfl⟩ noFill_tuple_add seq_tuple_add PySem.F.slot_tuple_add PySem.F.entry_tuple_add (PySem.F.args_tuple_add_2 _ _)
      (tuple_addW0 a b [].toArray ws.toArray n k none none #[] #[] (by simp)) ⟨ho, ho2, PostR.here r2 R (fun _ _ e => e) rfl rfl (by simpa using q)⟩
  · by_cases hw : ws = []
    · subst hw
      cases p2
      exact concat_meets ⟨_, ho, rfl⟩ ⟨_, ho2, rfl⟩ noFill_tuple_add seq_tuple_add PySem.F.slot_tuple_add PySem.F.entry_tuple_add (PySem.F.args_tuple_add_2 _ _)
        (tuple_addW1 a b vs.toArray [].toArray n k none none #[] #[] (by simpa using hv) (by simp)) ⟨ho, ho2, PostR.here r1 R (fun _ _ e => e) rfl rfl (by simpa using q)⟩
    · refine concat_meets ⟨_, ho, rfl⟩ ⟨_, ho2, rfl⟩ noFill_tuple_add seq_tuple_add PySem.F.slot_tuple_add PySem.F.entry_tuple_add (PySem.F.args_tuple_add_2 _ _)
        (tuple_addW2 a b vs.toArray ws.toArray n k none none #[] #[] (by simpa using hv) (by simpa using hw) (by rw [List.size_toArray, List.size_toArray, p1.length, p2.length]; exact hsz)) ⟨ho, ho2, ?_⟩
      rw [e]
      exact PostR.newTup (h' := s.heap.push _) R (push_keep _) (isT_push _ _) (p1.app p2) q

theorem ev_bin {X A D σ s} {o : Operator} {v w : Value} {x y : AV} {Q : Post} (R : Rel X D σ s) (r1 : VR s.heap v x) (r2 : VR s.heap w y) (q : vbin o x y σ Q) : EV X A (binaryOp o v w) D σ s Q := by
  induction x using AV.casesOn with
  | int a => induction y using AV.casesOn with
    | int b =>
      obtain ⟨_, rfl⟩ := r1.int_inv; obtain ⟨_, rfl⟩ := r2.int_inv
      rcases iteo q with ⟨rfl, q⟩ | q
      · exact add_int (PostR.tok .int R q)
      rcases iteo q with ⟨rfl, q⟩ | q
      · exact PyProof.Rows.sub_int (PostR.tok .int R q)
      rcases iteo q with ⟨rfl, q⟩ | q
      · exact P.mul_int (PostR.tok .int R q.2) q.1
      obtain ⟨rfl, q⟩ := itef q
      exact mod_int' q.1 (PostR.tok .int R q.2)
    | _ => exact False.elim q
  | str a => induction y using AV.casesOn with
    | str b =>
      obtain ⟨_, rfl⟩ := r1.str_inv; obtain ⟨_, rfl⟩ := r2.str_inv
      obtain ⟨rfl, q⟩ := itef q
      exact add_str (fun _ _ => PostR.tok .str R q.2) q.1
    | int n =>
      obtain ⟨_, rfl⟩ := r1.str_inv; obtain ⟨_, rfl⟩ := r2.int_inv
      obtain ⟨rfl, q⟩ := itef q
      exact SB.mul q.1 (fun _ _ => PostR.tok .str R q.2)
    | _ => exact False.elim q
  | tup a => induction y using AV.casesOn with
    | tup b =>
      obtain ⟨rfl, q⟩ := itef q
      exact add_tups' R r1 r2 q.1 q.2
    | _ => exact False.elim q
  | ref a => induction y using AV.casesOn with
    | ref b =>
      obtain rfl := r1.ref_inv; obtain rfl := r2.ref_inv
      obtain ⟨rfl, l, m, e1, e2, hsz, q⟩ := itef q
      exact add_lists' R e1 e2 hsz q
    | int n =>
      obtain rfl := r1.ref_inv; obtain ⟨_, rfl⟩ := r2.int_inv
      obtain ⟨rfl, l, e1, hsz, q⟩ := itef q
      exact mul_list' R e1 hsz q
    | _ => exact False.elim q
  | _ => exact False.elim q

-- comparing
mutual
inductive DA : AV → PyData → Prop
  | non : DA .non .none
  | bool {b} : DA (.bool b) (.bool b)
  | int {i} : DA (.int i) (.int i)
  | str {x} : DA (.str x) (.str x)
  | tup {l ds} : DAs l ds → DA (.tup l) (.tuple ds)
inductive DAs : List AV → List PyData → Prop
  | nil : DAs [] []
  | cons {x d xs ds} : DA x d → DAs xs ds → DAs (x :: xs) (d :: ds)
end
theorem DA.reads {h : Heap} {x : AV} {d : PyData} (q : DA x d) {v : Value} (r : VR h v x) : ∃ as, Reads h v d as := by
  refine DA.rec (motive_1 := fun x d _ => ∀ v, VR h v x → ∃ as, Reads h v d as) (motive_2 := fun xs ds _ => ∀ vs, VRs h vs xs → ∃ as, ReadsAll h vs ds as) ?_ ?_ ?_ ?_ ?_ ?_ ?_ q v r
  · intro _ r; obtain rfl := r.non_inv; exact ⟨_, .none⟩
  · intro _ _ r; obtain rfl := r.bool_inv; exact ⟨_, .bool _⟩
  · intro _ _ r; obtain ⟨_, rfl⟩ := r.int_inv; exact ⟨_, .int _ _⟩
  · intro _ _ r; obtain ⟨_, rfl⟩ := r.str_inv; exact ⟨_, .str _ _⟩
  · intro l ds _ ih v r
    obtain ⟨a, vs, n, rfl, ht, rs⟩ := r.tup_inv
    obtain ⟨as, q⟩ := ih vs rs
    exact ⟨as, .tuple ht rfl rfl q⟩
  · intro vs r; cases r; exact ⟨_, .nil⟩
  · intro x d xs ds _ _ ih1 ih2 vs r
    cases r with
    | cons r rs =>
      obtain ⟨as, q⟩ := ih1 _ r
      obtain ⟨bs, p⟩ := ih2 _ rs
      exact ⟨_, .cons q p⟩

noncomputable def dgt {K : Type} [DecidableEq K] (kvs : List (K × AV)) (k : K) : Option AV := (kvs.find? fun x => decide (x.1 = k)).map (·.2)
noncomputable def dpt {K : Type} [DecidableEq K] (kvs : List (K × AV)) (k : K) (v : AV) : List (K × AV) := if (dgt kvs k).isSome then kvs.map (fun x => if x.1 = k then (x.1, v) else x) else kvs ++ [(k, v)]

theorem KR.at {h : Heap} {k : Str} {xs kvs} (r : KR h xs kvs) : (dgt kvs k = none → valueAt xs k = none) ∧ ∀ x, dgt kvs k = some x → ∃ v, valueAt xs k = some v ∧ VR h v x := by
  induction r with
  | nil => exact ⟨fun _ => rfl, fun _ e => by cases e⟩
  | @cons j v y xs kvs r q ih =>
    unfold dgt valueAt at *
    simp only [List.find?_cons]
    by_cases e : j = k
    · simp only [decide_eq_true e]
      exact ⟨fun e => (by cases e), fun x e => by cases e; exact ⟨_, rfl, r⟩⟩
    · simp only [decide_eq_false e]; exact ih
theorem KR.isSome {h : Heap} {k : Str} {xs kvs} (r : KR h xs kvs) : (valueAt xs k).isSome = (dgt kvs k).isSome := by
  cases e : dgt kvs k with
  | none => rw [(r.at).1 e]; rfl
  | some x => obtain ⟨v, h1, _⟩ := (r.at).2 x e; rw [h1]; rfl
theorem DR.at {h : Heap} {k : List Int} {xs kvs} (r : DR h xs kvs) : (dgt kvs k = none → atKey xs k = none) ∧ ∀ x, dgt kvs k = some x → ∃ p, atKey xs k = some p ∧ VR h p.2 x := by
  induction r with
  | nil => exact ⟨fun _ => rfl, fun _ e => by cases e⟩
  | @cons j a v y xs kvs r q ih =>
    unfold dgt atKey at *
    simp only [List.find?_cons]
    by_cases e : j = k
    · simp only [decide_eq_true e]
      exact ⟨fun e => (by cases e), fun x e => by cases e; exact ⟨_, rfl, r⟩⟩
    · simp only [decide_eq_false e]; exact ih
theorem DR.isSome {h : Heap} {k : List Int} {xs kvs} (r : DR h xs kvs) : (atKey xs k).isSome = (dgt kvs k).isSome := by
  cases e : dgt kvs k with
  | none => rw [(r.at).1 e]; rfl
  | some x => obtain ⟨v, h1, _⟩ := (r.at).2 x e; rw [h1]; rfl
theorem any_valueAt {xs : List (Str × Value)} {k : Str} : xs.any (fun kv => decide (kv.1 = k)) = (valueAt xs k).isSome := by
  unfold valueAt
  induction xs with
  | nil => rfl
  | cons x r ih =>
    rw [List.any_cons, List.find?_cons, ih]
    by_cases e : x.1 = k
    · simp [e]
    · simp [e]
theorem KR.put {h : Heap} {k : Str} {v : Value} {x : AV} (hv : VR h v x) {xs kvs} (r : KR h xs kvs) : KR h (stored xs k v) (dpt kvs k x) := by
  unfold stored dpt
  rw [show xs.any (fun kv => decide (kv.1 = k)) = (dgt kvs k).isSome from any_valueAt.trans r.isSome]
  split
  · rename_i hz; clear hz
    induction r with
    | nil => exact .nil
    | cons r q ih =>
      rw [List.map_cons, List.map_cons]
      dsimp only
      split
      · exact .cons hv ih
      · exact .cons r ih
  · rename_i hz; clear hz
    induction r with
    | nil => exact .cons hv .nil
    | cons r q ih => exact .cons r ih
theorem DR.put {h : Heap} {k : List Int} {a : Addr} {v : Value} {x : AV} (hv : VR h v x) {xs kvs} (r : DR h xs kvs) : DR h (storedH xs k a v) (dpt kvs k x) := by
  unfold storedH dpt
  rw [r.isSome]
  split
  · rename_i hz; clear hz
    induction r with
    | nil => exact .nil
    | cons r q ih =>
      rw [List.map_cons, List.map_cons]
      unfold putAt
      dsimp only
      split
      · exact .cons hv ih
      · exact .cons r ih
  · rename_i hz; clear hz
    induction r with
    | nil => exact .cons hv .nil
    | cons r q ih => exact .cons r ih

noncomputable def intsOf : List AV → Option (List Int)
  | [] => some []
  | x :: r => match x with
    | .int i => (intsOf r).map (i :: ·)
    | _ => none
inductive IntsC (x : AV) (l : List AV) (ks : List Int) : Prop
  | mk (i : Int) (js : List Int) (e : x = .int i) (h : intsOf l = some js) (hk : ks = i :: js) : IntsC x l ks
theorem intsOf_cons {x : AV} {l : List AV} {ks : List Int} (e : intsOf (x :: l) = some ks) : IntsC x l ks := by
  induction x using AV.casesOn with
  | int i =>
    obtain ⟨js, e1, rfl⟩ := Option.map_eq_some_iff.mp (show (intsOf l).map (i :: ·) = some ks from e)
    exact ⟨i, js, rfl, e1, rfl⟩
  | _ => cases e
theorem ints_items {X : Cx} {h : Heap} {l : List AV} {ks : List Int} (e : intsOf l = some ks) {vs} (r : VRs h vs l) : ItemsAre (intKind pg X.w) ks vs := by
  induction l generalizing ks vs with
  | nil => cases e; cases r; exact .nil
  | cons x l ih =>
    obtain ⟨i, js, rfl, e1, rfl⟩ := intsOf_cons e
    cases r with
    | cons r rs =>
      obtain ⟨t, rfl⟩ := r.int_inv
      exact .cons (intKind_is _ _ _ _) (ih e1 rs)
theorem tup_key {X : Cx} {h : Heap} {l ks} (e : intsOf l = some ks) {v : Value} (r : VR h v (.tup l)) : ∃ a, v = .ref a ∧ (tupK X).is h ks a := by
  obtain ⟨a, vs, n, rfl, ht, rs⟩ := r.tup_inv
  exact ⟨a, rfl, _, _, _, ht, rfl, rfl, by simpa using ints_items e rs⟩

noncomputable def strIn (y x : Str) : Bool := !(Builtin.Str.occurrences x y 0 x.length 1).isEmpty
noncomputable def AV.isNon : AV → Bool
  | .non => true
  | _ => false

noncomputable def vcmp (o : CmpOp) (x y : AV) (σ : ASt) (Q : Bool → Prop) : Prop :=
  match y with
  | .int b => (match x with
    | .int a => if o = .Eq then Q (a == b) else if o = .NotEq then Q (a != b) else if o = .Lt then Q (decide (a < b)) else if o = .LtE then Q (decide (a ≤ b)) else if o = .Gt then Q (decide (b < a)) else if o = .GtE then Q (decide (b ≤ a)) else False
    | _ => False)
  | .str b => (match x with
    | .str a => if o = .Eq then Q (a == b) else if o = .NotEq then Q (a != b) else if o = .In then Q (strIn a b) else False
    | _ => False)
  | .non => (match x with
    | .val _ => False
    | x => if o = .Is then Q x.isNon else if o = .IsNot then Q (!x.isNon) else False)
  | .ref d => (match x with
    | .str k => if o = .In then ∃ kvs, σ d = some (.dcs kvs) ∧ Q (dgt kvs k).isSome else if o = .NotIn then ∃ kvs, σ d = some (.dcs kvs) ∧ Q (!(dgt kvs k).isSome) else False
    | .tup l => if o = .In then ∃ kvs ks, intsOf l = some ks ∧ σ d = some (.dct kvs) ∧ Q (dgt kvs ks).isSome else if o = .NotIn then ∃ kvs ks, intsOf l = some ks ∧ σ d = some (.dct kvs) ∧ Q (!(dgt kvs ks).isSome) else False
    | .ref a => if o = .NotEq then ∃ l m, σ a = some (.lst l) ∧ σ d = some (.lst m) ∧ (l.length ≠ m.length ∧ Q true ∨ l = [] ∧ m = [] ∧ Q false) else False
    | _ => False)
  | .tup m => (match x with
    | .tup l => if o = .Eq then ∃ d e, DA (.tup l) d ∧ DA (.tup m) e ∧ SeqAt.shaped d = true ∧ SeqAt.shaped e = true ∧ Q (d.eqv e) else False
    | _ => False)
  | _ => False

theorem VR.none_eq {h v x} (r : VR h v x) (hx : ∀ w, x ≠ .val w) : (v == Value.none) = x.isNon := by
  cases r <;> first | rfl | exact absurd rfl (hx _)

theorem Own.dctNotSys {X D σ s} (G : Gd X) (R : Rel X D σ s) {d : Addr} {o : AO} (e : σ d = some o) (ho : o.own = true) : (d == sysModules) = false := by
  rw [beq_eq_false_iff_ne]
  rintro rfl
  have h1 := R.ownb sysModules (.inl ⟨o, e, ho⟩)
  obtain ⟨_, h2⟩ := G.sysm
  rw [h2] at h1; cases h1

theorem ev_is {X A D σ s} {o : CmpOp} {v : Value} {x : AV} {Q : Post} (R : Rel X D σ s) (e : (v == Value.none) = x.isNon) (q : if o = .Is then Q (.bool x.isNon) σ else if o = .IsNot then Q (.bool !x.isNon) σ else False) : EV X A (compareOp o v .none) D σ s Q := by
  have fin : ∀ {b}, Q (.bool b) σ → PostR VR X D σ s Q (.bool b) s := fun q => PostR.here .bool R (fun _ _ e => e) rfl rfl q
  rcases iteo q with ⟨rfl, q⟩ | q
  · exact is_none_gen (e ▸ fin q)
  obtain ⟨rfl, q⟩ := itef q
  exact isnot_none_gen (e ▸ fin q)
theorem ev_cmp {X A D σ s k} (G : Gd X) (Ro : Room A k) {o : CmpOp} {v w : Value} {x y : AV} {Q : Post} (R : Rel X D σ s) (r1 : VR s.heap v x) (r2 : VR s.heap w y) (q : vcmp o x y σ fun b => Q (.bool b) σ) : EV X A (compareOp o v w) D σ s Q := by
  have hu := Ro.units
  have fin : ∀ {b}, Q (.bool b) σ → PostR VR X D σ s Q (.bool b) s := fun q => PostR.here .bool R (fun _ _ e => e) rfl rfl q
  induction y using AV.casesOn with
  | int b => induction x using AV.casesOn with
    | int a =>
      obtain ⟨_, rfl⟩ := r1.int_inv; obtain ⟨_, rfl⟩ := r2.int_inv
      rcases iteo q with ⟨rfl, q⟩ | q
      · exact P.eq_int (fin q)
      rcases iteo q with ⟨rfl, q⟩ | q
      · exact P.ne_int (fin q)
      rcases iteo q with ⟨rfl, q⟩ | q
      · exact P.lt_int (fin q)
      rcases iteo q with ⟨rfl, q⟩ | q
      · exact P.le_int (fin q)
      rcases iteo q with ⟨rfl, q⟩ | q
      · exact P.gt_int (fin q)
      obtain ⟨rfl, q⟩ := itef q
      exact PyProof.Rows.ge_int (fin q)
    | _ => exact False.elim q
  | str b => induction x using AV.casesOn with
    | str a =>
      obtain ⟨_, rfl⟩ := r1.str_inv; obtain ⟨_, rfl⟩ := r2.str_inv
      rcases iteo q with ⟨rfl, q⟩ | q
      · exact eq_str (fin q)
      rcases iteo q with ⟨rfl, q⟩ | q
      · exact PyProof.Rows.ne_str (fin q)
      obtain ⟨rfl, q⟩ := itef q
      exact in_str (fin q)
    | _ => exact False.elim q
  | non =>
    obtain rfl := r2.non_inv
    induction x using AV.casesOn with
    | val _ => exact False.elim q
    | _ => exact ev_is R (r1.none_eq (fun _ e => by cases e)) q
  | ref d =>
    obtain rfl := r2.ref_inv
    induction x using AV.casesOn with
    | str k =>
      obtain ⟨_, rfl⟩ := r1.str_inv
      rcases iteo q with ⟨rfl, kvs, e, q⟩ | q
      · obtain ⟨xs, h1, h2⟩ := R.objs _ _ e
        exact wpAny_in_of (strKind_is _ _ _ _) (Own.dctNotSys G R e rfl) h1.mapOf (h2.isSome ▸ PostR.tok .bool R q)
      · obtain ⟨rfl, kvs, e, q⟩ := itef q
        obtain ⟨xs, h1, h2⟩ := R.objs _ _ e
        exact wpAny_notIn_of (strKind_is _ _ _ _) (Own.dctNotSys G R e rfl) h1.mapOf (h2.isSome ▸ PostR.tok .bool R q)
    | tup l =>
      rcases iteo q with ⟨rfl, kvs, ks, ei, e, q⟩ | q
      · obtain ⟨a, rfl, hk⟩ := tup_key (X := X) ei r1
        obtain ⟨xs, h1, h2⟩ := R.objs _ _ e
        exact wpAny_in_heap (show A.units + 1 < cLine by lia) hk (Own.dctNotSys G R e rfl) h1 (h2.isSome ▸ PostR.tok .bool R q)
      · obtain ⟨rfl, kvs, ks, ei, e, q⟩ := itef q
        obtain ⟨a, rfl, hk⟩ := tup_key (X := X) ei r1
        obtain ⟨xs, h1, h2⟩ := R.objs _ _ e
        exact wpAny_notIn_heap (show A.units + 1 < cLine by lia) hk (Own.dctNotSys G R e rfl) h1 (h2.isSome ▸ PostR.tok .bool R q)
    | ref a =>
      obtain rfl := r1.ref_inv
      obtain ⟨rfl, l, m, e1, e2, q⟩ := itef q
      obtain ⟨vs, n1, h1, p1⟩ := OR.lst_inv (R.objs _ _ e1)
      obtain ⟨ws, n2, h2, p2⟩ := OR.lst_inv (R.objs _ _ e2)
      rcases q with ⟨hn, q⟩ | ⟨rfl, rfl, q⟩
      · exact cmp_ofNotEq (SeqAt.RcNeAt.lists_lengths h1.isList h2.isList (by simp [p1.length, p2.length]; exact hn) (by lia) _ _ _ _ (fin q))
      · cases p1; cases p2
        exact ne_dataH (.list h1 rfl rfl .nil) (.list h2 rfl rfl .nil) (by decide +kernel) (by decide +kernel) (by lia) (fin (b := false) q)
    | _ => exact False.elim q
  | tup m => induction x using AV.casesOn with
    | tup l =>
      obtain ⟨rfl, d, e, d1, d2, s1, s2, q⟩ := itef q
      obtain ⟨as, q1⟩ := d1.reads r1
      obtain ⟨bs, q2⟩ := d2.reads r2
      exact eq_dataH q1 q2 s1 s2 (by lia) (fin q)
    | _ => exact False.elim q
  | _ => exact False.elim q

end Np

namespace Np

theorem get_toArray {vs : List Value} {i : Nat} {v : Value} (e : vs[i]? = some v) : vs.toArray[i]? = some v := by simpa using e

-- items
noncomputable def vget (x i : AV) (σ : ASt) (Q : Post) : Prop :=
  match x with
  | .ref a => (match i with
    | .int i => ∃ l y, σ a = some (.lst l) ∧ (0 ≤ i ∧ i < 2 ^ 63) ∧ l[i.toNat]? = some y ∧ Q y σ
    | .str k => ∃ kvs y, σ a = some (.dcs kvs) ∧ dgt kvs k = some y ∧ Q y σ
    | .tup l => ∃ kvs ks y, intsOf l = some ks ∧ σ a = some (.dct kvs) ∧ dgt kvs ks = some y ∧ Q y σ
    | _ => False)
  | .tup l => (match i with
    | .int i => ∃ y, (0 ≤ i ∧ i < 2 ^ 63) ∧ l[i.toNat]? = some y ∧ Q y σ
    | _ => False)
  | .str x => (match i with
    | .int i => ∃ c, (0 ≤ i ∧ i < 2 ^ 63) ∧ x.cps[i.toNat]? = some c ∧ Q (.str ⟨#[c]⟩) σ
    | _ => False)
  | _ => False

theorem seqIndex_ok {i : Int} {n : Nat} (h0 : 0 ≤ i) (h1 : i.toNat < n) : seqIndex? i n = some i.toNat := by
  unfold seqIndex?
  simp
  lia

theorem ev_get {X A D σ s k} (Ro : Room A k) {v w : Value} {x y : AV} {Q : Post} (R : Rel X D σ s) (r1 : VR s.heap v x) (r2 : VR s.heap w y) (q : vget x y σ Q) : EV X A (getItem v w) D σ s Q := by
  have hu := Ro.units
  have fin : ∀ {v x}, VR s.heap v x → Q x σ → PostR VR X D σ s Q v s := fun r q => PostR.here r R (fun _ _ e => e) rfl rfl q
  induction x using AV.casesOn with
  | ref a =>
    obtain rfl := r1.ref_inv
    induction y using AV.casesOn with
    | int i =>
      obtain ⟨_, rfl⟩ := r2.int_inv
      obtain ⟨l, y, e, hi, hy, q⟩ := q
      obtain ⟨vs, n, h1, p1⟩ := OR.lst_inv (R.objs _ _ e)
      obtain ⟨v, hv, hr⟩ := p1.get hy
      exact wpAny_getItem_list h1.isList hi.1 hi.2 (get_toArray hv) (fin hr q)
    | str k =>
      obtain ⟨_, rfl⟩ := r2.str_inv
      obtain ⟨kvs, y, e, hy, q⟩ := q
      obtain ⟨xs, h1, h2⟩ := R.objs _ _ e
      obtain ⟨v, e2, hv⟩ := (h2.at).2 _ hy
      exact wpAny_getItem_of (strKind_is _ _ _ _) h1.mapOf e2 (PostR.tok hv R q)
    | tup l =>
      obtain ⟨kvs, ks, y, ei, e, hy, q⟩ := q
      obtain ⟨a, rfl, hk⟩ := tup_key (X := X) ei r2
      obtain ⟨xs, h1, h2⟩ := R.objs _ _ e
      obtain ⟨p, e2, hv⟩ := (h2.at).2 _ hy
      exact wpAny_getItem_heap (show A.units + 1 < cLine by lia) hk h1 e2 (PostR.tok hv R q)
    | _ => exact False.elim q
  | tup l => induction y using AV.casesOn with
    | int i =>
      obtain ⟨a, vs, n, rfl, ht, p1⟩ := r1.tup_inv; obtain ⟨_, rfl⟩ := r2.int_inv
      obtain ⟨y, hi, hy, q⟩ := q
      obtain ⟨v, hv, hr⟩ := p1.get hy
      refine P.getItem_tuple ht (by lia) hi.2 (seqIndex_ok hi.1 ?_) (get_toArray hv) (fin hr q)
      have := (List.getElem?_eq_some_iff.mp hv).1
      simpa using this
    | _ => exact False.elim q
  | str x => induction y using AV.casesOn with
    | int i =>
      obtain ⟨_, rfl⟩ := r1.str_inv; obtain ⟨_, rfl⟩ := r2.int_inv
      obtain ⟨c, hi, hc, q⟩ := q
      refine P.getItem_str (by simp; lia) (c := c) ?_ (PostR.tok .str R q)
      have : seqIndex? i x.length = some i.toNat := seqIndex_ok hi.1 (Array.getElem?_eq_some_iff.mp hc).1
      rw [this]
      exact hc
    | _ => exact False.elim q
  | _ => exact False.elim q

-- the subscription around it
theorem vget_lookup {X D σ s} {x i : AV} {Q : Post} (R : Rel X D σ s) (q : vget x i σ Q) {v : Value} (r : VR s.heap v x) : ∃ T id, s.TypeIs v T ∧ typeLookup (.type T) "__getitem__" = pure (some (.builtin id)) := by
  induction x using AV.casesOn with
  | ref a =>
    obtain rfl := r.ref_inv
    induction i using AV.casesOn with
    | int i =>
      obtain ⟨l, y, e, _⟩ := q
      obtain ⟨vs, n, ho, _⟩ := OR.lst_inv (R.objs _ _ e)
      exact ⟨_, _, ⟨_, ho, rfl⟩, F.slot_list_getitem.lookup⟩
    | str k =>
      obtain ⟨l, y, e, _⟩ := q
      obtain ⟨vs, h1, _⟩ := R.objs _ _ e
      obtain ⟨o, ho, hc⟩ := DictOf.obj h1
      exact ⟨_, _, ⟨_, ho, hc⟩, F.slot_dict_getitem.lookup⟩
    | tup l =>
      obtain ⟨l, _, y, _, e, _⟩ := q
      obtain ⟨vs, h1, _⟩ := R.objs _ _ e
      obtain ⟨o, ho, hc⟩ := DictOfH.obj h1
      exact ⟨_, _, ⟨_, ho, hc⟩, F.slot_dict_getitem.lookup⟩
    | _ => exact False.elim q
  | tup l =>
    obtain ⟨a, vs, n, rfl, ht, _⟩ := r.tup_inv
    exact ⟨_, _, ⟨_, ht, rfl⟩, F.slot_tuple_getitem.lookup⟩
  | str x =>
    obtain ⟨_, rfl⟩ := r.str_inv
    exact ⟨_, _, typeIs_str _ _ _, F.slot_str_getitem.lookup⟩
  | _ => exact False.elim q

theorem subs_two {slice : Expr} {o i : Value} : subscripted slice false o i = operate [i, o] (getItem o i) ∨ subscripted slice false o i = operate [o, i] (getItem o i) := by
  induction slice using Expr.casesOn with
  | Slice a b st p =>
    rcases st with _ | st
    · exact .inl rfl
    · exact .inr rfl
  | _ => exact .inr rfl
theorem subs_any {M : Model} {A : Around} {E : Value → Shared → Prop} {s : Shared} {value slice : Expr} {o i : Value} {T id : String} {Q : Value → Shared → Prop} (hT : s.TypeIs o T)
    (hl : typeLookup (.type T) "__getitem__" = pure (some (.builtin id))) (h : wpAny M A (getItem o i) Q E s) {prog w} (hM : M = model prog w) : wpAny M A (subscriptTail value slice o i) Q E s := by
  subst hM
  unfold subscriptTail
  refine wpAny_bind ?_
  rw [getitemInPython_of_ne hT.not_modules]
  refine wpAny_bind (wpAny_specialOf hT hl ?_)
  have fin : wpAny (model prog w) A (subscripted slice false o i) (fun r s₃ => wpAny (model prog w) A (letTemporaryGo value o r >>= fun _ => pure r) Q E s₃) E s := by
    have g : ∀ r s₃, Q r s₃ → wpAny (model prog w) A (letTemporaryGo value o r >>= fun _ => pure r) Q E s₃ := fun r s₃ h₃ => wpAny_bind (wpAny_letTemporaryGo (Q := fun _ s => wpAny (model prog w) A (pure r) Q E s) (wpAny_pure h₃))
    rcases subs_two (slice := slice) (o := o) (i := i) with e | e <;> exact e ▸ wpAny_operating (wpAny_mono h g fun _ _ x => x)
  first
    | exact wpAny_pure (wpAny_bind fin)
    | exact wpAny_bind (wpAny_pure (wpAny_bind fin))
    | exact wpAny_bind fin

theorem ev_sub {X A D σ s k} (Ro : Room A k) {value slice : Expr} {v w : Value} {x y : AV} {Q : Post} (R : Rel X D σ s) (r1 : VR s.heap v x) (r2 : VR s.heap w y) (q : vget x y σ Q) : EV X A (subscriptTail value slice v w) D σ s Q := by
  obtain ⟨T, id, h1, h2⟩ := vget_lookup R q r1
  exact subs_any h1 h2 (ev_get Ro R r1 r2 q) rfl

-- slices
noncomputable def strSl (x : Str) (a b : Int) : Str := if ((slicePicked x (some (a, 0)) (some (b, 0)) none).length == x.length) = true then x else ⟨((slicePicked x (some (a, 0)) (some (b, 0)) none).filterMap (x.cps[·]?)).toArray⟩
noncomputable def vslc (x lo hi st : AV) (σ : ASt) (Q : Post) : Prop :=
  match x with
  | .ref a => (match lo with
    | .non => (match hi with
      | .int n => (match st with
        | .non => ∃ l, (σ a = some (.lst l) ∨ σ a = some (.fro l)) ∧ l.length ≤ sizeLine ∧ 0 ≤ n ∧ newO σ (.lst (l.take n.toNat)) Q
        | _ => False)
      | .non => (match st with
        | .int n => ∃ l, σ a = some (.lst l) ∧ l.length ≤ sizeLine ∧ n = -1 ∧ newO σ (.lst l.reverse) Q
        | _ => False)
      | _ => False)
    | .int n => (match hi with
      | .non => (match st with
        | .non => ∃ l, σ a = some (.lst l) ∧ l.length ≤ sizeLine ∧ 0 ≤ n ∧ newO σ (.lst (l.drop n.toNat)) Q
        | _ => False)
      | _ => False)
    | _ => False)
  | .str x => (match lo with
    | .int a => (match hi with
      | .int b => (match st with
        | .non => (strSl x a b).length ≤ sizeLine ∧ Q (.str (strSl x a b)) σ
        | _ => False)
      | _ => False)
    | _ => False)
  | _ => False

theorem Rel.lst_or {X : Cx} {D σ s} (R : Rel X D σ s) {a : Addr} {l : List AV} (e : σ a = some (.lst l) ∨ σ a = some (.fro l)) : LstI s.heap a l := by
  rcases e with e | e
  · exact OR.lst_inv (R.objs _ _ e)
  · obtain ⟨vs, n, ho, r⟩ := R.objs _ _ e
    exact ⟨vs, n, R.base _ _ ho, r.mono fun a o ho _ _ => R.base a o ho⟩
theorem ev_slc {X A D σ s} {v w1 w2 w3 : Value} {x lo hi st : AV} {Q : Post} (R : Rel X D σ s) (r : VR s.heap v x) (r1 : VR s.heap w1 lo) (r2 : VR s.heap w2 hi) (r3 : VR s.heap w3 st) (q : vslc x lo hi st σ Q)
    {value slice : Expr} {P : Value → Shared → Prop} (hP : ∀ v s', PostR VR X D σ s Q v s' → P v s') :
    wpAny (model pg X.w) A (subscriptTail value slice v (.ref s.heap.objs.size)) P no { s with heap := s.heap.push { cls := .type "slice", data := .fields #[w1, w2, w3] } } := by
  have k := push_keep (h := s.heap) { cls := .type "slice", data := .fields #[w1, w2, w3] }
  have hsl := Heap.IsSliceOf.new s.heap w1 w2 w3
  have fin : ∀ {vs : List Value} {l : List AV}, VRs s.heap vs l → newO σ (.lst l) Q → P (.ref (s.heap.push { cls := .type "slice", data := .fields #[w1, w2, w3] }).objs.size)
      { s with heap := (s.heap.push { cls := .type "slice", data := .fields #[w1, w2, w3] }).push { cls := .type "list", data := .seq vs.toArray } } := fun r q => by
    refine hP _ _ (PostR.newLst (h' := (s.heap.push _).push _) R (fun b o e => push_keep _ b o (k b o e)) ?_ (isList_push _ _ _) r q)
    cases e : s.heap.get? (s.heap.push { cls := .type "slice", data := .fields #[w1, w2, w3] }).objs.size with
    | none => rfl
    | some o =>
      have := Heap.lt_size (k _ _ e)
      exact absurd this (Nat.lt_irrefl _)
  induction x using AV.casesOn with
  | ref a =>
    obtain rfl := r.ref_inv
    induction lo using AV.casesOn with
    | non =>
      obtain rfl := r1.non_inv
      induction hi using AV.casesOn with
      | int n => induction st using AV.casesOn with
        | non =>
          obtain ⟨w, rfl⟩ := r2.int_inv; obtain rfl := r3.non_inv
          obtain ⟨l, e, hsz, h0, q⟩ := q
          obtain ⟨vs, m, ho, p1⟩ := R.lst_or e
          refine subs_any ⟨_, k _ _ ho, rfl⟩ F.slot_list_getitem.lookup (wpAny_getItem_list_slice ⟨_, k _ _ ho, rfl, m, rfl⟩ hsl .none (.int _ _) .none (by decide) ?_ (by simp [p1.length]; exact hsz)) rfl
          have hp : slicePick vs.toArray none (some n) none = (vs.take n.toNat).toArray := by have := slicePick_upto' vs.toArray n.toNat; rw [Int.toNat_of_nonneg h0] at this; simpa using this
          rw [hp]
          exact fin (p1.take _) q
        | _ => exact False.elim q
      | non => induction st using AV.casesOn with
        | int n =>
          obtain rfl := r2.non_inv; obtain ⟨_, rfl⟩ := r3.int_inv
          obtain ⟨l, e, hsz, h0, q⟩ := q
          subst h0
          obtain ⟨vs, m, ho, p1⟩ := OR.lst_inv (R.objs _ _ e)
          refine subs_any ⟨_, k _ _ ho, rfl⟩ F.slot_list_getitem.lookup (wpAny_getItem_list_slice ⟨_, k _ _ ho, rfl, m, rfl⟩ hsl .none .none (.int _ _) (by decide) ?_ (by simp [p1.length]; exact hsz)) rfl
          rw [krv_pick]
          exact fin p1.rev q
        | _ => exact False.elim q
      | _ => exact False.elim q
    | int n => induction hi using AV.casesOn with
      | non => induction st using AV.casesOn with
        | non =>
          obtain ⟨_, rfl⟩ := r1.int_inv; obtain rfl := r2.non_inv; obtain rfl := r3.non_inv
          obtain ⟨l, e, hsz, h0, q⟩ := q
          obtain ⟨vs, m, ho, p1⟩ := OR.lst_inv (R.objs _ _ e)
          refine subs_any ⟨_, k _ _ ho, rfl⟩ F.slot_list_getitem.lookup (wpAny_getItem_list_slice ⟨_, k _ _ ho, rfl, m, rfl⟩ hsl (.int _ _) .none .none (by decide) ?_ (by simp [p1.length]; exact hsz)) rfl
          have hp : slicePick vs.toArray (some n) none none = (vs.drop n.toNat).toArray := by have := slicePick_from' vs.toArray n.toNat; rw [Int.toNat_of_nonneg h0] at this; simpa using this
          rw [hp]
          exact fin (p1.drop _) q
        | _ => exact False.elim q
      | _ => exact False.elim q
    | _ => exact False.elim q
  | str x => induction lo using AV.casesOn with
    | int a => induction hi using AV.casesOn with
      | int b => induction st using AV.casesOn with
        | non =>
          obtain ⟨t, rfl⟩ := r.str_inv; obtain ⟨t1, rfl⟩ := r1.int_inv; obtain ⟨t2, rfl⟩ := r2.int_inv; obtain rfl := r3.non_inv
          obtain ⟨hsz, q⟩ := q
          refine subs_any (typeIs_str _ _ _) F.slot_str_getitem.lookup (wpAny_getItem_str_slice (l := some (a, t1)) (u := some (b, t2)) (st := none) ⟨_, Heap.get?_push_size _ rfl, rfl, rfl⟩ rfl ?_) rfl
          have hk : slicePicked x (some (a, t1)) (some (b, t2)) none = slicePicked x (some (a, 0)) (some (b, 0)) none := rfl
          unfold sliceMade
          unfold strSl at q hsz
          rw [hk]
          by_cases hz : ((slicePicked x (some (a, 0)) (some (b, 0)) none).length == x.length) = true
          · rw [if_pos hz] at q
            rw [if_pos (by simpa using hz)]
            exact hP _ _ (PostR.here (s' := { s with heap := _ }) .str R k rfl rfl q)
          · rw [if_neg hz] at q hsz
            rw [if_neg (by simpa using hz)]
            exact ⟨hsz, hP _ _ (PostR.here (s' := { s with heap := _, toks := _ }) .str R k rfl rfl q)⟩
        | _ => exact False.elim q
      | _ => exact False.elim q
    | _ => exact False.elim q
  | _ => exact False.elim q

-- storing items
noncomputable def vset (x i v : AV) (σ : ASt) (Q : ASt → Prop) : Prop :=
  match x with
  | .ref a => (match i with
    | .int i => ∃ l, σ a = some (.lst l) ∧ (0 ≤ i ∧ i < 2 ^ 63 ∧ i < l.length) ∧ Q (upd σ a (.lst (l.set i.toNat v)))
    | .str k => ∃ kvs, σ a = some (.dcs kvs) ∧ kvs.length ≤ sizeLine ∧ Q (upd σ a (.dcs (dpt kvs k v)))
    | .tup l => ∃ kvs ks, intsOf l = some ks ∧ σ a = some (.dct kvs) ∧ kvs.length ≤ sizeLine ∧ Q (upd σ a (.dct (dpt kvs ks v)))
    | _ => False)
  | _ => False

theorem ev_set {X A D σ s k} (Ro : Room A k) {v w u : Value} {x y z : AV} {Q : ASt → Prop} (R : Rel X D σ s) (r1 : VR s.heap v x) (r2 : VR s.heap w y) (r3 : VR s.heap u z) (q : vset x y z σ Q) : EU X A (setItem v w u) D σ s (fun _ => Q) := by
  have hu := Ro.units
  induction x using AV.casesOn with
  | ref a =>
    obtain rfl := r1.ref_inv
    induction y using AV.casesOn with
    | int i =>
      obtain ⟨_, rfl⟩ := r2.int_inv
      obtain ⟨l, e, hi, q⟩ := q
      obtain ⟨vs, n, h1, p1⟩ := OR.lst_inv (R.objs _ _ e)
      refine ki_setAt h1 hi.1 hi.2.1 (by simp [p1.length]; exact hi.2.2) ?_
      have hs := Heap.SameBut.update s.heap a (Obj.mapSeq (·.setIfInBounds i.toNat u))
      have h2 := IsL.update h1 (·.setIfInBounds i.toNat u)
      obtain ⟨R', T⟩ := R.put (s' := { s with heap := s.heap.update a (Obj.mapSeq (·.setIfInBounds i.toNat u)) }) e rfl (o' := .lst (l.set _ z)) rfl (fun b o hb ho => hs.extBut b o hb ho) (fun tk => ⟨vs.set _ u, _, by simpa using h2, (p1.mono tk).set _ (r3.mono tk)⟩) rfl rfl
      exact ⟨(), D, _, trivial, R', T, q⟩
    | str k =>
      obtain ⟨_, rfl⟩ := r2.str_inv
      obtain ⟨kvs, e, hsz, q⟩ := q
      obtain ⟨xs, h1, h2⟩ := R.objs _ _ e
      refine wpAny_setItem_pairs (strKind_is _ _ _ _) h1 (fun h' h3 hs => ?_) (by rw [h2.length]; exact hsz)
      obtain ⟨R', T⟩ := R.put (s' := { s with heap := h', toks := s.toks + 1 }) e rfl (o' := .dcs (dpt kvs _ z)) rfl (fun b o hb ho => hs.extBut b o hb ho) (fun tk => ⟨_, h3, (h2.mono tk).put (r3.mono tk)⟩) rfl rfl
      exact ⟨(), D, _, trivial, R', T, q⟩
    | tup l =>
      obtain ⟨kvs, ks, ei, e, hsz, q⟩ := q
      obtain ⟨a, rfl, hk⟩ := tup_key (X := X) ei r2
      obtain ⟨xs, h1, h2⟩ := R.objs _ _ e
      refine wpAny_setItem_heap (show A.units + 1 < cLine by lia) hk h1 (fun h' h3 hs => ?_) (by rw [h2.length]; exact hsz)
      obtain ⟨R', T⟩ := R.put (s' := { s with heap := h', toks := s.toks + (tupK X).draws ks }) e rfl (o' := .dct (dpt kvs _ z)) rfl (fun b o hb ho => hs.extBut b o hb ho) (fun tk => ⟨_, h3, (h2.mono tk).put (r3.mono tk)⟩) rfl rfl
      exact ⟨(), D, _, trivial, R', T, q⟩
    | _ => exact False.elim q
  | _ => exact False.elim q

end Np

namespace Np

inductive Bi where
  | len | abs | sum | ord | chr | max | tuple | list
  deriving DecidableEq
noncomputable def Bi.val : Bi → Value
  | .len => .builtin "len"
  | .abs => .builtin "abs"
  | .sum => .builtin "sum"
  | .ord => .builtin "ord"
  | .chr => .builtin "chr"
  | .max => .builtin "max"
  | .tuple => .type "tuple"
  | .list => .type "list"

noncomputable def strsOf : List AV → Option (List Str)
  | [] => some []
  | x :: r => match x with
    | .str i => (strsOf r).map (i :: ·)
    | _ => none
theorem strs_are {h : Heap} {l : List AV} {ks : List Str} (e : strsOf l = some ks) {vs} (r : VRs h vs l) : StrsAre vs ks := by
  induction l generalizing ks vs with
  | nil => cases e; cases r; exact .nil
  | cons x l ih =>
    induction x using AV.casesOn with
    | str i =>
      obtain ⟨js, e1, rfl⟩ := Option.map_eq_some_iff.mp (show (strsOf l).map (i :: ·) = some ks from e)
      cases r with
      | cons r rs =>
        obtain ⟨t, rfl⟩ := r.str_inv
        exact .cons _ _ (ih e1 rs)
    | _ => cases e

noncomputable def vbi (b : Bi) (l : List AV) (σ : ASt) (Q : Post) : Prop :=
  match l with
  | [] => False
  | x :: r => (match r with
    | [] => (match x with
      | .ref a => (match b with
        | .len => ∃ l, σ a = some (.lst l) ∧ (l.length : Int) < 2 ^ 63 ∧ Q (.int l.length) σ
        | .tuple => ∃ l, σ a = some (.lst l) ∧ l.length ≤ sizeLine ∧ Q (.tup l) σ
        | .sum => ∃ l ks, σ a = some (.lst l) ∧ intsOf l = some ks ∧ (∀ i ∈ ks, 0 ≤ i ∧ i ≤ 2 ^ 40) ∧ ks.length ≤ 1000 ∧ Q (.int ks.sum) σ
        | _ => False)
      | .tup l => (match b with
        | .len => (l.length : Int) < 2 ^ 63 ∧ Q (.int l.length) σ
        | .list => l.length ≤ sizeLine ∧ newO σ (.lst l) Q
        | _ => False)
      | .str x => (match b with
        | .len => (x.length : Int) < 2 ^ 63 ∧ Q (.int x.length) σ
        | .ord => ∃ c : Nat, x = ⟨#[c]⟩ ∧ Q (.int c) σ
        | _ => False)
      | .int a => (match b with
        | .abs => Q (.int (if a < 0 then -a else a)) σ
        | .chr => 0 ≤ a ∧ a ≤ 1114111 ∧ Q (.str ⟨#[a.toNat]⟩) σ
        | _ => False)
      | _ => False)
    | y :: r => (match r with
      | [] => (match b with
        | .max => (match x with
          | .int a => (match y with
            | .int b => Q (.int (if b > a then b else a)) σ
            | _ => False)
          | _ => False)
        | _ => False)
      | _ => False))

theorem ints_pairs {h : Heap} {l : List AV} {ks : List Int} (e : intsOf l = some ks) {vs} (r : VRs h vs l) : ∃ xs : List (Int × Tok), vs = xs.map (fun p => .int p.1 p.2) ∧ xs.map (·.1) = ks := by
  induction l generalizing ks vs with
  | nil => cases e; cases r; exact ⟨[], rfl, rfl⟩
  | cons x l ih =>
    obtain ⟨i, js, rfl, e1, rfl⟩ := intsOf_cons e
    cases r with
    | cons r rs =>
      obtain ⟨t, rfl⟩ := r.int_inv
      obtain ⟨xs, rfl, rfl⟩ := ih e1 rs
      exact ⟨(i, t) :: xs, rfl, rfl⟩
theorem sum_bound : ∀ {ks : List Int}, (∀ i ∈ ks, 0 ≤ i ∧ i ≤ 2 ^ 40) → 0 ≤ ks.sum ∧ ks.sum ≤ ks.length * 2 ^ 40
  | [], _ => by simp
  | k :: ks, h => by
    have h1 := h k (.head _)
    have h2 := sum_bound fun i hi => h i (.tail _ hi)
    simp only [List.sum_cons, List.length_cons]
    constructor
    · lia
    · push_cast; lia
theorem sum_ev {A : Around} {w : World} {s : Shared} {a : Addr} {l : List AV} {ks : List Int} {vs : List Value} {n : Nat} {Q : Value → Shared → Prop} {E : Value → Shared → Prop} (hA : A.handled = none) (h1 : IsL s.heap a vs.toArray n) (p : VRs s.heap vs l) (e : intsOf l = some ks)
    (hb : ∀ i ∈ ks, 0 ≤ i ∧ i ≤ 2 ^ 40) (hl : ks.length ≤ 1000)
    (q : ∀ h' tk t, (∀ b o, s.heap.get? b = some o → h'.get? b = some o) → Q (.int ks.sum t) { s with heap := h', toks := tk }) : wpAny (model pg w) A (call (.builtin "sum") [.ref a]) Q E s := by
  obtain ⟨xs, rfl, rfl⟩ := ints_pairs e p
  have hi : intItems xs.toArray = (xs.map (fun p => Value.int p.1 p.2)).toArray := by simp [intItems]
  have bnd : ∀ j, 0 ≤ preSum (numAt xs.toArray) j ∧ preSum (numAt xs.toArray) j ≤ 1000 * 2 ^ 40 := fun j => by
    rw [preSum_eq]
    have h3 := sum_bound (ks := ((xs.toArray.toList.map (·.1)).take j)) fun i hi => hb i (List.mem_of_mem_take hi)
    have h4 : ((xs.toArray.toList.map (·.1)).take j).length ≤ 1000 := Nat.le_trans (List.length_take_le' ..) (by simpa using hl)
    lia
  refine sum_intList (xs := xs.toArray) hA (by rw [hi]; exact h1.isList) (fun j hj => ?_) fun h' tk t hk => ?_
  · have := bnd j
    have h5 := bnd (j + 1)
    have h6 : preSum (numAt xs.toArray) (j + 1) = preSum (numAt xs.toArray) j + numAt xs.toArray j := rfl
    constructor
    · constructor <;> lia
    · constructor <;> lia
  · have h7 : preSum (numAt xs.toArray) xs.toArray.size = (xs.map (·.1)).sum := by
      rw [preSum_eq]; simp only [List.size_toArray]; rw [List.take_of_length_le (by simp)]
    rw [h7]
    exact q h' tk t hk

inductive OneI (h : Heap) (x : AV) (vs : List Value) : Prop
  | mk (v : Value) (e : vs = [v]) (r : VR h v x) : OneI h x vs
inductive TwoI (h : Heap) (x y : AV) (vs : List Value) : Prop
  | mk (v w : Value) (e : vs = [v, w]) (r : VR h v x) (q : VR h w y) : TwoI h x y vs
theorem VRs.one_inv {h vs x} (r : VRs h vs [x]) : OneI h x vs := by
  cases r with
  | cons r q => cases q; exact ⟨_, rfl, r⟩
theorem VRs.two_inv {h vs x y} (r : VRs h vs [x, y]) : TwoI h x y vs := by
  cases r with
  | cons r q => obtain ⟨w, rfl, p⟩ := q.one_inv; exact ⟨_, _, rfl, r, p⟩

theorem ev_bi {X A D σ s k} (Ro : Room A k) {b : Bi} {vs : List Value} {l : List AV} {Q : Post} (R : Rel X D σ s) (r : VRs s.heap vs l) (q : vbi b l σ Q) : EV X A (call b.val vs) D σ s Q := by
  have hA := Ro.hd
  induction l using List.casesOn with
  | nil => exact False.elim q
  | cons x l => induction l using List.casesOn with
    | nil =>
      obtain ⟨v, rfl, p⟩ := r.one_inv
      induction x using AV.casesOn with
      | ref a =>
        obtain rfl := p.ref_inv
        cases b with
        | len =>
          obtain ⟨l, e, hl, q⟩ := q
          obtain ⟨vs, n, h1, p1⟩ := OR.lst_inv (R.objs _ _ e)
          exact Calls.call_len_list h1.isList (by simp [p1.length]; exact hl) (PostR.tok (by simp [p1.length]; exact .int) R q)
        | tuple =>
          obtain ⟨l, e, hl, q⟩ := q
          obtain ⟨vs, n, h1, p1⟩ := OR.lst_inv (R.objs _ _ e)
          refine call_tuple_list h1.isList (fun h' hk => ?_) (by simp [p1.length]; exact hl)
          exact PostR.newTup (tk := s.toks) R (fun b o e => push_keep _ b o (hk b o e)) (isT_push _ _) p1 q
        | sum =>
          obtain ⟨l, ks, e, ei, hb, hl, q⟩ := q
          obtain ⟨vs, n, h1, p1⟩ := OR.lst_inv (R.objs _ _ e)
          exact sum_ev hA h1 p1 ei hb hl fun h' tk t hk => PostR.here (s' := { s with heap := h', toks := tk }) .int R hk rfl rfl q
        | _ => exact False.elim q
      | tup l =>
        obtain ⟨a, vs, n, rfl, ht, p1⟩ := p.tup_inv
        cases b with
        | len =>
          obtain ⟨hl, q⟩ := q
          exact P.len_tuple ht (by simp [p1.length]; exact hl) (PostR.tok (by simp [p1.length]; exact .int) R q)
        | list =>
          obtain ⟨hl, q⟩ := q
          refine call_list_seq a (T := "tuple") (.inr rfl) ht rfl rfl (fun h' c' hk h1 => ?_) (by simp [p1.length]; exact hl)
          exact PostR.newLst (tk := s.toks) R hk (size_free _) h1 p1 q
        | _ => exact False.elim q
      | str x =>
        obtain ⟨_, rfl⟩ := p.str_inv
        cases b with
        | len =>
          obtain ⟨hl, q⟩ := q
          exact P.len_str (by lia) (PostR.tok .int R q)
        | ord =>
          obtain ⟨c, rfl, q⟩ := q
          exact P.ord_of_char (PostR.tok .int R q)
        | _ => exact False.elim q
      | int a =>
        obtain ⟨_, rfl⟩ := p.int_inv
        cases b with
        | abs => exact call_abs_int fun _ _ => PostR.tok .int R q
        | chr =>
          obtain ⟨h0, h1, q⟩ := q
          exact P.chr_of_int (by simp; lia) (PostR.tok .str R q)
        | _ => exact False.elim q
      | _ => exact False.elim q
    | cons y l => induction l using List.casesOn with
      | nil =>
        obtain ⟨v, w, rfl, r1, r2⟩ := r.two_inv
        cases b with
        | max => induction x using AV.casesOn with
          | int a => induction y using AV.casesOn with
            | int b =>
              obtain ⟨_, rfl⟩ := r1.int_inv; obtain ⟨_, rfl⟩ := r2.int_inv
              refine max_two_ints hA fun h' tk hk => ?_
              refine PostR.here (s' := { s with heap := h', toks := tk }) ?_ R hk rfl rfl q
              split <;> exact .int
            | _ => exact False.elim q
          | _ => exact False.elim q
        | _ => exact False.elim q
      | cons _ _ => exact False.elim q

-- methods of lists and texts
inductive Me where
  | append | extend | pop | join
  deriving DecidableEq
noncomputable def Me.name : Me → Str
  | .append => "append"
  | .extend => "extend"
  | .pop => "pop"
  | .join => "join"
noncomputable def Me.id : Me → String
  | .append => "list.append"
  | .extend => "list.extend"
  | .pop => "list.pop"
  | .join => "str.join"
noncomputable def vme (m : Me) (x : AV) (l : List AV) (σ : ASt) (Q : Post) : Prop :=
  match x with
  | .ref a => (match l with
    | [] => (match m with
      | .pop => ∃ l x, σ a = some (.lst (l ++ [x])) ∧ l.length + 1 ≤ sizeLine ∧ Q x (upd σ a (.lst l))
      | _ => False)
    | x :: r => (match r with
      | [] => (match m with
        | .append => ∃ l, σ a = some (.lst l) ∧ l.length ≤ sizeLine ∧ Q .non (upd σ a (.lst (l ++ [x])))
        | .extend => (match x with
          | .ref b => ∃ l m, σ a = some (.lst l) ∧ σ b = some (.lst m) ∧ l.length + m.length ≤ 2 ^ 20 ∧ Q .non (upd σ a (.lst (l ++ m)))
          | _ => False)
        | .pop => (match x with
          | .int i => ∃ x l, i = 0 ∧ σ a = some (.lst (x :: l)) ∧ l.length + 1 ≤ sizeLine ∧ Q x (upd σ a (.lst l))
          | _ => False)
        | _ => False)
      | _ => False))
  | .str x => (match m with
    | .join => (match l with
      | [] => False
      | y :: r => (match r with
        | [] => (match y with
          | .ref a => ∃ l ys, σ a = some (.lst l) ∧ strsOf l = some ys ∧ (ys.map (·.length)).sum + ys.length * x.length ≤ 16777216 ∧ Q (.str (Txt.join x ys)) σ
          | _ => False)
        | _ => False))
    | _ => False)
  | _ => False

theorem list_put {X : Cx} {D σ s} {a : Addr} {l l' : List AV} {vs : List Value} {n : Nat} {Q : Post} {v : Value} {x : AV} (R : Rel X D σ s) (e : σ a = some (.lst l)) (h1 : IsL s.heap a vs.toArray n) {f : Array Value → Array Value} {ws : List Value} (hf : f vs.toArray = ws.toArray) (p : VRs s.heap ws l') (hv : VR s.heap v x)
    (q : Q x (upd σ a (.lst l'))) : PostR VR X D σ s Q v { s with heap := s.heap.update a (Obj.mapSeq f) } := by
  have hs := Heap.SameBut.update s.heap a (Obj.mapSeq f)
  have h2 := IsL.update h1 f
  have tk0 := fun (b : Addr) (o : Obj) (hb : b ≠ a) (ho : s.heap.get? b = some o) => hs.extBut b o hb ho
  obtain ⟨R', T⟩ := R.put (s' := { s with heap := s.heap.update a (Obj.mapSeq f) }) e rfl (o' := .lst l') rfl tk0 (fun tk => ⟨ws, _, by rw [← hf]; exact h2, p.mono tk⟩) rfl rfl
  exact ⟨x, D, _, hv.mono (T.tk R), R', T, q⟩

inductive SnocI (h : Heap) (l : List AV) (x : AV) (vs : List Value) : Prop
  | mk (ws : List Value) (v : Value) (e : vs = ws ++ [v]) (p : VRs h ws l) (q : VR h v x) : SnocI h l x vs
theorem VRs.snoc_inv {h : Heap} {vs : List Value} {l : List AV} {x : AV} (r : VRs h vs (l ++ [x])) : SnocI h l x vs := by
  induction l generalizing vs with
  | nil => obtain ⟨v, e, p⟩ := VRs.one_inv r; exact ⟨[], v, e, .nil, p⟩
  | cons y l ih =>
    cases r with
    | cons a b =>
      obtain ⟨ws, v, rfl, p, q⟩ := ih b
      exact ⟨_ :: ws, v, rfl, .cons a p, q⟩

theorem ev_me {X A D σ s} {m : Me} {v : Value} {x : AV} {vs : List Value} {l : List AV} {Q : Post} (R : Rel X D σ s) (r0 : VR s.heap v x) (r : VRs s.heap vs l) (q : vme m x l σ Q) : EV X A (call (.builtin m.id) (v :: vs)) D σ s Q := by
  induction x using AV.casesOn with
  | ref a =>
    obtain rfl := r0.ref_inv
    induction l using List.casesOn with
    | nil => cases m with
      | pop =>
        cases r
        obtain ⟨l, x, e, hl, q⟩ := q
        obtain ⟨vs, n, h1, p1⟩ := OR.lst_inv (R.objs _ _ e)
        obtain ⟨ws, w, rfl, p2, p3⟩ := p1.snoc_inv
        have hk : (ws ++ [w]).toArray.size - 1 = ws.length := by simp
        have hy : (ws ++ [w]).toArray[(ws ++ [w]).toArray.size - 1]? = some w := by rw [hk]; simp
        refine call_meets F.slot_list_pop ⟨_, h1, rfl⟩ F.entry_list_pop (F.args_list_pop_1 _) (MeetsSeq.list_pop_last _ _ n w hy (by simp [p2.length]; exact hl)) ⟨h1, list_put R e h1 (ws := ws) ?_ p2 p3 q⟩
        rw [hk, kl_erase, List.append_nil]
      | _ => exact False.elim q
    | cons y l => induction l using List.casesOn with
      | nil =>
        obtain ⟨w, rfl, p⟩ := r.one_inv
        cases m with
        | append =>
          obtain ⟨l, e, hl, q⟩ := q
          obtain ⟨vs, n, h1, p1⟩ := OR.lst_inv (R.objs _ _ e)
          exact call_meets F.slot_list_append ⟨_, h1, rfl⟩ F.entry_list_append (F.args_list_append_2 _ _) (list_append _ vs.toArray n w (by simp [p1.length]; exact hl)) ⟨h1, list_put R e h1 (ws := vs ++ [w]) (by simp) (p1.app (.cons p .nil)) .non q⟩
        | extend => induction y using AV.casesOn with
          | ref b =>
            obtain rfl := p.ref_inv
            obtain ⟨l, m, e, e2, hl, q⟩ := q
            obtain ⟨vs, n, h1, p1⟩ := OR.lst_inv (R.objs _ _ e)
            obtain ⟨ws, n2, h2, p2⟩ := OR.lst_inv (R.objs _ _ e2)
            have z1 : vs.toArray.size = l.length := by simp [p1.length]
            have z2 : ws.toArray.size = m.length := by simp [p2.length]
            refine call_meets F.slot_list_extend ⟨_, h1, rfl⟩ F.entry_list_extend (F.args_list_extend_2 _ _) (AutoSeq1.list_extend_list_list_0 _ vs.toArray n _ ws.toArray n2 ?_ (by rw [z1]; unfold sizeLine; lia) (by rw [z1, z2]; unfold sizeLine; lia)) ⟨h1, h2, list_put R e h1 (ws := vs ++ ws) (by simp) (p1.app p2) .non q⟩
            rw [z1, z2]
            simp [Builtin.List.listTooLong, sizeLine]
            lia
          | _ => exact False.elim q
        | pop => induction y using AV.casesOn with
          | int i =>
            obtain ⟨_, rfl⟩ := p.int_inv
            obtain ⟨x, l, rfl, e, hl, q⟩ := q
            obtain ⟨vs, n, h1, p1⟩ := OR.lst_inv (R.objs _ _ e)
            cases p1 with
            | cons p3 p2 =>
              rename_i w ws
              refine call_meets F.slot_list_pop ⟨_, h1, rfl⟩ F.entry_list_pop (F.args_list_pop_2 _ _) (MeetsSeq.list_pop_at _ _ n 0 _ 0 w (by decide) (by simp [seqIndex?]) (by simp) (by simp [p2.length]; exact hl)) ⟨h1, list_put R e h1 (ws := ws) ?_ p2 p3 q⟩
              exact kl_erase [] ws w
          | _ => exact False.elim q
        | _ => exact False.elim q
      | cons _ _ => exact False.elim q
  | str x => cases m with
    | join => induction l using List.casesOn with
      | nil => exact False.elim q
      | cons y l => induction l using List.casesOn with
        | nil => induction y using AV.casesOn with
          | ref a =>
            obtain ⟨_, rfl⟩ := r0.str_inv; obtain ⟨w, rfl, p⟩ := r.one_inv; obtain rfl := p.ref_inv
            obtain ⟨l, ys, e, es, hl, q⟩ := q
            obtain ⟨vs, n, h1, p1⟩ := OR.lst_inv (R.objs _ _ e)
            exact join_list h1.isList (by simpa using strs_are es p1) hl fun _ _ => PostR.tok .str R q
          | _ => exact False.elim q
        | cons _ _ => exact False.elim q
    | _ => exact False.elim q
  | _ => exact False.elim q

end Np

namespace Np

-- the program's parts as this proof sees them
inductive Sk where
  | of | range | enum
  deriving DecidableEq

mutual
inductive IR where
  | non
  | tt (b : Bool)
  | int (i : Int)
  | str (x : Str)
  | loc (i : Nat)
  | glob (k : Nat)
  | bin (o : Operator) (a b : IR)
  | cmp (o : CmpOp) (a b : IR)
  | cm2 (a : IR) (o : CmpOp) (b : IR) (p : CmpOp) (c : IR)
  | and (a b : IR)
  | or (a b : IR)
  | not (a : IR)
  | ite (c a b : IR)
  | tup (l : IRs)
  | lst (l : IRs)
  | dc0 (t : Bool)
  | dc1 (k v : IR)
  | dcs (k v k2 v2 k3 v3 : IR)
  | att (a : IR) (k : Nat)
  | sub (a b : IR)
  | slc (a lo hi : IR)
  | rev (a : IR)
  | bi (b : Bi) (l : IRs)
  | isi (a : IR) (c : Nat)
  | isS (a : IR)
  | fn (f : Nat) (l : IRs)
  | cls (c : Nat) (l : IRs)
  | me (m : Me) (a : IR) (l : IRs)
  | mt (k : Nat) (a : IR) (l : IRs)
  | zipc (a b : IR)
  | comp (cap : List (Option Nat)) (tg : List Nat) (tup : Bool) (sk : Sk) (a b e : IR)
  | dead
inductive IRs where
  | nil
  | cons (a : IR) (l : IRs)
end

inductive Out where
  | next
  | cont
  | ret (x : AV)

mutual
inductive IS where
  | asg (i : Nat) (e : IR)
  | asgT (ts : List Nat) (e : IR)
  | swp (ts : List Nat) (es : IRs)
  | setA (i k : Nat) (e : IR)
  | setA2 (i k j l : Nat) (e : IR)
  | setI (a i e : IR)
  | exp (e : IR)
  | ite (c : IR) (t f : ISs)
  | whl (c : IR) (b : ISs)
  | for (tg : List Nat) (tup : Bool) (sk : Sk) (a b : IR) (body : ISs)
  | ret (e : IR)
  | cont
  | dead
inductive ISs where
  | nil
  | cons (a : IS) (l : ISs)
end

structure CI where
  name : Str
  addr : Addr
  init : Nat
  meths : List (Nat × Nat)
  attrs : List Nat
structure Tab where
  globs : List (Str × AV)
  cls : List CI
  fns : List (Str × Addr)
  isi : List (Addr × Addr)

noncomputable abbrev Spec := Nat → List AV → ASt → Post → Prop

noncomputable def Tab.meth (T : Tab) (C : Addr) (k : Nat) : Option Nat := match T.cls.find? (fun c => decide (c.addr = C)) with
  | some c => c.meths.lookup k
  | none => none

noncomputable def Tab.attr (T : Tab) (C : Addr) (k : Nat) : Bool := match T.cls.find? (fun c => decide (c.addr = C)) with
  | some c => c.attrs.contains k
  | none => false
noncomputable def AV.isVal : AV → Bool
  | .val _ => true
  | _ => false

noncomputable def vget1 (ρ : LE) (i : Nat) (Q : AV → Prop) : Prop := match ρ[i]? with
  | some (some x) => Q x
  | _ => False
-- one of two ways
noncomputable def vif (x : AV) (a b : Prop) : Prop := match x with
  | .bool t => (t = true → a) ∧ (t = false → b)
  | _ => False
noncomputable def vatt (T : Tab) (x : AV) (k : Nat) (σ : ASt) (Q : Post) : Prop := match x with
  | .ref a => ∃ C at_ y, σ a = some (.inst C at_) ∧ T.attr C k = true ∧ aget k at_ = some y ∧ y.isVal = false ∧ Q y σ
  | _ => False
noncomputable def vcls (T : Tab) (W : Spec) (c : Nat) (l : List AV) (σ : ASt) (Q : Post) : Prop := match T.cls[c]? with
  | some ci => ∀ a, σ a = none → W ci.init (.ref a :: l) (upd σ a (.inst ci.addr [])) fun r σ => r = .non ∧ Q (.ref a) σ
  | none => False
noncomputable def vself (m : Me) (x : AV) (σ : ASt) : Prop := match m with
  | .join => (match x with
    | .str _ => True
    | _ => False)
  | _ => (match x with
    | .ref a => ∃ l, σ a = some (.lst l)
    | _ => False)
-- what a loop goes over, and what must stay
noncomputable def enumA : Nat → List AV → List AV
  | _, [] => []
  | n, x :: r => .tup [.int n, x] :: enumA (n + 1) r
noncomputable def atom : AV → Bool
  | .non => true
  | .int _ => true
  | _ => false
noncomputable def zipA : List AV → List AV → List AV
  | x :: r, y :: q => (match x with | .non => y | x => x) :: zipA r q
  | _, _ => []
noncomputable def vzip (x y : AV) (σ : ASt) (Q : Post) : Prop := match x with
  | .ref a => (match y with
    | .tup m => ∃ l, σ a = some (.lst l) ∧ l.all atom = true ∧ m.all atom = true ∧ l.length = m.length ∧ m.length ≤ 1000 ∧ newO σ (.lst (zipA l m)) Q
    | _ => False)
  | _ => False
noncomputable def rangeA (n : Nat) : List AV := (List.range n).map fun i : Nat => .int i
noncomputable def vsrc (k : Sk) (x y : AV) (σ : ASt) (Q : List AV → (ASt → Prop) → Prop) : Prop := match y with
  | .non => (match k with
    | .of => (match x with
      | .ref a => ∃ l, σ a = some (.lst l) ∧ l.length ≤ 100000 ∧ Q l fun σ => σ a = some (.lst l)
      | .tup l => l.length ≤ 100000 ∧ Q l fun _ => True
      | .str s => s.cps.all (· < 128) = true ∧ s.length ≤ 100000 ∧ Q (s.cps.toList.map fun c => .str ⟨#[c]⟩) fun _ => True
      | _ => False)
    | .range => (match x with
      | .int n => (0 ≤ n ∧ n ≤ 1000) ∧ Q (rangeA n.toNat) fun _ => True
      | _ => False)
    | .enum => (match x with
      | .ref a => ∃ l, σ a = some (.lst l) ∧ l.length ≤ 100000 ∧ Q (enumA 0 l) fun σ => σ a = some (.lst l)
      | _ => False))
  | _ => False
noncomputable def vbind : List Nat → List AV → LE → Option LE
  | [], [], ρ => some ρ
  | i :: is, x :: xs, ρ => if i < ρ.length then vbind is xs (ρ.set i (some x)) else none
  | _, _, _ => none
noncomputable def vtg (tg : List Nat) (tup : Bool) (x : AV) (ρ : LE) (Q : LE → Prop) : Prop := match tup with
  | false => (match tg with
    | [] => False
    | i :: r => (match r with
      | [] => (match vbind [i] [x] ρ with
        | some ρ => Q ρ
        | none => False)
      | _ :: _ => False))
  | true => (match x with
    | .tup l => (match vbind tg l ρ with
      | some ρ => Q ρ
      | none => False)
    | _ => False)
noncomputable def vcomp (tg : List Nat) (tup : Bool) (e : LE → ASt → Post → Prop) (G : ASt → Prop) : List AV → LE → ASt → List AV → Post → Prop
  | [], _, σ, acc, Q => G σ ∧ newO σ (.lst acc) Q
  | x :: r, ρ, σ, acc, Q => G σ ∧ vtg tg tup x ρ fun ρ => e ρ σ fun y σ => vcomp tg tup e G r ρ σ (acc ++ [y]) Q
noncomputable def vcap (cap : List (Option Nat)) (ρ : LE) : LE := cap.map fun
  | some j => (ρ[j]?).join
  | none => none

mutual
noncomputable def ve (T : Tab) (W : Spec) : IR → LE → ASt → Post → Prop
  | .non, _, σ, Q => Q .non σ
  | .tt b, _, σ, Q => Q (.bool b) σ
  | .int i, _, σ, Q => Q (.int i) σ
  | .str x, _, σ, Q => Q (.str x) σ
  | .loc i, ρ, σ, Q => vget1 ρ i fun x => Q x σ
  | .glob k, _, σ, Q => match T.globs[k]? with
    | some (_, x) => Q x σ
    | none => False
  | .bin o a b, ρ, σ, Q => ve T W a ρ σ fun x σ => ve T W b ρ σ fun y σ => vbin o x y σ Q
  | .cmp o a b, ρ, σ, Q => ve T W a ρ σ fun x σ => ve T W b ρ σ fun y σ => vcmp o x y σ fun t => Q (.bool t) σ
  | .cm2 a o b p c, ρ, σ, Q => ve T W a ρ σ fun x σ => ve T W b ρ σ fun y σ => vcmp o x y σ fun t => (t = true → ve T W c ρ σ fun z σ => vcmp p y z σ fun u => Q (.bool u) σ) ∧ (t = false → Q (.bool false) σ)
  | .and a b, ρ, σ, Q => ve T W a ρ σ fun x σ => vif x (ve T W b ρ σ Q) (Q (.bool false) σ)
  | .or a b, ρ, σ, Q => ve T W a ρ σ fun x σ => vif x (Q (.bool true) σ) (ve T W b ρ σ Q)
  | .not a, ρ, σ, Q => ve T W a ρ σ fun x σ => match x with
    | .bool t => Q (.bool !t) σ
    | _ => False
  | .ite c a b, ρ, σ, Q => ve T W c ρ σ fun x σ => vif x (ve T W a ρ σ Q) (ve T W b ρ σ Q)
  | .tup l, ρ, σ, Q => vl T W l ρ σ fun xs σ => xs.length ≤ 1000 ∧ Q (.tup xs) σ
  | .lst l, ρ, σ, Q => vl T W l ρ σ fun xs σ => xs.length ≤ 1000 ∧ newO σ (.lst xs) Q
  | .dc0 t, _, σ, Q => newO σ (match t with | true => .dct [] | false => .dcs []) Q
  | .dc1 k v, ρ, σ, Q => ve T W k ρ σ fun x σ => ve T W v ρ σ fun y σ => match x with
    | .str x => newO σ (.dcs [(x, y)]) Q
    | .tup l => ∃ ks, intsOf l = some ks ∧ newO σ (.dct [(ks, y)]) Q
    | _ => False
  | .dcs k v k2 v2 k3 v3, ρ, σ, Q => ve T W k ρ σ fun x σ => ve T W v ρ σ fun y σ => ve T W k2 ρ σ fun x2 σ => ve T W v2 ρ σ fun y2 σ => ve T W k3 ρ σ fun x3 σ => ve T W v3 ρ σ fun y3 σ => match x, x2, x3 with
    | .str x, .str x2, .str x3 => newO σ (.dcs (dpt (dpt [(x, y)] x2 y2) x3 y3)) Q
    | _, _, _ => False
  | .att a k, ρ, σ, Q => ve T W a ρ σ fun x σ => vatt T x k σ Q
  | .sub a b, ρ, σ, Q => ve T W a ρ σ fun x σ => ve T W b ρ σ fun y σ => vget x y σ Q
  | .slc a lo hi, ρ, σ, Q => ve T W a ρ σ fun x σ => ve T W lo ρ σ fun y σ => ve T W hi ρ σ fun z σ => vslc x y z .non σ Q
  | .rev a, ρ, σ, Q => ve T W a ρ σ fun x σ => vslc x .non .non (.int (-1)) σ Q
  | .bi b l, ρ, σ, Q => vl T W l ρ σ fun xs σ => vbi b xs σ Q
  | .isi a c, ρ, σ, Q => ve T W a ρ σ fun x σ => match x, T.cls[c]? with
    | .ref a, some ci => ∃ C at_, σ a = some (.inst C at_) ∧ T.isi.contains (C, ci.addr) = true ∧ Q (.bool false) σ
    | _, _ => False
  | .isS a, ρ, σ, Q => ve T W a ρ σ fun x σ => match x with
    | .str _ => Q (.bool true) σ
    | _ => False
  | .fn f l, ρ, σ, Q => vl T W l ρ σ fun xs σ => W f xs σ Q
  | .cls c l, ρ, σ, Q => vl T W l ρ σ fun xs σ => vcls T W c xs σ Q
  | .me m a l, ρ, σ, Q => ve T W a ρ σ fun x σ => vself m x σ ∧ vl T W l ρ σ fun xs σ => vme m x xs σ Q
  | .mt k a l, ρ, σ, Q => ve T W a ρ σ fun x σ => match x with
    | .ref a => ∃ C at_ f, σ a = some (.inst C at_) ∧ aget k at_ = none ∧ T.meth C k = some f ∧ vl T W l ρ σ fun xs σ => W f (.ref a :: xs) σ Q
    | _ => False
  | .zipc a b, ρ, σ, Q => ve T W a ρ σ fun x σ => ve T W b ρ σ fun y σ => vzip x y σ Q
  | .comp cap tg tup sk a b e, ρ, σ, Q => ve T W a ρ σ fun x σ => ve T W b ρ σ fun y σ => vsrc sk x y σ fun items G => vcomp tg tup (fun ρ σ Q => ve T W e ρ σ Q) G items (vcap cap ρ) σ [] Q
  | .dead, _, _, _ => False
noncomputable def vl (T : Tab) (W : Spec) : IRs → LE → ASt → (List AV → ASt → Prop) → Prop
  | .nil, _, σ, Q => Q [] σ
  | .cons a l, ρ, σ, Q => ve T W a ρ σ fun x σ => vl T W l ρ σ fun xs σ => Q (x :: xs) σ
end

noncomputable abbrev PostS := Out → LE → ASt → Prop
noncomputable def vwh (cond : LE → ASt → Post → Prop) (body : LE → ASt → PostS → Prop) : Nat → LE → ASt → PostS → Prop
  | 0, _, _, _ => False
  | n + 1, ρ, σ, K => cond ρ σ fun x σ => vif x (body ρ σ fun o ρ σ => match o with
    | .ret v => K (.ret v) ρ σ
    | _ => vwh cond body n ρ σ K) (K .next ρ σ)
noncomputable def vfor (tg : List Nat) (tup : Bool) (body : LE → ASt → PostS → Prop) (G : ASt → Prop) : List AV → LE → ASt → PostS → Prop
  | [], ρ, σ, K => G σ ∧ K .next ρ σ
  | x :: r, ρ, σ, K => G σ ∧ vtg tg tup x ρ fun ρ => body ρ σ fun o ρ σ => match o with
    | .ret v => K (.ret v) ρ σ
    | _ => vfor tg tup body G r ρ σ K
noncomputable def vsetA (T : Tab) (x : AV) (k : Nat) (v : AV) (σ : ASt) (Q : ASt → Prop) : Prop := match x with
  | .ref a => ∃ C at_, σ a = some (.inst C at_) ∧ T.attr C k = true ∧ at_.length ≤ 900 ∧ Q (upd σ a (.inst C (aset k v at_)))
  | _ => False
noncomputable def vst (i : Nat) (x : AV) (ρ : LE) (Q : LE → Prop) : Prop := match vbind [i] [x] ρ with
  | some ρ => Q ρ
  | none => False
noncomputable def notRef : AV → Prop
  | .ref _ => False
  | .tup _ => False
  | .val _ => False
  | _ => True

mutual
noncomputable def vs (T : Tab) (W : Spec) : IS → LE → ASt → PostS → Prop
  | .asg i e, ρ, σ, K => ve T W e ρ σ fun x σ => vst i x ρ fun ρ => K .next ρ σ
  | .asgT ts e, ρ, σ, K => ve T W e ρ σ fun x σ => vtg ts true x ρ fun ρ => K .next ρ σ
  | .swp ts es, ρ, σ, K => vl T W es ρ σ fun xs σ => xs.length ≤ 1000 ∧ match vbind ts xs ρ with
    | some ρ => K .next ρ σ
    | none => False
  | .setA i k e, ρ, σ, K => ve T W e ρ σ fun x σ => vget1 ρ i fun y => vsetA T y k x σ fun σ => K .next ρ σ
  | .setA2 i k j l e, ρ, σ, K => ve T W e ρ σ fun x σ => match x with
    | .tup [x, y] => vget1 ρ i fun z => vsetA T z k x σ fun σ => vget1 ρ j fun z => vsetA T z l y σ fun σ => K .next ρ σ
    | _ => False
  | .setI a i e, ρ, σ, K => ve T W e ρ σ fun v σ => ve T W a ρ σ fun x σ => ve T W i ρ σ fun y σ => vset x y v σ fun σ => K .next ρ σ
  | .exp e, ρ, σ, K => ve T W e ρ σ fun x σ => notRef x ∧ K .next ρ σ
  | .ite c t f, ρ, σ, K => ve T W c ρ σ fun x σ => vif x (vss T W t ρ σ K) (vss T W f ρ σ K)
  | .whl c b, ρ, σ, K => vwh (fun ρ σ Q => ve T W c ρ σ Q) (fun ρ σ K => vss T W b ρ σ K) 100 ρ σ K
  | .for tg tup sk a b body, ρ, σ, K => ve T W a ρ σ fun x σ => ve T W b ρ σ fun y σ => vsrc sk x y σ fun items G => vfor tg tup (fun ρ σ K => vss T W body ρ σ K) G items ρ σ K
  | .ret e, ρ, σ, K => ve T W e ρ σ fun x σ => K (.ret x) ρ σ
  | .cont, ρ, σ, K => K .cont ρ σ
  | .dead, _, _, _ => False
noncomputable def vss (T : Tab) (W : Spec) : ISs → LE → ASt → PostS → Prop
  | .nil, ρ, σ, K => K .next ρ σ
  | .cons a l, ρ, σ, K => vs T W a ρ σ fun o ρ σ => match o with
    | .next => vss T W l ρ σ K
    | o => K o ρ σ
end

-- a function: how many names, which of them the arguments go to, the text
structure FnI where
  n : Nat
  ps : List Nat
  dflt : List AV
  body : ISs
noncomputable def vfn (T : Tab) (W : Spec) (F : FnI) (l : List AV) (σ : ASt) (Q : Post) : Prop :=
  match vbind F.ps (l ++ F.dflt) (List.replicate F.n none) with
  | some ρ => vss T W F.body ρ σ fun o _ σ => match o with
    | .ret x => Q x σ
    | .next => Q .non σ
    | .cont => False
  | none => False
noncomputable def vW (T : Tab) (Fs : List FnI) : Nat → Spec
  | 0, _, _, _, _ => False
  | n + 1, f, l, σ, Q => match Fs[f]? with
    | some F => vfn T (vW T Fs n) F l σ Q
    | none => False

end Np

namespace Np

-- frames: what a piece of work may change
structure TrS (S : Addr → Prop) (D : Addr → Addr) (σ : ASt) (s : Shared) (D' : Addr → Addr) (σ' : ASt) (s' : Shared) : Prop where
  keep : ∀ b o, s.heap.get? b = some o → ¬ Own D σ b → ¬ S b → s'.heap.get? b = some o
  fresh : ∀ b, Own D' σ' b → Own D σ b ∨ s.heap.get? b = none
theorem Tr.toS {S D σ s D' σ' s'} (T : Tr D σ s D' σ' s') : TrS S D σ s D' σ' s' := ⟨fun b o e n _ => T.keep b o e n, T.fresh⟩
theorem TrS.refl (S D σ s) : TrS S D σ s D σ s := (Tr.refl D σ s).toS
theorem TrS.trans {S D σ s D' σ' s' D'' σ'' s''} (live : ∀ b, S b → ∃ o, s'.heap.get? b = some o) (x : TrS S D σ s D' σ' s') (y : TrS S D' σ' s' D'' σ'' s'') : TrS S D σ s D'' σ'' s'' := by
  refine ⟨fun b o e n f => ?_, fun b h => ?_⟩
  · refine y.keep b o (x.keep b o e n f) (fun q => ?_) f
    rcases x.fresh b q with q | q
    · exact n q
    · rw [e] at q; cases q
  · rcases y.fresh b h with q | q
    · exact x.fresh b q
    · by_cases z : Own D σ b
      · exact .inl z
      · cases e : s.heap.get? b with
        | none => exact .inr rfl
        | some o =>
          by_cases f : S b
          · obtain ⟨o', ho'⟩ := live b f
            rw [q] at ho'; cases ho'
          · rw [x.keep b o e z f] at q; cases q
theorem TrS.tk {X : Cx} {S D σ s D' σ' s'} (R : Rel X D σ s) (T : TrS S D σ s D' σ' s') (hS : ∀ b, S b → ∀ o, s.heap.get? b = some o → ∀ vs n, o.data ≠ .seq vs n) : TK s.heap s'.heap := by
  intro a o ho hc ⟨vs, n, hd⟩
  refine T.keep a o ho (fun w => ?_) fun q => hS a q o ho vs n hd
  obtain ⟨o', h1, h2, _⟩ := R.notTuple w
  rw [ho] at h1; cases h1; exact h2 hc


theorem EnvR.slotLive {X env ρ D σ h} (hcl : ∀ x c, env.cells.lookup x = some c → ∃ (i : Nat) (k : NameKind), env.scope.names[i]? = some (x, k) ∧ (k = .cell ∨ k = .free)) (e : EnvR X env ρ D σ h) : ∀ b, FrAddr env b → ∃ o, h.get? b = some o ∧ (∀ vs n, o.data ≠ .seq vs n) ∧ o.data ≠ .plain ∧ ¬ Own D σ b ∧ X.base.get? b = none := by
  intro b f
  rcases f with rfl | ⟨x, hx⟩
  · obtain ⟨m, ⟨o, _, _, ho, hd, _⟩, _⟩ := e.loc
    exact ⟨o, ho, fun _ _ q => by (rw [hd] at q; cases q), fun q => by (rw [hd] at q; cases q), e.nown, e.baseFree⟩
  · obtain ⟨i, k, h1, h2⟩ := hcl x b hx
    obtain ⟨c, v, q1, ⟨o, ho, hd⟩, h3, h4, _⟩ := e.cel i x k h1 h2
    rw [hx] at q1; cases q1
    exact ⟨o, ho, fun _ _ q => by (rw [hd] at q; cases q), fun q => by (rw [hd] at q; cases q), h3, h4⟩

-- a store of a name, said by what it changes
theorem ev_storeS {X A env ρ D σ s} {S : Addr → Prop} (E : EnvS env) (e : EnvR X env ρ D σ s.heap) (R : Rel X D σ s) {i : Nat} {x : Str} {k : NameKind} (hx : env.scope.names[i]? = some (x, k)) (hk : k = .local ∨ k = .cell)
    (hS : (k = .local → S env.locals) ∧ (k = .cell → ∀ c, env.cells.lookup x = some c → S c))
    {v : Value} {a : AV} (hv : VR s.heap v a) {P : Unit → Shared → Prop}
    (h : ∀ s', EnvR X env (ρ.set i (some a)) D σ s'.heap → Rel X D σ s' → TrS S D σ s D σ s' → TK s.heap s'.heap → P () s') : wpAny (model pg X.w) A (storeName env x v) P no s := by
  have hlen : i < ρ.length := by rw [e.len]; exact (List.getElem?_eq_some_iff.mp hx).1
  rcases hk with rfl | rfl
  · obtain ⟨⟨m, hn, hl⟩, hc, hw, hab, hle⟩ := e
    obtain ⟨oL, es, ep, hoL, hdL, _⟩ := id hn
    have hcb : X.base.get? env.locals = none := by
      cases q : X.base.get? env.locals with
      | none => rfl
      | some o => exact absurd (Heap.lt_size q) (Nat.not_lt.mpr hab)
    refine wpAny_storeName_local (kindOf_at E hx) hn (fun h' hn' hs' => ?_) (by rw [E.kind]; rfl)
    obtain ⟨R', tk⟩ := R.ext (s' := { s with heap := h', toks := s.toks + 1 }) hw hcb ⟨oL, hoL, fun _ _ q => by (rw [hdL] at q; cases q), fun q => by rw [hdL] at q; cases q⟩ (fun b o hb e => hs'.extBut b o hb e) rfl rfl
    refine h _ ⟨⟨_, hn', fun j y hy b hb => ?_⟩, fun j y kd hy hkd => ?_, hw, hab, by simpa using hle⟩ R' ⟨fun b o e _ f => hs'.extBut b o (fun q => f (q ▸ hS.1 rfl)) e, fun _ q => .inl q⟩ tk
    · by_cases hj : j = i
      · subst hj
        rw [hx] at hy; cases hy
        rw [List.getElem?_set_self hlen] at hb
        cases hb
        exact ⟨v, by simp, hv.mono tk⟩
      · rw [List.getElem?_set_ne (Ne.symm hj)] at hb
        obtain ⟨u, h1, h2⟩ := hl j y hy b hb
        refine ⟨u, ?_, h2.mono tk⟩
        have : y ≠ x := fun q => hj ((E.nod i x .local hx).2 j .local (q ▸ hy))
        rw [if_neg this]; exact h1
    · obtain ⟨c, u, h1, h2, h3, h4, h5⟩ := hc j y kd hy hkd
      refine ⟨c, u, h1, h2.sameBut hs' (E.ncell y c h1), h3, h4, fun b hb => ?_⟩
      have hj : j ≠ i := fun q => by subst q; rw [hx] at hy; cases hy; rcases hkd with q | q <;> cases q
      rw [List.getElem?_set_ne (Ne.symm hj)] at hb
      obtain ⟨z, q1, q2⟩ := h5 b hb
      exact ⟨z, q1, q2.mono tk⟩
  · obtain ⟨⟨m, hn, hl⟩, hc, hw, hab, hle⟩ := e
    obtain ⟨c, u, h1, h2, h3, h4, h5⟩ := hc i x .cell hx (.inl rfl)
    obtain ⟨oc, hoc, hdc⟩ := id h2
    refine wpAny_storeName_cell E.kind (kindOf_at E hx) h1 h2 (fun h' hc' hs' => ?_)
    obtain ⟨R', tk⟩ := R.ext (s' := { s with heap := h' }) h3 h4 ⟨oc, hoc, fun _ _ q => by (rw [hdc] at q; cases q), fun q => by rw [hdc] at q; cases q⟩ (fun b o hb e => hs'.extBut b o hb e) rfl rfl
    refine h _ ⟨⟨m, hn.sameBut hs' (Ne.symm (E.ncell x c h1)), fun j y hy b hb => ?_⟩, fun j y kd hy hkd => ?_, hw, hab, by simpa using hle⟩ R' ⟨fun b o e _ f => hs'.extBut b o (fun q => f (q ▸ hS.2 rfl c h1)) e, fun _ q => .inl q⟩ tk
    · have hj : j ≠ i := fun q => by subst q; rw [hx] at hy; cases hy
      rw [List.getElem?_set_ne (Ne.symm hj)] at hb
      obtain ⟨z, q1, q2⟩ := hl j y hy b hb
      exact ⟨z, q1, q2.mono tk⟩
    · by_cases hj : j = i
      · subst hj
        rw [hx] at hy; cases hy
        refine ⟨c, some v, h1, hc', h3, h4, fun b hb => ?_⟩
        rw [List.getElem?_set_self hlen] at hb
        cases hb
        exact ⟨v, rfl, hv.mono tk⟩
      · obtain ⟨c2, u2, q1, q2, q3, q4, q5⟩ := hc j y kd hy hkd
        have hne : c2 ≠ c := fun q => by
          subst q
          have := E.apart y x c2 q1 h1
          subst this
          exact hj ((E.nod i y .cell hx).2 j kd hy)
        refine ⟨c2, u2, q1, q2.sameBut hs' hne, q3, q4, fun b hb => ?_⟩
        rw [List.getElem?_set_ne (Ne.symm hj)] at hb
        obtain ⟨z, w1, w2⟩ := q5 b hb
        exact ⟨z, w1, w2.mono tk⟩

-- new frames
theorem cf_app : ∀ (names : List (Str × NameKind)) (n : Nat) (acc : List (Str × Addr)), cellsFrom n names acc = cellsFrom n names [] ++ acc
  | [], _, _ => rfl
  | (x, k) :: r, n, acc => by
    unfold cellsFrom
    split
    · rw [cf_app r (n + 1) ((x, n) :: acc), cf_app r (n + 1) [(x, n)]]; simp
    · exact cf_app r n acc
theorem cf_mem : ∀ (names : List (Str × NameKind)) (n : Nat) {x : Str} {c : Addr}, (x, c) ∈ cellsFrom n names [] → (x, NameKind.cell) ∈ names
  | [], _, _, _, h => by cases h
  | (y, k) :: r, n, x, c, h => by
    unfold cellsFrom at h
    split at h
    · rename_i hk
      rw [cf_app] at h
      rcases List.mem_append.mp h with h | h
      · exact .tail _ (cf_mem r _ h)
      · simp at h; obtain ⟨rfl, _⟩ := h; rw [beq_iff_eq.mp hk]; exact .head _
    · exact .tail _ (cf_mem r _ h)
theorem cf_has : ∀ (names : List (Str × NameKind)) (n : Nat) {x : Str}, (x, NameKind.cell) ∈ names → ∃ c, (cellsFrom n names []).lookup x = some c
  | [], _, _, h => by cases h
  | (y, k) :: r, n, x, h => by
    have g : ∀ n, (x, NameKind.cell) ∈ r → ∃ c, (cellsFrom n r []).lookup x = some c := fun n h => cf_has r n h
    unfold cellsFrom
    rcases List.mem_cons.mp h with h | h
    · cases h
      rw [if_pos (by rfl), cf_app, List.lookup_append]
      cases q : (cellsFrom (n + 1) r []).lookup y with
      | some c => exact ⟨c, rfl⟩
      | none => exact ⟨n, by simp⟩
    · split
      · rw [cf_app, List.lookup_append]
        obtain ⟨c, hc⟩ := g (n + 1) h
        exact ⟨c, by rw [hc]; rfl⟩
      · exact g n h

noncomputable def nodupN (names : List (Str × NameKind)) : Prop := (names.map (·.1)).Nodup
theorem nod_of : ∀ {names : List (Str × NameKind)}, nodupN names → ∀ (i : Nat) x k, names[i]? = some (x, k) → names.lookup x = some k ∧ ∀ j k', names[j]? = some (x, k') → j = i
  | [], _, i, x, k, e => by simp at e
  | (y, l) :: r, h, i, x, k, e => by
    have hn := List.nodup_cons.mp h
    have out : ∀ (i : Nat) k, r[i]? = some (y, k) → False := fun i k e => hn.1 (List.mem_map.mpr ⟨(y, k), List.mem_of_getElem? e, rfl⟩)
    induction i using Nat.casesOn with
    | zero =>
      simp at e; obtain ⟨rfl, rfl⟩ := e
      refine ⟨by simp, fun j k' e' => ?_⟩
      induction j using Nat.casesOn with
      | zero => rfl
      | succ j => exact (out j k' (by simpa using e')).elim
    | succ i =>
      simp at e
      obtain ⟨h1, h2⟩ := nod_of hn.2 i x k e
      have hxy : x ≠ y := fun q => out i k (q ▸ e)
      refine ⟨by rw [List.lookup_cons, beq_eq_false_iff_ne.mpr hxy]; exact h1, fun j k' e' => ?_⟩
      induction j using Nat.casesOn with
      | zero => simp at e'; exact (hxy e'.1.symm).elim
      | succ j => rw [h2 j k' (by simpa using e')]

-- what is the same in the frame of a call and in the frame of a list comprehension: a dict of its own, cells of its own, cells of others
structure NewFr (X : Cx) (names names' : List (Str × NameKind)) (cl : List (Str × Addr)) (L : Addr) (h h' : Heap) : Prop where
  nod : nodupN names
  nod' : names'.map (·.1) = names.map (·.1)
  cellk : ∀ (i : Nat) x, names[i]? = some (x, .cell) → names'[i]? = some (x, .cell)
  lock : ∀ (i : Nat) x, names'[i]? = some (x, .local) → names[i]? = some (x, .local)
  ns : h'.Ns L fun _ => none
  Lfree : h.get? L = none
  above : X.base.objs.size ≤ L
  keep : ∀ b o, h.get? b = some o → h'.get? b = some o
  own : CellsOk h' (L + 1) (cellsFrom (L + 1) names [])
  size : h.objs.size = L
  cl_old : ∀ x c, cl.lookup x = some c → ∃ o, h.get? c = some o
  cl_apart : ∀ x y c, cl.lookup x = some c → cl.lookup y = some c → x = y

theorem NewFr.free {X names names' cl L h h'} (N : NewFr X names names' cl L h h') {c : Addr} (hc : L ≤ c) : h.get? c = none := by
  cases q : h.get? c with
  | none => rfl
  | some o => have := Heap.lt_size q; rw [N.size] at this; exact absurd this (Nat.not_lt.mpr hc)

theorem NewFr.look {X names names' cl L h h'} (_N : NewFr X names names' cl L h h') {x : Str} {c : Addr} (e : (cellsFrom (L + 1) names cl).lookup x = some c) : ((cellsFrom (L + 1) names []).lookup x = some c) ∨ ((∀ k, (x, k) ∈ names → k ≠ .cell) ∨ True) ∧ cl.lookup x = some c := by
  rw [cf_app, List.lookup_append] at e
  cases q : (cellsFrom (L + 1) names []).lookup x with
  | some d => rw [q] at e; exact .inl e
  | none => rw [q] at e; exact .inr ⟨.inr trivial, e⟩

theorem NewFr.envS {X names names' cl L h h'} (N : NewFr X names names' cl L h h') {env : Env} (h1 : env.scope.kind = .function) (h2 : env.scope.names = names') (h3 : env.globals = mainGlobals) (h4 : env.builtins = builtinsNs) (h5 : env.locals = L) (h6 : env.cells = cellsFrom (L + 1) names cl) : EnvS env := by
  refine ⟨h1, h3, h4, ?_, ?_, ?_⟩
  · rw [h2]; exact nod_of (by unfold nodupN; rw [N.nod']; exact N.nod)
  · intro x y c e1 e2
    rw [h6] at e1 e2
    rcases N.look e1 with e1 | ⟨_, e1⟩ <;> rcases N.look e2 with e2 | ⟨_, e2⟩
    · exact name_of_addr N.own.apart (mem_of_lookup e1) (mem_of_lookup e2)
    · obtain ⟨o, ho⟩ := N.cl_old _ _ e2
      have := (N.own.empty _ _ (mem_of_lookup e1)).2
      rw [N.free (Nat.le_of_succ_le this)] at ho; cases ho
    · obtain ⟨o, ho⟩ := N.cl_old _ _ e1
      have := (N.own.empty _ _ (mem_of_lookup e2)).2
      rw [N.free (Nat.le_of_succ_le this)] at ho; cases ho
    · exact N.cl_apart x y c e1 e2
  · intro x c e
    rw [h6] at e; rw [h5]
    rcases N.look e with e | ⟨_, e⟩
    · have := (N.own.empty _ _ (mem_of_lookup e)).2
      intro q; subst q; exact absurd this (Nat.not_succ_le_self _)
    · obtain ⟨o, ho⟩ := N.cl_old _ _ e
      intro q; subst q; rw [N.Lfree] at ho; cases ho

theorem NewFr.envR {X names names' cl L D σ} {s s' : Shared} (N : NewFr X names names' cl L s.heap s'.heap) (R : Rel X D σ s) {ρ : LE} (hlen : ρ.length = names.length)
    (hcap : ∀ (i : Nat) x k, names'[i]? = some (x, k) → (k = .cell ∨ k = .free) → names[i]? ≠ some (x, .cell) → ∃ c v, cl.lookup x = some c ∧ s.heap.IsCell c v ∧ ¬ Own D σ c ∧ X.base.get? c = none ∧ ∀ a, ρ[i]? = some (some a) → ∃ u, v = some u ∧ VR s.heap u a)
    (hno : ∀ (i : Nat) x, (names[i]? = some (x, .local) ∨ names[i]? = some (x, .cell)) → ρ[i]? = some none)
    {env : Env} (h2 : env.scope.names = names') (h5 : env.locals = L) (h6 : env.cells = cellsFrom (L + 1) names cl) : EnvR X env ρ D σ s'.heap := by
  have tk : TK s.heap s'.heap := fun a o ho _ _ => N.keep a o ho
  have fr : ∀ c, L ≤ c → ¬ Own D σ c ∧ X.base.get? c = none := fun c hc => by
    have := N.free hc
    exact ⟨fun w => by (obtain ⟨o, ho⟩ := R.live w; rw [this] at ho; cases ho), R.baseFree this⟩
  refine ⟨⟨fun _ => none, h5 ▸ N.ns, ?_⟩, ?_, h5 ▸ (fr L (Nat.le_refl _)).1, h5 ▸ N.above, ?_⟩
  · intro i x hx a ha
    rw [h2] at hx
    rw [hno i x (.inl (N.lock i x hx))] at ha; cases ha
  · intro i x k hx hk
    rw [h2] at hx
    rw [h6]
    by_cases hc : names[i]? = some (x, .cell)
    · obtain ⟨c, hc'⟩ := cf_has names (L + 1) (List.mem_of_getElem? hc)
      have hm := N.own.empty _ _ (mem_of_lookup hc')
      refine ⟨c, none, by rw [cf_app, List.lookup_append, hc']; rfl, hm.1, (fr c (Nat.le_of_succ_le hm.2)).1, (fr c (Nat.le_of_succ_le hm.2)).2, fun a ha => ?_⟩
      rw [hno i x (.inr hc)] at ha; cases ha
    · obtain ⟨c, v, q1, q2, q3, q4, q5⟩ := hcap i x k hx hk hc
      have hnl : (cellsFrom (L + 1) names []).lookup x = none := by
        cases q : (cellsFrom (L + 1) names []).lookup x with
        | none => rfl
        | some d =>
          have hm := cf_mem names _ (mem_of_lookup q)
          obtain ⟨j, hj⟩ := List.getElem?_of_mem hm
          have hi : ∃ k0, names[i]? = some (x, k0) := by
            have h7 : (names'.map (·.1))[i]? = some x := by rw [List.getElem?_map, hx]; rfl
            rw [N.nod', List.getElem?_map, Option.map_eq_some_iff] at h7
            obtain ⟨⟨y, k0⟩, h8, rfl⟩ := h7
            exact ⟨k0, h8⟩
          obtain ⟨k0, hi⟩ := hi
          have := (nod_of N.nod j x .cell hj).2 i k0 hi
          subst this
          exact (hc hj).elim
      obtain ⟨oc, hoc, hdc⟩ := q2
      refine ⟨c, v, by rw [cf_app, List.lookup_append, hnl]; exact q1, ⟨oc, N.keep _ _ hoc, hdc⟩, q3, q4, fun a ha => ?_⟩
      obtain ⟨u, w1, w2⟩ := q5 a ha
      exact ⟨u, w1, w2.mono tk⟩
  · rw [h2, hlen]
    have : names'.length = names.length := by have := congrArg List.length N.nod'; simpa using this
    exact this.symm

end Np

namespace Np
-- the shapes of parts of the text
noncomputable def mName (e : Expr) (f : Str → Bool) : Bool := match e with
  | .Name x _ => f x
  | _ => false
inductive VName (f : Str → Bool) : Expr → Prop
  | mk (x p) (h : f x = true) : VName f (.Name x p)
theorem mName_inv {e f} : mName e f = true → VName f e := by
  cases e with
  | Name x p => exact .mk x p
  | _ => exact Bool.noConfusion
noncomputable def mCst (e : Expr) (f : Const → Bool) : Bool := match e with
  | .Constant c _ _ => f c
  | _ => false
inductive VCst (f : Const → Bool) : Expr → Prop
  | mk (c k p) (h : f c = true) : VCst f (.Constant c k p)
theorem mCst_inv {e f} : mCst e f = true → VCst f e := by
  cases e with
  | Constant c k p => exact .mk c k p
  | _ => exact Bool.noConfusion
noncomputable def mUn (e : Expr) (f : UnaryOp → Expr → Bool) : Bool := match e with
  | .UnaryOp o x _ => f o x
  | _ => false
inductive VUn (f : UnaryOp → Expr → Bool) : Expr → Prop
  | mk (o x p) (h : f o x = true) : VUn f (.UnaryOp o x p)
theorem mUn_inv {e f} : mUn e f = true → VUn f e := by
  cases e with
  | UnaryOp o x p => exact .mk o x p
  | _ => exact Bool.noConfusion
noncomputable def mBin (e : Expr) (f : Expr → Operator → Expr → Bool) : Bool := match e with
  | .BinOp l o r _ => f l o r
  | _ => false
inductive VBin (f : Expr → Operator → Expr → Bool) : Expr → Prop
  | mk (l o r p) (h : f l o r = true) : VBin f (.BinOp l o r p)
theorem mBin_inv {e f} : mBin e f = true → VBin f e := by
  cases e with
  | BinOp l o r p => exact .mk l o r p
  | _ => exact Bool.noConfusion
noncomputable def mCmp (e : Expr) (f : Expr → List CmpOp → List Expr → Bool) : Bool := match e with
  | .Compare l os rs _ => f l os rs
  | _ => false
inductive VCmp (f : Expr → List CmpOp → List Expr → Bool) : Expr → Prop
  | mk (l os rs p) (h : f l os rs = true) : VCmp f (.Compare l os rs p)
theorem mCmp_inv {e f} : mCmp e f = true → VCmp f e := by
  cases e with
  | Compare l os rs p => exact .mk l os rs p
  | _ => exact Bool.noConfusion
noncomputable def mBo (e : Expr) (f : BoolOp → List Expr → Pos → Bool) : Bool := match e with
  | .BoolOp o vs p => f o vs p
  | _ => false
inductive VBo (f : BoolOp → List Expr → Pos → Bool) : Expr → Prop
  | mk (o vs p) (h : f o vs p = true) : VBo f (.BoolOp o vs p)
theorem mBo_inv {e f} : mBo e f = true → VBo f e := by
  cases e with
  | BoolOp o vs p => exact .mk o vs p
  | _ => exact Bool.noConfusion
noncomputable def mIf (e : Expr) (f : Expr → Expr → Expr → Bool) : Bool := match e with
  | .IfExp a b c _ => f a b c
  | _ => false
inductive VIf (f : Expr → Expr → Expr → Bool) : Expr → Prop
  | mk (a b c p) (h : f a b c = true) : VIf f (.IfExp a b c p)
theorem mIf_inv {e f} : mIf e f = true → VIf f e := by
  cases e with
  | IfExp a b c p => exact .mk a b c p
  | _ => exact Bool.noConfusion
noncomputable def mTup (e : Expr) (f : List Expr → Bool) : Bool := match e with
  | .Tuple es _ _ => f es
  | _ => false
inductive VTup (f : List Expr → Bool) : Expr → Prop
  | mk (es k p) (h : f es = true) : VTup f (.Tuple es k p)
theorem mTup_inv {e f} : mTup e f = true → VTup f e := by
  cases e with
  | Tuple es k p => exact .mk es k p
  | _ => exact Bool.noConfusion
noncomputable def mLst (e : Expr) (f : List Expr → Bool) : Bool := match e with
  | .List es _ => f es
  | _ => false
inductive VLst (f : List Expr → Bool) : Expr → Prop
  | mk (es p) (h : f es = true) : VLst f (.List es p)
theorem mLst_inv {e f} : mLst e f = true → VLst f e := by
  cases e with
  | List es p => exact .mk es p
  | _ => exact Bool.noConfusion
noncomputable def mDict (e : Expr) (f : List (Option Expr) → List Expr → Bool) : Bool := match e with
  | .Dict ks vs _ => f ks vs
  | _ => false
inductive VDict (f : List (Option Expr) → List Expr → Bool) : Expr → Prop
  | mk (ks vs p) (h : f ks vs = true) : VDict f (.Dict ks vs p)
theorem mDict_inv {e f} : mDict e f = true → VDict f e := by
  cases e with
  | Dict ks vs p => exact .mk ks vs p
  | _ => exact Bool.noConfusion
noncomputable def mAtt (e : Expr) (f : Expr → Str → Pos → Bool) : Bool := match e with
  | .Attribute o n p => f o n p
  | _ => false
inductive VAtt (f : Expr → Str → Pos → Bool) : Expr → Prop
  | mk (o n p) (h : f o n p = true) : VAtt f (.Attribute o n p)
theorem mAtt_inv {e f} : mAtt e f = true → VAtt f e := by
  cases e with
  | Attribute o n p => exact .mk o n p
  | _ => exact Bool.noConfusion
noncomputable def mSub (e : Expr) (f : Expr → Expr → Bool) : Bool := match e with
  | .Subscript o i _ => f o i
  | _ => false
inductive VSub (f : Expr → Expr → Bool) : Expr → Prop
  | mk (o i p) (h : f o i = true) : VSub f (.Subscript o i p)
theorem mSub_inv {e f} : mSub e f = true → VSub f e := by
  cases e with
  | Subscript o i p => exact .mk o i p
  | _ => exact Bool.noConfusion
noncomputable def mSli (e : Expr) (f : Option Expr → Option Expr → Option Expr → Bool) : Bool := match e with
  | .Slice l u s _ => f l u s
  | _ => false
inductive VSli (f : Option Expr → Option Expr → Option Expr → Bool) : Expr → Prop
  | mk (l u s p) (h : f l u s = true) : VSli f (.Slice l u s p)
theorem mSli_inv {e f} : mSli e f = true → VSli f e := by
  cases e with
  | Slice l u s p => exact .mk l u s p
  | _ => exact Bool.noConfusion
noncomputable def mCall (e : Expr) (f : Expr → List Expr → List Keyword → Pos → Bool) : Bool := match e with
  | .Call g args kws p => f g args kws p
  | _ => false
inductive VCall (f : Expr → List Expr → List Keyword → Pos → Bool) : Expr → Prop
  | mk (g args kws p) (h : f g args kws p = true) : VCall f (.Call g args kws p)
theorem mCall_inv {e f} : mCall e f = true → VCall f e := by
  cases e with
  | Call g args kws p => exact .mk g args kws p
  | _ => exact Bool.noConfusion
noncomputable def mComp (e : Expr) (f : Expr → List Comprehension → Scope → Bool) : Bool := match e with
  | .ListComp elt gens scope _ => f elt gens scope
  | _ => false
inductive VComp (f : Expr → List Comprehension → Scope → Bool) : Expr → Prop
  | mk (elt gens scope p) (h : f elt gens scope = true) : VComp f (.ListComp elt gens scope p)
theorem mComp_inv {e f} : mComp e f = true → VComp f e := by
  cases e with
  | ListComp elt gens scope p => exact .mk elt gens scope p
  | _ => exact Bool.noConfusion
noncomputable def mAsg (e : Stmt) (f : List Expr → Expr → Bool) : Bool := match e with
  | .Assign ts v _ => f ts v
  | _ => false
inductive VAsg (f : List Expr → Expr → Bool) : Stmt → Prop
  | mk (ts v p) (h : f ts v = true) : VAsg f (.Assign ts v p)
theorem mAsg_inv {e f} : mAsg e f = true → VAsg f e := by
  cases e with
  | Assign ts v p => exact .mk ts v p
  | _ => exact Bool.noConfusion
noncomputable def mEx (e : Stmt) (f : Expr → Bool) : Bool := match e with
  | .Expr v _ => f v
  | _ => false
inductive VEx (f : Expr → Bool) : Stmt → Prop
  | mk (v p) (h : f v = true) : VEx f (.Expr v p)
theorem mEx_inv {e f} : mEx e f = true → VEx f e := by
  cases e with
  | Expr v p => exact .mk v p
  | _ => exact Bool.noConfusion
noncomputable def mIfS (e : Stmt) (f : Expr → List Stmt → List Stmt → Bool) : Bool := match e with
  | .If x b o _ => f x b o
  | _ => false
inductive VIfS (f : Expr → List Stmt → List Stmt → Bool) : Stmt → Prop
  | mk (x b o p) (h : f x b o = true) : VIfS f (.If x b o p)
theorem mIfS_inv {e f} : mIfS e f = true → VIfS f e := by
  cases e with
  | If x b o p => exact .mk x b o p
  | _ => exact Bool.noConfusion
noncomputable def mWhl (e : Stmt) (f : Expr → List Stmt → List Stmt → Bool) : Bool := match e with
  | .While x b o _ => f x b o
  | _ => false
inductive VWhl (f : Expr → List Stmt → List Stmt → Bool) : Stmt → Prop
  | mk (x b o p) (h : f x b o = true) : VWhl f (.While x b o p)
theorem mWhl_inv {e f} : mWhl e f = true → VWhl f e := by
  cases e with
  | While x b o p => exact .mk x b o p
  | _ => exact Bool.noConfusion
noncomputable def mFor (e : Stmt) (f : Expr → Expr → List Stmt → List Stmt → Bool) : Bool := match e with
  | .For t i b o _ => f t i b o
  | _ => false
inductive VFor (f : Expr → Expr → List Stmt → List Stmt → Bool) : Stmt → Prop
  | mk (t i b o p) (h : f t i b o = true) : VFor f (.For t i b o p)
theorem mFor_inv {e f} : mFor e f = true → VFor f e := by
  cases e with
  | For t i b o p => exact .mk t i b o p
  | _ => exact Bool.noConfusion
noncomputable def mRet (e : Stmt) (f : Option Expr → Bool) : Bool := match e with
  | .Return v _ => f v
  | _ => false
inductive VRet (f : Option Expr → Bool) : Stmt → Prop
  | mk (v p) (h : f v = true) : VRet f (.Return v p)
theorem mRet_inv {e f} : mRet e f = true → VRet f e := by
  cases e with
  | Return v p => exact .mk v p
  | _ => exact Bool.noConfusion
noncomputable def mCont (e : Stmt) : Bool := match e with
  | .Continue _ => true
  | _ => false
inductive VCont : Stmt → Prop
  | mk (p) : VCont (.Continue p)
theorem mCont_inv {e} : mCont e = true → VCont e := by
  cases e with
  | Continue p => exact fun _ => .mk p
  | _ => exact Bool.noConfusion
noncomputable def mL1 {α : Type} (l : List α) (f : α → Bool) : Bool := match l with
  | [] => false
  | a :: r => match r with
    | [] => f a
    | _ :: _ => false
inductive VL1 {α : Type} (f : α → Bool) : List α → Prop
  | mk (a) (h : f a = true) : VL1 f [a]
theorem mL1_inv {α : Type} {l : List α} {f} : mL1 l f = true → VL1 f l := by
  induction l using List.casesOn with
  | nil => exact Bool.noConfusion
  | cons a l => induction l using List.casesOn with
    | nil => exact .mk a
    | cons b l => exact Bool.noConfusion
noncomputable def mL2 {α : Type} (l : List α) (f : α → α → Bool) : Bool := match l with
  | [] => false
  | a :: r => mL1 r (f a)
inductive VL2 {α : Type} (f : α → α → Bool) : List α → Prop
  | mk (a b) (h : f a b = true) : VL2 f [a, b]
theorem mL2_inv {α : Type} {l : List α} {f} : mL2 l f = true → VL2 f l := by
  induction l using List.casesOn with
  | nil => exact Bool.noConfusion
  | cons a l => exact fun h => by obtain ⟨b, h⟩ := mL1_inv h; exact .mk a b h
noncomputable def mL3 {α : Type} (l : List α) (f : α → α → α → Bool) : Bool := match l with
  | [] => false
  | a :: r => mL2 r (f a)
inductive VL3 {α : Type} (f : α → α → α → Bool) : List α → Prop
  | mk (a b c) (h : f a b c = true) : VL3 f [a, b, c]
theorem mL3_inv {α : Type} {l : List α} {f} : mL3 l f = true → VL3 f l := by
  induction l using List.casesOn with
  | nil => exact Bool.noConfusion
  | cons a l => exact fun h => by obtain ⟨b, c, h⟩ := mL2_inv h; exact .mk a b c h
noncomputable def mS {α : Type} (l : Option α) (f : α → Bool) : Bool := match l with
  | none => false
  | some a => f a
inductive VS {α : Type} (f : α → Bool) : Option α → Prop
  | mk (a) (h : f a = true) : VS f (some a)
theorem mS_inv {α : Type} {l : Option α} {f} : mS l f = true → VS f l := by
  induction l using Option.casesOn with
  | none => exact Bool.noConfusion
  | some a => exact .mk a
theorem mS_some {α : Type} {l : Option α} {f} (h : mS l f = true) : ∃ a, l = some a ∧ f a = true := by obtain ⟨a, h⟩ := mS_inv h; exact ⟨a, rfl, h⟩
theorem b2 {a b : Bool} (h : (a && b) = true) : a = true ∧ b = true := Bool.and_eq_true_iff.mp h
theorem b3 {a b c : Bool} (h : (a && b && c) = true) : a = true ∧ b = true ∧ c = true := let ⟨x, y⟩ := b2 h; let ⟨x, z⟩ := b2 x; ⟨x, z, y⟩
theorem b4 {a b c d : Bool} (h : (a && b && c && d) = true) : a = true ∧ b = true ∧ c = true ∧ d = true := let ⟨x, y⟩ := b2 h; let ⟨p, q, r⟩ := b3 x; ⟨p, q, r, y⟩
theorem b5 {a b c d e : Bool} (h : (a && b && c && d && e) = true) : a = true ∧ b = true ∧ c = true ∧ d = true ∧ e = true := let ⟨x, y⟩ := b2 h; let ⟨p, q, r, s⟩ := b4 x; ⟨p, q, r, s, y⟩
theorem b6 {a b c d e f : Bool} (h : (a && b && c && d && e && f) = true) : a = true ∧ b = true ∧ c = true ∧ d = true ∧ e = true ∧ f = true := let ⟨x, y⟩ := b2 h; let ⟨p, q, r, s, t⟩ := b5 x; ⟨p, q, r, s, t, y⟩
theorem b7 {a b c d e f g : Bool} (h : (a && b && c && d && e && f && g) = true) : a = true ∧ b = true ∧ c = true ∧ d = true ∧ e = true ∧ f = true ∧ g = true := let ⟨x, y⟩ := b2 h; let ⟨p, q, r, s, t, u⟩ := b6 x; ⟨p, q, r, s, t, u, y⟩
theorem b8 {a b c d e f g i : Bool} (h : (a && b && c && d && e && f && g && i) = true) : a = true ∧ b = true ∧ c = true ∧ d = true ∧ e = true ∧ f = true ∧ g = true ∧ i = true := let ⟨x, y⟩ := b2 h; let ⟨p, q, r, s, t, u, v⟩ := b7 x; ⟨p, q, r, s, t, u, v, y⟩
theorem bnot {a : Bool} (h : (!a) = true) : a = false := by cases a <;> first | rfl | cases h

end Np

namespace Np

noncomputable def Soft (o : Obj) : Prop := ¬ (o.cls = .type "tuple" ∧ ∃ vs n, o.data = .seq vs n) ∧ o.data ≠ .plain
theorem soft_of {o : Obj} (h : (∀ vs n, o.data ≠ .seq vs n) ∧ o.data ≠ .plain) : Soft o := ⟨fun ⟨_, vs, n, e⟩ => h.1 vs n e, h.2⟩
-- nothing owned is touched, but a few places of the machine's own
theorem Rel.extS {X : Cx} {D σ s s'} (R : Rel X D σ s) {S : Addr → Prop} (hS : ∀ b, S b → ¬ Own D σ b ∧ X.base.get? b = none ∧ (∀ o, s.heap.get? b = some o → Soft o))
    (k : ∀ b o, ¬ S b → s.heap.get? b = some o → s'.heap.get? b = some o) (g : s'.gens = s.gens) (os : s'.os = s.os) : Rel X D σ s' ∧ TK s.heap s'.heap := by
  have tk : TK s.heap s'.heap := fun a o ho hc hs => k a o (fun e => ((hS a e).2.2 o ho).1 ⟨hc, hs⟩) ho
  refine ⟨⟨fun b o e => k b o (fun q => by rw [(hS b q).2.1] at e; cases e) (R.base b o e), fun a o e => ?_, R.ownb, R.inj, R.sep, g.trans R.gens, os.trans R.os⟩, tk⟩
  refine (R.objs a o e).keeps tk (fun ob ho => k a ob (fun q => ?_) ho) fun C at_ q => ⟨rfl, fun ob ho => k _ ob (fun z => ?_) ho⟩
  · cases o with
    | inst C at_ => exact ((hS a q).2.2 ob ho).2 (by have := (R.objs _ _ e).1; rw [ho] at this; cases this; rfl)
    | lst => exact (hS a q).1 (.inl ⟨_, e, rfl⟩)
    | dcs => exact (hS a q).1 (.inl ⟨_, e, rfl⟩)
    | dct => exact (hS a q).1 (.inl ⟨_, e, rfl⟩)
    | fro l => obtain ⟨vs, n, hq, _⟩ := R.objs _ _ e; cases (hS a q).2.1.symm.trans hq
  · subst q; exact (hS _ z).1 (.inr ⟨a, C, at_, e, rfl⟩)

theorem EnvR.keeps2 {X env ρ D σ h h'} (e : EnvR X env ρ D σ h) (tk : TK h h') (k : ∀ b o, FrAddr env b → h.get? b = some o → h'.get? b = some o) : EnvR X env ρ D σ h' := by
  obtain ⟨⟨m, hn, hl⟩, hc, hw, ha, hlen⟩ := e
  refine ⟨⟨m, hn.at' fun o e => k _ o (.inl rfl) e, fun i x hx a ha => ?_⟩, fun i x kd hx hk => ?_, hw, ha, hlen⟩
  · obtain ⟨v, h1, h2⟩ := hl i x hx a ha
    exact ⟨v, h1, h2.mono tk⟩
  · obtain ⟨c, v, h1, ⟨o, ho, hd⟩, h3, h4, h5⟩ := hc i x kd hx hk
    refine ⟨c, v, h1, ⟨o, k _ _ (.inr ⟨x, h1⟩) ho, hd⟩, h3, h4, fun a ha => ?_⟩
    obtain ⟨u, q1, q2⟩ := h5 a ha
    exact ⟨u, q1, q2.mono tk⟩

-- targets
noncomputable def ctn (N : List (Str × NameKind)) (i : Nat) (e : Expr) : Bool := mName e fun x => mS N[i]? fun p => decide (p.1 = x) && (p.2 == .local || p.2 == .cell)
noncomputable def ctl (N : List (Str × NameKind)) : List Nat → List Expr → Bool
  | [], es => es.isEmpty
  | i :: is, es => match es with
    | [] => false
    | e :: es => ctn N i e && ctl N is es
noncomputable def ctg (N : List (Str × NameKind)) (tg : List Nat) (tup : Bool) (e : Expr) : Bool := match tup with
  | false => mL1 tg fun i => ctn N i e
  | true => mTup e fun es => ctl N tg es
noncomputable def TgS (env : Env) (tg : List Nat) (S : Addr → Prop) : Prop := ∀ i ∈ tg, ∀ x k, env.scope.names[i]? = some (x, k) → (k = .local → S env.locals) ∧ (k = .cell → ∀ c, env.cells.lookup x = some c → S c)
theorem TgS.all (env : Env) (tg : List Nat) : TgS env tg (FrAddr env) := fun _ _ x k _ => ⟨fun _ => .inl rfl, fun _ c hc => .inr ⟨x, hc⟩⟩

theorem ctn_inv {N : List (Str × NameKind)} {i : Nat} {e : Expr} (h : ctn N i e = true) : ∃ x p k, e = .Name x p ∧ N[i]? = some (x, k) ∧ (k = .local ∨ k = .cell) := by
  obtain ⟨x, p, h⟩ := mName_inv h
  obtain ⟨⟨y, k⟩, hN, h⟩ := mS_some h
  obtain ⟨h1, h2⟩ := b2 h
  obtain rfl : y = x := of_decide_eq_true h1
  refine ⟨_, p, k, rfl, hN, ?_⟩
  rcases Bool.or_eq_true_iff.mp h2 with h | h
  · exact .inl (beq_iff_eq.mp h)
  · exact .inr (beq_iff_eq.mp h)

structure StoreP (X : Cx) (env : Env) (S : Addr → Prop) (ρ' : LE) (D : Addr → Addr) (σ : ASt) (s s' : Shared) : Prop where
  e : EnvR X env ρ' D σ s'.heap
  R : Rel X D σ s'
  T : TrS S D σ s D σ s'
  tk : TK s.heap s'.heap

theorem ev_tn {X A env ρ D σ s} {S : Addr → Prop} (E : EnvS env) (e : EnvR X env ρ D σ s.heap) (R : Rel X D σ s) {i : Nat} {t : Expr} (h : ctn env.scope.names i t = true) (hS : TgS env [i] S)
    {v : Value} {a : AV} (hv : VR s.heap v a) {P : Unit → Shared → Prop} (hP : ∀ s', StoreP X env S (ρ.set i (some a)) D σ s s' → P () s') : wpAny (model pg X.w) A (assign t env v) P no s := by
  obtain ⟨x, p, k, rfl, hN, hk⟩ := ctn_inv h
  exact PySem.wpAny_assign_Name (ev_storeS E e R hN hk (hS i (.head _) x k hN) hv fun s' h1 h2 h3 h4 => hP s' ⟨h1, h2, h3, h4⟩)

inductive VCons (h : Heap) (x : AV) (xs : List AV) : List Value → Prop
  | mk (v ws) (r : VR h v x) (rs : VRs h ws xs) : VCons h x xs (v :: ws)
theorem VRs.cons_inv {h : Heap} {vs : List Value} {x : AV} {xs : List AV} (r : VRs h vs (x :: xs)) : VCons h x xs vs := by
  cases r with
  | cons r rs => exact .mk _ _ r rs
inductive VBind : List Nat → List AV → LE → LE → Prop
  | nil {ρ} : VBind [] [] ρ ρ
  | cons {i is x xs ρ ρ'} (c : i < ρ.length) (h : VBind is xs (ρ.set i (some x)) ρ') : VBind (i :: is) (x :: xs) ρ ρ'
theorem VBind.of {is : List Nat} : ∀ {xs : List AV} {ρ ρ' : LE}, vbind is xs ρ = some ρ' → VBind is xs ρ ρ' := by
  induction is using List.rec with
  | nil =>
    intro xs ρ ρ' h
    rcases xs with _ | ⟨x, xs⟩
    · cases h; exact .nil
    · cases h
  | cons i is ih =>
    intro xs ρ ρ' h
    rcases xs with _ | ⟨x, xs⟩
    · cases h
    · by_cases c : i < ρ.length
      · exact .cons c (ih ((if_pos c).symm.trans h))
      · cases (if_neg c).symm.trans h
theorem VBind.eq {is : List Nat} {xs : List AV} {ρ ρ' : LE} (h : VBind is xs ρ ρ') : vbind is xs ρ = some ρ' := by
  induction h with
  | nil => rfl
  | cons c _ ih => exact (if_pos c).trans ih
theorem VBind.len {tg : List Nat} {xs : List AV} {ρ ρ' : LE} (h : VBind tg xs ρ ρ') : tg.length = xs.length := by
  induction h with
  | nil => rfl
  | cons c _ ih => exact congrArg Nat.succ ih
theorem vbind_len {tg : List Nat} {xs : List AV} {ρ ρ' : LE} (h : vbind tg xs ρ = some ρ') : tg.length = xs.length := (VBind.of h).len
theorem ctl_each {N : List (Str × NameKind)} {tg : List Nat} {es : List Expr} (h : ctl N tg es = true) (env) : (assignEach es env).length = tg.length ∧ (∀ p ∈ assignEach es env, p.1 = false) ∧ (assignEach es env).map (·.2) = es.map (fun e => assign e env) := by
  induction tg generalizing es with
  | nil => rcases es with _ | ⟨e, es⟩
           · exact ⟨rfl, fun _ h => (by cases h), rfl⟩
           · cases h
  | cons i is ih => rcases es with _ | ⟨e, es⟩
                    · cases h
                    · replace h := b2 h
                      obtain ⟨h1, h2⟩ := h
                      replace h1 := ctn_inv h1
                      obtain ⟨x, p, k, rfl, _⟩ := h1
                      obtain ⟨g1, g2, g3⟩ := ih h2
                      have : assignEach (.Name x p :: es) env = (false, assign (.Name x p) env) :: assignEach es env := by first | rfl | rw [assignEach] | simp [assignEach]
                      rw [this]
                      refine ⟨congrArg Nat.succ g1, fun q hq => ?_, congrArg (_ :: ·) g3⟩
                      rcases List.mem_cons.mp hq with rfl | hq
                      · rfl
                      · exact g2 q hq

theorem ev_tl {X A env D σ} {S : Addr → Prop} (E : EnvS env) (live : ∀ b, S b → FrAddr env b) (hcl : ∀ x c, env.cells.lookup x = some c → ∃ (i : Nat) (k : NameKind), env.scope.names[i]? = some (x, k) ∧ (k = .cell ∨ k = .free)) {tg : List Nat} {xs : List AV} {ρ ρ' : LE} (hb : VBind tg xs ρ ρ') : ∀ {es : List Expr} {s : Shared} {vs : List Value} {P : Unit → Shared → Prop}, EnvR X env ρ D σ s.heap → Rel X D σ s → ctl env.scope.names tg es = true → TgS env tg S → VRs s.heap vs xs →
    (∀ s', StoreP X env S ρ' D σ s s' → P () s') → wpAny (model pg X.w) A (assignInOrder (es.map fun e => assign e env) vs) P no s := by
  induction hb with
  | nil =>
    intro es s vs P e R h _ r hP
    rcases es with _ | ⟨t, es⟩
    · cases r; exact assignInOrder_nil (hP s ⟨e, R, TrS.refl .., fun _ _ h _ _ => h⟩)
    · cases h
  | cons _ _ ih =>
    intro es s vs P e R h hS r hP
    rcases es with _ | ⟨t, es⟩
    · cases h
    · replace r := r.cons_inv
      obtain ⟨v, ws, r, rs⟩ := r
      obtain ⟨h1, h2⟩ := b2 h
      refine assignInOrder_cons (ev_tn E e R h1 (fun j hj => hS j (by rw [List.mem_singleton.mp hj]; exact .head _)) r fun s' Z => ?_)
      exact ih Z.e Z.R h2 (fun j hj => hS j (.tail _ hj)) (rs.mono Z.tk) fun s'' Z' => hP s'' ⟨Z'.e, Z'.R, Z.T.trans (fun b hb => let ⟨o, ho, _⟩ := Z.e.slotLive hcl b (live b hb); ⟨o, ho⟩) Z'.T, fun a o h1 h2 h3 => Z'.tk a o (Z.tk a o h1 h2 h3) h2 h3⟩

noncomputable abbrev CellsIn (env : Env) : Prop := ∀ x c, env.cells.lookup x = some c → ∃ (i : Nat) (k : NameKind), env.scope.names[i]? = some (x, k) ∧ (k = .cell ∨ k = .free)

theorem StoreP.pre {X env S ρ D σ} {s s1 s2 : Shared} (R : Rel X D σ s) (k : ∀ b o, s.heap.get? b = some o → s1.heap.get? b = some o) (Z : StoreP X env S ρ D σ s1 s2) : StoreP X env S ρ D σ s s2 :=
  ⟨Z.e, Z.R, ⟨fun b o e n f => Z.T.keep b o (k b o e) n f, fun _ h => .inl h⟩, fun a o e c d => Z.tk a o (k a o e) c d⟩

-- a target of a loop or an assignment
theorem ev_tg {X A env ρ D σ s k} {S : Addr → Prop} (Ro : Room A k) (E : EnvS env) (hcl : CellsIn env) (live : ∀ b, S b → FrAddr env b) (e : EnvR X env ρ D σ s.heap) (R : Rel X D σ s) {tg : List Nat} {tup : Bool} {t : Expr} (h : ctg env.scope.names tg tup t = true) (hS : TgS env tg S)
    {v : Value} {a : AV} (hv : VR s.heap v a) {Q : LE → Prop} (q : vtg tg tup a ρ Q) {P : Unit → Shared → Prop} (hP : ∀ ρ' s', Q ρ' → StoreP X env S ρ' D σ s s' → P () s') : wpAny (model pg X.w) A (assign t env v) P no s := by
  induction tup using Bool.casesOn with
  | false => induction tg using List.casesOn with
    | nil => exact False.elim q
    | cons i r => induction r using List.casesOn with
      | nil =>
        have q : (match (if i < ρ.length then some (ρ.set i (some a)) else none) with | some ρ => Q ρ | none => False) := q
        by_cases hi : i < ρ.length
        · rw [if_pos hi] at q
          exact ev_tn E e R h hS hv fun s' Z => hP _ s' q Z
        · rw [if_neg hi] at q
          exact q.elim
      | cons _ _ => exact False.elim q
  | true =>
    obtain ⟨es, kk, p, h⟩ := mTup_inv h
    induction a using AV.casesOn with
    | tup l =>
      obtain ⟨T, vs, n, rfl, hT, rs⟩ := hv.tup_inv
      have q : (match vbind tg l ρ with | some ρ => Q ρ | none => False) := q
      cases hb : vbind tg l ρ with
      | none => rw [hb] at q; exact q.elim
      | some ρ' =>
        rw [hb] at q
        obtain ⟨g1, g2, g3⟩ := ctl_each h env
        refine PySem.wpAny_assign_Tuple Ro.hd ⟨_, hT, rfl, n, rfl⟩ ?_ ?_ fun h' hx => ?_
        · rw [g1, vbind_len hb, ← rs.length]; simp
        · rw [List.findIdx?_eq_none_iff]; intro p hp; simp [g2 p hp]
        · rw [g3]
          have hk : ∀ b o, s.heap.get? b = some o → h'.get? b = some o := fun b o e => hx b o (Nat.ne_of_lt (Heap.lt_size e)) e
          have tk : TK s.heap h' := fun a o e _ _ => hk a o e
          exact ev_tl E live hcl (.of hb) (s := { s with heap := h' }) (e.keeps2 tk fun b o _ e => hk b o e) (R.all (s' := { s with heap := h' }) hk rfl rfl) h hS (rs.mono tk) fun s' Z => hP ρ' s' q (Z.pre R hk)
    | _ => exact False.elim q

end Np

namespace Np

-- going over things
structure It (X : Cx) (A : Around) (t : Expr) (I : Value) (fp wr : List Addr) (items : List AV) (G : ASt → Prop) (St : Nat → Heap → Prop) (Md : Nat → Value → Heap → Prop) : Prop where
  sub : ∀ b ∈ wr, b ∈ fp
  frame : ∀ i h h', St i h → TK h h' → (∀ b ∈ fp, ∀ o, h.get? b = some o → h'.get? b = some o) → St i h'
  wrOk : ∀ i h b, St i h → b ∈ wr → ∃ o, h.get? b = some o ∧ (∀ vs n, o.data ≠ .seq vs n) ∧ o.data ≠ .plain
  item : ∀ i D σ s (Q : Option Value → Shared → Prop), Rel X D σ s → G σ → St i s.heap → i < items.length →
    (∀ v h' tk, Md i v h' → (∀ b o, b ∉ wr → s.heap.get? b = some o → h'.get? b = some o) → Q (some v) { s with heap := h', toks := tk }) → wpAny (model pg X.w) A (pyNext I) Q no s
  wrMd : ∀ i v h b, Md i v h → b ∈ wr → ∃ o, h.get? b = some o ∧ (∀ vs n, o.data ≠ .seq vs n) ∧ o.data ≠ .plain
  go : ∀ i v s (Q : Unit → Shared → Prop), Md i v s.heap →
    (∀ h' x, items[i]? = some x → VR h' v x → St (i + 1) h' → (∀ b o, b ∉ wr → s.heap.get? b = some o → h'.get? b = some o) → Q () { s with heap := h' }) → wpAny (model pg X.w) A (letOwnedTupleGo t I v) Q no s
  self : ∀ i D σ s (Q : Value → Shared → Prop), Rel X D σ s → G σ → St i s.heap → Q I s → wpAny (model pg X.w) A (pyIter I) Q no s
  done : ∀ D σ s (Q : Option Value → Shared → Prop), Rel X D σ s → G σ → St items.length s.heap →
    (∀ h' tk, (∀ b o, b ∉ wr → s.heap.get? b = some o → h'.get? b = some o) → Q none { s with heap := h', toks := tk }) → wpAny (model pg X.w) A (pyNext I) Q no s

noncomputable def okT (t : Expr) : Prop := (∃ x p, t = .Name x p) ∨ ∃ es k p, t = .Tuple es k p
theorem ctg_okT {N tg tup t} (h : ctg N tg tup t = true) : okT t := by
  cases tup with
  | false => obtain ⟨i, h⟩ := mL1_inv h; obtain ⟨x, p, k, rfl, _⟩ := ctn_inv h; exact .inl ⟨_, _, rfl⟩
  | true => obtain ⟨es, kk, p, h⟩ := mTup_inv h; exact .inr ⟨_, _, _, rfl⟩

-- of an iterator that owns no tuple
theorem go_plain {X : Cx} {A : Around} {s : Shared} {t : Expr} {I : Addr} {v : Value} {o : Obj} {n : String} {Q : Unit → Shared → Prop} (hT : okT t) (ho : s.heap.get? I = some o) (hc : o.cls = .type n)
    (hn : ["enumerate", "zip", "dict_itemiterator", "dict_reverseitemiterator", "odict_iterator", "itertools.zip_longest", "itertools.pairwise"].contains n = false) (hQ : Q () s) : wpAny (model pg X.w) A (letOwnedTupleGo t (.ref I) v) Q no s := by
  rcases hT with ⟨x, p, rfl⟩ | ⟨es, k, p, rfl⟩
  · exact wpAny_pure hQ
  · unfold letOwnedTupleGo
    cases v with
    | ref a =>
      refine wpAny_bind (wpAny_load ho ?_)
      rw [hc]
      cases hd : o.data with
      | fields vs =>
        dsimp only
        rw [if_neg (by rw [hn]; simp)]
        exact wpAny_pure hQ
      | _ => exact wpAny_pure hQ
    | _ => exact wpAny_pure hQ

theorem It.list {X A} (hA : A.handled = none) {t : Expr} (hT : okT t) {I a : Addr} (hne : a ≠ I) (l : List AV) :
    It X A t (.ref I) [I] [I] l (fun σ => σ a = some (.lst l)) (fun i h => h.IsListIter I a i) (fun i v h => ∃ x, l[i]? = some x ∧ VR h v x ∧ h.IsListIter I a (i + 1)) where
  sub := fun _ h => h
  frame := fun i h h' ⟨o, ho, r⟩ _ k => ⟨o, k I (.head _) o ho, r⟩
  wrOk := fun i h b qq1 hb => by
    obtain ⟨o, ho, _, hd⟩ := qq1
    rw [List.mem_singleton.mp hb]
    exact ⟨o, ho, fun _ _ q => by (rw [hd] at q; cases q), fun q => by rw [hd] at q; cases q⟩
  wrMd := fun i v h b qq1 hb => by
    obtain ⟨_, _, _, o, ho, _, hd⟩ := qq1
    rw [List.mem_singleton.mp hb]
    exact ⟨o, ho, fun _ _ q => by (rw [hd] at q; cases q), fun q => by rw [hd] at q; cases q⟩
  item := fun i D σ s Q R g st hi hQ => by
    obtain ⟨vs, n, h1, p⟩ := OR.lst_inv (R.objs _ _ g)
    refine (Walks.list hA I a hne vs.toArray).item i s Q no (by simp [p.length]; exact hi) ⟨st, h1.isList⟩ fun v h' tk hv st' hk => hQ v h' tk ?_ hk
    have hv' : vs[i]? = some v := by simpa using hv
    obtain ⟨x, hx, r⟩ := p.getV hv'
    refine ⟨x, hx, r.mono fun b o ho hc hs => hk b o (fun q => ?_) ho, st'.1⟩
    obtain ⟨o', ho', hc', _⟩ := st
    rw [List.mem_singleton.mp q, ho'] at ho; cases ho
    rw [hc'] at hc; exact absurd hc (by decide)
  go := fun i v s Q qq1 hQ => by
    obtain ⟨x, hx, r, st⟩ := qq1
    obtain ⟨o, ho, hc, _⟩ := id st
    exact go_plain hT ho hc (by decide) (hQ s.heap x hx r st fun _ _ _ e => e)
  self := fun i D σ s Q R g st hQ => by
    obtain ⟨vs, n, h1, p⟩ := OR.lst_inv (R.objs _ _ g)
    exact (Walks.list hA I a hne vs.toArray).self i s Q no ⟨st, h1.isList⟩ hQ
  done := fun D σ s Q R g st hQ => by
    obtain ⟨vs, n, h1, p⟩ := OR.lst_inv (R.objs _ _ g)
    exact (Walks.list hA I a hne vs.toArray).done s Q no (by simp [p.length]; exact ⟨st, h1.isList⟩) hQ

theorem notTup_keep {h h' : Heap} {I : Addr} {wr : List Addr} (hwr : ∀ b ∈ wr, ∃ o, h.get? b = some o ∧ (∀ vs n, o.data ≠ .seq vs n) ∧ o.data ≠ .plain) (hk : ∀ b o, b ∉ wr → h.get? b = some o → h'.get? b = some o) : TK h h' := by
  let _ := I
  intro b o ho _ ⟨vs, n, hd⟩
  refine hk b o (fun q => ?_) ho
  obtain ⟨o', ho', h1, _⟩ := hwr b q
  rw [ho'] at ho; cases ho; exact h1 vs n hd

theorem It.tup {X A} (hA : A.handled = none) {t : Expr} (hT : okT t) {I a : Addr} (hne : a ≠ I) {vs : List Value} {n : Nat} (l : List AV) (hl : vs.length = l.length) :
    It X A t (.ref I) [I] [I] l (fun _ => True) (fun i h => h.IsTupleIter I a i ∧ IsT h a vs.toArray n ∧ VRs h vs l) (fun i v h => ∃ x, l[i]? = some x ∧ VR h v x ∧ h.IsTupleIter I a (i + 1) ∧ IsT h a vs.toArray n ∧ VRs h vs l) where
  sub := fun _ h => h
  frame := fun i h h' ⟨⟨o, ho, r⟩, ht, rs⟩ tk k => ⟨⟨o, k I (.head _) o ho, r⟩, tk _ _ ht rfl ⟨_, _, rfl⟩, rs.mono tk⟩
  wrOk := fun i h b qq1 hb => by
    obtain ⟨⟨o, ho, _, hd⟩, _⟩ := qq1
    rw [List.mem_singleton.mp hb]
    exact ⟨o, ho, fun _ _ q => by (rw [hd] at q; cases q), fun q => by rw [hd] at q; cases q⟩
  wrMd := fun i v h b qq1 hb => by
    obtain ⟨_, _, _, ⟨o, ho, _, hd⟩, _⟩ := qq1
    rw [List.mem_singleton.mp hb]
    exact ⟨o, ho, fun _ _ q => by (rw [hd] at q; cases q), fun q => by rw [hd] at q; cases q⟩
  item := fun i D σ s Q R g st hi hQ => by
    obtain ⟨st, ht, p⟩ := st
    refine (Walks.tuple hA I a hne vs.toArray).item i s Q no (by simp [hl]; exact hi) ⟨st, ⟨_, ht, rfl, n, rfl⟩⟩ fun v h' tk hv st' hk => hQ v h' tk ?_ hk
    have hv' : vs[i]? = some v := by simpa using hv
    obtain ⟨x, hx, r⟩ := p.getV hv'
    have tk : TK s.heap h' := notTup_keep (I := I) (wr := [I]) (fun b hb => by
      obtain ⟨o, ho, _, hd⟩ := st
      rw [List.mem_singleton.mp hb]
      exact ⟨o, ho, fun _ _ q => by (rw [hd] at q; cases q), fun q => by rw [hd] at q; cases q⟩) hk
    exact ⟨x, hx, r.mono tk, st'.1, tk _ _ ht rfl ⟨_, _, rfl⟩, p.mono tk⟩
  go := fun i v s Q qq1 hQ => by
    obtain ⟨x, hx, r, st, q⟩ := qq1
    obtain ⟨o, ho, hc, _⟩ := id st
    exact go_plain hT ho hc (by decide) (hQ s.heap x hx r ⟨st, q⟩ fun _ _ _ e => e)
  self := fun i D σ s Q R g st hQ => by
    obtain ⟨st, ht, p⟩ := st
    exact (Walks.tuple hA I a hne vs.toArray).self i s Q no ⟨st, ⟨_, ht, rfl, n, rfl⟩⟩ hQ
  done := fun D σ s Q R g st hQ => by
    obtain ⟨st, ht, p⟩ := st
    exact (Walks.tuple hA I a hne vs.toArray).done s Q no (by simp [hl]; exact ⟨st, ⟨_, ht, rfl, n, rfl⟩⟩) hQ

theorem It.str {X A} (hA : A.handled = none) {t : Expr} (hT : okT t) {I : Addr} (x : Str) (u : Tok) :
    It X A t (.ref I) [I] [I] (x.cps.toList.map fun c => .str ⟨#[c]⟩) (fun _ => True) (fun i h => h.IsStrIter I "str_ascii_iterator" x u i) (fun i v h => (∃ c u, x.cps[i]? = some c ∧ v = .str ⟨#[c]⟩ u) ∧ h.IsStrIter I "str_ascii_iterator" x u (i + 1)) where
  sub := fun _ h => h
  frame := fun i h h' ⟨o, ho, r⟩ _ k => ⟨o, k I (.head _) o ho, r⟩
  wrOk := fun i h b qq1 hb => by
    obtain ⟨o, ho, _, hd⟩ := qq1
    rw [List.mem_singleton.mp hb]
    exact ⟨o, ho, fun _ _ q => by (rw [hd] at q; cases q), fun q => by rw [hd] at q; cases q⟩
  wrMd := fun i v h b qq1 hb => by
    obtain ⟨_, o, ho, _, hd⟩ := qq1
    rw [List.mem_singleton.mp hb]
    exact ⟨o, ho, fun _ _ q => by (rw [hd] at q; cases q), fun q => by rw [hd] at q; cases q⟩
  item := fun i D σ s Q R g st hi hQ => by
    have hi' : i < x.cps.size := by simpa using hi
    exact wpAny_pyNext_ascii_item st (c := x.cps[i]) (Array.getElem?_eq_getElem hi') fun h' st' hs => hQ _ h' (s.toks + 1) ⟨⟨_, _, Array.getElem?_eq_getElem hi', rfl⟩, st'⟩ fun b o hb e => hs.extBut b o (fun q => hb (by rw [q]; exact .head _)) e
  go := fun i v s Q qq1 hQ => by
    obtain ⟨⟨c, u', hc', hv⟩, st⟩ := qq1
    obtain ⟨o, ho, hc, _⟩ := id st
    refine go_plain hT ho hc (by decide) (hQ s.heap (.str ⟨#[c]⟩) ?_ (hv ▸ .str) st fun _ _ _ e => e)
    rw [List.getElem?_map]
    simp [hc']
  self := fun i D σ s Q R g st hQ => (Walks.strAscii hA I x u).self i s Q no st hQ
  done := fun D σ s Q R g st hQ => (Walks.strAscii hA I x u).done s Q no (by simpa using st) hQ

theorem It.range {X A} (hA : A.handled = none) {t : Expr} (hT : okT t) {I : Addr} (n : Nat) :
    It X A t (.ref I) [I] [I] (rangeA n) (fun _ => True) (fun i h => IsRangeIter h I (0 + (i : Int) * 1) ((n : Int) - i) 1) (fun i v h => i < n ∧ (∃ u, v = .int (0 + (i : Int) * 1) u) ∧ IsRangeIter h I (0 + ((i + 1 : Nat) : Int) * 1) ((n : Int) - (i + 1 : Nat)) 1) where
  sub := fun _ h => h
  frame := fun i h h' ho _ k => k I (.head _) _ ho
  wrOk := fun i h b ho hb => by
    rw [List.mem_singleton.mp hb]
    exact ⟨_, ho, fun _ _ q => by (cases q), fun q => by cases q⟩
  wrMd := fun i v h b qq1 hb => by
    obtain ⟨_, _, ho⟩ := qq1
    rw [List.mem_singleton.mp hb]
    exact ⟨_, ho, fun _ _ q => by (cases q), fun q => by cases q⟩
  item := fun i D σ s Q R g st hi hQ => by
    have hi' : i < n := by simpa [rangeA] using hi
    exact (Walks.range hA I 0 1 n).item i s Q no hi' st fun v h' tk hv st' hk => hQ v h' tk ⟨hi', hv, st'⟩ hk
  go := fun i v s Q qq1 hQ => by
    obtain ⟨hi, hv, st⟩ := qq1
    refine go_plain hT st rfl (by decide) (hQ s.heap (.int i) ?_ ?_ st fun _ _ _ e => e)
    · unfold rangeA; rw [List.getElem?_map, List.getElem?_range hi]; rfl
    · obtain ⟨u, rfl⟩ := hv
      rw [show (0 + (i : Int) * 1) = i by lia]; exact .int
  self := fun i D σ s Q R g st hQ => (Walks.range hA I 0 1 n).self i s Q no st hQ
  done := fun D σ s Q R g st hQ => (Walks.range hA I 0 1 n).done s Q no (by simpa [rangeA] using st) hQ

theorem enumA_at {l : List AV} {x : AV} : ∀ {n i : Nat}, l[i]? = some x → (enumA n l)[i]? = some (.tup [.int ((n + i : Nat) : Int), x]) := by
  induction l with
  | nil => exact fun h => nomatch h
  | cons y l ih =>
    intro n i h
    rcases i with _ | i
    · cases h; rfl
    · have := ih (n := n + 1) (i := i) h
      rw [Nat.add_right_comm, Nat.add_assoc] at this
      exact this
theorem enumA_len : ∀ (l : List AV) (n : Nat), (enumA n l).length = l.length
  | [], _ => rfl
  | _ :: l, n => congrArg Nat.succ (enumA_len l (n + 1))

inductive EnumMd (l : List AV) (e it a : Addr) (i : Nat) (v : Value) (h : Heap) : Prop
  | mk (T : Addr) (w : Value) (u : Tok) (x : AV) (items : Array Value) (hv : v = .ref T) (hx : l[i]? = some x) (hT : IsT h T #[.int i u, w] 0) (hr : VR h w x) (he : ∃ x, IsEnumOut h e it (i + 1) x T) (hit : h.IsListIter it a (i + 1)) (hl : h.IsList a items) (n1 : T ≠ e) (n2 : T ≠ it) : EnumMd l e it a i v h
theorem It.enum {X A} (hA : A.handled = none) {t : Expr} (hT : ∃ es k p, t = .Tuple es k p) {e it a : Addr} (h1 : e ≠ it) (h2 : a ≠ e) (h3 : a ≠ it) (l : List AV) :
    It X A t (.ref e) [e, it] [e, it] (enumA 0 l) (fun σ => σ a = some (.lst l)) (fun i h => (∃ old, IsEnum h e it i old) ∧ h.IsListIter it a i)
      (EnumMd l e it a) where
  sub := fun _ h => h
  frame := fun i h h' ⟨⟨old, ho⟩, ⟨o, ho2, r⟩⟩ _ k => ⟨⟨old, k e (.head _) _ ho⟩, ⟨o, k it (.tail _ (.head _)) o ho2, r⟩⟩
  wrOk := fun i h b qq1 hb => by
    obtain ⟨⟨old, ho⟩, ⟨o, ho2, _, hd⟩⟩ := qq1
    rcases List.mem_cons.mp hb with rfl | hb
    · exact ⟨_, ho, fun _ _ q => by (cases q), fun q => by cases q⟩
    · rw [List.mem_singleton.mp hb]
      exact ⟨o, ho2, fun _ _ q => by (rw [hd] at q; cases q), fun q => by rw [hd] at q; cases q⟩
  wrMd := fun i v h b qq1 hb => by
    obtain ⟨_, _, _, _, _, _, _, _, _, ⟨_, ho⟩, ⟨o, ho2, _, hd⟩, _⟩ := qq1
    rcases List.mem_cons.mp hb with rfl | hb
    · exact ⟨_, ho, fun _ _ q => by (cases q), fun q => by cases q⟩
    · rw [List.mem_singleton.mp hb]
      exact ⟨o, ho2, fun _ _ q => by (rw [hd] at q; cases q), fun q => by rw [hd] at q; cases q⟩
  item := fun i D σ s Q R g st hi hQ => by
    obtain ⟨⟨old, ho⟩, hit⟩ := st
    obtain ⟨vs, n, hl, p⟩ := OR.lst_inv (R.objs _ _ g)
    have hi' : i < l.length := by rw [enumA_len] at hi; exact hi
    obtain ⟨w, hw, hr⟩ := p.get (List.getElem?_eq_getElem hi')
    refine wpAny_pyNext_enum_item ho hit hl.isList (get_toArray hw) h1 fun h' he hit' hT' hsz hk => ?_
    have hk' : ∀ b o, b ∉ [e, it] → s.heap.get? b = some o → h'.get? b = some o := fun b o hb ho => hk b o (fun q => hb (q ▸ .head _)) (fun q => hb (q ▸ .tail _ (.head _))) ho
    have tk : TK s.heap h' := notTup_keep (I := e) (wr := [e, it]) (fun b hb => by
      rcases List.mem_cons.mp hb with rfl | hb
      · exact ⟨_, ho, fun _ _ q => by (cases q), fun q => by cases q⟩
      · obtain ⟨o, ho2, _, hd⟩ := hit
        rw [List.mem_singleton.mp hb]
        exact ⟨o, ho2, fun _ _ q => by (rw [hd] at q; cases q), fun q => by rw [hd] at q; cases q⟩) hk'
    refine hQ _ h' (s.toks + 1) ⟨_, w, s.toks, _, vs.toArray, rfl, List.getElem?_eq_getElem hi', hT', hr.mono tk, ⟨_, he⟩, hit', IsL.isList (n := n) (hk' _ _ (fun q => ?_) hl), ?_, ?_⟩ hk'
    · rcases List.mem_cons.mp q with q | q
      · exact h2 q
      · exact h3 (List.mem_singleton.mp q)
    · intro q; rw [← q] at ho; exact absurd (Heap.lt_size ho) (Nat.lt_irrefl _)
    · intro q; obtain ⟨o, ho2, _⟩ := hit; rw [← q] at ho2; exact absurd (Heap.lt_size ho2) (Nat.lt_irrefl _)
  go := fun i v s Q qq1 hQ => by
    obtain ⟨T, w, u, x, items, hv, hx, hTT, hr, he, hit, hl, n1, n2⟩ := qq1
    obtain ⟨es, k, p, rfl⟩ := hT
    subst hv
    refine (WalksT.enumerate hA e it a h1 h2 h3 items).go es k p i T s Q no ⟨he, hit, hl, n1, n2⟩ fun h' st hk => ?_
    have tk : TK s.heap h' := notTup_keep (I := e) (wr := [e, it]) (fun b hb => by
      rcases List.mem_cons.mp hb with rfl | hb
      · obtain ⟨_, he⟩ := he
        exact ⟨_, he, fun _ _ q => by (cases q), fun q => by cases q⟩
      · obtain ⟨o, ho2, _, hd⟩ := hit
        rw [List.mem_singleton.mp hb]
        exact ⟨o, ho2, fun _ _ q => by (rw [hd] at q; cases q), fun q => by rw [hd] at q; cases q⟩) hk
    refine hQ h' (.tup [.int i, x]) ?_ (.tup (vs := [.int i u, w]) (tk _ _ hTT rfl ⟨_, _, rfl⟩) (.cons .int (.cons (hr.mono tk) .nil))) ⟨st.1, st.2.1⟩ hk
    have := enumA_at (n := 0) hx
    simpa using this
  self := fun i D σ s Q R g st hQ => by
    obtain ⟨vs, n, hl, p⟩ := OR.lst_inv (R.objs _ _ g)
    exact (WalksT.enumerate hA e it a h1 h2 h3 vs.toArray).self i s Q no ⟨st.1, st.2, hl.isList⟩ hQ
  done := fun D σ s Q R g st hQ => by
    obtain ⟨vs, n, hl, p⟩ := OR.lst_inv (R.objs _ _ g)
    exact (WalksT.enumerate hA e it a h1 h2 h3 vs.toArray).done s Q no (by rw [enumA_len] at st; simp [p.length]; exact ⟨st.1, st.2, hl.isList⟩) hQ

end Np

namespace Np

inductive FlowR (h : Heap) : Flow → Out → Prop
  | next : FlowR h .next .next
  | cont : FlowR h .cont .cont
  | ret {v x} : VR h v x → FlowR h (.ret v) (.ret x)

inductive PostF (X : Cx) (env : Env) (S : Addr → Prop) (D : Addr → Addr) (σ : ASt) (s : Shared) (K : PostS) (f : Flow) (s' : Shared) : Prop
  | mk (o : Out) (ρ' : LE) (D' : Addr → Addr) (σ' : ASt) (h : FlowR s'.heap f o) (R : Rel X D' σ' s') (e : EnvR X env ρ' D' σ' s'.heap) (T : TrS S D σ s D' σ' s') (q : K o ρ' σ') : PostF X env S D σ s K f s'

theorem EnvR.live2 {X env ρ D σ h} (hcl : CellsIn env) (e : EnvR X env ρ D σ h) (b : Addr) (f : FrAddr env b) : ∃ o, h.get? b = some o := let ⟨o, ho, _⟩ := e.slotLive hcl b f; ⟨o, ho⟩

theorem PostF.pre {X env D₀ σ₀ s₀ D σ s ρ K f s'} (hcl : CellsIn env) (e : EnvR X env ρ D σ s.heap) (T : TrS (FrAddr env) D₀ σ₀ s₀ D σ s) (h : PostF X env (FrAddr env) D σ s K f s') : PostF X env (FrAddr env) D₀ σ₀ s₀ K f s' := by
  obtain ⟨o, ρ', D', σ', h1, h2, h3, h4, h5⟩ := h
  exact ⟨o, ρ', D', σ', h1, h2, h3, T.trans (fun b hb => e.live2 hcl b hb) h4, h5⟩

-- the machine's own places of an iterator
structure FpOk (X : Cx) (env : Env) (fp : List Addr) (D : Addr → Addr) (σ : ASt) (s : Shared) : Prop where
  own : ∀ b ∈ fp, ¬ Own D σ b
  live : ∀ b ∈ fp, ∃ o, s.heap.get? b = some o
  base : ∀ b ∈ fp, X.base.get? b = none
  fr : ∀ b ∈ fp, ¬ FrAddr env b

theorem FpOk.step {X env fp D σ s s'} {wr : List Addr} (F : FpOk X env fp D σ s) (sub : ∀ b ∈ wr, b ∈ fp) (hw : ∀ b ∈ wr, ∃ o, s.heap.get? b = some o ∧ Soft o) (hw' : ∀ b ∈ wr, ∃ o, s'.heap.get? b = some o)
    (k : ∀ b o, b ∉ wr → s.heap.get? b = some o → s'.heap.get? b = some o) (g : s'.gens = s.gens) (os : s'.os = s.os) {ρ : LE} (R : Rel X D σ s) (e : EnvR X env ρ D σ s.heap) :
    Rel X D σ s' ∧ EnvR X env ρ D σ s'.heap ∧ FpOk X env fp D σ s' ∧ TK s.heap s'.heap := by
  obtain ⟨R', tk⟩ := R.extS (S := (· ∈ wr)) (fun b hb => ⟨F.own b (sub b hb), F.base b (sub b hb), fun o ho => by
    obtain ⟨o', ho', h⟩ := hw b hb
    rw [ho'] at ho; cases ho; exact h⟩) k g os
  refine ⟨R', e.keeps2 tk fun b o f ho => k b o (fun q => F.fr b (sub b q) f) ho, ⟨F.own, fun b hb => ?_, F.base, F.fr⟩, tk⟩
  by_cases q : b ∈ wr
  · exact hw' b q
  · obtain ⟨o, ho⟩ := F.live b hb
    exact ⟨o, k b o q ho⟩

theorem FpOk.trS {X env fp D σ s D' σ' s'} (F : FpOk X env fp D σ s) (T : TrS (FrAddr env) D σ s D' σ' s') : FpOk X env fp D' σ' s' ∧ ∀ b ∈ fp, ∀ o, s.heap.get? b = some o → s'.heap.get? b = some o := by
  have k : ∀ b ∈ fp, ∀ o, s.heap.get? b = some o → s'.heap.get? b = some o := fun b hb o ho => T.keep b o ho (F.own b hb) (F.fr b hb)
  refine ⟨⟨fun b hb q => ?_, fun b hb => ?_, F.base, F.fr⟩, k⟩
  · rcases T.fresh b q with q | q
    · exact F.own b hb q
    · obtain ⟨o, ho⟩ := F.live b hb
      rw [q] at ho; cases ho
  · obtain ⟨o, ho⟩ := F.live b hb
    exact ⟨o, k b hb o ho⟩

-- a place of which nothing is said
noncomputable def Un (D : Addr → Addr) (σ : ASt) (s : Shared) (b : Addr) : Prop := Own D σ b ∨ s.heap.get? b = none
theorem Un.no {D σ s b o} (u : Un D σ s b) (n : ¬ Own D σ b) (e : s.heap.get? b = some o) : False := by
  rcases u with u | u
  · exact n u
  · rw [u] at e; cases e
theorem Un.of {D σ s D' σ' s' b} (T : Tr D σ s D' σ' s') (h : s'.heap.get? b = none) : Un D σ s b := by
  by_cases w : Own D σ b
  · exact .inl w
  · cases e : s.heap.get? b with
    | none => exact .inr e
    | some o => rw [T.keep b o e w] at h; cases h
theorem TrS.keepBut {S D₀ σ₀ s₀ D σ s s'} {wr : List Addr} (T : TrS S D₀ σ₀ s₀ D σ s) (hf : ∀ b ∈ wr, Un D₀ σ₀ s₀ b) (k : ∀ b o, b ∉ wr → s.heap.get? b = some o → s'.heap.get? b = some o) : TrS S D₀ σ₀ s₀ D σ s' :=
  ⟨fun b o e n f => k b o (fun q => (hf b q).no n e) (T.keep b o e n f), T.fresh⟩

theorem FrAddr.noSeq {X env ρ D σ h} (hcl : CellsIn env) (e : EnvR X env ρ D σ h) : ∀ b, FrAddr env b → ∀ o, h.get? b = some o → ∀ vs n, o.data ≠ .seq vs n := fun b f o ho => by
  obtain ⟨o', ho', h1, _⟩ := e.slotLive hcl b f
  rw [ho'] at ho; cases ho; exact h1

inductive ForInv (X : Cx) (env : Env) (tg : List Nat) (tup : Bool) (bodyV : LE → ASt → PostS → Prop) (fp : List Addr) (items : List AV) (G : ASt → Prop) (St : Nat → Heap → Prop) (K : PostS) (D₀ : Addr → Addr) (σ₀ : ASt) (s₀ : Shared) (n : Nat) (s' : Shared) : Prop
  | mk (i : Nat) (ρ : LE) (D : Addr → Addr) (σ : ASt) (en : n = items.length - i) (hi : i ≤ items.length) (R : Rel X D σ s') (e : EnvR X env ρ D σ s'.heap) (T : TrS (FrAddr env) D₀ σ₀ s₀ D σ s') (F : FpOk X env fp D σ s') (st : St i s'.heap)
    (v : vfor tg tup bodyV G (items.drop i) ρ σ K) : ForInv X env tg tup bodyV fp items G St K D₀ σ₀ s₀ n s'
theorem for_loop {X A k} (Ro : Room A k) {env : Env} (E : EnvS env) (hcl : CellsIn env) {tg : List Nat} {tup : Bool} {t : Expr} (ht : ctg env.scope.names tg tup t = true) {body : List Stmt} {bodyV : LE → ASt → PostS → Prop}
    (hbody : ∀ ρ D σ s K, EnvR X env ρ D σ s.heap → Rel X D σ s → bodyV ρ σ K → wpAny (model pg X.w) A (execs body env) (PostF X env (FrAddr env) D σ s K) no s)
    {I : Value} {fp wr : List Addr} {items : List AV} {G : ASt → Prop} {St : Nat → Heap → Prop} {Md : Nat → Value → Heap → Prop} (W : It X A t I fp wr items G St Md)
    {K : PostS} {D₀ : Addr → Addr} {σ₀ : ASt} {s₀ : Shared} (hf : ∀ b ∈ fp, Un D₀ σ₀ s₀ b)
    {Rr : Result → Shared → Prop} (hR : ∀ f s', PostF X env (FrAddr env) D₀ σ₀ s₀ K f s' → Rr (.ok f) s')
    {ρ : LE} {D : Addr → Addr} {σ : ASt} {s : Shared} (R : Rel X D σ s) (e : EnvR X env ρ D σ s.heap) (T : TrS (FrAddr env) D₀ σ₀ s₀ D σ s) (F : FpOk X env fp D σ s) (st : St 0 s.heap) (v : vfor tg tup bodyV G items ρ σ K) :
    codeAny (model pg X.w) A (.forLoop t I body [] env) Rr s := by
  have hfw : ∀ b ∈ wr, Un D₀ σ₀ s₀ b := fun b hb => hf b (W.sub b hb)
  refine codeAny_forLoop_any (ForInv X env tg tup bodyV fp items G St K D₀ σ₀ s₀) ?_ items.length ⟨0, ρ, D, σ, rfl, Nat.zero_le _, R, e, T, F, st, v⟩
  rintro n s' ⟨i, ρ, D, σ, rfl, hi, R, e, T, F, st, v⟩
  have any : ∀ {a : Type} {t : Sem a} {Q : a → Shared → Prop} {E' : Value → Shared → Prop} {s : Shared}, wpAny (model pg X.w) A t Q no s → wpAny (model pg X.w) A t Q E' s := fun h => wpAny_mono h (fun _ _ h => h) fun _ _ e => e.elim
  rcases Nat.lt_or_ge i items.length with hlt | hge
  · rw [List.drop_eq_getElem_cons hlt] at v
    obtain ⟨g, v⟩ := v
    refine any (W.item i D σ s' _ R g st hlt fun vv h1 tk1 hm hk1 => ?_)
    dsimp only
    obtain ⟨R1, e1, F1, tkA⟩ := F.step (s' := { s' with heap := h1, toks := tk1 }) W.sub (fun b hb => let ⟨o, h1, h2⟩ := W.wrOk i _ b st hb; ⟨o, h1, soft_of h2⟩) (fun b hb => let ⟨o, ho, _⟩ := W.wrMd i vv _ b hm hb; ⟨o, ho⟩) hk1 rfl rfl R e
    refine any (W.go i vv { s' with heap := h1, toks := tk1 } _ hm fun h2 x hx hr st2 hk2 => ?_)
    obtain ⟨R2, e2, F2, tkB⟩ := F1.step (s' := { s' with heap := h2, toks := tk1 }) W.sub (fun b hb => let ⟨o, h1, h2⟩ := W.wrMd i vv _ b hm hb; ⟨o, h1, soft_of h2⟩) (fun b hb => let ⟨o, ho, _⟩ := W.wrOk (i + 1) _ b st2 hb; ⟨o, ho⟩) hk2 rfl rfl R1 e1
    have T2 : TrS (FrAddr env) D₀ σ₀ s₀ D σ { s' with heap := h2, toks := tk1 } := (T.keepBut (s' := { s' with heap := h1, toks := tk1 }) hfw hk1).keepBut hfw hk2
    have hx' : items[i] = x := by rw [List.getElem?_eq_getElem hlt] at hx; exact Option.some.inj hx
    rw [hx'] at v
    refine any (ev_tg Ro E hcl (fun b h => h) e2 R2 ht (TgS.all env tg) hr v fun ρ' s3 q Z => ?_)
    refine any (wpAny_mono (hbody ρ' D σ s3 _ Z.e Z.R q) (fun f s4 p => ?_) fun _ _ e => e)
    obtain ⟨o, ρ4, D4, σ4, hfl, R4, e4, T4, q4⟩ := p
    have T24 : TrS (FrAddr env) D σ { s' with heap := h2, toks := tk1 } D4 σ4 s4 := Z.T.trans (fun b hb => Z.e.live2 hcl b hb) T4
    have T04 : TrS (FrAddr env) D₀ σ₀ s₀ D4 σ4 s4 := T2.trans (fun b hb => e2.live2 hcl b hb) T24
    obtain ⟨F4, kf⟩ := F2.trS T24
    have tk24 : TK h2 s4.heap := T24.tk R2 (FrAddr.noSeq hcl e2)
    have st4 : St (i + 1) s4.heap := W.frame _ _ _ st2 tk24 kf
    have again : vfor tg tup bodyV G (items.drop (i + 1)) ρ4 σ4 K → ∃ m, m < items.length - i ∧ ForInv X env tg tup bodyV fp items G St K D₀ σ₀ s₀ m s4 := fun v =>
      ⟨items.length - (i + 1), by omega, i + 1, ρ4, D4, σ4, rfl, hlt, R4, e4, T04, F4, st4, v⟩
    cases hfl with
    | next => exact again q4
    | cont => exact again q4
    | ret r => exact hR _ _ ⟨_, ρ4, D4, σ4, .ret r, R4, e4, T04, q4⟩
  · have hie : i = items.length := Nat.le_antisymm hi hge
    subst hie
    rw [List.drop_length] at v
    obtain ⟨g, v⟩ := v
    refine any (W.done D σ s' _ R g st fun h1 tk1 hk1 => ?_)
    dsimp only
    obtain ⟨R1, tkA⟩ := R.extS (s' := { s' with heap := h1, toks := tk1 }) (S := (· ∈ wr)) (fun b hb => ⟨F.own b (W.sub b hb), F.base b (W.sub b hb), fun o ho => by
      obtain ⟨o', ho', h⟩ := W.wrOk _ _ b st hb
      rw [ho'] at ho; cases ho; exact soft_of h⟩) hk1 rfl rfl
    exact wpAny_execs_nil (hR _ _ ⟨.next, ρ, D, σ, .next, R1, e.keeps2 tkA fun b o f ho => hk1 b o (fun q => F.fr b (W.sub b q) f) ho, T.keepBut hfw hk1, v⟩)

end Np

namespace Np

-- list comprehensions: the loop
theorem Tr.thenS {S : Addr → Prop} {D₀ σ₀ s₀ D σ s D' σ' s'} (x : Tr D₀ σ₀ s₀ D σ s) (y : TrS S D σ s D' σ' s') (hS : ∀ b, S b → Un D₀ σ₀ s₀ b) : Tr D₀ σ₀ s₀ D' σ' s' := by
  refine ⟨fun b o e n => y.keep b o (x.keep b o e n) (fun q => ?_) (fun q => (hS b q).no n e), fun b h => ?_⟩
  · rcases x.fresh b q with q | q
    · exact n q
    · rw [e] at q; cases q
  · rcases y.fresh b h with q | q
    · exact x.fresh b q
    · by_cases z : Own D₀ σ₀ b
      · exact .inl z
      · cases e : s₀.heap.get? b with
        | none => exact .inr rfl
        | some o => rw [x.keep b o e z] at q; cases q
theorem Tr.keepBut {D₀ σ₀ s₀ D σ s s'} {wr : List Addr} (T : Tr D₀ σ₀ s₀ D σ s) (hf : ∀ b ∈ wr, Un D₀ σ₀ s₀ b) (k : ∀ b o, b ∉ wr → s.heap.get? b = some o → s'.heap.get? b = some o) : Tr D₀ σ₀ s₀ D σ s' :=
  ⟨fun b o e n => k b o (fun q => (hf b q).no n e) (T.keep b o e n), T.fresh⟩

-- a list of the machine's own is handed over
theorem Rel.adopt {X : Cx} {D σ s} (R : Rel X D σ s) {a : Addr} {vs : List Value} {n : Nat} {l : List AV} (hn : ¬ Own D σ a) (hb : X.base.get? a = none) (h : IsL s.heap a vs.toArray n) (r : VRs s.heap vs l) :
    σ a = none ∧ Rel X D (upd σ a (.lst l)) s ∧ ∀ b, Own D (upd σ a (.lst l)) b → b = a ∨ Own D σ b := by
  have hσ : σ a = none := by
    cases e : σ a with
    | none => rfl
    | some o =>
      cases o with
      | inst C at_ => have := (R.objs _ _ e).1; rw [h] at this; cases this
      | lst => exact (hn (.inl ⟨_, e, rfl⟩)).elim
      | dcs => exact (hn (.inl ⟨_, e, rfl⟩)).elim
      | dct => exact (hn (.inl ⟨_, e, rfl⟩)).elim
      | fro l => obtain ⟨vs, n, hq, _⟩ := R.objs _ _ e; cases hb.symm.trans hq
  refine ⟨hσ, ⟨R.base, fun b o e => ?_, fun b w => ?_, fun x y C C' at_ at' e1 e2 e3 => ?_, fun x C at_ e => ?_, R.gens, R.os⟩, fun b w => own_upd rfl w⟩
  · by_cases q : b = a
    · subst q; rw [upd_self] at e; cases e; exact ⟨vs, n, h, r⟩
    · rw [upd_ne q] at e; exact R.objs b o e
  · rcases own_upd (o := .lst l) rfl w with rfl | w
    · exact hb
    · exact R.ownb b w
  · by_cases q : x = a
    · subst q; rw [upd_self] at e1; cases e1
    · by_cases q' : y = a
      · subst q'; rw [upd_self] at e2; cases e2
      · rw [upd_ne q] at e1; rw [upd_ne q'] at e2; exact R.inj x y C C' at_ at' e1 e2 e3
  · by_cases q : x = a
    · subst q; rw [upd_self] at e; cases e
    · rw [upd_ne q] at e
      have : D x ≠ a := fun z => hn (.inr ⟨x, C, at_, e, z⟩)
      rw [upd_ne this]; exact R.sep x C at_ e

theorem codeAny_compLoop_go {prog : Program} {w : World} {A : Around} {R : Result → Shared → Prop} {s : Shared} {elt target iter : Expr} {scope : Scope} {pos : Pos} {it acc : Value} {env : Env} (I : Nat → Shared → Prop)
    (turn : ∀ n s, I n s → wpAny (model prog w) A (pyNext it) (fun r s₁ => match r with
      | none => R (.ok .next) s₁
      | some v => wpAny (model prog w) A (letOwnedTupleGo target it v) (fun _ s₁ => wpAny (model prog w) A (assign target env v) (fun _ s₂ => wpAny (model prog w) A (eval elt env) (fun x s₃ =>
          wpAny (model prog w) A (call (.builtin "list.append") [acc, x]) (fun _ s₄ => ∃ m, m < n ∧ I m s₄) no s₃) no s₂) no s₁) no s₁) no s)
    (n : Nat) (h : I n s) : codeAny (model prog w) A (.compLoop (.ListComp elt [⟨target, iter, [], 0⟩] scope pos) 0 it acc env) R s := by
  refine codeAny_loop rfl I (fun n s hI => ?_) n h
  show wpAny _ _ ((compTurn (.ListComp elt [⟨target, iter, [], 0⟩] scope pos) 0 it acc env).onRaise (fun x => do noteFrame x env; theTreesLotGoes x)) _ _ s
  refine wpAny_noted ?_
  rw [compTurn_list1]
  have E : ∀ {e : Value} {s : Shared} {P : Prop}, no e s → P := fun h => h.elim
  refine wpAny_bind (wpAny_standAt (wpAny_bind (wpAny_mono (turn n s hI) (fun r s₁ h₁ => ?_) fun _ _ h' => E h')))
  induction r using Option.casesOn with
  | none => exact wpAny_pure h₁
  | some v =>
    refine wpAny_bind (wpAny_mono h₁ (fun _ s₁ h₁ => ?_) fun _ _ h' => E h')
    exact wpAny_bind (wpAny_mono h₁ (fun _ s₂ h₂ => wpAny_bind (wpAny_bind (wpAny_mono h₂ (fun x s₃ h₃ => wpAny_bind (wpAny_mono h₃
      (fun _ s₄ h₄ => wpAny_pure (wpAny_pure ⟨rfl, h₄⟩)) fun _ _ h' => E h')) fun _ _ h' => E h'))) fun _ _ h' => E h')

-- what a comprehension leaves
structure CompEnd (X : Cx) (C L : Addr) (D₀ : Addr → Addr) (σ₀ : ASt) (s₀ : Shared) (Q : Post) (s' : Shared) (D' : Addr → Addr) (σ' : ASt) : Prop where
  R : Rel X D' σ' s'
  T : Tr D₀ σ₀ s₀ D' σ' s'
  own : ¬ Own D' σ' C
  base : X.base.get? C = none
  ns : ∃ m, s'.heap.Ns C m
  q : Q (.ref L) σ'
theorem Ns.soft {h : Heap} {C : Addr} {m} (n : h.Ns C m) : ∀ o, h.get? C = some o → Soft o := by
  obtain ⟨o, es, ep, ho, hd, _⟩ := n
  intro o' ho'
  rw [ho] at ho'; cases ho'
  exact soft_of ⟨fun _ _ q => by (rw [hd] at q; cases q), fun q => by rw [hd] at q; cases q⟩
theorem CompEnd.go {X C L D₀ σ₀ s₀ Q s' D' σ'} (c : CompEnd X C L D₀ σ₀ s₀ Q s' D' σ') (hC : Un D₀ σ₀ s₀ C) {h' : Heap} (hs : Heap.SameBut C s'.heap h') : PostR VR X D₀ σ₀ s₀ Q (.ref L) { s' with heap := h' } := by
  obtain ⟨m, hn⟩ := c.ns
  have k2 : ∀ b o, b ≠ C → s'.heap.get? b = some o → h'.get? b = some o := fun b o hb ho => hs.extBut b o hb ho
  obtain ⟨R2, tk2⟩ := c.R.extS (s' := { s' with heap := h' }) (S := (· = C)) (fun b hb => by subst hb; exact ⟨c.own, c.base, Ns.soft hn⟩) k2 rfl rfl
  exact ⟨.ref L, D', σ', .ref, R2, c.T.keepBut (wr := [C]) (fun b hb => by rw [List.mem_singleton.mp hb]; exact hC) (fun b o hb ho => k2 b o (fun q => hb (by rw [q]; exact .head _)) ho), c.q⟩

inductive CompInv (X : Cx) (env : Env) (tg : List Nat) (tup : Bool) (eltV : LE → ASt → Post → Prop) (fp : List Addr) (L : Addr) (items : List AV) (G : ASt → Prop) (St : Nat → Heap → Prop) (Q : Post) (D₀ : Addr → Addr) (σ₀ : ASt) (s₀ : Shared) (n : Nat) (s' : Shared) : Prop
  | mk (i : Nat) (ρ : LE) (D : Addr → Addr) (σ : ASt) (acc : List AV) (vs : List Value) (m : Nat) (en : n = items.length - i) (hi : i ≤ items.length) (R : Rel X D σ s') (e : EnvR X env ρ D σ s'.heap) (T : Tr D₀ σ₀ s₀ D σ s') (F : FpOk X env (L :: fp) D σ s') (st : St i s'.heap)
    (hL : IsL s'.heap L (List.toArray vs) m) (hvl : vs.length = i) (hvr : VRs s'.heap vs acc) (v : vcomp tg tup eltV G (items.drop i) ρ σ acc Q) : CompInv X env tg tup eltV fp L items G St Q D₀ σ₀ s₀ n s'
theorem comp_loop {X A k} (Ro : Room A k) {env : Env} (E : EnvS env) (hcl : CellsIn env) {tg : List Nat} {tup : Bool} {t : Expr} (ht : ctg env.scope.names tg tup t = true) {S : Addr → Prop} (hloc : TgS env tg S) (loc : ∀ b, S b → FrAddr env b)
    {elt iter : Expr} {scope : Scope} {pos : Pos} {eltV : LE → ASt → Post → Prop}
    (helt : ∀ ρ D σ s Q, EnvR X env ρ D σ s.heap → Rel X D σ s → eltV ρ σ Q → EV X A (eval elt env) D σ s Q)
    {I : Value} {fp wr : List Addr} {items : List AV} {G : ASt → Prop} {St : Nat → Heap → Prop} {Md : Nat → Value → Heap → Prop} (W : It X A t I fp wr items G St Md)
    {Q : Post} {D₀ : Addr → Addr} {σ₀ : ASt} {s₀ : Shared} {L : Addr} (hLf : L ∉ fp) (hf : ∀ b ∈ L :: fp, Un D₀ σ₀ s₀ b) (hS : ∀ b, S b → Un D₀ σ₀ s₀ b) (hsz : items.length ≤ 100000)
    {Rr : Result → Shared → Prop} (hR : ∀ s' D' σ', CompEnd X env.locals L D₀ σ₀ s₀ Q s' D' σ' → Rr (.ok .next) s')
    {ρ : LE} {D : Addr → Addr} {σ : ASt} {s : Shared} (R : Rel X D σ s) (e : EnvR X env ρ D σ s.heap) (T : Tr D₀ σ₀ s₀ D σ s) (F : FpOk X env (L :: fp) D σ s) (st : St 0 s.heap)
    (hL : IsL s.heap L #[] 0) (v : vcomp tg tup eltV G items ρ σ [] Q) :
    codeAny (model pg X.w) A (.compLoop (.ListComp elt [⟨t, iter, [], 0⟩] scope pos) 0 I (.ref L) env) Rr s := by
  have sub : ∀ b ∈ wr, b ∈ L :: fp := fun b hb => .tail _ (W.sub b hb)
  have hfw : ∀ b ∈ wr, Un D₀ σ₀ s₀ b := fun b hb => hf b (sub b hb)
  have hLw : L ∉ wr := fun h => hLf (W.sub L h)
  refine codeAny_compLoop_go (CompInv X env tg tup eltV fp L items G St Q D₀ σ₀ s₀) ?_ items.length ⟨0, ρ, D, σ, [], [], 0, rfl, Nat.zero_le _, R, e, T, F, st, hL, rfl, .nil, v⟩
  rintro n s' ⟨i, ρ, D, σ, acc, vs, m, rfl, hi, R, e, T, F, st, hL, hvl, hvr, v⟩
  rcases Nat.lt_or_ge i items.length with hlt | hge
  · rw [List.drop_eq_getElem_cons hlt] at v
    obtain ⟨g, v⟩ := v
    refine W.item i D σ s' _ R g st hlt fun vv h1 tk1 hm hk1 => ?_
    dsimp only
    obtain ⟨R1, e1, F1, tkA⟩ := F.step (s' := { s' with heap := h1, toks := tk1 }) sub (fun b hb => let ⟨o, h1, h2⟩ := W.wrOk i _ b st hb; ⟨o, h1, soft_of h2⟩) (fun b hb => let ⟨o, ho, _⟩ := W.wrMd i vv _ b hm hb; ⟨o, ho⟩) hk1 rfl rfl R e
    refine W.go i vv { s' with heap := h1, toks := tk1 } _ hm fun h2 x hx hr st2 hk2 => ?_
    obtain ⟨R2, e2, F2, tkB⟩ := F1.step (s' := { s' with heap := h2, toks := tk1 }) sub (fun b hb => let ⟨o, h1, h2⟩ := W.wrMd i vv _ b hm hb; ⟨o, h1, soft_of h2⟩) (fun b hb => let ⟨o, ho, _⟩ := W.wrOk (i + 1) _ b st2 hb; ⟨o, ho⟩) hk2 rfl rfl R1 e1
    have T2 : Tr D₀ σ₀ s₀ D σ { s' with heap := h2, toks := tk1 } := (T.keepBut (s' := { s' with heap := h1, toks := tk1 }) hfw hk1).keepBut hfw hk2
    have hL2 : IsL h2 L vs.toArray m := hk2 _ _ hLw (hk1 _ _ hLw hL)
    have hvr2 : VRs h2 vs acc := (hvr.mono tkA).mono tkB
    have hx' : items[i] = x := by rw [List.getElem?_eq_getElem hlt] at hx; exact Option.some.inj hx
    rw [hx'] at v
    refine ev_tg Ro E hcl loc e2 R2 ht hloc hr v fun ρ' s3 q Z => ?_
    have T3 : Tr D₀ σ₀ s₀ D σ s3 := T2.thenS Z.T hS
    have hL3 : IsL s3.heap L vs.toArray m := Z.T.keep _ _ hL2 (F2.own L (.head _)) fun q => F.fr L (.head _) (loc L q)
    obtain ⟨F3, kf3⟩ := F2.trS (Z.T.trans (S := S) (fun b hb => Z.e.live2 hcl b (loc b hb)) (TrS.refl _ D σ s3) |> fun z => (⟨fun b o e n f => z.keep b o e n fun q => f (loc b q), z.fresh⟩ : TrS (FrAddr env) D σ _ D σ s3))
    have st3 : St (i + 1) s3.heap := W.frame _ _ _ st2 Z.tk fun b hb o ho => kf3 b (.tail _ hb) o ho
    refine wpAny_mono (helt ρ' D σ s3 _ Z.e Z.R q) (fun y s4 p => ?_) fun _ _ e => e
    obtain ⟨y', D4, σ4, hy, R4, T34, q4⟩ := p
    have e4 := Z.e.tr Z.R T34
    have tk34 := T34.tk Z.R
    obtain ⟨F4, kf⟩ := F3.trS (T34.toS (S := FrAddr env))
    have st4 : St (i + 1) s4.heap := W.frame _ _ _ st3 tk34 fun b hb => kf b (.tail _ hb)
    have T4 := T3.trans T34
    have hL4 : IsL s4.heap L vs.toArray m := kf L (.head _) _ hL3
    refine call_meets PySem.F.slot_list_append ⟨_, hL4, rfl⟩ PySem.F.entry_list_append (PySem.F.args_list_append_2 _ _) (list_append L vs.toArray m y (by simp [hvl, sizeLine]; lia)) ⟨hL4, ?_⟩
    have hs := Heap.SameBut.update s4.heap L (Obj.mapSeq (·.push y))
    have h5 := IsL.update hL4 (·.push y)
    obtain ⟨R5, e5, F5, tk5⟩ := F4.step (wr := [L]) (s' := { s4 with heap := s4.heap.update L (Obj.mapSeq (·.push y)) }) (fun b hb => by rw [List.mem_singleton.mp hb]; exact .head _)
      (fun b hb => by rw [List.mem_singleton.mp hb]; exact ⟨_, hL4, fun ⟨q, _⟩ => absurd (show Value.type "list" = Value.type "tuple" from q) (by decide), fun q => by cases q⟩)
      (fun b hb => by rw [List.mem_singleton.mp hb]; exact ⟨_, h5⟩) (fun b o hb ho => hs.extBut b o (fun q => hb (by rw [q]; exact .head _)) ho) rfl rfl R4 e4
    refine ⟨items.length - (i + 1), by lia, i + 1, ρ', D4, σ4, acc ++ [y'], vs ++ [y], _, rfl, hlt, R5, e5, T4.keepBut (wr := [L]) (fun b hb => by rw [List.mem_singleton.mp hb]; exact hf L (.head _)) (fun b o hb ho => hs.extBut b o (fun q => hb (by rw [q]; exact .head _)) ho), F5,
      W.frame _ _ _ st4 tk5 (fun b hb o ho => hs.extBut b o (fun q => hLf (q ▸ hb)) ho), by simpa using h5, by simp [hvl], ?_, q4⟩
    exact (((hvr2.mono Z.tk).mono tk34).mono tk5).app (.cons (hy.mono tk5) .nil)
  · have hie : i = items.length := Nat.le_antisymm hi hge
    subst hie
    rw [List.drop_length] at v
    obtain ⟨g, v⟩ := v
    refine W.done D σ s' _ R g st fun h1 tk1 hk1 => ?_
    dsimp only
    obtain ⟨R1, tkA⟩ := R.extS (s' := { s' with heap := h1, toks := tk1 }) (S := (· ∈ wr)) (fun b hb => ⟨F.own b (sub b hb), F.base b (sub b hb), fun o ho => by
      obtain ⟨o', ho', h⟩ := W.wrOk _ _ b st hb
      rw [ho'] at ho; cases ho; exact soft_of h⟩) hk1 rfl rfl
    have e1 : EnvR X env ρ D σ h1 := e.keeps2 tkA fun b o f ho => hk1 b o (fun q => F.fr b (sub b q) f) ho
    have T1 := T.keepBut (s' := { s' with heap := h1, toks := tk1 }) hfw hk1
    have hL1 : IsL h1 L vs.toArray m := hk1 _ _ hLw hL
    obtain ⟨⟨mm, hn, _⟩, _⟩ := id e1
    have hLl : L ≠ env.locals := fun q => F.fr L (.head _) (.inl q)
    obtain ⟨z1, z2, z3⟩ := R1.adopt (l := acc) (F.own L (.head _)) (F.base L (.head _)) hL1 (hvr.mono tkA)
    refine hR _ _ _ ⟨z2, ⟨T1.keep, fun b w => ?_⟩, fun w => ?_, e1.baseFree, ⟨mm, hn⟩, v L z1⟩
    · rcases z3 b w with rfl | w
      · exact hf _ (.head _)
      · exact T1.fresh b w
    · rcases z3 _ w with q | w
      · exact hLl q.symm
      · exact e1.nown w

end Np

namespace Np

-- the frame of a comprehension
noncomputable def relN (N names : List (Str × NameKind)) : List (Str × NameKind) := names.map fun (n, k) => if (k == .free && N.lookup n == some .cell) then (n, .cell) else (n, k)
theorem relabel_names {env : Env} {scope : Scope} (S : EnvS env) : (relabel scope env).names = relN env.scope.names scope.names := by
  unfold relabel relN
  dsimp only
  congr 1
  funext x
  obtain ⟨n, k⟩ := x
  rw [S.kind]
  unfold Env.kindOf
  simp

noncomputable def clS (cells : List (Str × Addr)) (p : Str × NameKind) (acc : List (Str × Addr)) : List (Str × Addr) := if (p.2 == .free) = true then (cells.lookup p.1).elim acc fun c => (p.1, c) :: acc else acc
noncomputable def clOf (cells : List (Str × Addr)) (names : List (Str × NameKind)) (acc : List (Str × Addr)) : List (Str × Addr) := names.foldl (fun acc p => clS cells p acc) acc
theorem clS_free {cells : List (Str × Addr)} {n c acc} (h : cells.lookup n = some c) : clS cells (n, .free) acc = (n, c) :: acc := by
  show (cells.lookup n).elim acc _ = _
  rw [h]; rfl
theorem clS_not {cells : List (Str × Addr)} {n k acc} (h : k ≠ .free) : clS cells (n, k) acc = acc := if_neg fun q => h (beq_iff_eq.mp q)
theorem clS_sub {cells : List (Str × Addr)} {q p acc} (h : p ∈ acc) : p ∈ clS cells q acc := by
  obtain ⟨n, k⟩ := q
  by_cases hk : k = .free
  · subst hk
    show p ∈ (cells.lookup n).elim acc _
    rcases cells.lookup n with _ | c
    · exact h
    · exact .tail _ h
  · rw [clS_not hk]; exact h
theorem clS_mem {cells : List (Str × Addr)} {q x c acc} (h : (x, c) ∈ clS cells q acc) : (x, c) ∈ acc ∨ (q = (x, NameKind.free) ∧ cells.lookup x = some c) := by
  obtain ⟨n, k⟩ := q
  by_cases hk : k = .free
  · subst hk
    rcases e : cells.lookup n with _ | d
    · refine .inl ?_
      have h : (x, c) ∈ (cells.lookup n).elim acc fun c => (n, c) :: acc := h
      rw [e] at h; exact h
    · rw [clS_free e] at h
      rcases List.mem_cons.mp h with h | h
      · cases h; exact .inr ⟨rfl, e⟩
      · exact .inl h
  · rw [clS_not hk] at h; exact .inl h
theorem closure_at {env : Env} (f : Str × NameKind → List (Str × Addr) → Sem (ForInStep (List (Str × Addr))))
    (hf : ∀ n k cs, f (n, k) cs = if k == .free then (do let c ← cellOf env n; pure (.yield ((n, c) :: cs))) else pure (.yield cs)) (names : List (Str × NameKind)) : ∀ (acc : List (Str × Addr)),
    (∀ x, (x, NameKind.free) ∈ names → ∃ c, env.cells.lookup x = some c) → forIn names acc f = pure (clOf env.cells names acc) := by
  induction names with
  | nil => intro acc _; rw [List.forIn_nil]; rfl
  | cons p r ih =>
    intro acc h
    obtain ⟨n, k⟩ := p
    rw [List.forIn_cons, hf]
    have hr : ∀ x, (x, NameKind.free) ∈ r → ∃ c, env.cells.lookup x = some c := fun x hx => h x (.tail _ hx)
    by_cases hk : k = .free
    · subst hk
      obtain ⟨c, hc⟩ := h n (.head _)
      have e : cellOf env n = pure c := by unfold cellOf; rw [hc]
      rw [if_pos (show (NameKind.free == NameKind.free) = true from rfl), e]
      exact (ih _ hr).trans (congrArg (fun l => pure (clOf env.cells r l)) (clS_free hc).symm)
    · rw [if_neg fun q => hk (beq_iff_eq.mp q)]
      exact (ih _ hr).trans (congrArg (fun l => pure (clOf env.cells r l)) (clS_not hk).symm)
theorem clOf_mem {cells : List (Str × Addr)} {names x c} : ∀ {acc}, (x, c) ∈ clOf cells names acc → (x, c) ∈ acc ∨ ((x, NameKind.free) ∈ names ∧ cells.lookup x = some c) := by
  induction names with
  | nil => exact fun h => .inl h
  | cons p r ih =>
    intro acc h
    rcases ih (acc := clS cells p acc) h with h | ⟨h1, h2⟩
    · rcases clS_mem h with h | ⟨rfl, h2⟩
      · exact .inl h
      · exact .inr ⟨.head _, h2⟩
    · exact .inr ⟨.tail _ h1, h2⟩
theorem clOf_sub {cells : List (Str × Addr)} {names p} : ∀ {acc}, p ∈ acc → p ∈ clOf cells names acc := by
  induction names with
  | nil => exact fun h => h
  | cons q r ih => exact fun h => ih (acc := clS cells q _) (clS_sub h)
theorem clOf_has {cells : List (Str × Addr)} {names x c} (hc : cells.lookup x = some c) : ∀ {acc}, (x, NameKind.free) ∈ names → (x, c) ∈ clOf cells names acc := by
  induction names with
  | nil => exact fun h => nomatch h
  | cons q r ih =>
    intro acc h
    rcases List.mem_cons.mp h with h | h
    · subst h
      exact clOf_sub (acc := clS cells (x, .free) acc) (by rw [clS_free hc]; exact .head _)
    · exact ih (acc := clS cells q acc) h
theorem lookup_of_mem {α : Type} : ∀ {l : List (Str × α)} {x : Str} {c : α}, (x, c) ∈ l → ∃ d, l.lookup x = some d
  | (y, d) :: r, x, c, h => by
    rw [List.lookup_cons]
    cases q : x == y with
    | true => exact ⟨d, rfl⟩
    | false =>
      rcases List.mem_cons.mp h with h | h
      · cases h; simp at q
      · exact lookup_of_mem h
theorem clOf_lookup {cells : List (Str × Addr)} {names x c} (h : (clOf cells names []).lookup x = some c) : (x, NameKind.free) ∈ names ∧ cells.lookup x = some c := by
  rcases clOf_mem (mem_of_lookup h) with h | h
  · cases h
  · exact h
theorem clOf_lookup' {cells : List (Str × Addr)} {names x c} (h : (x, NameKind.free) ∈ names) (hc : cells.lookup x = some c) : (clOf cells names []).lookup x = some c := by
  obtain ⟨d, hd⟩ := lookup_of_mem (clOf_has (acc := []) hc h)
  obtain ⟨_, h2⟩ := clOf_lookup hd
  rw [hc] at h2; cases h2; exact hd

-- the names that a comprehension takes from the frame around
noncomputable def cap1 (N : List (Str × NameKind)) (p : (Str × NameKind) × Option Nat) : Bool :=
  p.2.elim (p.1.2 != .free) fun j => (p.1.2 == .free) && N[j]?.elim false fun q => decide (q.1 = p.1.1) && (q.2 == .cell || q.2 == .free)
noncomputable def capOk (N : List (Str × NameKind)) (names : List (Str × NameKind)) (cap : List (Option Nat)) : Bool :=
  decide (cap.length = names.length) && (names.zip cap).all (cap1 N)
theorem capOk_len {N : List (Str × NameKind)} {names cap} (h : capOk N names cap = true) : cap.length = names.length := of_decide_eq_true (b2 h).1
theorem capOk_get {N : List (Str × NameKind)} {names cap} (h : capOk N names cap = true) {i : Nat} {p} (e : names[i]? = some p) : ∃ c, cap[i]? = some c ∧ cap1 N (p, c) = true := by
  have hi : i < cap.length := by rw [capOk_len h]; exact (List.getElem?_eq_some_iff.mp e).1
  have e2 := List.getElem?_eq_getElem hi
  refine ⟨_, e2, List.all_eq_true.mp (b2 h).2 _ (List.mem_of_getElem? (i := i) ?_)⟩
  rw [List.getElem?_zip_eq_some]
  exact ⟨e, e2⟩
theorem capOk_at {N : List (Str × NameKind)} {names cap} (h : capOk N names cap = true) (i : Nat) (x) (e : names[i]? = some (x, .free)) : ∃ j k, cap[i]? = some (some j) ∧ N[j]? = some (x, k) ∧ (k = .cell ∨ k = .free) := by
  obtain ⟨c, h1, h2⟩ := capOk_get h e
  clear h e
  rcases c with _ | j
  · cases h2
  · replace h2 : (N[j]?.elim false fun q => decide (q.1 = x) && (q.2 == .cell || q.2 == .free)) = true := h2
    rcases hj : N[j]? with _ | ⟨y, k⟩
    · rw [hj] at h2; cases h2
    · rw [hj] at h2
      replace h2 := b2 h2
      obtain ⟨h3, h4⟩ := h2
      obtain rfl : y = x := of_decide_eq_true h3
      exact ⟨j, k, h1, hj, (Bool.or_eq_true_iff.mp h4).imp beq_iff_eq.mp beq_iff_eq.mp⟩
theorem capOk_none {N : List (Str × NameKind)} {names cap} (h : capOk N names cap = true) (i : Nat) (x k) (e : names[i]? = some (x, k)) (n : k ≠ .free) : cap[i]? = some none := by
  obtain ⟨c, h1, h2⟩ := capOk_get h e
  rcases c with _ | j
  · exact h1
  · replace h2 : (k == .free && N[j]?.elim false fun q => decide (q.1 = x) && (q.2 == .cell || q.2 == .free)) = true := h2
    exact absurd (beq_iff_eq.mp (b2 h2).1) n

theorem relN_fst (N names : List (Str × NameKind)) : (relN N names).map (·.1) = names.map (·.1) := by
  unfold relN
  rw [List.map_map]
  congr 1
  funext x
  obtain ⟨n, k⟩ := x
  show (if _ then _ else _ : Str × NameKind).1 = n
  split <;> rfl
theorem relN_at {N names : List (Str × NameKind)} {i : Nat} {x : Str} {k : NameKind} (h : names[i]? = some (x, k)) : (relN N names)[i]? = some (if (k == .free && N.lookup x == some .cell) then (x, .cell) else (x, k)) := by
  unfold relN
  rw [List.getElem?_map, h]
  rfl
theorem relN_inv {N names : List (Str × NameKind)} {i : Nat} {x : Str} {k : NameKind} (h : (relN N names)[i]? = some (x, k)) : ∃ k0, names[i]? = some (x, k0) ∧ (k0 = k ∨ k0 = .free ∧ k = .cell) := by
  unfold relN at h
  rw [List.getElem?_map, Option.map_eq_some_iff] at h
  obtain ⟨⟨y, k0⟩, h1, h2⟩ := h
  dsimp only at h2
  split at h2
  · rename_i q
    rw [Bool.and_eq_true, beq_iff_eq] at q
    obtain ⟨rfl, rfl⟩ := Prod.mk.inj h2
    exact ⟨k0, h1, .inr ⟨q.1, rfl⟩⟩
  · cases h2; exact ⟨_, h1, .inl rfl⟩

set_option linter.unusedSimpArgs false in
theorem newComp_env {X : Cx} {A : Around} {env : Env} {scope : Scope} {cl : List (Str × Addr)} {s : Shared} (hnod : nodupN scope.names) (hk : scope.kind = .function) (hab : X.base.objs.size ≤ s.heap.objs.size)
    (hcl : ∀ x c, cl.lookup x = some c → ∃ o, s.heap.get? c = some o) (hap : ∀ x y c, cl.lookup x = some c → cl.lookup y = some c → x = y) {N : List (Str × NameKind)}
    {Q : Env → Shared → Prop}
    (h : ∀ cenv h', cenv.locals = s.heap.objs.size → cenv.cells = cellsFrom (s.heap.objs.size + 1) scope.names cl → cenv.globals = env.globals → cenv.builtins = env.builtins → cenv.scope = scope →
      NewFr X scope.names (relN N scope.names) cl s.heap.objs.size s.heap h' → Q cenv { s with heap := h' }) :
    wpAny (model pg X.w) A (newFunctionEnv scope env.globals cl [] env.qual none .none (some env)) Q no s := by
  let _ := hk
  unfold newFunctionEnv
  simp only [Option.isSome_some, if_true]
  refine wpAny_bind (wpAny_alloc ?_)
  refine wpAny_bind (wpAny_layCells _ (fun name kind cells => by cases hkc : kind == NameKind.cell <;> simp [hkc]) _ _ _ _ ?_)
  have ok := cellsFrom_ok scope.names (s.heap.push { cls := .type "dict", data := .dict #[] }) (s.heap.objs.size + 1) [] ⟨fun _ _ hm => (nomatch hm), List.Pairwise.nil⟩ (by rw [Heap.size_push]; exact Nat.le_refl _)
  rw [Heap.size_push] at ok
  rw [show ({ s with heap := s.heap.push { cls := .type "dict", data := .dict #[] } } : Shared).heap.objs.size = s.heap.objs.size + 1 from Heap.size_push ..]
  refine wpAny_bind ?_
  rw [List.forIn_nil]
  refine wpAny_pure (wpAny_pure (h _ _ rfl rfl rfl rfl rfl ⟨hnod, relN_fst _ _, fun i x hx => ?_, fun i x hx => ?_, (Heap.Ns.new s.heap (.type "dict")).keeps (pushCells_keeps _ _), size_free _, hab,
    fun b o e => pushCells_keeps _ _ b o (Heap.get?_push_of_some _ e), ok, rfl, hcl, hap⟩))
  · rw [relN_at hx]; rfl
  · obtain ⟨k0, h1, h2⟩ := relN_inv hx
    rcases h2 with h2 | ⟨_, h2⟩
    · rw [← h2]; exact h1
    · cases h2

noncomputable def ownT (names : List (Str × NameKind)) (tg : List Nat) : Bool := tg.all fun i => match names[i]? with
  | some (_, k) => k == .local || k == .cell
  | none => false

theorem vcap_at {cap : List (Option Nat)} {ρ : LE} {i : Nat} {a : AV} (h : (vcap cap ρ)[i]? = some (some a)) : ∃ j, cap[i]? = some (some j) ∧ ρ[j]? = some (some a) := by
  unfold vcap at h
  rw [List.getElem?_map, Option.map_eq_some_iff] at h
  obtain ⟨o, h1, h2⟩ := h
  induction o using Option.casesOn with
  | none => cases h2
  | some j =>
    refine ⟨j, h1, ?_⟩
    dsimp only at h2
    cases q : ρ[j]? with
    | none => rw [q] at h2; cases h2
    | some o => rw [q] at h2; simp at h2; rw [h2]

-- what the source of a loop leaves: an iterator, and what is due of the rest
structure SrcOk (X : Cx) (A : Around) (t : Expr) (D : Addr → Addr) (σ : ASt) (s : Shared) (P : List AV → (ASt → Prop) → ASt → Prop) (it : Value) (s2 : Shared) (D2 : Addr → Addr) (σ2 : ASt) (s1 : Shared) (fp wr : List Addr)
    (items : List AV) (G : ASt → Prop) (St : Nat → Heap → Prop) (Md : Nat → Value → Heap → Prop) : Prop where
  W : It X A t it fp wr items G St Md
  R1 : Rel X D2 σ2 s1
  T1 : Tr D σ s D2 σ2 s1
  k : ∀ b o, s1.heap.get? b = some o → s2.heap.get? b = some o
  g : s2.gens = s1.gens
  os : s2.os = s1.os
  fp : ∀ b ∈ fp, s1.heap.get? b = none ∧ ∃ o, s2.heap.get? b = some o
  st : St 0 s2.heap
  sz : items.length ≤ 100000
  q : P items G σ2
inductive SrcPost (X : Cx) (A : Around) (t : Expr) (D : Addr → Addr) (σ : ASt) (s : Shared) (P : List AV → (ASt → Prop) → ASt → Prop) (it : Value) (s2 : Shared) : Prop
  | mk (D2 : Addr → Addr) (σ2 : ASt) (s1 : Shared) (fp wr : List Addr) (items : List AV) (G : ASt → Prop) (St : Nat → Heap → Prop) (Md : Nat → Value → Heap → Prop) (H : SrcOk X A t D σ s P it s2 D2 σ2 s1 fp wr items G St Md) : SrcPost X A t D σ s P it s2
theorem SrcOk.R {X A t D σ s P it s2 D2 σ2 s1 fp wr items G St Md} (h : SrcOk X A t D σ s P it s2 D2 σ2 s1 fp wr items G St Md) : Rel X D2 σ2 s2 := h.R1.all h.k h.g h.os
theorem SrcOk.T {X A t D σ s P it s2 D2 σ2 s1 fp wr items G St Md} (h : SrcOk X A t D σ s P it s2 D2 σ2 s1 fp wr items G St Md) : Tr D σ s D2 σ2 s2 := h.T1.trans (Tr.all h.k)
theorem SrcOk.un {X A t D σ s P it s2 D2 σ2 s1 fp wr items G St Md} (h : SrcOk X A t D σ s P it s2 D2 σ2 s1 fp wr items G St Md) : ∀ b ∈ fp, Un D σ s b := fun b hb => Un.of h.T1 (h.fp b hb).1
theorem SrcOk.own {X A t D σ s P it s2 D2 σ2 s1 fp wr items G St Md} (h : SrcOk X A t D σ s P it s2 D2 σ2 s1 fp wr items G St Md) : ∀ b ∈ fp, ¬ Own D2 σ2 b := fun b hb w => by
  obtain ⟨o, ho⟩ := h.R1.live w
  rw [(h.fp b hb).1] at ho; cases ho
theorem SrcOk.fpOk {X A t D σ s P it s2 D2 σ2 s1 fp wr items G St Md env ρ} (h : SrcOk X A t D σ s P it s2 D2 σ2 s1 fp wr items G St Md) (hcl : CellsIn env) (e : EnvR X env ρ D σ s.heap) : FpOk X env fp D2 σ2 s2 :=
  ⟨h.own, fun b hb => (h.fp b hb).2, fun b hb => h.R1.baseFree (h.fp b hb).1, fun b hb f => by
    obtain ⟨o, ho, _, _, hn, _⟩ := e.slotLive hcl b f
    have := (h.fp b hb).1
    rw [h.T1.keep b o ho hn] at this; cases this⟩

-- a comprehension, whatever is done with its list
theorem ev_compG {X A k} (Ro : Room A k) {env : Env} {ρ : LE} {D : Addr → Addr} {σ : ASt} {s : Shared} (E : EnvS env) (hcl : CellsIn env) (e : EnvR X env ρ D σ s.heap) (R : Rel X D σ s)
    {t iter elt : Expr} {scope : Scope} {pos : Pos} {tg : List Nat} {tup : Bool} {cap : List (Option Nat)} (hnod : nodupN scope.names) (hkind : scope.kind = .function) (hfs : ∀ x, foldedSetIterable iter env x = pure x)
    (ht : ctg (relN env.scope.names scope.names) tg tup t = true) (hown : ownT scope.names tg = true) (hcap : capOk env.scope.names scope.names cap = true)
    {eltV : LE → ASt → Post → Prop}
    (helt : ∀ cenv : Env, EnvS cenv → CellsIn cenv → cenv.scope.names = relN env.scope.names scope.names → ∀ ρ D σ s Q, EnvR X cenv ρ D σ s.heap → Rel X D σ s → eltV ρ σ Q → EV X A (eval elt cenv) D σ s Q)
    {Q : Post} (use : Option (Value → Sem Unit)) {P : Value → Shared → Prop}
    (hsrc : wpAny (model pg X.w) A (eval iter env) (fun v s1 => wpAny (model pg X.w) A (pyIter v) (SrcPost X A t D σ s (fun items G σ2 => vcomp tg tup eltV G items (vcap cap ρ) σ2 [] Q)) no s1) no s)
    (hP : ∀ C L s' D' σ', Un D σ s C → CompEnd X C L D σ s Q s' D' σ' → compPost (model pg X.w) A no use P (.ref L) C (.ok .next) s') :
    wpAny (model pg X.w) A (comprehension (.ListComp elt [⟨t, iter, [], 0⟩] scope pos) scope env (firstIterPos [⟨t, iter, [], 0⟩] pos) (newList []) false (eval iter env) use) P no s := by
  have hfree : ∀ x, (x, NameKind.free) ∈ scope.names → ∃ c, env.cells.lookup x = some c := fun x hx => by
    obtain ⟨i, hi⟩ := List.getElem?_of_mem hx
    obtain ⟨j, kd, _, h2, h3⟩ := capOk_at hcap i x hi
    obtain ⟨c, v, h4, _⟩ := e.cel j x kd h2 h3
    exact ⟨c, h4⟩
  have hclos : closureFor scope env = pure (clOf env.cells scope.names []) := by
    unfold closureFor
    exact congrArg (fun x : Sem (List (Str × Addr)) => x >>= fun cs => pure cs) (closure_at _ (fun n kd cs => by cases hkc : kd == NameKind.free <;> simp [hkc]) _ _ hfree)
  refine wpAny_comprehension_free (g := ⟨t, iter, [], 0⟩) rfl hfs hclos hkind (fun y hy hl => ?_) (wpAny_mono hsrc (fun v s1 h1 => wpAny_mono h1 (fun it s2 h2 => ?_) fun _ _ e => e) fun _ _ e => e)
  · obtain ⟨i, hi⟩ := List.getElem?_of_mem hy
    obtain ⟨x, kd⟩ := y
    cases hl
    exact (nod_of hnod i x _ hi).1
  obtain ⟨D2, σ2, s1', fp, wr, items, G, St, Md, H⟩ := h2
  have R2 := H.R
  have T2 := H.T
  have e2 : EnvR X env ρ D2 σ2 s2.heap := e.tr R T2
  refine wpAny_newObj_type ?_ (by show 0 ≤ sizeLine; exact Nat.zero_le _)
  have kL := push_keep (h := s2.heap) { cls := .type "list", data := .seq ([] : List Value).toArray }
  have fL := size_free s2.heap
  have hLat : IsL (s2.heap.push { cls := .type "list", data := .seq ([] : List Value).toArray }) s2.heap.objs.size #[] 0 := Heap.get?_push_size _ rfl
  have hsz3 : (s2.heap.push { cls := .type "list", data := .seq ([] : List Value).toArray }).objs.size = s2.heap.objs.size + 1 := Heap.size_push ..
  generalize hH : s2.heap.push { cls := .type "list", data := .seq ([] : List Value).toArray } = h3 at kL hLat hsz3 ⊢
  have R3 : Rel X D2 σ2 { s2 with heap := h3 } := R2.all kL rfl rfl
  have cellLive : ∀ x c, env.cells.lookup x = some c → ∃ o, s2.heap.get? c = some o := fun x c hc => e2.live2 hcl c (.inr ⟨x, hc⟩)
  refine newComp_env (X := X) (s := { s2 with heap := h3 }) (N := env.scope.names) hnod hkind ?_ (fun x c hc => ?_) (fun x y c h1 h2 => ?_) fun cenv h4 hl hc hg hb hsc NF => ?_
  · obtain ⟨o, ho⟩ := e2.live
    exact Nat.le_trans e2.above (Nat.le_of_lt (Heap.lt_size (kL _ _ ho)))
  · obtain ⟨o, ho⟩ := cellLive x c (clOf_lookup hc).2
    exact ⟨o, kL _ _ ho⟩
  · exact E.apart x y c (clOf_lookup h1).2 (clOf_lookup h2).2
  dsimp only at hl hc NF
  have hnm := relabel_names (scope := scope) E
  have tk34 : TK h3 h4 := fun a o ho _ _ => NF.keep a o ho
  have E' : EnvS { cenv with scope := relabel scope env } := NF.envS hkind hnm (hg.trans E.glob) (hb.trans E.blt) hl hc
  have e4 : EnvR X { cenv with scope := relabel scope env } (vcap cap ρ) D2 σ2 h4 := by
    refine NF.envR (s := { s2 with heap := h3 }) (s' := { s2 with heap := h4 }) R3 (by unfold vcap; rw [List.length_map, capOk_len hcap]) (fun i x kd hx hk hnc => ?_) (fun i x hx => ?_) hnm hl hc
    · obtain ⟨k0, h1, h2⟩ := relN_inv hx
      have hf : scope.names[i]? = some (x, .free) := by
        rcases h2 with h2 | ⟨h2, _⟩
        · rw [h2] at h1
          rcases hk with q | q
          · rw [q] at h1; exact (hnc h1).elim
          · rw [q] at h1; exact h1
        · rw [h2] at h1; exact h1
      obtain ⟨j, kd', g1, g2, g3⟩ := capOk_at hcap i x hf
      obtain ⟨c, v, q1, ⟨o, ho, hd⟩, q3, q4, q5⟩ := e2.cel j x kd' g2 g3
      refine ⟨c, v, clOf_lookup' (List.mem_of_getElem? hf) q1, ⟨o, kL _ _ ho, hd⟩, q3, q4, fun a ha => ?_⟩
      obtain ⟨j', w1, w2⟩ := vcap_at ha
      rw [g1] at w1; cases w1
      obtain ⟨u, hu, r⟩ := q5 a w2
      exact ⟨u, hu, r.mono fun a o ho _ _ => kL a o ho⟩
    · have hn : cap[i]? = some none := by
        rcases hx with hx | hx
        · exact capOk_none hcap i x _ hx (by decide)
        · exact capOk_none hcap i x _ hx (by decide)
      unfold vcap
      rw [List.getElem?_map, hn]; rfl
  have hcl' : CellsIn { cenv with scope := relabel scope env } := fun x c hx => by
    rw [hnm]
    rw [show ({ cenv with scope := relabel scope env } : Env).cells = cenv.cells from rfl, hc] at hx
    rcases NF.look hx with hx | ⟨_, hx⟩
    · obtain ⟨i, hi⟩ := List.getElem?_of_mem (cf_mem _ _ (mem_of_lookup hx))
      exact ⟨i, .cell, by rw [relN_at hi]; rfl, .inl rfl⟩
    · obtain ⟨i, hi⟩ := List.getElem?_of_mem (clOf_lookup hx).1
      refine ⟨i, if (NameKind.free == .free && env.scope.names.lookup x == some .cell) then .cell else .free, by rw [relN_at hi]; split <;> rfl, ?_⟩
      split
      · exact .inl rfl
      · exact .inr rfl
  have free4 : ∀ b, h3.objs.size ≤ b → h3.get? b = none := fun b hb => NF.free hb
  have un3 : ∀ b, h3.objs.size ≤ b → Un D σ s b := fun b hb => Un.of T2 (by
    cases q : s2.heap.get? b with
    | none => rfl
    | some o => have := kL _ _ q; rw [free4 b hb] at this; cases this)
  have nfr : ∀ b, h3.get? b ≠ none → (∀ x c, env.cells.lookup x = some c → b ≠ c) → ¬ FrAddr { cenv with scope := relabel scope env } b := fun b h1 h2 f => by
    rcases f with f | ⟨x, hx⟩
    · rw [show ({ cenv with scope := relabel scope env } : Env).locals = cenv.locals from rfl, hl] at f
      exact h1 (by rw [f]; exact NF.Lfree)
    · rw [show ({ cenv with scope := relabel scope env } : Env).cells = cenv.cells from rfl, hc] at hx
      rcases NF.look hx with hx | ⟨_, hx⟩
      · exact h1 (free4 b (Nat.le_of_succ_le (NF.own.empty _ _ (mem_of_lookup hx)).2))
      · exact h2 x b (clOf_lookup hx).2 rfl
  have F4 : FpOk X { cenv with scope := relabel scope env } (s2.heap.objs.size :: fp) D2 σ2 { s2 with heap := h4 } := by
    refine ⟨fun b hb => ?_, fun b hb => ?_, fun b hb => ?_, fun b hb => ?_⟩
    · rcases List.mem_cons.mp hb with rfl | hb
      · intro w; obtain ⟨o, ho⟩ := R2.live w; rw [fL] at ho; cases ho
      · exact H.own b hb
    · rcases List.mem_cons.mp hb with rfl | hb
      · exact ⟨_, NF.keep _ _ hLat⟩
      · obtain ⟨o, ho⟩ := (H.fp b hb).2
        exact ⟨o, NF.keep _ _ (kL _ _ ho)⟩
    · rcases List.mem_cons.mp hb with rfl | hb
      · exact R2.baseFree fL
      · exact H.R1.baseFree (H.fp b hb).1
    · rcases List.mem_cons.mp hb with rfl | hb
      · refine nfr _ (by rw [hLat]; simp) fun x c hx q => ?_
        obtain ⟨o, ho⟩ := cellLive x c hx
        rw [← q, fL] at ho; cases ho
      · obtain ⟨o, ho⟩ := (H.fp b hb).2
        refine nfr _ (by rw [kL _ _ ho]; simp) fun x c hx q => ?_
        obtain ⟨o', ho', _, _, hn, _⟩ := e.slotLive hcl c (.inr ⟨x, hx⟩)
        have := (H.fp b hb).1
        rw [q, H.T1.keep c o' ho' hn] at this; cases this
  have hLf : s2.heap.objs.size ∉ fp := fun hm => by obtain ⟨o, ho⟩ := (H.fp _ hm).2; rw [fL] at ho; cases ho
  have R4 : Rel X D2 σ2 { s2 with heap := h4 } := R3.all (s' := { s2 with heap := h4 }) NF.keep rfl rfl
  have T4 : Tr D σ s D2 σ2 { s2 with heap := h4 } := (T2.trans (Tr.all (s' := { s2 with heap := h3 }) kL)).trans (Tr.all NF.keep)
  have st4 : St 0 h4 := H.W.frame _ _ _ H.st (fun a o ho _ _ => NF.keep _ _ (kL a o ho)) fun b _ o ho => NF.keep _ _ (kL b o ho)
  have g2 : G σ2 := by
    have q := H.q
    induction items using List.casesOn with
    | nil => exact q.1
    | cons => exact q.1
  have loop : codeAny (model pg X.w) A (.compLoop (.ListComp elt [⟨t, iter, [], 0⟩] scope pos) 0 it (.ref s2.heap.objs.size) { cenv with scope := relabel scope env }) (compPost (model pg X.w) A no use P (.ref s2.heap.objs.size) cenv.locals) { s2 with heap := h4 } := by
    refine comp_loop Ro E' hcl' (by rw [hnm]; exact ht) (S := fun b => h3.objs.size ≤ b ∧ FrAddr { cenv with scope := relabel scope env } b) (fun i hi x kd hx => ?_) (fun b hb => hb.2)
      (helt _ E' hcl' hnm) H.W hLf (fun b hb => ?_) (fun b hb => un3 b hb.1) H.sz (fun s' D' σ' c => hP cenv.locals s2.heap.objs.size s' D' σ' ?_ c) R4 e4 T4 F4 st4 (NF.keep _ _ hLat) H.q
    · rw [hnm] at hx
      have ho := List.all_eq_true.mp hown i hi
      obtain ⟨k0, h1, h2⟩ := relN_inv hx
      rw [h1] at ho
      have ho' : k0 = .local ∨ k0 = .cell := by simpa using ho
      refine ⟨fun q => ⟨?_, .inl rfl⟩, fun q c hc' => ⟨?_, .inr ⟨x, hc'⟩⟩⟩
      · rw [show ({ cenv with scope := relabel scope env } : Env).locals = cenv.locals from rfl, hl]; exact Nat.le_refl _
      · have hk0 : k0 = .cell := by
          rcases h2 with h2 | ⟨h2, _⟩
          · rw [h2]; exact q
          · rcases ho' with z | z <;> rw [h2] at z <;> cases z
        rw [hk0] at h1
        obtain ⟨d, hd⟩ := cf_has scope.names (h3.objs.size + 1) (List.mem_of_getElem? h1)
        rw [show ({ cenv with scope := relabel scope env } : Env).cells = cenv.cells from rfl, hc, cf_app, List.lookup_append, hd] at hc'
        cases hc'
        exact Nat.le_of_succ_le (NF.own.empty _ _ (mem_of_lookup hd)).2
    · rcases List.mem_cons.mp hb with rfl | hb
      · exact Un.of T2 fL
      · exact H.un b hb
    · exact un3 _ (by rw [hl]; exact Nat.le_refl _)
  refine codeAny_compStart_list loop (wpAny_mono (H.W.self 0 D2 σ2 _ _ R4 g2 st4 (by exact loop)) (fun _ _ h => h) fun _ _ h => h.elim)

end Np

namespace Np

-- the names of the top
theorem Gd.kinS {X D σ s} (G : Gd X) (R : Rel X D σ s) : X.K.In s.heap := fun b o e => R.base b o (G.kin b o e)
theorem Gd.globS {X D σ s} (G : Gd X) (R : Rel X D σ s) : s.heap.Ns mainGlobals (X.base.nsMap mainGlobals) := G.glob.keeps fun b o e => R.base b o e
theorem Gd.bltS {X D σ s} (G : Gd X) (R : Rel X D σ s) : s.heap.Ns builtinsNs (X.base.nsMap builtinsNs) := G.blt.keeps fun b o e => R.base b o e

theorem ev_gname {X A env D σ s} (G : Gd X) (E : EnvS env) (R : Rel X D σ s) {x : Str} {pos : Pos} (hx : env.scope.names.lookup x = some .globalImplicit) (hd : (x == ("__debug__" : Str)) = false) {v : Value}
    (e : nsIn X.K mainGlobals x = some (some v)) {P : Value → Shared → Prop} (h : P v s) : wpAny (model pg X.w) A (eval (.Name x pos) env) P no s :=
  Calls.Name_function_global E.kind hx (Calls.loadGlobal_global (by rw [E.glob]; exact G.globS R) (mg_of G.kin G.glob e) h) hd
theorem ev_bname {X A env D σ s} (G : Gd X) (E : EnvS env) (R : Rel X D σ s) {x : Str} {pos : Pos} (hx : env.scope.names.lookup x = some .globalImplicit) (hd : (x == ("__debug__" : Str)) = false) (hn : x ≠ "__name__") {v : Value}
    (e : nsIn X.K mainGlobals x = some none) (hv : bootBuiltins x = some v) {P : Value → Shared → Prop} (h : P v s) : wpAny (model pg X.w) A (eval (.Name x pos) env) P no s :=
  Calls.Name_function_global E.kind hx (Calls.loadGlobal_builtin (by rw [E.glob]; exact G.globS R) (mg_none_of G.kin G.glob e) (by rw [E.blt]; exact G.bltS R) ((G.boot x hn).trans hv) h) hd

-- arguments
noncomputable def notStar : Expr → Bool
  | .Starred .. => false
  | _ => true
theorem starEach_cons {e : Expr} (es : List Expr) (env : Env) (h : notStar e = true) : starEach (e :: es) env = (false, eval e env) :: starEach es env := by
  cases e <;> first | rfl | cases h
theorem backTo_cons (pos : Pos) (t : Sem Value) (r : List (Bool × Sem Value)) : backTo pos ((false, t) :: r) = (false, t) :: backTo pos r := rfl
theorem backTo_any (pos : Pos) (env : Env) : ∀ es : List Expr, es.all notStar = true → (backTo pos (starEach es env)).any (·.1) = false
  | [], _ => rfl
  | e :: es, h => by
    rw [List.all_cons, Bool.and_eq_true] at h
    rw [starEach_cons es env h.1, backTo_cons, List.any_cons, backTo_any pos env es h.2]; rfl
theorem evalArgs_any {M : Model} {A : Around} {E : Value → Shared → Prop} {s : Shared} {f : Value} {es : List Expr} {env : Env} {pos : Pos} (hs : es.all notStar = true) {Q : Args → Shared → Prop}
    (h : wpAny M A (spliced (backTo pos (starEach es env))) (fun vs s' => Q ⟨vs, []⟩ s') E s) : wpAny M A (evalArgs f true (backTo pos (starEach es env)) []) Q E s := by
  induction es using List.casesOn with
  | nil =>
    unfold evalArgs
    show wpAny M A (spliced [] >>= _) Q E s
    refine wpAny_bind (wpAny_mono h (fun vs s' h' => ?_) fun _ _ x => x)
    refine wpAny_bind (wpAny_pure ?_)
    refine wpAny_holding ?_
    exact wpAny_bind (wpAny_pure (wpAny_bind (wpAny_pure (wpAny_pure h'))))
  | cons e es =>
    rw [List.all_cons, Bool.and_eq_true] at hs
    rw [starEach_cons es env hs.1, backTo_cons] at h ⊢
    exact evalArgs_plain h

-- arguments, and then what is called is called
theorem ev_type {X A D σ s} {T : String} {es : List Expr} {env : Env} {pos : Pos} (hs : es.all notStar = true) {Q : List AV → ASt → Prop} {P : Value → Shared → Prop} (h : EL X A (spliced (backTo pos (starEach es env))) D σ s Q)
    (k : ∀ vs l D' σ' s', VRs s'.heap vs l → Rel X D' σ' s' → Tr D σ s D' σ' s' → Q l σ' → wpAny (model pg X.w) A (call (.type T) vs) P no s') : wpAny (model pg X.w) A (callWith pos (.type T) [] (backTo pos (starEach es env)) []) P no s :=
  PyProof.Rows.callWith_type (backTo_any pos env es hs) (evalArgs_any hs (EVg.then (γ := Unit) h fun vs l D' σ' s' a b c d => k vs l D' σ' s' a b c d))
theorem ev_builtin {X A D σ s} {T : String} {first : List Value} {es : List Expr} {env : Env} {pos : Pos} (hs : es.all notStar = true) {Q : List AV → ASt → Prop} {P : Value → Shared → Prop} (h : EL X A (spliced (backTo pos (starEach es env))) D σ s Q)
    (k : ∀ vs l D' σ' s', VRs s'.heap vs l → Rel X D' σ' s' → Tr D σ s D' σ' s' → Q l σ' → wpAny (model pg X.w) A (call (.builtin T) (first ++ vs)) P no s') : wpAny (model pg X.w) A (callWith pos (.builtin T) first (backTo pos (starEach es env)) []) P no s :=
  Calls.callWith_builtin (backTo_any pos env es hs) (evalArgs_any hs (EVg.then (γ := Unit) h fun vs l D' σ' s' a b c d => k vs l D' σ' s' a b c d))
theorem ev_own {X A D σ s} (G : Gd X) {f : Value} {first : List Value} {es : List Expr} {env : Env} {pos : Pos} (hk : keepIn X.K f = true) (hs : es.all notStar = true) {Q : List AV → ASt → Prop} {P : Value → Shared → Prop} (h : EL X A (spliced (backTo pos (starEach es env))) D σ s Q)
    (k : ∀ vs l D' σ' s', VRs s'.heap vs l → Rel X D' σ' s' → Tr D σ s D' σ' s' → Q l σ' → wpAny (model pg X.w) A (call f (first ++ vs)) P no s') : wpAny (model pg X.w) A (callWith pos f first (backTo pos (starEach es env)) []) P no s :=
  callWith_of (by rw [backTo_any pos env es hs]; rfl) (keeps_K hk) (evalArgs_any hs (EVg.then (γ := Unit) h fun vs l D' σ' s' a b c d => ⟨G.kinS b, k vs l D' σ' s' a b c d⟩))

-- the sources of loops
theorem src_of {X A k} (Ro : Room A k) {iter : Expr} {env : Env} {t : Expr} (hT : okT t) {D σ s} {P : List AV → (ASt → Prop) → ASt → Prop} (h : EV X A (eval iter env) D σ s fun x σ2 => vsrc .of x .non σ2 fun l G => P l G σ2) :
    wpAny (model pg X.w) A (eval iter env) (fun v s1 => wpAny (model pg X.w) A (pyIter v) (SrcPost X A t D σ s P) no s1) no s := by
  have hA := Ro.hd
  refine EVg.then (γ := Unit) h fun v x D1 σ1 s1 r R1 T1 q => ?_
  induction x using AV.casesOn with
  | ref a =>
    obtain rfl := r.ref_inv
    obtain ⟨l, e, hsz, q⟩ := q
    obtain ⟨vs, n, h1, p1⟩ := OR.lst_inv (R1.objs _ _ e)
    refine wpAny_pyIter_list h1.isList ?_
    have hne : a ≠ s1.heap.objs.size := Nat.ne_of_lt (Heap.lt_size h1)
    exact ⟨D1, σ1, s1, _, _, _, _, _, _, ⟨It.list hA hT hne l, R1, T1, push_keep _, rfl, rfl, fun b hb => by rw [List.mem_singleton.mp hb]; exact ⟨size_free _, _, Heap.get?_push_size _ rfl⟩,
      ⟨_, Heap.get?_push_size _ rfl, rfl, rfl⟩, hsz, q⟩⟩
  | tup l =>
    obtain ⟨a, vs, n, rfl, ht, p1⟩ := r.tup_inv
    obtain ⟨hsz, q⟩ := q
    refine wpAny_pyIter_tuple ⟨_, ht, rfl, n, rfl⟩ ?_
    have hne : a ≠ s1.heap.objs.size := Nat.ne_of_lt (Heap.lt_size ht)
    exact ⟨D1, σ1, s1, _, _, _, _, _, _, ⟨It.tup hA hT hne l p1.length, R1, T1, push_keep _, rfl, rfl, fun b hb => by rw [List.mem_singleton.mp hb]; exact ⟨size_free _, _, Heap.get?_push_size _ rfl⟩,
      ⟨⟨_, Heap.get?_push_size _ rfl, rfl, rfl⟩, push_keep _ _ _ ht, p1.mono fun a o ho _ _ => push_keep _ _ _ ho⟩, hsz, q⟩⟩
  | str x =>
    obtain ⟨_, rfl⟩ := r.str_inv
    obtain ⟨ha, hsz, q⟩ := q
    refine wpAny_pyIter_ascii ha ?_
    exact ⟨D1, σ1, s1, _, _, _, _, _, _, ⟨It.str hA hT _ _, R1, T1, push_keep _, rfl, rfl, fun b hb => by rw [List.mem_singleton.mp hb]; exact ⟨size_free _, _, Heap.get?_push_size _ rfl⟩,
      ⟨_, Heap.get?_push_size _ rfl, rfl, rfl⟩, by simpa [Str.length] using hsz, q⟩⟩
  | _ => exact False.elim q

theorem src_range {X A k} (Ro : Room A k) (G : Gd X) {env : Env} (E : EnvS env) {a : Expr} {p pos : Pos} {t : Expr} (hT : okT t) {D σ s} (R : Rel X D σ s) (hn : env.scope.names.lookup (Str.ofString "range") = some .globalImplicit) (hg : nsIn X.K mainGlobals (Str.ofString "range") = some none) (hs : notStar a = true)
    {P : List AV → (ASt → Prop) → ASt → Prop} (h : EV X A (eval a env) D σ s fun x σ2 => vsrc .range x .non σ2 fun l G => P l G σ2) :
    wpAny (model pg X.w) A (eval (.Call (.Name (Str.ofString "range") p) [a] [] pos) env) (fun v s1 => wpAny (model pg X.w) A (pyIter v) (SrcPost X A t D σ s P) no s1) no s := by
  have hA := Ro.hd
  refine Call_Name rfl (ev_bname G E R hn (by decide) (by decide) hg (v := .type "range") (by decide +kernel) ?_)
  have he := starEach_cons [] env hs
  refine PyProof.Rows.callWith_type1 ?_ he (by rfl)
  rw [he]
  refine spliced_cons (wpAny_mono (EVg.then (γ := Unit) h fun v x D1 σ1 s1 r R1 T1 q => ?_) (fun _ _ h => h) fun _ _ e => e)
  refine spliced_nil ?_
  cases x <;> first | exact False.elim q | skip
  rename_i n
  obtain ⟨tk, rfl⟩ := r.int_inv
  obtain ⟨⟨h0, h1⟩, q⟩ := q
  refine call_range_1 ?_
  have hr := IsRange.new s1.heap 0 n 1 s1.toks tk (s1.toks + 1)
  refine wpAny_pyIter_range hr (small_one (by decide) (by decide) (by lia) (by lia)) ?_
  have hz : Builtin.Range.rangeSize 0 n 1 = n := by rw [rangeSize_one]; split <;> lia
  rw [hz]
  have R1' : Rel X D1 σ1 { s1 with heap := s1.heap.push { cls := .type "range", data := .fields #[.int 0 s1.toks, .int n tk, .int 1 (s1.toks + 1)] }, toks := s1.toks + 1 + 1 } := R1.all (push_keep _) rfl rfl
  refine ⟨D1, σ1, _, _, _, _, _, _, _, ⟨It.range hA hT n.toNat, R1', T1.trans (Tr.all (push_keep _)), push_keep _, rfl, rfl, fun b hb => by rw [List.mem_singleton.mp hb]; exact ⟨size_free _, _, Heap.get?_push_size _ rfl⟩, ?_, by unfold rangeA; simp; lia, q⟩⟩
  have hh : (n.toNat : Int) - ((0 : Nat) : Int) = n := by lia
  rw [hh]
  exact Heap.get?_push_size _ rfl

theorem src_enum {X A k} (Ro : Room A k) (G : Gd X) {env : Env} (E : EnvS env) {a : Expr} {p pos : Pos} {t : Expr} (hT : ∃ es k p, t = .Tuple es k p) {D σ s} (R : Rel X D σ s) (hn : env.scope.names.lookup (Str.ofString "enumerate") = some .globalImplicit) (hg : nsIn X.K mainGlobals (Str.ofString "enumerate") = some none) (hs : notStar a = true)
    {P : List AV → (ASt → Prop) → ASt → Prop} (h : EV X A (eval a env) D σ s fun x σ2 => vsrc .enum x .non σ2 fun l G => P l G σ2) :
    wpAny (model pg X.w) A (eval (.Call (.Name (Str.ofString "enumerate") p) [a] [] pos) env) (fun v s1 => wpAny (model pg X.w) A (pyIter v) (SrcPost X A t D σ s P) no s1) no s := by
  have hA := Ro.hd
  refine Call_Name rfl (ev_bname G E R hn (by decide) (by decide) hg (v := .type "enumerate") (by decide +kernel) ?_)
  have he := starEach_cons [] env hs
  refine PyProof.Rows.callWith_type1 ?_ he (by rfl)
  rw [he]
  refine spliced_cons (wpAny_mono (EVg.then (γ := Unit) h fun v x D1 σ1 s1 r R1 T1 q => ?_) (fun _ _ h => h) fun _ _ e => e)
  refine spliced_nil ?_
  cases x <;> first | exact False.elim q | skip
  rename_i a
  obtain rfl := r.ref_inv
  obtain ⟨l, e, hsz, q⟩ := q
  obtain ⟨vs, n, h1, p1⟩ := OR.lst_inv (R1.objs _ _ e)
  refine call_enumerate_1 h1 fun h' he hi hz hk => ?_
  refine wpAny_pyIter_enum he ?_
  have hlt := Heap.lt_size h1
  have z0 := size_free s1.heap
  have z1 : s1.heap.get? (s1.heap.objs.size + 1) = none := by
    cases q : s1.heap.get? (s1.heap.objs.size + 1) with
    | none => rfl
    | some o => exact absurd (Heap.lt_size q) (Nat.not_lt.mpr (Nat.le_succ _))
  refine ⟨D1, σ1, s1, _, _, _, _, _, _, ⟨It.enum hA hT (Nat.succ_ne_self _) (Nat.ne_of_lt (Nat.lt_succ_of_lt hlt)) (Nat.ne_of_lt hlt) l, R1, T1, hk, rfl, rfl, fun b hb => ?_, ⟨⟨_, he⟩, hi⟩, by rw [enumA_len]; exact hsz, q⟩⟩
  rcases List.mem_cons.mp hb with rfl | hb
  · exact ⟨z1, _, he⟩
  · rw [List.mem_singleton.mp hb]
    obtain ⟨o, ho, _⟩ := hi
    exact ⟨z0, o, ho⟩

end Np

namespace Np

-- the tables, held against what is written of the top
noncomputable def fnAt (T : Tab) (f : Nat) : Addr := match T.fns[f]? with
  | some (_, a) => a
  | none => 0
noncomputable def clsOk (K : Frag) (T : Tab) (ci : CI) : Bool :=
  plainGet K ci.addr Str.empty && hasDictIn K ci.addr && plainOver K ci.addr && makesIn K ci.addr && keepIn K (.ref ci.addr) && findIn K (.ref ci.addr) "__setattr__" == some (some (.builtin "object.__setattr__")) &&
    findIn K (.ref ci.addr) "__init__" == some (some (.ref (fnAt T ci.init))) && typeIn K (.ref (fnAt T ci.init)) == some (.type "function") &&
    (ci.attrs.all fun k => decide (k < 72) && findIn K (.ref ci.addr) (anm k) == some none) &&
    (ci.meths.all fun p => decide (p.1 < 72) && findIn K (.ref ci.addr) (anm p.1) == some (some (.ref (fnAt T p.2))) && isFn K (.ref (fnAt T p.2)) && keepIn K (.ref (fnAt T p.2)))

noncomputable def isiOk (K : Frag) (D C : Addr) : Bool := kin_not K D C && plainGet K D "__class__" && hasDictIn K D && findIn K (.ref D) "__class__" == some (some (.builtin "object.__class__")) &&
  specialIn K (.builtin "object.__class__") "__get__" == some (some (.builtin "getset_descriptor.__get__")) && takesIn K (.builtin "object.__class__") == some true && mroIn K D (.type "object") == some true
noncomputable def usedBuiltins : List Str := ["len", "abs", "sum", "ord", "chr", "max", "tuple", "list", "range", "enumerate", "zip", "isinstance", "str"]
structure TabOk (X : Cx) (T : Tab) : Prop where
  cls : ∀ ci ∈ T.cls, clsOk X.K T ci = true
  globs : ∀ p ∈ T.globs, ∃ v, nsIn X.K mainGlobals p.1 = some (some v) ∧ VR X.base v p.2
  fns : ∀ p ∈ T.fns, p.1 = Str.empty ∨ (keepIn X.K (.ref p.2) = true ∧ nsIn X.K mainGlobals p.1 = some (some (.ref p.2)))
  clsN : ∀ ci ∈ T.cls, nsIn X.K mainGlobals ci.name = some (some (.ref ci.addr))
  bl : ∀ x ∈ usedBuiltins, nsIn X.K mainGlobals x = some none
  isi : ∀ p ∈ T.isi, isiOk X.K p.1 p.2 = true

structure ClsOk (K : Frag) (T : Tab) (ci : CI) : Prop where
  get : plainGet K ci.addr Str.empty = true
  dict : hasDictIn K ci.addr = true
  over : plainOver K ci.addr = true
  makes : makesIn K ci.addr = true
  keep : keepIn K (.ref ci.addr) = true
  set : findIn K (.ref ci.addr) "__setattr__" = some (some (.builtin "object.__setattr__"))
  init : findIn K (.ref ci.addr) "__init__" = some (some (.ref (fnAt T ci.init)))
  initF : typeIn K (.ref (fnAt T ci.init)) = some (.type "function")
  attrs : ∀ k ∈ ci.attrs, k < 72 ∧ findIn K (.ref ci.addr) (anm k) = some none
  meths : ∀ p ∈ ci.meths, p.1 < 72 ∧ findIn K (.ref ci.addr) (anm p.1) = some (some (.ref (fnAt T p.2))) ∧ isFn K (.ref (fnAt T p.2)) = true ∧ keepIn K (.ref (fnAt T p.2)) = true
theorem clsOk_of {K T ci} (h : clsOk K T ci = true) : ClsOk K T ci := by
  unfold clsOk at h
  simp only [Bool.and_eq_true, beq_iff_eq, List.all_eq_true, decide_eq_true_eq] at h
  obtain ⟨⟨⟨⟨⟨⟨⟨⟨⟨h1, h2⟩, h3⟩, h4⟩, h5⟩, h6⟩, h7⟩, h8⟩, h9⟩, h10⟩ := h
  exact ⟨h1, h2, h3, h4, h5, h6, h7, h8, fun k hk => h9 k hk, fun p hp => let ⟨⟨⟨a, b⟩, c⟩, d⟩ := h10 p hp; ⟨a, b, c, d⟩⟩

theorem find_cls {T : Tab} {C : Addr} {ci : CI} (h : T.cls.find? (fun c => decide (c.addr = C)) = some ci) : ci ∈ T.cls ∧ ci.addr = C :=
  ⟨List.mem_of_find?_eq_some h, by have := List.find?_some h; simpa using this⟩
theorem attr_cls {X T} (TO : TabOk X T) {C : Addr} {k : Nat} (h : T.attr C k = true) : ∃ ci, ClsOk X.K T ci ∧ ci.addr = C ∧ k ∈ ci.attrs := by
  unfold Tab.attr at h
  rcases hc : T.cls.find? (fun c => decide (c.addr = C)) with _ | ci <;> rw [hc] at h
  · cases h
  · obtain ⟨h1, h2⟩ := find_cls hc
    exact ⟨ci, clsOk_of (TO.cls ci h1), h2, List.contains_iff_mem.mp h⟩

-- attributes
theorem VR.handed {h v y} (r : VR h v y) (hy : y.isVal = false) : handedIn v = true := by
  cases r <;> first | rfl | cases hy
theorem inst_at {X D σ s} (R : Rel X D σ s) {a C : Addr} {at_ : List (Nat × AV)} (e : σ a = some (.inst C at_)) : ∃ es n, InstAt s.heap a (instObj C (D a)) C (some (dictOf es n)) ∧ s.heap.get? (D a) = some (dictOf es n) ∧ ER s.heap es at_ := by
  obtain ⟨h1, es, n, h2, h3⟩ := R.objs _ _ e
  exact ⟨es, n, ⟨h1, rfl, rfl, h2⟩, h2, h3⟩

theorem vatt_ref {T x k σ Q} (q : vatt T x k σ Q) : ∃ a, x = .ref a := by
  induction x using AV.casesOn with
  | ref a => exact ⟨a, rfl⟩
  | _ => exact False.elim q
theorem vsetA_ref {T x k y σ Q} (q : vsetA T x k y σ Q) : ∃ a, x = .ref a := by
  induction x using AV.casesOn with
  | ref a => exact ⟨a, rfl⟩
  | _ => exact False.elim q
theorem ev_getA {X A D σ s T} (G : Gd X) (TO : TabOk X T) (R : Rel X D σ s) {v : Value} {x : AV} (r : VR s.heap v x) {k : Nat} {Q : Post} (q : vatt T x k σ Q) {ex : Bool} : EV X A (getAttr v (anm k) ex) D σ s Q := by
  obtain ⟨a, rfl⟩ := vatt_ref q
  obtain rfl := r.ref_inv
  obtain ⟨C, at_, y, e, ha, hy, hv, q⟩ := q
  obtain ⟨ci, co, rfl, hk⟩ := attr_cls TO ha
  obtain ⟨es, n, I, _, h3⟩ := inst_at R e
  obtain ⟨hk72, hf⟩ := co.attrs k hk
  obtain ⟨w, hw, hr⟩ := h3.get hk72 hy
  exact get_value (G.kinS R) I (plainGet_of co.get).1 (findObj_own co.dict hf rfl hw) (hr.handed hv) (PostR.tok hr R q)

noncomputable def baseOk (e : Expr) : Bool := !(mCall e fun f a kw _ => (mName f fun _ => true) && a.isEmpty && kw.isEmpty)
theorem attrBase_ok {o : Expr} {n : Str} {env : Env} {t : Sem Value} (h : baseOk o = true) : attributeBase o n env t = t := by
  revert h
  induction o using Expr.casesOn with
  | Call f a kw p =>
    induction f using Expr.casesOn with
    | Name x q =>
      rcases a with _ | ⟨y, a⟩
      · rcases kw with _ | ⟨y, a⟩
        · exact fun h => absurd h Bool.false_ne_true
        · exact fun _ => rfl
      · exact fun _ => rfl
    | _ => exact fun _ => rfl
  | _ => exact fun _ => rfl

theorem ev_att {X A env D σ s T} (G : Gd X) (TO : TabOk X T) {o : Expr} {k : Nat} {pos : Pos} (hb : baseOk o = true) {Q : Post} (h : EV X A (eval o env) D σ s fun x σ2 => vatt T x k σ2 Q) : EV X A (eval (.Attribute o (anm k) pos) env) D σ s Q := by
  unfold EV EVg
  rw [arm_eval_Attribute, attrBase_ok hb]
  refine wpAny_bind (EVg.then (γ := Unit) h fun v x D' σ' s' r R T1 q => ?_)
  refine wpAny_bind (wpAny_standAt (wpAny_bind (wpAny_holding ?_)))
  refine wpAny_mono (ev_getA G TO R r q) (fun y s2 p => ?_) fun _ _ e => e
  exact wpAny_bind (wpAny_letTemporaryGo (Q := fun _ s => wpAny (model pg X.w) A (pure y) (PostR VR X D σ _ Q) no s) (wpAny_pure (p.tr T1)))

theorem putL_len (name : Str) (hs : Int) (key v : Value) : ∀ es : List DictEntry, (PySem.W.putL name hs key v es).length ≤ es.length + 1
  | [] => Nat.le_refl _
  | e :: r => by
    unfold PySem.W.putL
    split
    · exact Nat.le_succ _
    · rw [List.length_cons, List.length_cons]; have := putL_len name hs key v r; lia
-- storing an attribute
theorem osa_my {X : Cx} {A : Around} {s : Shared} {K : Frag} {x C dx : Addr} {es : List DictEntry} {n : Nat} {name : Str} {tk : Tok} {v : Value} {R : Result → Shared → Prop} (XK : K.In s.heap) (I : InstAt s.heap x (instObj C dx) C (some (dictOf es n))) (hd : s.heap.get? dx = some (dictOf es n))
    (hp : plainOver K C = true) (ht : takerIn K C name = some none) (hh : hasDictIn K C = true) (hl : (getL name es).isSome = true) (hz : es.length ≤ 999)
    (h : ∀ h', h'.get? dx = some (dictOf (PySem.W.putL name (PyData.keyHash X.w.params name) (.str name s.toks) v es) (putN name es n)) → (∀ b o, b ≠ dx → s.heap.get? b = some o → h'.get? b = some o) → R (.ok (.ret .none)) { s with heap := h', toks := s.toks + 1 }) :
    codeAny (model pg X.w) A (.call (.builtin "object.__setattr__") ⟨[.ref x, .str name tk, v], []⟩) R s := by
  refine osa_open XK I hp ht fun b => ?_
  obtain ⟨cd, hc, hd'⟩ := any_some hh
  have hput : Obj.putName name (PyData.keyHash X.w.params name) (.str name s.toks) v (dictOf es n) = dictOf (PySem.W.putL name (PyData.keyHash X.w.params name) (.str name s.toks) v es) (putN name es n) := putName_dict ..
  have hu := Heap.get?_update_self (Obj.putName name (PyData.keyHash X.w.params name) (.str name s.toks) v) hd (by rw [hput]; rfl)
  rw [hput] at hu
  have hk : ∀ b o, b ≠ dx → s.heap.get? b = some o → (s.heap.update dx (Obj.putName name (PyData.keyHash X.w.params name) (.str name s.toks) v)).get? b = some o := fun b o hb ho => (Heap.get?_update_ne _ _ _ _ hb).trans ho
  have hx := I.at_
  refine wpAny_bind (wpAny_pure (wpAny_bind (wpAny_bind (wpAny_loadPart hx (wpAny_bind ((looks_clsIn XK hc).here ?_))))))
  rw [hd']
  refine wpAny_pure (a := some dx) (wpAny_bind (wpAny_pure (wpAny_bind ?_)))
  unfold nsSet
  refine wpAny_bind (wpAny_bind (wpAny_askSetting (wpAny_pure (wpAny_bind (wpAny_mkText (wpAny_bind (wpAny_loadPart hd ?_)))))))
  have c : (!es.toArray.any (·.key.isStr name) && es.toArray.any (·.refKey)) = false := by
    rw [← Array.any_toList, ← Array.any_toList]
    unfold getL at hl
    split at hl
    · rename_i en he
      rw [List.any_eq_true.mpr ⟨en, List.mem_of_find?_eq_some he, List.find?_some he⟩]; rfl
    · split at hl
      · cases hl
      · rename_i z; rw [Bool.not_eq_true] at z; rw [z, Bool.and_false]
  dsimp only
  rw [aRefKeyMayBeTheName_at, c]
  refine wpAny_updatePart hd ?_
  refine wpAny_bind (wpAny_lookBehind hu ?_ ?_)
  · refine pastItsLine_dict ?_
    have := putL_len name (PyData.keyHash X.w.params name) (.str name s.toks) v es
    rw [List.size_toArray, sizeLine_eq]; lia
  · exact wpAny_pure (h _ hu hk)

theorem ev_setA {X A D σ s T} (G : Gd X) (TO : TabOk X T) (R : Rel X D σ s) {v w : Value} {x y : AV} (r : VR s.heap v x) (ry : VR s.heap w y) {k : Nat} {Q : ASt → Prop} (q : vsetA T x k y σ Q) : EU X A (setAttr v (anm k) w) D σ s (fun _ => Q) := by
  obtain ⟨a, rfl⟩ := vsetA_ref q
  obtain rfl := r.ref_inv
  obtain ⟨C, at_, e, ha, hz, q⟩ := q
  obtain ⟨ci, co, rfl, hk⟩ := attr_cls TO ha
  obtain ⟨es, n, I, hd, h3⟩ := inst_at R e
  obtain ⟨hk72, hf⟩ := co.attrs k hk
  refine set_plain (G.kinS R) I co.set (osa_my (s := { s with toks := s.toks + 1 }) (K := X.K) (show X.K.In s.heap from G.kinS R) I hd co.over ?_ co.dict h3.some (by rw [h3.length]; lia) fun h' h1 h2 => ?_)
  · unfold takerIn; rw [hf]; rfl
  · obtain ⟨R', T'⟩ := R.attr (s' := { s with heap := h', toks := s.toks + 1 + 1 }) e h2 (fun tk => ⟨_, _, h1, (h3.mono tk).put hk72 (ry.mono tk)⟩) rfl rfl
    exact ⟨(), D, _, trivial, R', T', q⟩

end Np

namespace Np

-- isinstance
theorem ev_isi {X A D σ s T} (G : Gd X) (TO : TabOk X T) (R : Rel X D σ s) {a C C' : Addr} {at_ : List (Nat × AV)} (e : σ a = some (.inst C at_)) (h : T.isi.contains (C, C') = true) {Q : Post} (q : Q (.bool false) σ) : EV X A (call (.builtin "isinstance") [.ref a, .ref C']) D σ s Q := by
  have := TO.isi (C, C') (by simpa using h)
  unfold isiOk at this
  simp only [Bool.and_eq_true, beq_iff_eq] at this
  obtain ⟨⟨⟨⟨⟨⟨h1, h2⟩, h3⟩, h4⟩, h5⟩, h6⟩, h7⟩ := this
  obtain ⟨es, n, I, _⟩ := inst_at R e
  exact kin_callC (G.kinS R) I h1 h2 h3 h4 h5 h6 h7 (PostR.tok .bool R q)
theorem ev_isS {X A D σ s} (R : Rel X D σ s) {x : Str} {u : Tok} {Q : Post} (q : Q (.bool true) σ) : EV X A (call (.builtin "isinstance") [.str x u, .type "str"]) D σ s Q :=
  IsiPair.str_str (PostR.here .bool R (fun _ _ e => e) rfl rfl q)

-- calling a def
noncomputable def psOk (N : List (Str × NameKind)) : List Nat → List Str → Bool
  | [], pn => pn.isEmpty
  | i :: is, pn => match pn with
    | [] => false
    | x :: xs => (mS N[i]? fun q => decide (q.1 = x) && (q.2 == .local || q.2 == .cell)) && psOk N is xs
theorem psOk_nil {N : List (Str × NameKind)} {pn} (h : psOk N [] pn = true) : pn = [] := List.isEmpty_iff.mp h
theorem psOk_cons {N : List (Str × NameKind)} {i is pn} (h : psOk N (i :: is) pn = true) : ∃ x kd xs, pn = x :: xs ∧ N[i]? = some (x, kd) ∧ (kd = .local ∨ kd = .cell) ∧ psOk N is xs = true := by
  rcases pn with _ | ⟨x, xs⟩
  · cases h
  · obtain ⟨h1, h2⟩ := b2 h
    obtain ⟨⟨y, kd⟩, hN, h⟩ := mS_some h1
    obtain ⟨h3, h4⟩ := b2 h
    obtain rfl : y = x := of_decide_eq_true h3
    exact ⟨y, kd, xs, rfl, hN, (Bool.or_eq_true_iff.mp h4).imp beq_iff_eq.mp beq_iff_eq.mp, h2⟩

theorem ev_bindParams {X A env D σ} (E : EnvS env) (hcl : CellsIn env) (f : Str × Value → PUnit → Sem (ForInStep PUnit)) (hf : ∀ n v u, f (n, v) u = (do storeName env n v; pure (.yield ⟨⟩)))
    {ps : List Nat} {l : List AV} {ρ ρ' : LE} (hb : VBind ps l ρ ρ') : ∀ {pn : List Str} {vs : List Value} {s : Shared} {P : PUnit → Shared → Prop}, EnvR X env ρ D σ s.heap → Rel X D σ s → psOk env.scope.names ps pn = true → VRs s.heap vs l →
      (∀ s', EnvR X env ρ' D σ s'.heap → Rel X D σ s' → TrS (FrAddr env) D σ s D σ s' → P ⟨⟩ s') → wpAny (model pg X.w) A (forIn (pn.zip vs) ⟨⟩ f) P no s := by
  induction hb with
  | nil =>
    intro pn vs s P e R hp r h
    obtain rfl := psOk_nil hp
    exact wpAny_pure (h s e R (TrS.refl ..))
  | cons _ _ ih =>
    intro pn vs s P e R hp r h
    obtain ⟨x, kd, xs, rfl, hN, hk, h2⟩ := psOk_cons hp
    replace r := r.cons_inv
    obtain ⟨v, ws, r, rs⟩ := r
    rw [List.zip_cons_cons, List.forIn_cons, hf]
    refine wpAny_bind (wpAny_bind (ev_storeS (S := FrAddr env) E e R hN hk ⟨fun _ => .inl rfl, fun _ c hc => .inr ⟨_, hc⟩⟩ r fun s' e' R' T' tk => wpAny_pure ?_))
    exact ih e' R' h2 (rs.mono tk) fun s'' e'' R'' T'' => h s'' e'' R'' (T'.trans (fun b hb => e'.live2 hcl b hb) T'')

-- the frame of a call
theorem newCall_env {X : Cx} {A : Around} {D σ} {scope : Scope} {qual : Str} {fa : Addr} {cdv : Value} {s : Shared} (hnod : nodupN scope.names) (hk : scope.kind = .function) (hfree : scope.names.all (fun x => x.2 != .free) = true) (hab : X.base.objs.size ≤ s.heap.objs.size)
    (R : Rel X D σ s) {ps : List Nat} {pn : List Str} {vs : List Value} {l : List AV} {ρ' : LE} (hp : psOk scope.names ps pn = true) (r : VRs s.heap vs l) (hb : vbind ps l (List.replicate scope.names.length none) = some ρ')
    {P : Env → Shared → Prop}
    (h : ∀ env s', EnvS env → CellsIn env → env.scope = scope → (∀ b, FrAddr env b → s.heap.get? b = none) → EnvR X env ρ' D σ s'.heap → Rel X D σ s' → (∀ b o, s.heap.get? b = some o → ¬ Own D σ b → s'.heap.get? b = some o) → P env s') :
    wpAny (model pg X.w) A (newFunctionEnv scope mainGlobals [] (pn.zip vs) qual (some fa) cdv none builtinsNs) P no s := by
  unfold newFunctionEnv
  simp only [Option.isSome_none, Bool.false_eq_true, if_false]
  refine wpAny_bind (wpAny_alloc ?_)
  refine wpAny_bind (wpAny_layCells _ (fun name kind cells => by cases hkc : kind == NameKind.cell <;> simp [hkc]) _ _ _ _ ?_)
  have ok := cellsFrom_ok scope.names (s.heap.push { cls := .type "frame", data := .dict #[] }) (s.heap.objs.size + 1) [] ⟨fun _ _ hm => (nomatch hm), List.Pairwise.nil⟩ (by rw [Heap.size_push]; exact Nat.le_refl _)
  rw [Heap.size_push] at ok
  rw [show ({ s with heap := s.heap.push { cls := .type "frame", data := .dict #[] } } : Shared).heap.objs.size = s.heap.objs.size + 1 from Heap.size_push ..]
  have NF : NewFr X scope.names scope.names [] s.heap.objs.size s.heap (pushCells (s.heap.push { cls := .type "frame", data := .dict #[] }) scope.names) :=
    ⟨hnod, rfl, fun _ _ h => h, fun _ _ h => h, (Heap.Ns.new s.heap (.type "frame")).keeps (pushCells_keeps _ _), size_free _, hab, fun b o e => pushCells_keeps _ _ b o (Heap.get?_push_of_some _ e), ok, rfl, fun x c hc => by (cases hc), fun x y c hc => by cases hc⟩
  generalize hH : pushCells (s.heap.push { cls := .type "frame", data := .dict #[] }) scope.names = h1 at NF ⊢
  have hE : ∃ env : Env, env = { scope, locals := s.heap.objs.size, globals := mainGlobals, cells := cellsFrom (s.heap.objs.size + 1) scope.names [], qual, func := some fa, code := cdv, frame := some s.heap.objs.size, builtins := builtinsNs } := ⟨_, rfl⟩
  obtain ⟨env, hE⟩ := hE
  have E : EnvS env := by subst hE; exact NF.envS hk rfl rfl rfl rfl rfl
  have hcl : CellsIn env := fun x c hx => by
    subst hE
    obtain ⟨i, hi⟩ := List.getElem?_of_mem (cf_mem _ _ (mem_of_lookup hx))
    exact ⟨i, .cell, hi, .inl rfl⟩
  have hfr : ∀ b, FrAddr env b → s.heap.get? b = none := fun b f => by
    subst hE
    rcases f with f | ⟨x, hx⟩
    · rw [show b = s.heap.objs.size from f]; exact NF.Lfree
    · exact NF.free (Nat.le_of_succ_le (NF.own.empty _ _ (mem_of_lookup hx)).2)
  have R1 : Rel X D σ { s with heap := h1 } := R.all (s' := { s with heap := h1 }) NF.keep rfl rfl
  have e1 : EnvR X env (List.replicate scope.names.length none) D σ h1 := by
    subst hE
    refine NF.envR (s' := { s with heap := h1 }) R (by simp) (fun i x kd hx hkd hnc => ?_) (fun i x hx => ?_) rfl rfl rfl
    · rcases hkd with q | q
      · rw [q] at hx; exact (hnc hx).elim
      · have := List.all_eq_true.mp hfree (x, kd) (List.mem_of_getElem? hx)
        rw [q] at this; simp at this
    · have hi : i < scope.names.length := by rcases hx with hx | hx <;> exact (List.getElem?_eq_some_iff.mp hx).1
      rw [List.getElem?_replicate, if_pos hi]
  have hsc : env.scope = scope := by subst hE; rfl
  refine wpAny_bind ?_
  show wpAny (model pg X.w) A (forIn (pn.zip vs) PUnit.unit _) _ no _
  refine ev_bindParams (s := { s with heap := h1 }) (env := env) E hcl _ (fun n v u => by subst hE; rfl) (.of hb) e1 R1 (by rw [hsc]; exact hp) (r.mono fun a o ho _ _ => NF.keep a o ho) fun s' e' R' T' => ?_
  have z := h env s' E hcl hsc hfr e' R' fun b o ho hn => T'.keep b o (NF.keep b o ho) hn fun f => by rw [hfr b f] at ho; cases ho
  subst hE
  exact wpAny_pure z

end Np

namespace Np

-- that a def may be called, by its condition
noncomputable def CallOk (X : Cx) (T : Tab) (W : Spec) (k : Nat) : Prop :=
  ∀ f A D σ s vs l Q (Rr : Result → Shared → Prop), Room A k → X.base.objs.size ≤ s.heap.objs.size → Rel X D σ s → VRs s.heap vs l → W f l σ Q → (∀ v s', PostR VR X D σ s Q v s' → Rr (.ok (.ret v)) s') → codeAny (model pg X.w) A (.call (.ref (fnAt T f)) ⟨vs, []⟩) Rr s

theorem CallOk.ev {X T W k} (C : CallOk X T W k) {f A D σ s vs l Q} (Ro : Room A k) (hab : X.base.objs.size ≤ s.heap.objs.size) (R : Rel X D σ s) (r : VRs s.heap vs l) (q : W f l σ Q) : EV X A (call (.ref (fnAt T f)) vs) D σ s Q :=
  wpAny_call (C f A D σ s vs l Q _ Ro hab R r q fun _ _ p => p)
theorem EnvR.hab {X env ρ D σ h} (e : EnvR X env ρ D σ h) : X.base.objs.size ≤ h.objs.size := by
  obtain ⟨o, ho⟩ := e.live
  exact Nat.le_trans e.above (Nat.le_of_lt (Heap.lt_size ho))

-- a def of the text
structure FnOk (X : Cx) (T : Tab) (chk : List (Str × NameKind) → ISs → List Stmt → Prop) (f : Nat) (F : FnI) (name qual : Str) (params : Arguments) (body : List Stmt) (scope : Scope) (dV kV doc pm cdv ct oc : Value) (an od : Option Addr) (osl : Array (Option Value)) (pn : List Str) (dvs : List Value) : Prop where
  look : X.K.lookup (fnAt T f) = some ⟨oc, od, .func (fnOf name qual params body scope dV kV doc pm an cdv ct), osl⟩
  code : codeIn X.K cdv qual = true
  kind : scope.kind = .function
  co : scope.isCoroutine = false
  gen : scope.isGenerator = false
  nod : nodupN scope.names
  free : scope.names.all (fun x => x.2 != .free) = true
  n : F.n = scope.names.length
  ps : psOk scope.names F.ps pn = true
  dfl : VRs X.base dvs F.dflt
  bind : ∀ vs, vs.length + dvs.length = pn.length → ∀ S, peek X.K S (bindArgs (fnOf name qual params body scope dV kV doc pm an cdv ct) ⟨vs, []⟩) = some (pn.zip (vs ++ dvs))
  body : chk scope.names F.body body
noncomputable def FnHas (X : Cx) (T : Tab) (chk : List (Str × NameKind) → ISs → List Stmt → Prop) (f : Nat) (F : FnI) : Prop :=
  ∃ name qual params body scope dV kV doc pm cdv ct oc an od osl pn dvs, FnOk X T chk f F name qual params body scope dV kV doc pm cdv ct oc an od osl pn dvs

theorem psOk_len {N : List (Str × NameKind)} {ps} : ∀ {pn}, psOk N ps pn = true → ps.length = pn.length := by
  induction ps with
  | nil => intro pn h; rw [psOk_nil h]; rfl
  | cons i is ih =>
    intro pn h
    obtain ⟨x, kd, xs, rfl, _, _, h2⟩ := psOk_cons h
    exact congrArg Nat.succ (ih h2)

-- a def is called
theorem call_fn {X : Cx} {T : Tab} {chk : List (Str × NameKind) → ISs → List Stmt → Prop} {W : Spec} (G : Gd X) {f : Nat} {F : FnI} (FH : FnHas X T chk f F) {k : Nat}
    (hbody : ∀ A env ρ D σ s body K, Room A k → EnvS env → CellsIn env → EnvR X env ρ D σ s.heap → Rel X D σ s → chk env.scope.names F.body body → vss T W F.body ρ σ K → wpAny (model pg X.w) A (execs body env) (PostF X env (FrAddr env) D σ s K) no s)
    {A D σ s vs l Q} {Rr : Result → Shared → Prop} (Ro : Room A (k + 1)) (R : Rel X D σ s) (r : VRs s.heap vs l) (q : vfn T W F l σ Q) (hR : ∀ v s', PostR VR X D σ s Q v s' → Rr (.ok (.ret v)) s') (hab : X.base.objs.size ≤ s.heap.objs.size) :
    codeAny (model pg X.w) A (.call (.ref (fnAt T f)) ⟨vs, []⟩) Rr s := by
  obtain ⟨name, qual, params, body, scope, dV, kV, doc, pm, cdv, ct, oc, an, od, osl, pn, dvs, H⟩ := FH
  unfold vfn at q
  split at q
  · rename_i ρ hb
    have hK := G.kinS R
    have hdv : VRs s.heap dvs F.dflt := H.dfl.mono fun a o ho _ _ => R.base a o ho
    have hlen : vs.length + dvs.length = pn.length := by
      have h1 := vbind_len hb
      have h2 := psOk_len H.ps
      have h3 := r.length
      have h4 := hdv.length
      rw [List.length_append] at h1
      lia
    refine codeAny_call_function (fd := fnOf name qual params body scope dV kV doc pm an cdv ct) (body := body) (by have := Ro.depth; unfold recursionLimit at *; lia) (hK _ _ H.look) rfl H.co H.gen rfl (codeRec_of hK H.code)
      (kp_binds hK (H.bind vs hlen) _ _ _ _ ?_)
    refine wpAny_mono (newCall_env (X := X) (D := D) (σ := σ) (l := l ++ F.dflt) H.nod H.kind H.free hab R H.ps (r.app hdv) (by rw [← H.n]; exact hb) fun env s1 E hcl hsc hfr e1 R1 hk1 => ?_) (fun _ _ h => h) fun _ _ e => e.elim
    refine ⟨G.nolim.keeps fun b o e => R1.base b o e, codeAny_func (wpAny_mono (hbody (A.deeper env) env ρ D σ s1 body _ Ro.deeper E hcl e1 R1 (by rw [hsc]; exact H.body) q) (fun fl s2 p => ?_) fun _ _ e => e.elim)⟩
    obtain ⟨o, ρ2, D2, σ2, hfl, R2, e2, T2, q2⟩ := p
    have T3 : Tr D σ s D2 σ2 s2 := by
      refine ⟨fun b ob ho hn => T2.keep b ob (hk1 b ob ho hn) hn (fun f => by rw [hfr b f] at ho; cases ho), fun b w => ?_⟩
      by_cases hw : Own D σ b
      · exact .inl hw
      · cases hb : s.heap.get? b with
        | none => exact .inr rfl
        | some ob =>
          rcases T2.fresh b w with z | z
          · exact (hw z).elim
          · rw [hk1 b ob hb hw] at z; cases z
    cases hfl with
    | next => exact hR _ _ ⟨.non, D2, σ2, .non, R2, T3, q2⟩
    | cont => exact q2.elim
    | ret rr => exact hR _ _ ⟨_, D2, σ2, rr, R2, T3, q2⟩
  · exact q.elim

theorem Room.under {A : Around} {k : Nat} {c : Code} (r : Room A (k + 1)) (h1 : c.weight ≤ 5) (h2 : c.cUnits ≤ 60) : Room (A.under c) k :=
  ⟨r.hd, by have := r.depth; show A.depth + c.weight + 5 * k + 10 < _; lia, by have := r.units; show A.units + c.cUnits + 60 * k + 200 < _; lia⟩

-- a class is called
theorem call_cls {X : Cx} {T : Tab} {W : Spec} {k : Nat} (G : Gd X) (TO : TabOk X T) (C : CallOk X T W k) {c : Nat} {A D σ s vs l Q} {Rr : Result → Shared → Prop} (Ro : Room A (k + 1)) (hab : X.base.objs.size ≤ s.heap.objs.size) (R : Rel X D σ s) (r : VRs s.heap vs l) (q : vcls T W c l σ Q)
    (hR : ∀ v s', PostR VR X D σ s Q v s' → Rr (.ok (.ret v)) s') {ci : CI} (hc : T.cls[c]? = some ci) : codeAny (model pg X.w) A (.call (.ref ci.addr) ⟨vs, []⟩) Rr s := by
  unfold vcls at q
  rw [hc] at q
  dsimp only at q
  have co := clsOk_of (TO.cls ci (List.mem_of_getElem? hc))
  obtain ⟨hh, g, d, t, os⟩ := s
  have hK : X.K.In hh := G.kinS R
  have hx : (Heap.get? hh (hh.objs.size + 1)) = none := by
    cases q : Heap.get? hh (hh.objs.size + 1) with
    | none => rfl
    | some o => exact absurd (Heap.lt_size q) (Nat.not_lt.mpr (Nat.le_succ _))
  have hk : ∀ b o, hh.get? b = some o → ((hh.push emptyDict).push (instObj ci.addr hh.objs.size)).get? b = some o := fun b o e => push_keep _ _ _ (push_keep _ _ _ e)
  have hsz : (hh.push emptyDict).objs.size = hh.objs.size + 1 := Heap.size_push ..
  have h1 : ((hh.push emptyDict).push (instObj ci.addr hh.objs.size)).get? (hh.objs.size + 1) = some (instObj ci.addr hh.objs.size) := by rw [← hsz]; exact Heap.get?_push_size _ rfl
  have h2 : ((hh.push emptyDict).push (instObj ci.addr hh.objs.size)).get? hh.objs.size = some (dictOf [] 0) := push_keep _ _ _ (Heap.get?_push_size _ rfl)
  obtain ⟨R', T'⟩ := R.inst (s' := ⟨(hh.push emptyDict).push (instObj ci.addr hh.objs.size), g, d, t, os⟩) (x := hh.objs.size + 1) (dx := hh.objs.size) (C := ci.addr) hx (size_free hh) (Nat.succ_ne_self _) hk h1 h2 rfl rfl
  refine make_core (makes_of hK co.makes) (looks_findIn hK co.init) (fun self => bind_fn hK self co.initF) (.inl rfl) ?_
  have hn := R.none_of_free hx
  refine C ci.init _ _ _ _ (.ref (hh.objs.size + 1) :: vs) (.ref (hh.objs.size + 1) :: l) _ _ (show Room (A.under _) k from ?_) (show X.base.objs.size ≤ ((hh.push emptyDict).push (instObj ci.addr hh.objs.size)).objs.size by rw [Heap.size_push, hsz]; exact Nat.le_trans hab (Nat.le_trans (Nat.le_succ _) (Nat.le_succ _))) R' (.cons .ref (r.mono fun a o ho _ _ => hk a o ho)) (q (hh.objs.size + 1) hn) fun v s' p => ?_
  · exact Ro.under (show 1 ≤ 5 by decide) (show 1 ≤ 60 by decide)
  · obtain ⟨x, D2, σ2, h3, R2, T2, rfl, q2⟩ := p
    obtain rfl := h3.non_inv
    exact ⟨rfl, hR _ _ ⟨_, D2, σ2, .ref, R2, T'.trans T2, q2⟩⟩

end Np

namespace Np

-- the text held against the program's parts
noncomputable abbrev Nm := List (Str × NameKind)
noncomputable def glo (N : Nm) (x : Str) : Bool := N.lookup x == some .globalImplicit && !(x == ("__debug__" : Str)) && decide (x ≠ "__name__")
noncomputable def IR.isNon (i : IR) : Bool := Nat.beq i.ctorIdx 0
noncomputable def locOk (N : Nm) (i : Nat) (x : Str) : Bool := mS N[i]? fun p => decide (p.1 = x) && (p.2 == .local || p.2 == .cell || p.2 == .free) && !(x == ("__debug__" : Str)) && !(x == ("__classdict__" : Str))
noncomputable def callForm (apos pos : Pos) (args : List Expr) : Bool := apos.endLine == pos.line && decide (args.length < 30) && args.all notStar
noncomputable def Bi.nm : Bi → Str
  | .len => "len"
  | .abs => "abs"
  | .sum => "sum"
  | .ord => "ord"
  | .chr => "chr"
  | .max => "max"
  | .tuple => "tuple"
  | .list => "list"
noncomputable def notSet (e : Expr) : Bool := !(Nat.beq e.ctorIdx 7)
noncomputable def isNoneC : Const → Bool
  | .none => true
  | _ => false
noncomputable def mBoolC (c : Const) (b : Bool) : Bool := match c with
  | .bool d => b == d
  | _ => false
noncomputable def mIntC (c : Const) (i : Int) : Bool := match c with
  | .int d => i == d
  | _ => false
noncomputable def mStrC (c : Const) (i : Str) : Bool := match c with
  | .str d => decide (i = d)
  | _ => false
noncomputable def mNegC (c : Const) (i : Int) : Bool := match c with
  | .int d => i == -d
  | _ => false
theorem mNegC_inv {c i} : mNegC c i = true → ∃ j, c = .int j ∧ i = -j := by
  cases c with
  | int d => exact fun h => ⟨d, rfl, beq_iff_eq.mp h⟩
  | _ => exact Bool.noConfusion
theorem kd3 {kd : NameKind} (h : (kd == .local || kd == .cell || kd == .free) = true) : kd = .local ∨ kd = .cell ∨ kd = .free := by
  rcases Bool.or_eq_true_iff.mp h with q | q
  · rcases Bool.or_eq_true_iff.mp q with q | q
    · exact .inl (beq_iff_eq.mp q)
    · exact .inr (.inl (beq_iff_eq.mp q))
  · exact .inr (.inr (beq_iff_eq.mp q))
theorem isNoneC_inv {c} : isNoneC c = true → c = .none := by cases c <;> first | exact fun _ => rfl | exact Bool.noConfusion
theorem mBoolC_inv {c b} : mBoolC c b = true → c = .bool b := by
  cases c with
  | bool d => exact fun h => by rw [beq_iff_eq.mp h]
  | _ => exact Bool.noConfusion
theorem mIntC_inv {c b} : mIntC c b = true → c = .int b := by
  cases c with
  | int d => exact fun h => by rw [beq_iff_eq.mp h]
  | _ => exact Bool.noConfusion
theorem mStrC_inv {c b} : mStrC c b = true → c = .str b := by
  cases c with
  | str d => exact fun h => by rw [of_decide_eq_true h]
  | _ => exact Bool.noConfusion
noncomputable def isIsNot : CmpOp → Bool
  | .IsNot => true
  | _ => false
noncomputable def isUSub : UnaryOp → Bool
  | .USub => true
  | _ => false
noncomputable def isNot : UnaryOp → Bool
  | .Not => true
  | _ => false
noncomputable def isAndB : BoolOp → Bool
  | .And => true
  | .Or => false
theorem isIsNot_inv {c} : isIsNot c = true → c = .IsNot := by cases c <;> first | exact fun _ => rfl | exact Bool.noConfusion
theorem isUSub_inv {c} : isUSub c = true → c = .USub := by cases c <;> first | exact fun _ => rfl | exact Bool.noConfusion
theorem isNot_inv {c} : isNot c = true → c = .Not := by cases c <;> first | exact fun _ => rfl | exact Bool.noConfusion
theorem isAndB_inv {c} : isAndB c = true → c = .And := by cases c <;> first | exact fun _ => rfl | exact Bool.noConfusion
theorem isOrB_inv {c} : (!isAndB c) = true → c = .Or := by cases c <;> first | exact fun _ => rfl | exact Bool.noConfusion
theorem isNone_inv {α : Type} {o : Option α} : o.isNone = true → o = none := by cases o <;> first | exact fun _ => rfl | exact Bool.noConfusion
-- a call of a name, with plain arguments alone
noncomputable def mCallN (e : Expr) (f : Str → List Expr → Bool) : Bool := mCall e fun g args kws _ => kws.isEmpty && mName g fun x => f x args
inductive VCallN (f : Str → List Expr → Bool) : Expr → Prop
  | mk (x xp args p) (h : f x args = true) : VCallN f (.Call (.Name x xp) args [] p)
theorem mCallN_inv {e f} (h : mCallN e f = true) : VCallN f e := by
  replace h := mCall_inv h
  obtain ⟨g, args, kws, p, h⟩ := h
  replace h := b2 h
  obtain ⟨hk, h⟩ := h
  obtain rfl := List.isEmpty_iff.mp hk
  replace h := mName_inv h
  obtain ⟨x, xp, h⟩ := h
  exact .mk x xp args p h
-- a call of a method, with plain arguments alone
noncomputable def mCallM (e : Expr) (f : Expr → Str → Pos → List Expr → Pos → Bool) : Bool := mCall e fun g args kws p => kws.isEmpty && mAtt g fun o n ap => f o n ap args p
inductive VCallM (f : Expr → Str → Pos → List Expr → Pos → Bool) : Expr → Prop
  | mk (o n ap args p) (h : f o n ap args p = true) : VCallM f (.Call (.Attribute o n ap) args [] p)
theorem mCallM_inv {e f} (h : mCallM e f = true) : VCallM f e := by
  replace h := mCall_inv h
  obtain ⟨g, args, kws, p, h⟩ := h
  replace h := b2 h
  obtain ⟨hk, h⟩ := h
  obtain rfl := List.isEmpty_iff.mp hk
  replace h := mAtt_inv h
  obtain ⟨o, n, ap, h⟩ := h
  exact .mk o n ap args p h
-- a comprehension of one loop without conditions
noncomputable def mCompS (e : Expr) (f : Expr → Expr → Expr → Scope → Bool) : Bool := mComp e fun elt gens scope => mL1 gens fun g => g.ifs.isEmpty && decide (g.is_async = 0) && f elt g.target g.iter scope
inductive VCompS (f : Expr → Expr → Expr → Scope → Bool) : Expr → Prop
  | mk (elt t iter scope p) (h : f elt t iter scope = true) : VCompS f (.ListComp elt [⟨t, iter, [], 0⟩] scope p)
theorem mCompS_inv {e f} (h : mCompS e f = true) : VCompS f e := by
  replace h := mComp_inv h
  obtain ⟨elt, gens, scope, p, h⟩ := h
  obtain ⟨⟨t, iter, ifs, asy⟩, h⟩ := mL1_inv h
  replace h := b3 h
  obtain ⟨h1, h2, h⟩ := h
  obtain rfl : ifs = [] := List.isEmpty_iff.mp h1
  obtain rfl : asy = 0 := of_decide_eq_true h2
  exact .mk elt t iter scope p h
noncomputable def zipC (c : Expr) (f : Str → Bool) : Bool := mCmp c fun x os rs => (mL1 os fun o => isIsNot o) && (mL1 rs fun r => mCst r fun n => isNoneC n) && mName x f
inductive VzipC (f : Str → Bool) : Expr → Prop
  | mk (x p1 k1 p2 p3) (h : f x = true) : VzipC f (.Compare (.Name x p1) [.IsNot] [.Constant .none k1 p2] p3)
theorem zipC_inv {c f} (h : zipC c f = true) : VzipC f c := by
  replace h := mCmp_inv h
  obtain ⟨x, os, rs, p3, h⟩ := h
  replace h := b3 h
  obtain ⟨h1, h2, h⟩ := h
  replace h1 := mL1_inv h1
  obtain ⟨o, h1⟩ := h1
  obtain rfl := isIsNot_inv h1
  replace h2 := mL1_inv h2
  obtain ⟨r, h2⟩ := h2
  replace h2 := mCst_inv h2
  obtain ⟨c, k1, p2, h2⟩ := h2
  obtain rfl := isNoneC_inv h2
  replace h := mName_inv h
  obtain ⟨x, p1, h⟩ := h
  exact .mk x p1 k1 p2 p3 h
noncomputable def mTup2N (t : Expr) (f : Str → Str → Bool) : Bool := mTup t fun es => mL2 es fun a b => mName a fun a => mName b fun b => f a b
inductive VTup2N (f : Str → Str → Bool) : Expr → Prop
  | mk (a b p7 p8 k2 q) (h : f a b = true) : VTup2N f (.Tuple [.Name a p7, .Name b p8] k2 q)
theorem mTup2N_inv {c f} (h : mTup2N c f = true) : VTup2N f c := by
  replace h := mTup_inv h
  obtain ⟨es, k2, q, h⟩ := h
  replace h := mL2_inv h
  obtain ⟨a, b, h⟩ := h
  replace h := mName_inv h
  obtain ⟨a, p7, h⟩ := h
  replace h := mName_inv h
  obtain ⟨b, p8, h⟩ := h
  exact .mk a b p7 p8 k2 q h
noncomputable def zipE (elt : Expr) (f : Str → Str → Str → Bool) : Bool := mIf elt fun c y z => zipC c fun x => mName y fun y => mName z fun z => f x y z
inductive VzipE (f : Str → Str → Str → Bool) : Expr → Prop
  | mk (x y z p1 p2 p3 p4 p5 p6 k1) (h : f x y z = true) : VzipE f (.IfExp (.Compare (.Name x p1) [.IsNot] [.Constant .none k1 p2] p3) (.Name y p4) (.Name z p5) p6)
theorem zipE_inv {e f} (h : zipE e f = true) : VzipE f e := by
  replace h := mIf_inv h
  obtain ⟨c, y, z, p6, h⟩ := h
  replace h := zipC_inv h
  obtain ⟨x, p1, k1, p2, p3, h⟩ := h
  replace h := mName_inv h
  obtain ⟨y, p4, h⟩ := h
  replace h := mName_inv h
  obtain ⟨z, p5, h⟩ := h
  exact .mk x y z p1 p2 p3 p4 p5 p6 k1 h
noncomputable def zipN (names : Nm) (x y z a b : Str) : Bool := decide (x = a) && decide (y = a) && decide (z = b) && decide (a ≠ b) && !(a == ("__debug__" : Str)) && !(b == ("__debug__" : Str)) && names.lookup a == some .local && names.lookup b == some .local
noncomputable def zipElt (elt : Expr) (t : Expr) (names : Nm) : Bool := zipE elt fun x y z => mTup2N t fun a b => zipN names x y z a b

mutual
noncomputable def ce (T : Tab) (N : Nm) : IR → Expr → Bool
  | .non, e => mCst e isNoneC
  | .tt b, e => mCst e fun c => mBoolC c b
  | .int i, e => (mCst e fun c => mIntC c i) || mUn e fun o x => isUSub o && mCst x fun c => mNegC c i
  | .str x, e => mCst e fun c => mStrC c x
  | .loc i, e => mName e fun x => locOk N i x
  | .glob k, e => mName e fun x => (mS T.globs[k]? fun p => decide (p.1 = x)) && glo N x
  | .bin o a b, e => mBin e fun l p r => o == p && ce T N a l && ce T N b r
  | .cmp o a b, e => mCmp e fun l os rs => mL1 os fun p => mL1 rs fun r => o == p && !(behindInMarks p r) && ce T N a l && ce T N b r
  | .cm2 a o b p c, e => mCmp e fun l os rs => mL2 os fun o' p' => mL2 rs fun r1 r2 => o == o' && p == p' && !(lastMarks [o', p'] [r1, r2]) && ce T N a l && ce T N b r1 && ce T N c r2
  | .and a b, e => mBo e fun o vs pos => isAndB o && match vs with
    | [] => false
    | x :: r => ce T N a x && match r with
      | [] => false
      | y :: r => match r with
        | [] => ce T N b y
        | z :: r => ce T N b (.BoolOp .And (y :: z :: r) pos)
  | .or a b, e => mBo e fun o vs pos => (!isAndB o) && match vs with
    | [] => false
    | x :: r => ce T N a x && match r with
      | [] => false
      | y :: r => match r with
        | [] => ce T N b y
        | z :: r => ce T N b (.BoolOp .Or (y :: z :: r) pos)
  | .not a, e => mUn e fun o x => isNot o && ce T N a x
  | .ite c a b, e => mIf e fun x y z => ce T N c x && ce T N a y && ce T N b z
  | .tup l, e => mTup e fun es => cel T N l es
  | .lst l, e => mLst e fun es => cel T N l es
  | .dc0 _, e => mDict e fun ks vs => ks.isEmpty && vs.isEmpty
  | .dc1 k v, e => mDict e fun ks vs => mL1 ks fun x => mS x fun x => mL1 vs fun y => ce T N k x && ce T N v y
  | .dcs k v k2 v2 k3 v3, e => mDict e fun ks vs => mL3 ks fun x x2 x3 => mS x fun x => mS x2 fun x2 => mS x3 fun x3 => mL3 vs fun y y2 y3 => ce T N k x && ce T N v y && ce T N k2 x2 && ce T N v2 y2 && ce T N k3 x3 && ce T N v3 y3
  | .att a k, e => mAtt e fun o n _ => baseOk o && decide (n = anm k) && ce T N a o
  | .sub a b, e => mSub e fun o i => ce T N a o && ce T N b i
  | .slc a lo hi, e => mSub e fun o i => mSli i fun l u s => s.isNone && ce T N a o && (match l with | none => lo.isNon | some x => ce T N lo x) && (match u with | none => hi.isNon | some x => ce T N hi x)
  | .rev a, e => mSub e fun o i => mSli i fun l u s => l.isNone && u.isNone && ce T N a o && mS s fun s => mUn s fun o x => isUSub o && mCst x fun c => mIntC c 1
  | .bi b l, e => mCallN e fun x args => decide (x = b.nm) && glo N x && args.all notStar && cel T N l args
  | .isi a c, e => mCallN e fun x args => mL2 args fun y z => mName z fun z => decide (x = "isinstance") && glo N x && glo N z && (mS T.cls[c]? fun ci => decide (ci.name = z)) && notStar y && ce T N a y
  | .isS a, e => mCallN e fun x args => mL2 args fun y z => mName z fun z => decide (x = "isinstance") && glo N x && glo N z && decide (z = "str") && notStar y && ce T N a y
  | .fn f l, e => mCallN e fun x args => (mS T.fns[f]? fun p => decide (p.1 = x) && decide (p.1 ≠ Str.empty)) && glo N x && args.all notStar && cel T N l args
  | .cls c l, e => mCallN e fun x args => (mS T.cls[c]? fun ci => decide (ci.name = x)) && glo N x && args.all notStar && cel T N l args
  | .me m a l, e => mCallM e fun o n apos args pos => baseOk o && decide (n = m.name) && callForm apos pos args && ce T N a o && cel T N l args
  | .mt k a l, e => mCallM e fun o n apos args pos => baseOk o && decide (n = anm k) && callForm apos pos args && ce T N a o && cel T N l args
  | .zipc a b, e => mCompS e fun elt t iter scope => mCallN iter fun x args => mL2 args fun y z => zipElt elt t scope.names && decide (x = "zip") && glo N x && notStar y && notStar z && decide (scope.kind = .function) && decide (scope.names.map (·.1)).Nodup && scope.names.all (fun p => p.2 == .local) && ce T N a y && ce T N b z
  | .comp cap tg tup sk a b e, x => mCompS x fun elt t iter scope => decide (scope.kind = .function) && decide (scope.names.map (·.1)).Nodup && notSet iter && ctg (relN N scope.names) tg tup t && ownT scope.names tg && capOk N scope.names cap && b.isNon && ce T (relN N scope.names) e elt &&
        (match sk with
          | .of => ce T N a iter
          | .range => mCallN iter fun y args => mL1 args fun z => decide (y = "range") && glo N y && notStar z && ce T N a z
          | .enum => mCallN iter fun y args => mL1 args fun z => decide (y = "enumerate") && glo N y && notStar z && tup && ce T N a z)
  | .dead, _ => true
noncomputable def cel (T : Tab) (N : Nm) : IRs → List Expr → Bool
  | .nil, es => es.isEmpty
  | .cons a l, es => match es with
    | [] => false
    | e :: r => notStar e && ce T N a e && cel T N l r
end

-- what is shown of each part
noncomputable def isB (x : AV) (Q : Bool → ASt → Prop) (σ : ASt) : Prop := match x with
  | .bool b => Q b σ
  | _ => False

structure Cp (X : Cx) (T : Tab) (W : Spec) (k : Nat) : Prop where
  G : Gd X
  TO : TabOk X T
  C : CallOk X T W k
structure Loc (X : Cx) (A : Around) (k : Nat) (env : Env) (N : Nm) (ρ : LE) (D : Addr → Addr) (σ : ASt) (s : Shared) : Prop where
  Ro : Room A (k + 1)
  E : EnvS env
  cl : CellsIn env
  N : env.scope.names = N
  e : EnvR X env ρ D σ s.heap
  R : Rel X D σ s
theorem Loc.next {X A k env N ρ D σ s D' σ' s'} (L : Loc X A k env N ρ D σ s) (R' : Rel X D' σ' s') (T : Tr D σ s D' σ' s') : Loc X A k env N ρ D' σ' s' := ⟨L.Ro, L.E, L.cl, L.N, L.e.tr L.R T, R'⟩

noncomputable def PEe (X : Cx) (T : Tab) (W : Spec) (k : Nat) (ir : IR) (N : Nm) (e : Expr) : Prop := ∀ A env ρ D σ s, Loc X A k env N ρ D σ s →
  (∀ Q, ve T W ir ρ σ Q → EV X A (eval e env) D σ s Q) ∧ (∀ Q : Bool → ASt → Prop, ve T W ir ρ σ (fun x σ => isB x Q σ) → EB X A (isTrue e env (eval e env)) D σ s Q)
noncomputable def PE (X : Cx) (T : Tab) (W : Spec) (k : Nat) (ir : IR) : Prop := ∀ (N : Nm) (e : Expr), ce T N ir e = true → PEe X T W k ir N e
noncomputable def PL (X : Cx) (T : Tab) (W : Spec) (k : Nat) (l : IRs) : Prop := ∀ (N : Nm) (es : List Expr), cel T N l es = true → ∀ A env ρ D σ s, Loc X A k env N ρ D σ s →
  ∀ pos Q, vl T W l ρ σ Q → EL X A (spliced (backTo pos (starEach es env))) D σ s Q

theorem isB_inv {x Q σ} (q : isB x Q σ) : ∃ b, x = .bool b := by
  induction x using AV.casesOn with
  | bool b => exact ⟨b, rfl⟩
  | _ => exact False.elim q
theorem EB_of {X A D σ s} {t : Sem Value} {Q : Bool → ASt → Prop} (h : EV X A t D σ s fun x σ => isB x Q σ) {P : Bool → Shared → Prop} (k : ∀ b s', PostR BR X D σ s Q b s' → P b s') : wpAny (model pg X.w) A t (fun v s' => wpAny (model pg X.w) A (truthy v) P no s') no s := by
  refine EVg.then (γ := Unit) h fun v x D' σ' s' r R T q => ?_
  obtain ⟨b, rfl⟩ := isB_inv q
  obtain rfl := r.bool_inv
  exact wpAny_truthy_bool (k _ _ ⟨_, D', σ', rfl, R, T, q⟩)
-- a value as a test
theorem EB_plain {X A env D σ s} {e : Expr} {Q : Bool → ASt → Prop} (h : EV X A (eval e env) D σ s fun x σ => isB x Q σ) (he : isTrue e env (eval e env) = (do let v ← eval e env; standAt e.pos; holding [v] (truthy v))) : EB X A (isTrue e env (eval e env)) D σ s Q :=
  isTrue_plain (EB_of h fun _ _ p => p) he

section
variable {X : Cx} {T : Tab} {W : Spec} {k : Nat}
theorem pe_mk {ir : IR} {e : Expr} {N : Nm} (he : ∀ env, isTrue e env (eval e env) = (do let v ← eval e env; standAt e.pos; holding [v] (truthy v))) (m : ∀ A env ρ D σ s, Loc X A k env N ρ D σ s → ∀ Q, ve T W ir ρ σ Q → EV X A (eval e env) D σ s Q) : PEe X T W k ir N e :=
  fun A env ρ D σ s L => ⟨m A env ρ D σ s L, fun _ q => EB_plain (m A env ρ D σ s L _ q) (he env)⟩

theorem pe_non : PE X T W k .non := by
  intro N e h
  replace h := mCst_inv h
  obtain ⟨c, kk, p, h⟩ := h
  obtain rfl := isNoneC_inv h
  exact pe_mk (fun _ => rfl) fun A env ρ D σ s L Q q => wpAny_Constant_none (PostR.here .non L.R (fun _ _ e => e) rfl rfl q)
theorem pe_tt {b} : PE X T W k (.tt b) := by
  intro N e h
  replace h := mCst_inv h
  obtain ⟨c, kk, p, h⟩ := h
  obtain rfl := mBoolC_inv h
  exact pe_mk (fun _ => rfl) fun A env ρ D σ s L Q q => wpAny_Constant_bool (PostR.here .bool L.R (fun _ _ e => e) rfl rfl q)
theorem pe_int {i} : PE X T W k (.int i) := by
  intro N e h
  rcases Bool.or_eq_true_iff.mp h with h | h
  · obtain ⟨c, kk, p, h⟩ := mCst_inv h
    obtain rfl := mIntC_inv h
    exact pe_mk (fun _ => rfl) fun A env ρ D σ s L Q q => wpAny_Constant_int (PostR.tok .int L.R q)
  · obtain ⟨o, x, p, h⟩ := mUn_inv h
    replace h := b2 h
    obtain ⟨ho, h⟩ := h
    obtain rfl := isUSub_inv ho
    replace h := mCst_inv h
    obtain ⟨c, kk, p2, h⟩ := h
    replace h := mNegC_inv h
    obtain ⟨j, rfl, rfl⟩ := h
    exact pe_mk (fun _ => rfl) fun A env ρ D σ s L Q q => wpAny_UnaryOp (wpAny_Constant_int (PyProof.Rows.neg_int (PostR.here (s' := { s with toks := s.toks + 1 + 1 }) .int L.R (fun _ _ e => e) rfl rfl q)))
theorem pe_str {x} : PE X T W k (.str x) := by
  intro N e h
  replace h := mCst_inv h
  obtain ⟨c, kk, p, h⟩ := h
  obtain rfl := mStrC_inv h
  exact pe_mk (fun _ => rfl) fun A env ρ D σ s L Q q => wpAny_Constant_str (PostR.tok .str L.R q)
theorem vget1_some {ρ : LE} {i : Nat} {Q : AV → Prop} (q : vget1 ρ i Q) : ∃ x, ρ[i]? = some (some x) ∧ Q x := by
  unfold vget1 at q
  cases e : ρ[i]? with
  | none => rw [e] at q; exact q.elim
  | some o => cases o with
    | none => rw [e] at q; exact q.elim
    | some x => rw [e] at q; exact ⟨x, rfl, q⟩
theorem pe_loc {i} : PE X T W k (.loc i) := by
  intro N e h
  replace h := mName_inv h
  obtain ⟨x, p, h⟩ := h
  obtain ⟨⟨y, kd⟩, hN, h⟩ := mS_some h
  replace h := b4 h
  obtain ⟨h0, hk, h1, h2⟩ := h
  obtain rfl : y = x := of_decide_eq_true h0
  refine pe_mk (fun _ => rfl) fun A env ρ D σ s L Q q => ?_
  obtain ⟨v, e1, q⟩ := vget1_some q
  exact ev_load L.E L.e L.R (by rw [L.N]; exact hN) (kd3 hk) ⟨bnot h1, bnot h2⟩ e1 q
theorem glo_of {N : Nm} {x : Str} (h : glo N x = true) : N.lookup x = some .globalImplicit ∧ (x == ("__debug__" : Str)) = false ∧ x ≠ "__name__" :=
  let ⟨a, b, c⟩ := b3 h; ⟨beq_iff_eq.mp a, bnot b, of_decide_eq_true c⟩
theorem pe_glob (P : Cp X T W k) {g} : PE X T W k (.glob g) := by
  intro N e h
  replace h := mName_inv h
  obtain ⟨x, p, h⟩ := h
  replace h := b2 h
  obtain ⟨h1, h2⟩ := h
  replace h2 := glo_of h2
  obtain ⟨g1, g2, _⟩ := h2
  obtain ⟨⟨y, av⟩, hg, h1⟩ := mS_some h1
  obtain rfl : y = x := of_decide_eq_true h1
  obtain ⟨v, hv, r⟩ := P.TO.globs _ (List.mem_of_getElem? hg)
  refine pe_mk (fun _ => rfl) fun A env ρ D σ s L Q q => ?_
  have q : (match T.globs[g]? with | some (_, x) => Q x σ | none => False) := q
  rw [hg] at q
  exact ev_gname P.G L.E L.R (by rw [L.N]; exact g1) g2 hv (PostR.here (r.mono fun a o ho _ _ => L.R.base a o ho) L.R (fun _ _ e => e) rfl rfl q)
theorem pe_bin {o a b} (ha : PE X T W k a) (hb : PE X T W k b) : PE X T W k (.bin o a b) := by
  intro N e h
  replace h := mBin_inv h
  obtain ⟨l, o', r, p, h⟩ := h
  replace h := b3 h
  obtain ⟨ho, h1, h2⟩ := h
  obtain rfl := beq_iff_eq.mp ho
  refine pe_mk (fun _ => rfl) fun A env ρ D σ s L Q q => ?_
  refine wpAny_BinOp (EVg.then (γ := Unit) ((ha _ _ h1 _ _ _ _ _ _ L).1 _ q) fun v x D1 σ1 s1 r1 R1 T1 q => ?_)
  have L1 := L.next R1 T1
  refine EVg.then (γ := Unit) ((hb _ _ h2 _ _ _ _ _ _ L1).1 _ q) fun w y D2 σ2 s2 r2 R2 T2 q => ?_
  exact (ev_bin R2 (r1.mono (T2.tk R1)) r2 q).tr (T1.trans T2)
theorem pe_cmp (P : Cp X T W k) {o a b} (ha : PE X T W k a) (hb : PE X T W k b) : PE X T W k (.cmp o a b) := by
  intro N e h
  replace h := mCmp_inv h
  obtain ⟨l, os, rs, p, h⟩ := h
  replace h := mL1_inv h
  obtain ⟨o', h⟩ := h
  replace h := mL1_inv h
  obtain ⟨r, h⟩ := h
  replace h := b4 h
  obtain ⟨ho, hm, h1, h2⟩ := h
  obtain rfl := beq_iff_eq.mp ho
  have hm := bnot hm
  refine fun A env ρ D σ s L => ⟨fun Q q => ?_, fun Q q => ?_⟩
  · refine wpAny_Compare1 (EVg.then (γ := Unit) ((ha _ _ h1 _ _ _ _ _ _ L).1 _ q) fun v x D1 σ1 s1 r1 R1 T1 q => ?_) hm
    have L1 := L.next R1 T1
    refine EVg.then (γ := Unit) ((hb _ _ h2 _ _ _ _ _ _ L1).1 _ q) fun w y D2 σ2 s2 r2 R2 T2 q => ?_
    exact (ev_cmp P.G L.Ro R2 (r1.mono (T2.tk R1)) r2 q).tr (T1.trans T2)
  · refine wpAny_isTrue_Compare1 (EVg.then (γ := Unit) ((ha _ _ h1 _ _ _ _ _ _ L).1 _ q) fun v x D1 σ1 s1 r1 R1 T1 q => ?_) hm
    have L1 := L.next R1 T1
    refine EVg.then (γ := Unit) ((hb _ _ h2 _ _ _ _ _ _ L1).1 _ q) fun w y D2 σ2 s2 r2 R2 T2 q => ?_
    exact EB_of (ev_cmp P.G L.Ro R2 (r1.mono (T2.tk R1)) r2 q) fun _ _ p => p.tr (T1.trans T2)
end

end Np

namespace Np

section
variable {X : Cx} {T : Tab} {W : Spec} {k : Nat}

theorem pe_dead : PE X T W k .dead := fun _ _ _ _ _ _ _ _ _ _ => ⟨fun _ q => q.elim, fun _ q => q.elim⟩

theorem wrapB (σ2 : ASt) (F : Bool → Prop) : F = fun b => ∃ t', AV.bool b = .bool t' ∧ (σ2 = σ2) ∧ F t' := by
  funext b
  exact propext ⟨fun h => ⟨b, rfl, rfl, h⟩, fun ⟨t', e, _, h⟩ => by (cases e; exact h)⟩
theorem pe_cm2 (P : Cp X T W k) {a o b p c} (ha : PE X T W k a) (hb : PE X T W k b) (hc : PE X T W k c) : PE X T W k (.cm2 a o b p c) := by
  intro N e h
  replace h := mCmp_inv h
  obtain ⟨l, os, rs, cp, h⟩ := h
  replace h := mL2_inv h
  obtain ⟨o', p', h⟩ := h
  replace h := mL2_inv h
  obtain ⟨r1, r2, h⟩ := h
  replace h := b6 h
  obtain ⟨ho, hp, hm, h1, h2, h3⟩ := h
  obtain rfl := beq_iff_eq.mp ho
  obtain rfl := beq_iff_eq.mp hp
  have hm := bnot hm
  intro A env ρ D σ s L
  · refine ⟨fun Q q => ?_, fun Q q => ?_⟩
    · refine Compare_chain (rs := []) (ops := []) (EVg.then (γ := Unit) ((ha _ _ h1 _ _ _ _ _ _ L).1 _ q) fun v x D1 σ1 s1 r1 R1 T1 q => ?_) hm
      have L1 := L.next R1 T1
      refine chain_link (EVg.then (γ := Unit) ((hb _ _ h2 _ _ _ _ _ _ L1).1 _ q) fun w y D2 σ2 s2 r2 R2 T2 q => ?_)
      refine EVg.then (γ := Unit) (ev_cmp (Q := fun t σ' => ∃ t', t = .bool t' ∧ (σ' = σ2) ∧ ((t' = true → ve T W c ρ σ2 fun z σ => vcmp p y z σ fun u => Q (.bool u) σ) ∧ (t' = false → Q (.bool false) σ2))) P.G L.Ro R2 (r1.mono (T2.tk R1)) r2 ?_) fun cv t D3 σ3 s3 r3 R3 T3 q => ?_
      · exact (wrapB σ2 _) ▸ q
      · obtain ⟨t', rfl, rfl, q1, q2⟩ := q
        obtain rfl := r3.bool_inv
        refine wpAny_truthy_bool ?_
        have T13 := (T1.trans T2).trans T3
        induction t' using Bool.casesOn with
        | false => exact PostR.tr T13 ⟨_, D3, _, .bool, R3, Tr.refl .., q2 rfl⟩
        | true =>
          have L3 := (L1.next R2 T2).next R3 T3
          refine chain_last (EVg.then (γ := Unit) ((hc _ _ h3 _ _ _ _ _ _ L3).1 _ (q1 rfl)) fun u z D4 σ4 s4 r4 R4 T4 q => ?_)
          exact (ev_cmp P.G L.Ro R4 ((r2.mono (T3.tk R2)).mono (T4.tk R3)) r4 q).tr (T13.trans T4)
    · refine isTrue_chain (rs := []) (ops := []) (EVg.then (γ := Unit) ((ha _ _ h1 _ _ _ _ _ _ L).1 _ q) fun v x D1 σ1 s1 r1 R1 T1 q => ?_) hm
      have L1 := L.next R1 T1
      refine test_link (EVg.then (γ := Unit) ((hb _ _ h2 _ _ _ _ _ _ L1).1 _ q) fun w y D2 σ2 s2 r2 R2 T2 q => ?_)
      refine EVg.then (γ := Unit) (ev_cmp (Q := fun t σ' => ∃ t', t = .bool t' ∧ (σ' = σ2) ∧ ((t' = true → ve T W c ρ σ2 fun z σ => vcmp p y z σ fun u => Q u σ) ∧ (t' = false → Q false σ2))) P.G L.Ro R2 (r1.mono (T2.tk R1)) r2 ?_) fun cv t D3 σ3 s3 r3 R3 T3 q => ?_
      · exact (wrapB σ2 _) ▸ q
      · obtain ⟨t', rfl, rfl, q1, q2⟩ := q
        obtain rfl := r3.bool_inv
        refine wpAny_truthy_bool ?_
        have T13 := (T1.trans T2).trans T3
        induction t' using Bool.casesOn with
        | false => exact PostR.tr T13 ⟨_, D3, _, rfl, R3, Tr.refl .., q2 rfl⟩
        | true =>
          have L3 := (L1.next R2 T2).next R3 T3
          refine test_last (EVg.then (γ := Unit) ((hc _ _ h3 _ _ _ _ _ _ L3).1 _ (q1 rfl)) fun u z D4 σ4 s4 r4 R4 T4 q => ?_)
          exact EB_of (ev_cmp P.G L.Ro R4 ((r2.mono (T3.tk R2)).mono (T4.tk R3)) r4 q) fun _ _ p => p.tr (T13.trans T4)

set_option backward.match.sparseCases true in
theorem bo_step {M : Model} {A : Around} {E : Value → Shared → Prop} {s : Shared} {env : Env} {op : BoolOp} {x y : Expr} {r : List Expr} {pos : Pos} {Q : Value → Shared → Prop}
    (h : wpAny M A (eval x env) (fun v s1 => wpAny M A (truthy v) (fun t s2 => match op, t with | .And, false | .Or, true => Q v s2 | _, _ => wpAny M A (eval (.BoolOp op (y :: r) pos) env) Q E s2) E s1) E s) :
    wpAny M A (eval (.BoolOp op (x :: y :: r) pos) env) Q E s := by
  show wpAny M A (eval x env >>= fun v => standAt pos >>= fun _ => holding [v] (truthy v) >>= fun t => (match op, t with | .And, false | .Or, true => pure v | _, _ => boolOp pos op (evalEach (y :: r) env))) Q E s
  refine wpAny_bind (wpAny_mono h (fun v s1 h1 => wpAny_bind (wpAny_standAt (wpAny_bind (wpAny_holding (wpAny_mono h1 (fun t s2 h2 => ?_) fun _ _ e => e))))) fun _ _ e => e)
  cases op <;> cases t <;> first | exact wpAny_pure h2 | exact h2

theorem vif_bool {x : AV} {a b : Prop} (q : vif x a b) : ∃ t, x = .bool t ∧ (t = true → a) ∧ (t = false → b) := by
  induction x using AV.casesOn with
  | bool t => exact ⟨t, rfl, q⟩
  | _ => exact False.elim q
theorem pe_and2 {a b} (ha : PE X T W k a) {N : Nm} {x y : Expr} {r : List Expr} {pos : Pos} (h1 : ce T N a x = true) {A env ρ D σ s} (L : Loc X A k env N ρ D σ s)
    (hb : ∀ D σ s, Loc X A k env N ρ D σ s → (∀ Q, ve T W b ρ σ Q → EV X A (eval (.BoolOp .And (y :: r) pos) env) D σ s Q) ∧ (∀ Q : Bool → ASt → Prop, ve T W b ρ σ (fun x σ => isB x Q σ) → EB X A (isTrue (.BoolOp .And (y :: r) pos) env (eval (.BoolOp .And (y :: r) pos) env)) D σ s Q)) :
    (∀ Q, ve T W (.and a b) ρ σ Q → EV X A (eval (.BoolOp .And (x :: y :: r) pos) env) D σ s Q) ∧ (∀ Q : Bool → ASt → Prop, ve T W (.and a b) ρ σ (fun x σ => isB x Q σ) → EB X A (isTrue (.BoolOp .And (x :: y :: r) pos) env (eval (.BoolOp .And (x :: y :: r) pos) env)) D σ s Q) := by
  refine ⟨fun Q q => ?_, fun Q q => ?_⟩
  · refine bo_step (EVg.then (γ := Unit) ((ha _ _ h1 _ _ _ _ _ _ L).1 _ q) fun v x D1 σ1 s1 r1 R1 T1 q => ?_)
    obtain ⟨t, rfl, q⟩ := vif_bool q
    obtain rfl := r1.bool_inv
    refine wpAny_truthy_bool ?_
    induction t using Bool.casesOn with
    | false => exact PostR.tr T1 ⟨_, D1, σ1, .bool, R1, Tr.refl .., q.2 rfl⟩
    | true => exact ((hb _ _ _ (L.next R1 T1)).1 _ (q.1 rfl)).tr T1
  · refine isTrue_and (EVg.then (γ := Unit) ((ha _ _ h1 _ _ _ _ _ _ L).2 (fun t σ1 => (t = true → ve T W b ρ σ1 fun x σ => isB x Q σ) ∧ (t = false → Q false σ1)) q) fun v t D1 σ1 s1 r1 R1 T1 q => ?_)
    have e : v = t := r1
    subst e
    induction v using Bool.casesOn with
    | false => exact PostR.tr T1 ⟨false, D1, σ1, rfl, R1, Tr.refl .., q.2 rfl⟩
    | true => exact ((hb _ _ _ (L.next R1 T1)).2 _ (q.1 rfl)).tr T1
theorem pe_or2 {a b} (ha : PE X T W k a) {N : Nm} {x y : Expr} {r : List Expr} {pos : Pos} (h1 : ce T N a x = true) {A env ρ D σ s} (L : Loc X A k env N ρ D σ s)
    (hb : ∀ D σ s, Loc X A k env N ρ D σ s → (∀ Q, ve T W b ρ σ Q → EV X A (eval (.BoolOp .Or (y :: r) pos) env) D σ s Q) ∧ (∀ Q : Bool → ASt → Prop, ve T W b ρ σ (fun x σ => isB x Q σ) → EB X A (isTrue (.BoolOp .Or (y :: r) pos) env (eval (.BoolOp .Or (y :: r) pos) env)) D σ s Q)) :
    (∀ Q, ve T W (.or a b) ρ σ Q → EV X A (eval (.BoolOp .Or (x :: y :: r) pos) env) D σ s Q) ∧ (∀ Q : Bool → ASt → Prop, ve T W (.or a b) ρ σ (fun x σ => isB x Q σ) → EB X A (isTrue (.BoolOp .Or (x :: y :: r) pos) env (eval (.BoolOp .Or (x :: y :: r) pos) env)) D σ s Q) := by
  refine ⟨fun Q q => ?_, fun Q q => ?_⟩
  · refine bo_step (EVg.then (γ := Unit) ((ha _ _ h1 _ _ _ _ _ _ L).1 _ q) fun v x D1 σ1 s1 r1 R1 T1 q => ?_)
    obtain ⟨t, rfl, q⟩ := vif_bool q
    obtain rfl := r1.bool_inv
    refine wpAny_truthy_bool ?_
    induction t using Bool.casesOn with
    | true => exact PostR.tr T1 ⟨_, D1, σ1, .bool, R1, Tr.refl .., q.1 rfl⟩
    | false => exact ((hb _ _ _ (L.next R1 T1)).1 _ (q.2 rfl)).tr T1
  · refine isTrue_or (EVg.then (γ := Unit) ((ha _ _ h1 _ _ _ _ _ _ L).2 (fun t σ1 => (t = true → Q true σ1) ∧ (t = false → ve T W b ρ σ1 fun x σ => isB x Q σ)) q) fun v t D1 σ1 s1 r1 R1 T1 q => ?_)
    have e : v = t := r1
    subst e
    induction v using Bool.casesOn with
    | true => exact PostR.tr T1 ⟨true, D1, σ1, rfl, R1, Tr.refl .., q.1 rfl⟩
    | false => exact ((hb _ _ _ (L.next R1 T1)).2 _ (q.2 rfl)).tr T1
theorem EB_and1 {A env D σ s} {y : Expr} {pos : Pos} {Q : Bool → ASt → Prop} (h : EB X A (isTrue y env (eval y env)) D σ s Q) {wh : Sem Value} : EB X A (isTrue (.BoolOp .And [y] pos) env wh) D σ s Q :=
  isTrue_and (wpAny_mono h (fun v s1 p => by
    induction v using Bool.casesOn with
    | false => exact p
    | true => exact isTrue_and_nil p) fun _ _ e => e)
theorem EB_or1 {A env D σ s} {y : Expr} {pos : Pos} {Q : Bool → ASt → Prop} (h : EB X A (isTrue y env (eval y env)) D σ s Q) {wh : Sem Value} : EB X A (isTrue (.BoolOp .Or [y] pos) env wh) D σ s Q :=
  isTrue_or (wpAny_mono h (fun v s1 p => by
    induction v using Bool.casesOn with
    | true => exact p
    | false => exact isTrue_or_nil p) fun _ _ e => e)
theorem pe_and {a b} (ha : PE X T W k a) (hb : PE X T W k b) : PE X T W k (.and a b) := by
  intro N e h
  replace h := mBo_inv h
  obtain ⟨o, vs, pos, h⟩ := h
  replace h := b2 h
  obtain ⟨ho, h⟩ := h
  obtain rfl := isAndB_inv ho
  induction vs using List.casesOn with
  | nil => cases h
  | cons x r =>
    replace h := b2 h
    obtain ⟨h1, h⟩ := h
    induction r using List.casesOn with
    | nil => cases h
    | cons y r => induction r using List.casesOn with
      | nil => exact fun A env ρ D σ s L => pe_and2 ha h1 L fun D σ s L => ⟨fun Q q => (hb _ _ h _ _ _ _ _ _ L).1 Q q, fun Q q => EB_and1 ((hb _ _ h _ _ _ _ _ _ L).2 Q q)⟩
      | cons z r => exact fun A env ρ D σ s L => pe_and2 ha h1 L fun D σ s L => hb _ _ h _ _ _ _ _ _ L
theorem pe_or {a b} (ha : PE X T W k a) (hb : PE X T W k b) : PE X T W k (.or a b) := by
  intro N e h
  replace h := mBo_inv h
  obtain ⟨o, vs, pos, h⟩ := h
  replace h := b2 h
  obtain ⟨ho, h⟩ := h
  obtain rfl := isOrB_inv ho
  induction vs using List.casesOn with
  | nil => cases h
  | cons x r =>
    replace h := b2 h
    obtain ⟨h1, h⟩ := h
    induction r using List.casesOn with
    | nil => cases h
    | cons y r => induction r using List.casesOn with
      | nil => exact fun A env ρ D σ s L => pe_or2 ha h1 L fun D σ s L => ⟨fun Q q => (hb _ _ h _ _ _ _ _ _ L).1 Q q, fun Q q => EB_or1 ((hb _ _ h _ _ _ _ _ _ L).2 Q q)⟩
      | cons z r => exact fun A env ρ D σ s L => pe_or2 ha h1 L fun D σ s L => hb _ _ h _ _ _ _ _ _ L
theorem pe_not {a} (ha : PE X T W k a) : PE X T W k (.not a) := by
  intro N e h
  replace h := mUn_inv h
  obtain ⟨o, x, p, h⟩ := h
  replace h := b2 h
  obtain ⟨ho, h⟩ := h
  obtain rfl := isNot_inv ho
  refine fun A env ρ D σ s L => ⟨fun Q q => wpAny_UnaryOp (EVg.then (γ := Unit) ((ha _ _ h _ _ _ _ _ _ L).1 _ q) fun v x D1 σ1 s1 r1 R1 T1 q => ?_), fun Q q => isTrue_not (EVg.then (γ := Unit) ((ha _ _ h _ _ _ _ _ _ L).2 (fun t σ => Q (!t) σ) q) fun v t D1 σ1 s1 r1 R1 T1 q => ?_)⟩
  · induction x using AV.casesOn with
    | bool t =>
      obtain rfl := r1.bool_inv
      exact not_of (wpAny_truthy_bool (PostR.tr T1 ⟨_, D1, σ1, .bool, R1, Tr.refl .., q⟩))
    | _ => exact False.elim q
  · have e : v = t := r1
    subst e
    exact PostR.tr T1 ⟨_, D1, σ1, rfl, R1, Tr.refl .., q⟩
theorem pe_ite {c a b} (hc : PE X T W k c) (ha : PE X T W k a) (hb : PE X T W k b) : PE X T W k (.ite c a b) := by
  intro N e h
  replace h := mIf_inv h
  obtain ⟨x, y, z, p, h⟩ := h
  replace h := b3 h
  obtain ⟨h1, h2, h3⟩ := h
  refine fun A env ρ D σ s L => ⟨fun Q q => wpAny_IfExp (EVg.then (γ := Unit) ((hc _ _ h1 _ _ _ _ _ _ L).2 (fun t σ1 => (t = true → ve T W a ρ σ1 Q) ∧ (t = false → ve T W b ρ σ1 Q)) q) fun v t D1 σ1 s1 r1 R1 T1 q => ?_),
    fun Q q => isTrue_IfExp (EVg.then (γ := Unit) ((hc _ _ h1 _ _ _ _ _ _ L).2 (fun t σ1 => (t = true → ve T W a ρ σ1 fun x σ => isB x Q σ) ∧ (t = false → ve T W b ρ σ1 fun x σ => isB x Q σ)) q) fun v t D1 σ1 s1 r1 R1 T1 q => ?_)⟩
  all_goals
    have e : v = t := r1
    subst e
    have L1 := L.next R1 T1
    cases v
  · exact ((hb _ _ h3 _ _ _ _ _ _ L1).1 _ (q.2 rfl)).tr T1
  · exact ((ha _ _ h2 _ _ _ _ _ _ L1).1 _ (q.1 rfl)).tr T1
  · exact ((hb _ _ h3 _ _ _ _ _ _ L1).2 _ (q.2 rfl)).tr T1
  · exact ((ha _ _ h2 _ _ _ _ _ _ L1).2 _ (q.1 rfl)).tr T1

-- lists of parts
theorem pl_nil : PL X T W k .nil := by
  intro N es h A env ρ D σ s L pos Q q
  induction es using List.casesOn with
  | nil => exact spliced_nil ⟨[], D, σ, .nil, L.R, Tr.refl .., q⟩
  | cons => cases h
theorem pl_cons {a l} (ha : PE X T W k a) (hl : PL X T W k l) : PL X T W k (.cons a l) := by
  intro N es h A env ρ D σ s L pos Q q
  induction es using List.casesOn with
  | nil => cases h
  | cons e r =>
    replace h := b3 h
    obtain ⟨h1, h2, h3⟩ := h
    rw [starEach_cons _ _ h1, backTo_cons]
    refine spliced_cons (EVg.then (γ := Unit) ((ha _ _ h2 _ _ _ _ _ _ L).1 _ q) fun v x D1 σ1 s1 r1 R1 T1 q => ?_)
    have L1 := L.next R1 T1
    refine EVg.then (γ := Unit) (hl _ _ h3 _ _ _ _ _ _ L1 pos _ q) fun vs xs D2 σ2 s2 r2 R2 T2 q => ?_
    exact ⟨_, D2, σ2, .cons (r1.mono (T2.tk R1)) r2, R2, T1.trans T2, q⟩
theorem pe_tup {l} (hl : PL X T W k l) : PE X T W k (.tup l) := by
  intro N e h
  replace h := mTup_inv h
  obtain ⟨es, kk, p, h⟩ := h
  refine pe_mk (fun _ => rfl) fun A env ρ D σ s L Q q => wpAny_Tuple (EVg.then (γ := Unit) (hl _ _ h _ _ _ _ _ _ L _ _ q) fun vs xs D2 σ2 s2 r2 R2 T2 q => ⟨?_, ?_⟩)
  · rw [r2.length, sizeLine_eq]; exact Nat.le_trans q.1 (by decide)
  · exact PostR.tr T2 (PostR.newTup (tk := s2.toks) R2 (push_keep _) (isT_push _ _) r2 q.2)
theorem pe_lst {l} (hl : PL X T W k l) : PE X T W k (.lst l) := by
  intro N e h
  replace h := mLst_inv h
  obtain ⟨es, p, h⟩ := h
  refine pe_mk (fun _ => rfl) fun A env ρ D σ s L Q q => wpAny_List (EVg.then (γ := Unit) (hl _ _ h _ _ _ _ _ _ L _ _ q) fun vs xs D2 σ2 s2 r2 R2 T2 q => ⟨?_, ?_⟩)
  · rw [r2.length, sizeLine_eq]; exact Nat.le_trans q.1 (by decide)
  · exact PostR.tr T2 (PostR.newLst (tk := s2.toks) R2 (push_keep _) (size_free _) (isList_push _ _ 0) r2 q.2)

-- attributes, items
theorem pe_att (P : Cp X T W k) {a n} (ha : PE X T W k a) : PE X T W k (.att a n) := by
  intro N e h
  replace h := mAtt_inv h
  obtain ⟨o, m, ap, h⟩ := h
  replace h := b3 h
  obtain ⟨h1, hm, h2⟩ := h
  obtain rfl := of_decide_eq_true hm
  exact pe_mk (fun _ => rfl) fun A env ρ D σ s L Q q => ev_att P.G P.TO h1 ((ha _ _ h2 _ _ _ _ _ _ L).1 _ q)
theorem eval_Subs {M : Model} {A : Around} {E : Value → Shared → Prop} {s : Shared} {env : Env} {o i : Expr} {pos : Pos} {Q : Value → Shared → Prop}
    (h : wpAny M A (eval o env) (fun v s1 => wpAny M A (eval i env) (fun w s2 => wpAny M A (subscriptTail o i v w) Q E s2) E s1) E s) : wpAny M A (eval (.Subscript o i pos) env) Q E s := by
  show wpAny M A (eval o env >>= fun v => holding [v] (eval i env) >>= fun w => standAt pos >>= fun _ => subscriptTail o i v w) Q E s
  exact wpAny_bind (wpAny_mono h (fun v s1 h1 => wpAny_bind (wpAny_holding (wpAny_mono h1 (fun w s2 h2 => wpAny_bind (wpAny_standAt h2)) fun _ _ e => e))) fun _ _ e => e)
theorem pe_sub {a b} (ha : PE X T W k a) (hb : PE X T W k b) : PE X T W k (.sub a b) := by
  intro N e h
  replace h := mSub_inv h
  obtain ⟨o, i, p, h⟩ := h
  replace h := b2 h
  obtain ⟨h1, h2⟩ := h
  refine pe_mk (fun _ => rfl) fun A env ρ D σ s L Q q => eval_Subs (EVg.then (γ := Unit) ((ha _ _ h1 _ _ _ _ _ _ L).1 _ q) fun v x D1 σ1 s1 r1 R1 T1 q => ?_)
  have L1 := L.next R1 T1
  refine EVg.then (γ := Unit) ((hb _ _ h2 _ _ _ _ _ _ L1).1 _ q) fun w y D2 σ2 s2 r2 R2 T2 q => ?_
  exact (ev_sub L.Ro R2 (r1.mono (T2.tk R1)) r2 q).tr (T1.trans T2)

end

end Np

namespace Np

section
variable {X : Cx} {T : Tab} {W : Spec} {k : Nat}

-- slices
theorem isNon_inv {i : IR} : i.isNon = true → i = .non := by
  cases i with
  | non => exact fun _ => rfl
  | _ => exact Bool.noConfusion
theorem pt_opt {lo : IR} (hlo : PE X T W k lo) {N : Nm} {l : Option Expr} (h : (match l with | none => lo.isNon | some x => ce T N lo x) = true) {A env ρ D σ s} (L : Loc X A k env N ρ D σ s) {Q : Post} (q : ve T W lo ρ σ Q) : EV X A (evalPart l env) D σ s Q := by
  induction l using Option.casesOn with
  | none =>
    obtain rfl := isNon_inv h
    exact wpAny_pure (PostR.here .non L.R (fun _ _ e => e) rfl rfl q)
  | some x => exact (hlo _ _ h _ _ _ _ _ _ L).1 _ q
theorem pe_slc {a lo hi} (ha : PE X T W k a) (hlo : PE X T W k lo) (hhi : PE X T W k hi) : PE X T W k (.slc a lo hi) := by
  intro N e h
  replace h := mSub_inv h
  obtain ⟨o, i, p, h⟩ := h
  replace h := mSli_inv h
  obtain ⟨l, u, s, sp, h⟩ := h
  replace h := b4 h
  obtain ⟨hs, h1, h2, h3⟩ := h
  obtain rfl := isNone_inv hs
  refine pe_mk (fun _ => rfl) fun A env ρ D σ s L Q q => eval_Subs (EVg.then (γ := Unit) ((ha _ _ h1 _ _ _ _ _ _ L).1 _ q) fun v x D1 σ1 s1 r1 R1 T1 q => ?_)
  have L1 := L.next R1 T1
  refine wpAny_Slice (EVg.then (γ := Unit) (pt_opt hlo h2 L1 q) fun w1 y D2 σ2 s2 r2 R2 T2 q => ?_)
  have L2 := L1.next R2 T2
  refine EVg.then (γ := Unit) (pt_opt hhi h3 L2 q) fun w2 z D3 σ3 s3 r3 R3 T3 q => ?_
  refine wpAny_pure ?_
  exact ev_slc R3 ((r1.mono (T2.tk R1)).mono (T3.tk R2)) (r2.mono (T3.tk R2)) r3 .non q fun v s' p => p.tr ((T1.trans T2).trans T3)
theorem pe_rev {a} (ha : PE X T W k a) : PE X T W k (.rev a) := by
  intro N e h
  replace h := mSub_inv h
  obtain ⟨o, i, p, h⟩ := h
  replace h := mSli_inv h
  obtain ⟨l, u, st, sp, h⟩ := h
  replace h := b4 h
  obtain ⟨hl, hu, h1, h4⟩ := h
  obtain rfl := isNone_inv hl
  obtain rfl := isNone_inv hu
  replace h4 := mS_inv h4
  obtain ⟨x, h5⟩ := h4
  replace h5 := mUn_inv h5
  obtain ⟨uo, x, up, h6⟩ := h5
  replace h6 := b2 h6
  obtain ⟨huo, h7⟩ := h6
  obtain rfl := isUSub_inv huo
  replace h7 := mCst_inv h7
  obtain ⟨c, kk, cp, h8⟩ := h7
  obtain rfl := mIntC_inv h8
  refine pe_mk (fun _ => rfl) fun A env ρ D σ s L Q q => eval_Subs (EVg.then (γ := Unit) ((ha _ _ h1 _ _ _ _ _ _ L).1 _ q) fun v x D1 σ1 s1 r1 R1 T1 q => ?_)
  refine wpAny_Slice (wpAny_pure (wpAny_pure ?_))
  show wpAny (model pg X.w) A (eval (.UnaryOp .USub (.Constant (.int 1) _ _) _) env) _ no s1
  refine wpAny_UnaryOp (wpAny_Constant_int (PyProof.Rows.neg_int ?_))
  have R2 : Rel X D1 σ1 { s1 with toks := s1.toks + 1 + 1 } := R1.all (fun _ _ e => e) rfl rfl
  exact ev_slc (s := { s1 with toks := s1.toks + 1 + 1 }) R2 r1 .non .non .int q fun v s' p => p.tr (T1.trans (Tr.all (s := s1) (s' := { s1 with toks := s1.toks + 1 + 1 }) fun _ _ e => e))

-- calls by name
theorem bi_used (b : Bi) : b.nm ∈ usedBuiltins := by cases b <;> decide +kernel
theorem bi_boot (b : Bi) : bootBuiltins b.nm = some b.val := by cases b <;> decide +kernel
theorem pe_bi (P : Cp X T W k) {b l} (hl : PL X T W k l) : PE X T W k (.bi b l) := by
  intro N e h
  replace h := mCallN_inv h
  obtain ⟨x, xp, args, p, h⟩ := h
  replace h := b4 h
  obtain ⟨hx, h1, h2, h3⟩ := h
  obtain rfl := of_decide_eq_true hx
  replace h1 := glo_of h1
  obtain ⟨g1, g2, g3⟩ := h1
  refine pe_mk (fun _ => rfl) fun A env ρ D σ s L Q q => Call_Name rfl (ev_bname P.G L.E L.R (by rw [L.N]; exact g1) g2 g3 (P.TO.bl _ (bi_used b)) (bi_boot b) ?_)
  have fin : ∀ (vs : List Value) (l : List AV) D' σ' s', VRs s'.heap vs l → Rel X D' σ' s' → Tr D σ s D' σ' s' → vbi b l σ' Q → wpAny (model pg X.w) A (call b.val vs) (PostR VR X D σ s Q) no s' := fun vs l D' σ' s' r R T q => (ev_bi L.Ro R r q).tr T
  cases b with
  | tuple => exact ev_type h2 (hl _ _ h3 _ _ _ _ _ _ L _ _ q) fin
  | list => exact ev_type h2 (hl _ _ h3 _ _ _ _ _ _ L _ _ q) fin
  | _ => exact ev_builtin (first := []) h2 (hl _ _ h3 _ _ _ _ _ _ L _ _ q) fin
theorem pe_isi (P : Cp X T W k) {a c} (ha : PE X T W k a) : PE X T W k (.isi a c) := by
  intro N e h
  replace h := mCallN_inv h
  obtain ⟨x, xp, args, p, h⟩ := h
  replace h := mL2_inv h
  obtain ⟨y, z, h⟩ := h
  replace h := mName_inv h
  obtain ⟨z, pz, h⟩ := h
  replace h := b6 h
  obtain ⟨hx, h1, h2, h3, h4, h5⟩ := h
  obtain rfl := of_decide_eq_true hx
  replace h1 := glo_of h1
  obtain ⟨g1, g2, g3⟩ := h1
  replace h2 := glo_of h2
  obtain ⟨g4, g5, g6⟩ := h2
  replace h3 := mS_some h3
  obtain ⟨ci, hc, h3⟩ := h3
  obtain rfl : ci.name = z := of_decide_eq_true h3
  refine pe_mk (fun _ => rfl) fun A env ρ D σ s L Q q => Call_Name rfl (ev_bname P.G L.E L.R (by rw [L.N]; exact g1) g2 g3 (P.TO.bl _ (by decide +kernel)) (v := .builtin "isinstance") (by decide +kernel) ?_)
  refine Calls.callWith_builtin (backTo_any _ env [y, .Name ci.name pz] (by rw [List.all_cons, h4]; rfl)) (evalArgs_any (by rw [List.all_cons, h4]; rfl) ?_)
  rw [starEach_cons _ _ h4, backTo_cons]
  refine spliced_cons (EVg.then (γ := Unit) ((ha _ _ h5 _ _ _ _ _ _ L).1 _ q) fun v x D1 σ1 s1 r1 R1 T1 q => ?_)
  have L1 := L.next R1 T1
  rw [starEach_cons _ _ rfl, backTo_cons]
  refine spliced_cons (ev_gname P.G L1.E R1 (by rw [L1.N]; exact g4) g5 (P.TO.clsN ci (List.mem_of_getElem? hc)) (spliced_nil ?_))
  rw [hc] at q
  induction x using AV.casesOn with
  | ref a =>
    obtain ⟨C, at_, e, hi, q⟩ := q
    obtain rfl := r1.ref_inv
    exact (ev_isi P.G P.TO R1 e hi q).tr T1
  | _ => exact False.elim q
theorem pe_isS (P : Cp X T W k) {a} (ha : PE X T W k a) : PE X T W k (.isS a) := by
  intro N e h
  replace h := mCallN_inv h
  obtain ⟨x, xp, args, p, h⟩ := h
  replace h := mL2_inv h
  obtain ⟨y, z, h⟩ := h
  replace h := mName_inv h
  obtain ⟨z, pz, h⟩ := h
  replace h := b6 h
  obtain ⟨hx, h1, h2, h3, h4, h5⟩ := h
  obtain rfl := of_decide_eq_true hx
  obtain rfl := of_decide_eq_true h3
  replace h1 := glo_of h1
  obtain ⟨g1, g2, g3⟩ := h1
  replace h2 := glo_of h2
  obtain ⟨g4, g5, g6⟩ := h2
  refine pe_mk (fun _ => rfl) fun A env ρ D σ s L Q q => Call_Name rfl (ev_bname P.G L.E L.R (by rw [L.N]; exact g1) g2 g3 (P.TO.bl _ (by decide +kernel)) (v := .builtin "isinstance") (by decide +kernel) ?_)
  refine Calls.callWith_builtin (backTo_any _ env [y, .Name "str" pz] (by rw [List.all_cons, h4]; rfl)) (evalArgs_any (by rw [List.all_cons, h4]; rfl) ?_)
  rw [starEach_cons _ _ h4, backTo_cons]
  refine spliced_cons (EVg.then (γ := Unit) ((ha _ _ h5 _ _ _ _ _ _ L).1 _ q) fun v x D1 σ1 s1 r1 R1 T1 q => ?_)
  have L1 := L.next R1 T1
  rw [starEach_cons _ _ rfl, backTo_cons]
  refine spliced_cons (ev_bname P.G L1.E R1 (by rw [L1.N]; exact g4) g5 g6 (P.TO.bl _ (by decide +kernel)) (v := .type "str") (by decide +kernel) (spliced_nil ?_))
  induction x using AV.casesOn with
  | str x =>
    obtain ⟨u, rfl⟩ := r1.str_inv
    exact (ev_isS R1 q).tr T1
  | _ => exact False.elim q
theorem pe_fn (P : Cp X T W k) {f l} (hl : PL X T W k l) : PE X T W k (.fn f l) := by
  intro N e h
  replace h := mCallN_inv h
  obtain ⟨x, xp, args, p, h⟩ := h
  replace h := b4 h
  obtain ⟨h0, h1, h2, h3⟩ := h
  replace h1 := glo_of h1
  obtain ⟨g1, g2, g3⟩ := h1
  obtain ⟨⟨y, fa⟩, hf, h0⟩ := mS_some h0
  replace h0 := b2 h0
  obtain ⟨hx, hy⟩ := h0
  obtain rfl : y = x := of_decide_eq_true hx
  have hy := of_decide_eq_true hy
  have hfa : fnAt T f = fa := by unfold fnAt; rw [hf]
  obtain ⟨hk, hn⟩ := (P.TO.fns _ (List.mem_of_getElem? hf)).resolve_left hy
  refine pe_mk (fun _ => rfl) fun A env ρ D σ s L Q q => Call_Name rfl (ev_gname P.G L.E L.R (by rw [L.N]; exact g1) g2 hn ?_)
  refine ev_own (first := []) P.G hk h2 (hl _ _ h3 _ _ _ _ _ _ L _ _ q) fun vs l D' σ' s' r R T1 q => ?_
  exact hfa ▸ (P.C.ev (L.Ro.le (Nat.le_succ _)) (L.next R T1).e.hab R r q).tr T1
theorem pe_cls (P : Cp X T W k) {c l} (hl : PL X T W k l) : PE X T W k (.cls c l) := by
  intro N e h
  replace h := mCallN_inv h
  obtain ⟨x, xp, args, p, h⟩ := h
  replace h := b4 h
  obtain ⟨h0, h1, h2, h3⟩ := h
  replace h1 := glo_of h1
  obtain ⟨g1, g2, g3⟩ := h1
  replace h0 := mS_some h0
  obtain ⟨ci, hc, h0⟩ := h0
  obtain rfl : ci.name = x := of_decide_eq_true h0
  have co := clsOk_of (P.TO.cls ci (List.mem_of_getElem? hc))
  refine pe_mk (fun _ => rfl) fun A env ρ D σ s L Q q => Call_Name rfl (ev_gname P.G L.E L.R (by rw [L.N]; exact g1) g2 (P.TO.clsN ci (List.mem_of_getElem? hc)) ?_)
  refine ev_own (first := []) P.G co.keep h2 (hl _ _ h3 _ _ _ _ _ _ L _ _ q) fun vs l D' σ' s' r R T1 q => ?_
  exact wpAny_call (call_cls P.G P.TO P.C L.Ro (L.next R T1).e.hab R r q (fun v s' p => p.tr T1) hc)

-- methods
theorem callForm_of {apos pos : Pos} {args : List Expr} {env : Env} (h : callForm apos pos args = true) : (apos.endLine == pos.line) = true ∧ args.all notStar = true ∧
    ((backTo pos (starEach args env)).all (fun x => !x.1) && (backToKw pos (keywordEach [] env)).all (fun x => x.1.isSome) && decide (args.length + ([] : List Keyword).length + (if ([] : List Keyword).isEmpty then 0 else 1) < 30)) = true := by
  unfold callForm at h
  simp only [Bool.and_eq_true, decide_eq_true_eq] at h
  obtain ⟨⟨h1, h2⟩, h3⟩ := h
  refine ⟨h1, h3, ?_⟩
  have hb := backTo_any pos env args h3
  have : (backTo pos (starEach args env)).all (fun x => !x.1) = true := by
    rw [List.all_eq_not_any_not]
    simp only [Bool.not_not]
    rw [hb]; rfl
  rw [this]
  exact decide_eq_true (p := args.length < 30) h2
theorem me_on {m : Me} {D σ s} {v : Value} {x : AV} (R : Rel X D σ s) (r : VR s.heap v x) (hv : vself m x σ) :
    ∃ T, PlainAttrs T ∧ Slot T m.name m.id ∧ typeOf (.builtin m.id) = pure (.type "method_descriptor") ∧ s.TypeIs v T ∧ ∀ a, v = .ref a → ∃ ob, s.heap.get? a = some ob ∧ ob.dict = none := by
  have lst : ∀ a, x = .ref a → (∃ l, σ a = some (.lst l)) → ∃ n vs, v = .ref a ∧ IsL s.heap a vs n ∧ ∀ a', v = .ref a' → ∃ ob, s.heap.get? a' = some ob ∧ ob.dict = none := fun a e ⟨l, hl⟩ => by
    subst e
    obtain rfl := r.ref_inv
    obtain ⟨vs, n, h1, _⟩ := OR.lst_inv (R.objs _ _ hl)
    exact ⟨n, _, rfl, h1, fun a' e => by cases e; exact ⟨_, h1, rfl⟩⟩
  cases m with
  | join =>
    cases x <;> first | exact False.elim hv | skip
    obtain ⟨u, rfl⟩ := r.str_inv
    exact ⟨"str", F.plainAttrs_str, F.slot_str_join, F.type_str_join, typeIs_str _ _ _, fun a e => by cases e⟩
  | append =>
    cases x <;> first | exact False.elim hv | skip
    obtain ⟨n, vs, rfl, h1, hd⟩ := lst _ rfl hv
    exact ⟨"list", F.plainAttrs_list, F.slot_list_append, F.type_list_append, ⟨_, h1, rfl⟩, hd⟩
  | extend =>
    cases x <;> first | exact False.elim hv | skip
    obtain ⟨n, vs, rfl, h1, hd⟩ := lst _ rfl hv
    exact ⟨"list", F.plainAttrs_list, F.slot_list_extend, F.type_list_extend, ⟨_, h1, rfl⟩, hd⟩
  | pop =>
    cases x <;> first | exact False.elim hv | skip
    obtain ⟨n, vs, rfl, h1, hd⟩ := lst _ rfl hv
    exact ⟨"list", F.plainAttrs_list, F.slot_list_pop, F.type_list_pop, ⟨_, h1, rfl⟩, hd⟩
theorem pe_me {m a l} (ha : PE X T W k a) (hl : PL X T W k l) : PE X T W k (.me m a l) := by
  intro N e h
  replace h := mCallM_inv h
  obtain ⟨o, n, apos, args, pos, h⟩ := h
  replace h := b5 h
  obtain ⟨h0, hn, h1, h2, h3⟩ := h
  obtain rfl := of_decide_eq_true hn
  refine pe_mk (fun _ => rfl) fun A env ρ D σ s L Q q => ?_
  obtain ⟨c1, c2, c3⟩ := callForm_of (env := env) h1
  refine wpAny_Call_method_lateS (attrBase_ok h0) c3 c1 (EVg.then (γ := Unit) ((ha _ _ h2 _ _ _ _ _ _ L).1 _ q) fun v x D1 σ1 s1 r1 R1 T1 q => ?_)
  have L1 := L.next R1 T1
  obtain ⟨Ty, o1, o2, o3, o4, o5⟩ := me_on R1 r1 q.1
  refine ⟨Ty, m.id, o1, o2, o3, o4, o5, ev_builtin (first := [v]) c2 (hl _ _ h3 _ _ _ _ _ _ L1 _ _ q.2) fun vs l D' σ' s' r R2 T2 q => ?_⟩
  exact (ev_me R2 (r1.mono (T2.tk R1)) r q).tr (T1.trans T2)
theorem aget_none {n : Nat} : ∀ {at_ : List (Nat × AV)}, aget n at_ = none → ∀ {x}, (n, x) ∉ at_
  | [], _, _, h => by cases h
  | (i, y) :: r, hn, x, h => by
    by_cases hne : i = n
    · cases (if_pos hne).symm.trans hn
    · replace hn := (if_neg hne).symm.trans hn
      rcases List.mem_cons.mp h with h | h
      · cases h; exact hne rfl
      · exact aget_none hn h
theorem ER.lt {hp : Heap} {es at_} (r : ER hp es at_) {j x} (h : (j, x) ∈ at_) : j < 72 := by
  induction r with
  | nil => cases h
  | cons h1 _ _ r ih =>
    rcases List.mem_cons.mp h with h | h
    · cases h; exact h1
    · exact ih h
theorem lookup_mem {n f : Nat} : ∀ {ms : List (Nat × Nat)}, ms.lookup n = some f → (n, f) ∈ ms
  | [], h => by cases h
  | (x, y) :: r, h => by
    rw [List.lookup_cons] at h
    split at h
    · rename_i hb
      cases h
      rw [beq_iff_eq.mp hb]; exact .head _
    · exact .tail _ (lookup_mem h)
theorem meth_some {T : Tab} {C : Addr} {k f : Nat} (h : T.meth C k = some f) : ∃ c, T.cls.find? (fun c => decide (c.addr = C)) = some c ∧ c.meths.lookup k = some f := by
  unfold Tab.meth at h
  cases e : T.cls.find? (fun c => decide (c.addr = C)) with
  | none => rw [e] at h; cases h
  | some c => rw [e] at h; exact ⟨c, rfl, h⟩
theorem pe_mt (P : Cp X T W k) {n a l} (ha : PE X T W k a) (hl : PL X T W k l) : PE X T W k (.mt n a l) := by
  intro N e h
  replace h := mCallM_inv h
  obtain ⟨o, nm, apos, args, pos, h⟩ := h
  replace h := b5 h
  obtain ⟨h0, hn, h1, h2, h3⟩ := h
  obtain rfl := of_decide_eq_true hn
  refine pe_mk (fun _ => rfl) fun A env ρ D σ s L Q q => ?_
  obtain ⟨c1, c2, c3⟩ := callForm_of (env := env) h1
  unfold EV EVg
  rw [arm_eval_Call, attrBase_ok h0]
  refine wpAny_bind (EVg.then (γ := Unit) ((ha _ _ h2 _ _ _ _ _ _ L).1 _ q) fun v x D1 σ1 s1 r1 R1 T1 q => ?_)
  have L1 := L.next R1 T1
  refine wpAny_bind (wpAny_standAt ?_)
  have hform : methodCallForm (args.length + ([] : List Keyword).length) (backTo pos (starEach args env)) (backToKw pos (keywordEach [] env)) = true := c3
  have hpos : methodCallPos true o env apos pos = pure pos := by unfold methodCallPos; simp [c1]
  unfold methodCall
  rw [hform]
  induction x using AV.casesOn with
  | ref a =>
    obtain rfl := r1.ref_inv
    obtain ⟨C, at_, f, e, hn, hm, q⟩ := q
    replace hm := meth_some hm
    obtain ⟨ci, hc, hm2⟩ := hm
    obtain ⟨m1, rfl⟩ := find_cls hc
    have co := clsOk_of (P.TO.cls ci m1)
    have hmem : (n, f) ∈ ci.meths := lookup_mem hm2
    obtain ⟨n72, hf, hfn, hkp⟩ := co.meths _ hmem
    obtain ⟨es, nn, I, _, hER⟩ := inst_at R1 e
    have hg : getL (anm n) es = some none := hER.getNone fun j x hj q => by
      have : j = n := anm_inj (hER.lt hj) n72 q
      subst this
      exact aget_none hn hj
    refine wpAny_bind (wpAny_holding ?_)
    show wpAny (model pg X.w) A (getMethod (.ref a) (anm n) _) _ no s1
    refine method_fn (P.G.kinS R1) I (plainGet_of co.get).1 (plainGet_of co.get).2 hf (beq_iff_eq.mp hfn) (by show (lookIn (anm n) (dictOf es nn)).map _ = _; rw [lookIn_dict, hg]; rfl) ?_
    refine wpAny_bind (wpAny_of_eq hpos ?_)
    refine ev_own (first := [.ref a]) P.G hkp c2 (hl _ _ h3 _ _ _ _ _ _ L1 _ _ q) fun vs l D' σ' s' r R2 T2 q => ?_
    exact (P.C.ev (L.Ro.le (Nat.le_succ _)) (L1.next R2 T2).e.hab R2 (.cons .ref r) q).tr (T1.trans T2)
  | _ => exact False.elim q

-- comprehensions
theorem folded_ok {iter : Expr} {env : Env} (h : notSet iter = true) (x : Value) : foldedSetIterable iter env x = pure x := by
  revert h
  induction iter using Expr.casesOn with
  | Set a b c => exact fun h => absurd h Bool.false_ne_true
  | _ => exact fun _ => rfl
theorem nodup_of {N : Nm} (h : decide (N.map (·.1)).Nodup = true) : nodupN N := show (N.map (·.1)).Nodup from of_decide_eq_true h
-- the source of a loop, by its kind
theorem pt_src (P : Cp X T W k) {sk : Sk} {a : IR} (ha : PE X T W k a) {N : Nm} {iter : Expr} {tup : Bool} {tg : List Nat} {N' : Nm} {t : Expr} (ht : ctg N' tg tup t = true)
    (h : (match sk with
          | .of => ce T N a iter
          | .range => mCallN iter fun y args => mL1 args fun z => decide (y = "range") && glo N y && notStar z && ce T N a z
          | .enum => mCallN iter fun y args => mL1 args fun z => decide (y = "enumerate") && glo N y && notStar z && tup && ce T N a z) = true)
    {A env ρ D σ s} (L : Loc X A k env N ρ D σ s) {Pp : List AV → (ASt → Prop) → ASt → Prop} (q : ve T W a ρ σ fun x σ2 => vsrc sk x .non σ2 fun l G => Pp l G σ2) :
    wpAny (model pg X.w) A (eval iter env) (fun v s1 => wpAny (model pg X.w) A (pyIter v) (SrcPost X A t D σ s Pp) no s1) no s := by
  cases sk with
  | of => exact src_of L.Ro (ctg_okT ht) ((ha _ _ h _ _ _ _ _ _ L).1 _ q)
  | range =>
    replace h := mCallN_inv h
    obtain ⟨y, yp, args, p, h⟩ := h
    replace h := mL1_inv h
    obtain ⟨z, h⟩ := h
    replace h := b4 h
    obtain ⟨hy, h1, h2, h3⟩ := h
    obtain rfl := of_decide_eq_true hy
    exact src_range L.Ro P.G L.E (ctg_okT ht) L.R (by rw [L.N]; exact (glo_of h1).1) (P.TO.bl _ (by decide +kernel)) h2 ((ha _ _ h3 _ _ _ _ _ _ L).1 _ q)
  | enum =>
    replace h := mCallN_inv h
    obtain ⟨y, yp, args, p, h⟩ := h
    replace h := mL1_inv h
    obtain ⟨z, h⟩ := h
    replace h := b5 h
    obtain ⟨hy, h1, h2, ht2, h3⟩ := h
    obtain rfl := of_decide_eq_true hy
    subst ht2
    have hT : ∃ es k p, t = .Tuple es k p := by obtain ⟨es, kk, p, _⟩ := mTup_inv ht; exact ⟨_, _, _, rfl⟩
    exact src_enum L.Ro P.G L.E hT L.R (by rw [L.N]; exact (glo_of h1).1) (P.TO.bl _ (by decide +kernel)) h2 ((ha _ _ h3 _ _ _ _ _ _ L).1 _ q)

noncomputable def PUe (X : Cx) (T : Tab) (W : Spec) (k : Nat) (ir : IR) (N : Nm) (elt : Expr) (gens : List Comprehension) (scope : Scope) (pos : Pos) : Prop := ∀ A env ρ D σ s, Loc X A k env N ρ D σ s → ∀ Q, ve T W ir ρ σ Q →
  ∀ (use : Option (Value → Sem Unit)) (Pv : Value → Shared → Prop), (∀ C L s' D' σ', Un D σ s C → CompEnd X C L D σ s Q s' D' σ' → compPost (model pg X.w) A no use Pv (.ref L) C (.ok .next) s') →
  wpAny (model pg X.w) A (comprehension (.ListComp elt gens scope pos) scope env (firstIterPos gens pos) (newList []) (firstAsync gens) (firstIter gens env) use) Pv no s
inductive CompI (X : Cx) (T : Tab) (W : Spec) (k : Nat) (ir : IR) (N : Nm) : Expr → Prop
  | mk (elt t iter scope pos) (H : PUe X T W k ir N elt [⟨t, iter, [], 0⟩] scope pos) : CompI X T W k ir N (.ListComp elt [⟨t, iter, [], 0⟩] scope pos)
theorem CompI.pe {ir : IR} {N : Nm} {x : Expr} (h : CompI X T W k ir N x) : PEe X T W k ir N x := by
  obtain ⟨elt, t, iter, scope, pos, H⟩ := h
  refine pe_mk (fun _ => rfl) fun A env ρ D σ s L Q q => ?_
  unfold EV EVg
  rw [eval_ListComp]
  exact H A env ρ D σ s L Q q none _ fun C L0 s' D' σ' u c => let ⟨m, hn⟩ := c.ns; ⟨m, hn, fun h' hs => c.go u hs⟩
-- what a comprehension comes to, however its list is used
theorem pt_comp (P : Cp X T W k) {cap tg tup sk} {a b e : IR} (ha : PE X T W k a) (he : PE X T W k e) {N : Nm} {x : Expr} (h : ce T N (.comp cap tg tup sk a b e) x = true) :
    CompI X T W k (.comp cap tg tup sk a b e) N x := by
  replace h := mCompS_inv h
  obtain ⟨elt, t, iter, scope, pos, h⟩ := h
  replace h := b2 h
  obtain ⟨h0, h9⟩ := h
  replace h0 := b8 h0
  obtain ⟨h1, h2, h3, h4, h5, h6, h7, h8⟩ := h0
  replace h1 := of_decide_eq_true h1
  replace h2 : nodupN scope.names := nodup_of h2
  obtain rfl := isNon_inv h7
  refine ⟨elt, t, iter, scope, pos, fun A env ρ D σ s L Q q use Pv hP => ?_⟩
  refine ev_compG L.Ro L.E L.cl L.e L.R h2 h1 (folded_ok h3) (by rw [L.N]; exact h4) h5 (by rw [L.N]; exact h6) (eltV := fun ρ σ Q => ve T W e ρ σ Q) (fun cenv E' cl' hN ρ D σ s Q e' R' q' => ?_) use (pt_src P ha h4 h9 L q) hP
  rw [L.N] at hN
  exact (he _ _ h8 _ _ _ _ _ _ ⟨L.Ro, E', cl', hN, e', R'⟩).1 _ q'
theorem pe_comp (P : Cp X T W k) {cap tg tup sk} {a b e : IR} (ha : PE X T W k a) (he : PE X T W k e) : PE X T W k (.comp cap tg tup sk a b e) := fun _ _ h => (pt_comp P ha he h).pe
end

end Np

namespace Np

-- a dict of the machine's own is handed over
theorem PostR.hand {X : Cx} {D σ s D1 σ1 s1 s2} {d : Addr} {o : AO} {Q : Post} (hd : s.heap.get? d = none) (T1 : Tr D σ s D1 σ1 s1) (R1 : Rel X D1 σ1 s1) (hn : ¬ Own D1 σ1 d) (hb : X.base.get? d = none)
    (hl : ∃ ob, s1.heap.get? d = some ob ∧ ob.cls = .type "dict" ∧ ob.data ≠ .plain) (hk : ∀ b ob, b ≠ d → s1.heap.get? b = some ob → s2.heap.get? b = some ob) (g : s2.gens = s1.gens) (os : s2.os = s1.os)
    (r : TK s1.heap s2.heap → OR X D1 s2.heap d o) (ho : o.own = true) (q : newO σ1 o Q) : PostR VR X D σ s Q (.ref d) s2 := by
  obtain ⟨ob, hob, hc, hp⟩ := hl
  have hσ : σ1 d = none := by
    cases e : σ1 d with
    | none => rfl
    | some o' =>
      cases o' with
      | inst C at_ => have := (R1.objs _ _ e).1; rw [hob] at this; cases this; cases hc
      | lst => exact (hn (.inl ⟨_, e, rfl⟩)).elim
      | dcs => exact (hn (.inl ⟨_, e, rfl⟩)).elim
      | dct => exact (hn (.inl ⟨_, e, rfl⟩)).elim
      | fro l => obtain ⟨vs, n, hq, _⟩ := R1.objs _ _ e; cases hb.symm.trans hq
  obtain ⟨R2, tk⟩ := R1.extS (s' := s2) (S := (· = d)) (fun b h => by
    subst h
    exact ⟨hn, hb, fun o' ho' => by rw [hob] at ho'; cases ho'; exact ⟨fun ⟨z, _⟩ => (by rw [hc] at z; exact absurd z (by decide)), hp⟩⟩) hk g os
  have T2 : Tr D σ s D1 σ1 s2 := T1.keepBut (wr := [d]) (fun b h => by rw [List.mem_singleton.mp h]; exact .inr hd) (fun b ob' h e => hk b ob' (fun z => h (by rw [z]; exact .head _)) e)
  have z3 : ∀ b, Own D1 (upd σ1 d o) b → b = d ∨ Own D1 σ1 b := fun b w => own_upd ho w
  refine ⟨.ref d, D1, upd σ1 d o, .ref, ⟨R2.base, fun b o' e => ?_, fun b w => ?_, fun x y C C' at_ at' e1 e2 e3 => ?_, fun x C at_ e => ?_, R2.gens, R2.os⟩, ⟨T2.keep, fun b w => ?_⟩, q d hσ⟩
  · by_cases z : b = d
    · subst z; rw [upd_self] at e; cases e; exact r tk
    · rw [upd_ne z] at e; exact R2.objs b o' e
  · rcases z3 b w with rfl | w
    · exact hb
    · exact R2.ownb b w
  · by_cases z : x = d
    · subst z; rw [upd_self] at e1; cases e1; cases ho
    · by_cases z' : y = d
      · subst z'; rw [upd_self] at e2; cases e2; cases ho
      · rw [upd_ne z] at e1; rw [upd_ne z'] at e2; exact R2.inj x y C C' at_ at' e1 e2 e3
  · by_cases z : x = d
    · subst z; rw [upd_self] at e; cases e; cases ho
    · rw [upd_ne z] at e
      have : D1 x ≠ d := fun z => hn (.inr ⟨x, C, at_, e, z⟩)
      rw [upd_ne this]; exact R2.sep x C at_ e
  · rcases z3 b w with rfl | w
    · exact .inr hd
    · exact T2.fresh b w

section
variable {X : Cx} {T : Tab} {W : Spec} {k : Nat}

theorem pe_dc0 {t} : PE X T W k (.dc0 t) := by
  intro N e h
  replace h := mDict_inv h
  obtain ⟨ks, vs, p, h⟩ := h
  replace h := b2 h
  obtain ⟨h1, h2⟩ := h
  obtain rfl := List.isEmpty_iff.mp h1
  obtain rfl := List.isEmpty_iff.mp h2
  · refine pe_mk (fun _ => rfl) fun A env ρ D σ s L Q q => wpAny_Dict_empty ?_
    have fin : ∀ o : AO, o.own = true → OR X D (s.heap.push { cls := .type "dict", data := .dict #[] }) s.heap.objs.size o → newO σ o Q → PostR VR X D σ s Q (.ref s.heap.objs.size) { s with heap := s.heap.push { cls := .type "dict", data := .dict #[] } } := fun o ho hr q => by
      obtain ⟨R', T'⟩ := L.R.new (s' := { s with heap := s.heap.push { cls := .type "dict", data := .dict #[] } }) ho (size_free _) (push_keep _) hr rfl rfl
      exact ⟨_, D, _, .ref, R', T', q _ (L.R.none_of_free (size_free _))⟩
    induction t using Bool.casesOn with
    | true => exact fin (.dct []) rfl ⟨[], Heap.DictOfH.new _, .nil⟩ q
    | false => exact fin (.dcs []) rfl ⟨[], Heap.DictOf.new _, .nil⟩ q

-- a display's frame: a dict ahead, then the pairs
structure DD (X : Cx) (D : Addr → Addr) (σ : ASt) (s : Shared) (D1 : Addr → Addr) (σ1 : ASt) (s1 : Shared) : Prop where
  T : Tr D σ s D1 σ1 s1
  R : Rel X D1 σ1 s1
  n : ¬ Own D1 σ1 s.heap.objs.size
  b : X.base.get? s.heap.objs.size = none
  o : s1.heap.get? s.heap.objs.size = some { cls := .type "dict", data := .dict #[] }
theorem DD.start {D σ s} (R : Rel X D σ s) : DD X D σ s D σ { s with heap := s.heap.push { cls := .type "dict", data := .dict #[] } } :=
  ⟨Tr.all (push_keep _), R.all (push_keep _) rfl rfl, fun w => (by obtain ⟨o, ho⟩ := R.live w; rw [size_free] at ho; cases ho), R.baseFree (size_free _), Heap.get?_push_size _ rfl⟩
theorem DD.go {D σ s D1 σ1 s1 D2 σ2 s2} (d : DD X D σ s D1 σ1 s1) (T2 : Tr D1 σ1 s1 D2 σ2 s2) (R2 : Rel X D2 σ2 s2) : DD X D σ s D2 σ2 s2 := by
  refine ⟨d.T.trans T2, R2, fun w => ?_, d.b, T2.keep _ _ d.o d.n⟩
  rcases T2.fresh _ w with z | z
  · exact d.n z
  · rw [d.o] at z; cases z
theorem DD.s {D σ s D1 σ1 s1} (d : DD X D σ s D1 σ1 s1) : s1.heap.DictOf (strKind pg X.w) s.heap.objs.size [] := by
  obtain ⟨o, es, ep, ho, r⟩ := Heap.DictOf.new (knd := strKind pg X.w) s.heap
  rw [Heap.get?_push_size _ rfl] at ho
  cases ho
  exact ⟨_, es, ep, d.o, r⟩
theorem DD.t {D σ s D1 σ1 s1} (d : DD X D σ s D1 σ1 s1) : s1.heap.DictOfH (tupK X) s.heap.objs.size [] := by
  obtain ⟨o, es, ep, ho, r1, r2, r3, _, r5⟩ := Heap.DictOfH.new (knd := tupK X) s.heap
  rw [Heap.get?_push_size _ rfl] at ho
  cases ho
  exact ⟨_, es, ep, d.o, r1, r2, r3, fun x hx => (nomatch hx), r5⟩
theorem DD.fin {D σ s D1 σ1 s1 s2} {o : AO} {Q : Post} (d : DD X D σ s D1 σ1 s1) (hk : ∀ b ob, b ≠ s.heap.objs.size → s1.heap.get? b = some ob → s2.heap.get? b = some ob) (g : s2.gens = s1.gens) (os : s2.os = s1.os)
    (r : TK s1.heap s2.heap → OR X D1 s2.heap s.heap.objs.size o) (ho : o.own = true) (q : newO σ1 o Q) : PostR VR X D σ s Q (.ref s.heap.objs.size) s2 :=
  PostR.hand (size_free _) d.T d.R d.n d.b ⟨_, d.o, rfl, fun z => by cases z⟩ hk g os r ho q

theorem stored_nil (k : Str) (v : Value) : stored ([] : List (Str × Value)) k v = [(k, v)] := rfl
theorem storeAll_cons {M : Model} {A : Around} {E : Value → Shared → Prop} {s : Shared} {d : Addr} {x y : Value} {r : List (Value × Value)} {Q : PUnit → Shared → Prop} (h : wpAny M A (dictSet d x y) (fun _ s1 => wpAny M A (storeAll d r) Q E s1) E s) : wpAny M A (storeAll d ((x, y) :: r)) Q E s := by
  unfold storeAll
  rw [List.forIn_cons]
  exact wpAny_bind (wpAny_bind (wpAny_mono h (fun _ _ h1 => wpAny_pure h1) fun _ _ e => e))
theorem storeAll_nil {M : Model} {A : Around} {E : Value → Shared → Prop} {s : Shared} {d : Addr} {Q : PUnit → Shared → Prop} (h : Q ⟨⟩ s) : wpAny M A (storeAll d []) Q E s := by
  unfold storeAll
  rw [List.forIn_nil]
  exact wpAny_pure h

theorem Loc.at {A env N ρ D σ s D1 σ1 s1} (L : Loc X A k env N ρ D σ s) (d : DD X D σ s D1 σ1 s1) : Loc X A k env N ρ D1 σ1 s1 := L.next d.R d.T

theorem pe_dc1 {a v} (ha : PE X T W k a) (hv : PE X T W k v) : PE X T W k (.dc1 a v) := by
  intro N e h
  replace h := mDict_inv h
  obtain ⟨ks, vs, p, h⟩ := h
  replace h := mL1_inv h
  obtain ⟨x, h⟩ := h
  replace h := mS_inv h
  obtain ⟨x, h⟩ := h
  replace h := mL1_inv h
  obtain ⟨y, h⟩ := h
  replace h := b2 h
  obtain ⟨h1, h2⟩ := h
  refine pe_mk (fun _ => rfl) fun A env ρ D σ s L Q q => wpAny_Dict_any rfl rfl (by simp) (by simp) ?_
  have d0 := DD.start L.R
  refine pairTrees_cons_walk (EVg.then (γ := Unit) ((ha _ _ h1 _ _ _ _ _ _ (L.at d0)).1 _ q) fun v1 x D1 σ1 s1 r1 R1 T1 q => ?_)
  have d1 := d0.go T1 R1
  refine EVg.then (γ := Unit) ((hv _ _ h2 _ _ _ _ _ _ (L.at d1)).1 _ q) fun v2 y D2 σ2 s2 r2 R2 T2 q => ?_
  have d2 := d1.go T2 R2
  have r1' := r1.mono (T2.tk R1)
  refine pairTrees_nil_walk (storeAll_cons ?_)
  have hu := L.Ro.units
  induction x using AV.casesOn with
  | str x =>
    obtain ⟨u, rfl⟩ := r1'.str_inv
    refine wpAny_dictSet_pairs (strKind_is _ _ _ _) d2.s (fun h' hm hs => storeAll_nil ?_) (by simp)
    exact d2.fin (o := .dcs [(_, y)]) (s2 := { s2 with heap := h', toks := s2.toks + 1 }) (fun b ob hb ho => hs.extBut b ob hb ho) rfl rfl (fun tk => ⟨_, hm, .cons (r2.mono tk) .nil⟩) rfl q
  | tup l =>
    obtain ⟨ks, ei, q⟩ := q
    obtain ⟨t, rfl, hk⟩ := tup_key (X := X) ei r1'
    refine wpAny_dictSet_heap (show A.units < cLine by lia) hk d2.t (fun h' hm hs => storeAll_nil ?_) (by simp)
    exact d2.fin (o := .dct [(ks, y)]) (s2 := { s2 with heap := h', toks := s2.toks + (tupK X).draws ks }) (fun b ob hb ho => hs.extBut b ob hb ho) rfl rfl (fun tk => ⟨_, hm, .cons (r2.mono tk) .nil⟩) rfl q
  | _ => exact False.elim q
theorem str3 {x x2 x3 : AV} {P : Str → Str → Str → Prop} (q : match x, x2, x3 with | .str a, .str b, .str c => P a b c | _, _, _ => False) : ∃ a b c, x = .str a ∧ x2 = .str b ∧ x3 = .str c ∧ P a b c := by
  induction x using AV.casesOn with
  | str a => induction x2 using AV.casesOn with
    | str b => induction x3 using AV.casesOn with
      | str c => exact ⟨a, b, c, rfl, rfl, rfl, q⟩
      | _ => exact False.elim q
    | _ => exact False.elim q
  | _ => exact False.elim q
theorem pe_dcs {a v a2 v2 a3 v3} (ha : PE X T W k a) (hv : PE X T W k v) (ha2 : PE X T W k a2) (hv2 : PE X T W k v2) (ha3 : PE X T W k a3) (hv3 : PE X T W k v3) : PE X T W k (.dcs a v a2 v2 a3 v3) := by
  intro N e h
  replace h := mDict_inv h
  obtain ⟨ks, vs, p, h⟩ := h
  replace h := mL3_inv h
  obtain ⟨x, x2, x3, h⟩ := h
  replace h := mS_inv h
  obtain ⟨x, h⟩ := h
  replace h := mS_inv h
  obtain ⟨x2, h⟩ := h
  replace h := mS_inv h
  obtain ⟨x3, h⟩ := h
  replace h := mL3_inv h
  obtain ⟨y, y2, y3, h⟩ := h
  replace h := b6 h
  obtain ⟨h1, h2, h3, h4, h5, h6⟩ := h
  · refine pe_mk (fun _ => rfl) fun A env ρ D σ s L Q q => wpAny_Dict_any rfl rfl (by simp) (by simp) ?_
    have d0 := DD.start L.R
    refine pairTrees_cons_walk (EVg.then (γ := Unit) ((ha _ _ h1 _ _ _ _ _ _ (L.at d0)).1 _ q) fun k1 x1 D1 σ1 s1 r1 R1 T1 q => ?_)
    have d1 := d0.go T1 R1
    refine EVg.then (γ := Unit) ((hv _ _ h2 _ _ _ _ _ _ (L.at d1)).1 _ q) fun w1 y1 D2 σ2 s2 r2 R2 T2 q => ?_
    have d2 := d1.go T2 R2
    refine pairTrees_cons_walk (EVg.then (γ := Unit) ((ha2 _ _ h3 _ _ _ _ _ _ (L.at d2)).1 _ q) fun k2 x2 D3 σ3 s3 r3 R3 T3 q => ?_)
    have d3 := d2.go T3 R3
    refine EVg.then (γ := Unit) ((hv2 _ _ h4 _ _ _ _ _ _ (L.at d3)).1 _ q) fun w2 y2 D4 σ4 s4 r4 R4 T4 q => ?_
    have d4 := d3.go T4 R4
    refine pairTrees_cons_walk (EVg.then (γ := Unit) ((ha3 _ _ h5 _ _ _ _ _ _ (L.at d4)).1 _ q) fun k3 x3 D5 σ5 s5 r5 R5 T5 q => ?_)
    have d5 := d4.go T5 R5
    refine EVg.then (γ := Unit) ((hv3 _ _ h6 _ _ _ _ _ _ (L.at d5)).1 _ q) fun w3 y3 D6 σ6 s6 r6 R6 T6 q => ?_
    have d6 := d5.go T6 R6
    have t56 := T6.tk R5
    have t46 : TK s4.heap s6.heap := fun a o h1 h2 h3 => t56 a o (T5.tk R4 a o h1 h2 h3) h2 h3
    have t36 : TK s3.heap s6.heap := fun a o h1 h2 h3 => t46 a o (T4.tk R3 a o h1 h2 h3) h2 h3
    have t26 : TK s2.heap s6.heap := fun a o h1 h2 h3 => t36 a o (T3.tk R2 a o h1 h2 h3) h2 h3
    have t16 : TK s1.heap s6.heap := fun a o h1 h2 h3 => t26 a o (T2.tk R1 a o h1 h2 h3) h2 h3
    obtain ⟨z1, z2, z3, rfl, rfl, rfl, q⟩ := str3 q
    · obtain ⟨u1, rfl⟩ := r1.str_inv
      obtain ⟨u2, rfl⟩ := r3.str_inv
      obtain ⟨u3, rfl⟩ := r5.str_inv
      refine pairTrees_nil_walk (storeAll_cons ?_)
      refine wpAny_dictSet_pairs (strKind_is _ _ _ _) d6.s (fun h' hm hs => storeAll_cons ?_) (by simp)
      rw [stored_nil] at hm
      refine wpAny_dictSet_pairs (s := { s6 with heap := h', toks := s6.toks + 1 }) (strKind_is _ _ _ _) hm (fun h2 hm2 hs2 => storeAll_cons ?_) (by show 1 ≤ sizeLine; rw [sizeLine_eq]; decide)
      refine wpAny_dictSet_pairs (s := { s6 with heap := h2, toks := s6.toks + 1 + 1 }) (strKind_is _ _ _ _) hm2 (fun h3 hm3 hs3 => storeAll_nil ?_) ?_
      · refine d6.fin (o := .dcs _) (s2 := { s6 with heap := h3, toks := s6.toks + 1 + 1 + 1 }) (fun b ob hb ho => hs3.extBut b ob hb (hs2.extBut b ob hb (hs.extBut b ob hb ho))) rfl rfl (fun tk => ⟨_, hm3, ?_⟩) rfl q
        exact (KR.put ((r4.mono t46).mono tk) (.cons ((r2.mono t26).mono tk) .nil) |> KR.put (r6.mono tk))
      · unfold stored
        rw [sizeLine_eq]
        split <;> simp
end

end Np

namespace Np

-- the statements held against the program's parts
noncomputable def isListComp (e : Expr) : Bool := Nat.beq e.ctorIdx 8 || Nat.beq e.ctorIdx 9 || Nat.beq e.ctorIdx 10
noncomputable def isTupleE (e : Expr) : Bool := Nat.beq e.ctorIdx 25
-- whether two or three names are stored from behind
noncomputable def swNm (N : Nm) (line : Nat) (e : Expr) : Option Str := PySem.swappedStores.match_8 (fun _ => Option Str) e (fun id pos => if (List.lookup id N == some NameKind.local && pos.line == line) = true then some id else none) (fun _ => none)
noncomputable def swNames (N : Nm) (ts : List Expr) : List Str := ts.filterMap (swNm N ((ts.head?.map (·.pos.line)).getD 0))
noncomputable def swG {α : Type} (a b c d e : Bool) (x y z : α) : α := if a = true then x else if b = true then x else if c = true then x else if d = true then x else if e = true then y else z
noncomputable def swL (ts vs : List Expr) : Bool := !(ts.length == 2 || ts.length == 3) || vs.length != ts.length
noncomputable def swD (ns : List Str) (n : Nat) : Bool := ns.length != n || ns.eraseDups.length != ns.length
noncomputable def swS (vs : List Expr) : Bool := vs.any fun x => PySem.swappedStores.match_5 (fun _ => Bool) x (fun _ _ => true) fun _ => false
noncomputable def swN (N : Nm) (ts vs : List Expr) : Option Bool :=
  swG (swL ts vs) (swS vs) (swD (swNames N ts) ts.length) (vs.all (foldedForSure 8)) (vs.all (constantsAlone 8)) (some false) none (some true)
noncomputable def compUse (N : Nm) (x : Str) (p : Pos) (s : Scope) (q : Pos) : Bool := N.lookup x == some .local && p.line == q.line && !(s.names.any fun (n, k) => n == x && (k == .local || k == .cell))

noncomputable def mAsg1 (st : Stmt) (f : Expr → Expr → Bool) : Bool := mAsg st fun ts v => mL1 ts fun t => f t v
inductive VAsg1 (f : Expr → Expr → Bool) : Stmt → Prop
  | mk (t v p) (h : f t v = true) : VAsg1 f (.Assign [t] v p)
theorem mAsg1_inv {st f} (h : mAsg1 st f = true) : VAsg1 f st := by
  replace h := mAsg_inv h
  obtain ⟨ts, v, p, h⟩ := h
  replace h := mL1_inv h
  obtain ⟨t, h⟩ := h
  exact .mk t v p h
noncomputable def notComps (e : Expr) : Bool := !(Nat.beq e.ctorIdx 9 || Nat.beq e.ctorIdx 10)

mutual
noncomputable def cs (T : Tab) (N : Nm) : IS → Stmt → Bool
  | .asg i e, st => mAsg1 st fun t v => ctn N i t && ce T N e v && notComps v
  | .asgT ts e, st => mAsg1 st fun t v => mTup t fun es => ctl N ts es && !(isListComp v) && !(isTupleE v) && ce T N e v
  | .swp ts es, st => mAsg1 st fun t v => mTup t fun us => mTup v fun vs => ctl N ts us && decide ts.Nodup && (swN N us vs).isSome && cel T N es vs
  | .setA i k e, st => mAsg1 st fun t v => mAtt t fun o n _ => mName o fun x => locOk N i x && decide (n = anm k) && ce T N e v
  | .setA2 i k j l e, st => mAsg1 st fun t v => mTup t fun es => mL2 es fun p q => mAtt p fun o n _ => mAtt q fun o2 m _ => mName o fun x => mName o2 fun y => locOk N i x && decide (n = anm k) && locOk N j y && decide (m = anm l) && !(isListComp v) && !(isTupleE v) && ce T N e v
  | .setI a i e, st => mAsg1 st fun t v => mSub t fun o j => ce T N a o && ce T N i j && !(isListComp v) && ce T N e v
  | .exp e, st => mEx st fun v => !(isListComp v) && ce T N e v
  | .ite c t f, st => mIfS st fun x b o => ce T N c x && css T N t b && css T N f o
  | .whl c b, st => mWhl st fun x body o => o.isEmpty && ce T N c x && css T N b body
  | .for tg tup sk a b body, st => mFor st fun t iter bd o => o.isEmpty && ctg N tg tup t && notSet iter && b.isNon && css T N body bd && (match sk with
          | .of => ce T N a iter
          | .range => mCallN iter fun y args => mL1 args fun z => decide (y = "range") && glo N y && notStar z && ce T N a z
          | .enum => mCallN iter fun y args => mL1 args fun z => decide (y = "enumerate") && glo N y && notStar z && tup && ce T N a z)
  | .ret e, st => mRet st fun o => match o with
    | some v => ce T N e v
    | none => e.isNon
  | .cont, st => mCont st
  | .dead, _ => true
noncomputable def css (T : Tab) (N : Nm) : ISs → List Stmt → Bool
  | .nil, l => l.isEmpty
  | .cons a l, ss => match ss with
    | [] => false
    | s :: r => cs T N a s && css T N l r
end

noncomputable def PSe (X : Cx) (T : Tab) (W : Spec) (k : Nat) (i : IS) (N : Nm) (st : Stmt) : Prop := ∀ A env ρ D σ s, Loc X A k env N ρ D σ s → ∀ K, vs T W i ρ σ K → wpAny (model pg X.w) A (exec st env) (PostF X env (FrAddr env) D σ s K) no s
noncomputable def PS (X : Cx) (T : Tab) (W : Spec) (k : Nat) (i : IS) : Prop := ∀ (N : Nm) (st : Stmt), cs T N i st = true → PSe X T W k i N st
noncomputable def PSS (X : Cx) (T : Tab) (W : Spec) (k : Nat) (i : ISs) : Prop := ∀ (N : Nm) (st : List Stmt), css T N i st = true → ∀ A env ρ D σ s, Loc X A k env N ρ D σ s → ∀ K, vss T W i ρ σ K → wpAny (model pg X.w) A (execs st env) (PostF X env (FrAddr env) D σ s K) no s
-- a comprehension whose list is stored at once
noncomputable def PU (X : Cx) (T : Tab) (W : Spec) (k : Nat) (ir : IR) : Prop := ∀ (N : Nm) elt gens scope pos, ce T N ir (.ListComp elt gens scope pos) = true → PUe X T W k ir N elt gens scope pos

section
variable {X : Cx} {T : Tab} {W : Spec} {k : Nat}

theorem Loc.nextS {A env N ρ ρ' D σ s D' σ' s'} (L : Loc X A k env N ρ D σ s) (R' : Rel X D' σ' s') (e' : EnvR X env ρ' D' σ' s'.heap) : Loc X A k env N ρ' D' σ' s' := ⟨L.Ro, L.E, L.cl, L.N, e', R'⟩

theorem swaps_att {v o : Expr} {n : Str} {p : Pos} {line : Nat} {env : Env} : swapsWith v (some (.Attribute o n p)) line env = pure false := by
  cases v <;> rfl
theorem swaps_plain {v : Expr} {t : Option Expr} {line : Nat} {env : Env} (h : isListComp v = false) : swapsWith v t line env = pure false := by
  revert h
  induction v using Expr.casesOn with
  | ListComp => exact fun h => absurd h.symm Bool.false_ne_true
  | SetComp => exact fun h => absurd h.symm Bool.false_ne_true
  | DictComp => exact fun h => absurd h.symm Bool.false_ne_true
  | _ => exact fun _ => rfl
theorem swp_plain {v : Expr} {ts : List Expr} {a b} {env : Env} (h : isTupleE v = false) : swappedStores [.Tuple ts a b] v env = pure none := by
  revert h
  induction v using Expr.casesOn with
  | Tuple => exact fun h => absurd h.symm Bool.false_ne_true
  | _ => exact fun _ => rfl
inductive VLc : Expr → Prop
  | mk (elt gens scope lp) : VLc (.ListComp elt gens scope lp)
theorem isListComp_inv {v : Expr} (h : isListComp v = true) (n : notComps v = true) : VLc v := by
  revert h n
  induction v using Expr.casesOn with
  | ListComp => exact fun _ _ => .mk ..
  | SetComp => exact fun _ h => absurd h Bool.false_ne_true
  | DictComp => exact fun _ h => absurd h Bool.false_ne_true
  | _ => exact fun h _ => absurd h Bool.false_ne_true
theorem swaps_name {elt gens scope pos x p line} {env : Env} (E : EnvS env) : swapsWith (.ListComp elt gens scope pos) (some (.Name x p)) line env = pure (compUse env.scope.names x p scope pos) := by
  have e : (env.blockKind == ScopeKind.function) = true := by unfold Env.blockKind; rw [E.kind]; rfl
  show pure ((((env.blockKind == ScopeKind.function) && _) && _) && _) = _
  rw [e]; rfl

theorem vst_set {i : Nat} {a : AV} {ρ : LE} {Q : LE → Prop} (q : vst i a ρ Q) : Q (ρ.set i (some a)) := by
  have q : (match (if i < ρ.length then some (ρ.set i (some a)) else none) with | some ρ => Q ρ | none => False) := q
  by_cases hi : i < ρ.length
  · rw [if_pos hi] at q; exact q
  · rw [if_neg hi] at q; exact q.elim
theorem ps_asg {i e} (he : PE X T W k e) (hu : PU X T W k e) : PS X T W k (.asg i e) := by
  intro N st h
  replace h := mAsg1_inv h
  obtain ⟨t, v, pos, h⟩ := h
  replace h := b3 h
  obtain ⟨h1, h2, h3⟩ := h
  have h1' := h1
  replace h1 := ctn_inv h1
  obtain ⟨x, p, kd, rfl, hN, hk⟩ := h1
  intro A env ρ D σ s L K q
  have stash : ∀ {σ1 : ASt} {a : AV}, (vst i a ρ fun ρ => K .next ρ σ1) → K .next (ρ.set i (some a)) σ1 := fun q => vst_set q
  have plain : swapsWith v (some (.Name x p)) pos.line env = pure false → wpAny (model pg X.w) A (exec (.Assign [.Name x p] v pos) env) (PostF X env (FrAddr env) D σ s K) no s := fun hs =>
    wpAny_Assign_Name (EVg.then (γ := Unit) ((he _ _ h2 _ _ _ _ _ _ L).1 _ q) fun w a D1 σ1 s1 r1 R1 T1 q => by
      have L1 := L.next R1 T1
      refine ev_storeS (S := FrAddr env) L1.E L1.e R1 (by rw [L1.N]; exact hN) hk ⟨fun _ => .inl rfl, fun _ c hc => .inr ⟨_, hc⟩⟩ r1 fun s2 e2 R2 T2 tk => ?_
      exact ⟨.next, _, D1, σ1, .next, R2, e2, (T1.toS).trans (fun b hb => L1.e.live2 L1.cl b hb) T2, stash q⟩) hs
  by_cases hl : isListComp v = true
  · obtain ⟨elt, gens, scope, lp⟩ := isListComp_inv hl h3
    have hsw := swaps_name (elt := elt) (gens := gens) (scope := scope) (pos := lp) (x := x) (p := p) (line := pos.line) L.E
    cases hc : compUse env.scope.names x p scope lp with
    | false => exact plain (by rw [hsw, hc])
    | true =>
      rw [exec_Assign_Name_used _ _ _ _ (by rw [hsw, hc])]
      refine wpAny_bind (wpAny_standAt (wpAny_bind ?_))
      show wpAny _ A (do let _ ← comprehension (.ListComp elt gens scope lp) scope env (firstIterPos gens lp) (newList []) (firstAsync gens) (firstIter gens env) (some (assign (.Name x p) env))) _ _ s
      refine wpAny_bind (wpAny_mono (hu _ _ _ _ _ h2 A env ρ D σ s L (fun a σ1 => vst i a ρ fun ρ => K .next ρ σ1) q (some (assign (.Name x p) env)) (fun _ s' => PostF X env (FrAddr env) D σ s K .next s') fun C L0 s' D' σ' u c => ?_) (fun _ s' hq => wpAny_pure (wpAny_pure hq)) fun _ _ e => e)
      have e' : EnvR X env ρ D' σ' s'.heap := L.e.tr L.R c.T
      have hCf : ¬ FrAddr env C := fun f => by
        obtain ⟨o, ho, _, _, hn, _⟩ := L.e.slotLive L.cl C f
        exact u.no hn ho
      show wpAny _ A (assign (.Name x p) env (.ref L0)) _ _ _
      refine ev_tn (S := FrAddr env) L.E e' c.R (by rw [L.N]; exact h1') (TgS.all env [i]) .ref fun s2 Z => ?_
      obtain ⟨m, hn⟩ := c.ns
      refine ⟨m, hn.at' fun o ho => Z.T.keep _ _ ho c.own hCf, fun h2 hs2 => ?_⟩
      have hn2 : s2.heap.Ns C m := hn.at' fun o ho => Z.T.keep _ _ ho c.own hCf
      have k2 : ∀ b o, b ≠ C → s2.heap.get? b = some o → h2.get? b = some o := fun b o hb ho => hs2.extBut b o hb ho
      obtain ⟨R3, tk3⟩ := Z.R.extS (s' := { s2 with heap := h2 }) (S := (· = C)) (fun b hb => by subst hb; exact ⟨c.own, c.base, Ns.soft hn2⟩) k2 rfl rfl
      refine ⟨.next, _, D', σ', .next, R3, Z.e.keeps2 tk3 (fun b o f ho => k2 b o (fun z => hCf (z ▸ f)) ho), ?_, stash c.q⟩
      have T2 : TrS (FrAddr env) D σ s D' σ' s2 := (c.T.toS).trans (fun b hb => e'.live2 L.cl b hb) Z.T
      exact T2.keepBut (wr := [C]) (fun b hb => by rw [List.mem_singleton.mp hb]; exact u) (fun b o hb ho => k2 b o (fun q => hb (by rw [q]; exact .head _)) ho)
  · exact plain (swaps_plain (by simpa using hl))

theorem ps_asgT {ts e} (he : PE X T W k e) : PS X T W k (.asgT ts e) := by
  intro N st h
  replace h := mAsg1_inv h
  obtain ⟨t, v, pos, h⟩ := h
  replace h := mTup_inv h
  obtain ⟨es, kk, pp, h⟩ := h
  replace h := b4 h
  obtain ⟨h1, h2, h3, h4⟩ := h
  replace h2 := bnot h2
  replace h3 := bnot h3
  intro A env ρ D σ s L K q
  refine wpAny_Assign_stores (EVg.then (γ := Unit) ((he _ _ h4 _ _ _ _ _ _ L).1 _ q) fun w a D1 σ1 s1 r1 R1 T1 q => ?_) (by unfold swapsWithSole; exact swaps_plain h2) (swp_plain h3)
  have L1 := L.next R1 T1
  show wpAny (model pg X.w) A (assign (.Tuple es kk pp) env w) _ no s1
  refine ev_tg (S := FrAddr env) (tup := true) (tg := ts) L1.Ro L1.E L1.cl (fun b h => h) L1.e R1 (t := .Tuple es kk pp) (by rw [L1.N]; exact h1) (TgS.all env ts) r1 q fun ρ' s2 q Z => ?_
  exact ⟨.next, ρ', D1, σ1, .next, Z.R, Z.e, (T1.toS).trans (fun b hb => L1.e.live2 L1.cl b hb) Z.T, q⟩

theorem ps_setA (P : Cp X T W k) {i n e} (he : PE X T W k e) : PS X T W k (.setA i n e) := by
  intro N st h
  replace h := mAsg1_inv h
  obtain ⟨t, v, pos, h⟩ := h
  replace h := mAtt_inv h
  obtain ⟨o, nm, ap, h⟩ := h
  replace h := mName_inv h
  obtain ⟨x, xp, h⟩ := h
  replace h := b3 h
  obtain ⟨h1, hn, h3⟩ := h
  obtain rfl := of_decide_eq_true hn
  intro A env ρ D σ s L K q
  refine plainObj_wpAny_Assign_Attribute (EVg.then (γ := Unit) ((he _ _ h3 _ _ _ _ _ _ L).1 _ q) fun w a D1 σ1 s1 r1 R1 T1 q => ?_) swaps_att
  have L1 := L.next R1 T1
  have hx : ce T N (.loc i) (.Name x xp) = true := h1
  refine EVg.then (γ := Unit) ((pe_loc (T := T) (W := W) (k := k) _ _ hx _ _ _ _ _ _ L1).1 (fun y σ2 => vsetA T y n a σ2 fun σ => K .next ρ σ) q) fun ov y D2 σ2 s2 r2 R2 T2 q => ?_
  refine EVg.then (γ := Unit) (ev_setA P.G P.TO R2 r2 (r1.mono (T2.tk R1)) q) fun _ _ D3 σ3 s3 _ R3 T3 q => ?_
  exact ⟨.next, ρ, D3, σ3, .next, R3, ((L1.next R2 T2).next R3 T3).e, ((T1.trans T2).trans T3).toS, q⟩

theorem assign_Attr {M : Model} {A : Around} {E : Value → Shared → Prop} {s : Shared} {env : Env} {o : Expr} {n : Str} {p : Pos} {v : Value} {Q : Unit → Shared → Prop} (h : wpAny M A (eval o env) (fun ov s1 => wpAny M A (setAttr ov n v) Q E s1) E s) : wpAny M A (assign (.Attribute o n p) env v) Q E s := fun Γ q hΓ => by
  simp only [assign_Attribute, Sem.wp_bind', Sem.wp_holding, Sem.wp_cmd_standAt, Sem.wp_release]
  exact Sem.wp_mono M Γ _ (fun ov _ s₂ h₂ => h₂ Γ _ hΓ) (fun _ _ _ h' => h') _ _ (h Γ q hΓ)
theorem tup2 {x : AV} {P : AV → AV → Prop} (q : match x with | .tup [a, b] => P a b | _ => False) : ∃ a b, x = .tup [a, b] ∧ P a b := by
  induction x using AV.casesOn with
  | tup l => induction l using List.casesOn with
    | nil => exact False.elim q
    | cons a l => induction l using List.casesOn with
      | nil => exact False.elim q
      | cons b l => induction l using List.casesOn with
        | nil => exact ⟨a, b, rfl, q⟩
        | cons _ _ => exact False.elim q
  | _ => exact False.elim q
theorem ps_setA2 (P : Cp X T W k) {i n j m e} (he : PE X T W k e) : PS X T W k (.setA2 i n j m e) := by
  intro N st h
  replace h := mAsg1_inv h
  obtain ⟨t, v, pos, h⟩ := h
  replace h := mTup_inv h
  obtain ⟨es, kk, pp, h⟩ := h
  replace h := mL2_inv h
  obtain ⟨e1, e2, h⟩ := h
  replace h := mAtt_inv h
  obtain ⟨o, nm, ap, h⟩ := h
  replace h := mAtt_inv h
  obtain ⟨o2, nm2, ap2, h⟩ := h
  replace h := mName_inv h
  obtain ⟨x, xp, h⟩ := h
  replace h := mName_inv h
  obtain ⟨y, yp, h⟩ := h
  replace h := b7 h
  obtain ⟨h1, hn, h2, hm, h3, h4, h5⟩ := h
  obtain rfl := of_decide_eq_true hn
  obtain rfl := of_decide_eq_true hm
  replace h3 := bnot h3
  replace h4 := bnot h4
  intro A env ρ D σ s L K q
  refine wpAny_Assign_stores (EVg.then (γ := Unit) ((he _ _ h5 _ _ _ _ _ _ L).1 _ q) fun w a D1 σ1 s1 r1 R1 T1 q => ?_) (by unfold swapsWithSole; exact swaps_plain h3) (swp_plain h4)
  have L1 := L.next R1 T1
  show wpAny (model pg X.w) A (assign (.Tuple [.Attribute (.Name x xp) (anm n) ap, .Attribute (.Name y yp) (anm m) ap2] kk pp) env w) _ no s1
  obtain ⟨a1, a2, rfl, q⟩ := tup2 q
  obtain ⟨t, vs, nn, rfl, ht, rs⟩ := r1.tup_inv
  obtain ⟨v1, v2, rfl, ra, rb⟩ := rs.two_inv
  refine PySem.wpAny_assign_Tuple L.Ro.hd ⟨_, ht, rfl, nn, rfl⟩ rfl rfl fun h' hx => ?_
  have hk : ∀ b o, s1.heap.get? b = some o → h'.get? b = some o := fun b o e => hx b o (Nat.ne_of_lt (Heap.lt_size e)) e
  have R1' : Rel X D1 σ1 { s1 with heap := h' } := R1.all hk rfl rfl
  have T1' : Tr D σ s D1 σ1 { s1 with heap := h' } := T1.trans (Tr.all hk)
  have L1' := L.next R1' T1'
  have tk0 : TK s1.heap h' := fun a o e _ _ => hk a o e
  have hx1 : ce T N (.loc i) (.Name x xp) = true := h1
  have hx2 : ce T N (.loc j) (.Name y yp) = true := h2
  refine assignInOrder_cons (assign_Attr (EVg.then (γ := Unit) ((pe_loc (T := T) (W := W) (k := k) _ _ hx1 _ _ _ _ _ _ L1').1 (fun z σ2 => vsetA T z n a1 σ2 fun σ => vget1 ρ j fun z => vsetA T z m a2 σ fun σ => K .next ρ σ) q) fun ov y1 D2 σ2 s2 r2 R2 T2 q => ?_))
  refine EVg.then (γ := Unit) (ev_setA P.G P.TO R2 r2 ((ra.mono tk0).mono (T2.tk R1')) q) fun _ _ D3 σ3 s3 _ R3 T3 q => ?_
  have L3 := (L1'.next R2 T2).next R3 T3
  refine assignInOrder_cons (assign_Attr (EVg.then (γ := Unit) ((pe_loc (T := T) (W := W) (k := k) _ _ hx2 _ _ _ _ _ _ L3).1 (fun z σ2 => vsetA T z m a2 σ2 fun σ => K .next ρ σ) q) fun ov2 y2 D4 σ4 s4 r4 R4 T4 q => ?_))
  refine EVg.then (γ := Unit) (ev_setA P.G P.TO R4 r4 ((((rb.mono tk0).mono (T2.tk R1')).mono (T3.tk R2)).mono (T4.tk R3)) q) fun _ _ D5 σ5 s5 _ R5 T5 q => ?_
  refine assignInOrder_nil ?_
  exact ⟨.next, ρ, D5, σ5, .next, R5, ((L3.next R4 T4).next R5 T5).e, ((((T1'.trans T2).trans T3).trans T4).trans T5).toS, q⟩

theorem ps_setI {a i e} (ha : PE X T W k a) (hi : PE X T W k i) (he : PE X T W k e) : PS X T W k (.setI a i e) := by
  intro N st h
  replace h := mAsg1_inv h
  obtain ⟨t, v, pos, h⟩ := h
  replace h := mSub_inv h
  obtain ⟨o, j, sp, h⟩ := h
  replace h := b4 h
  obtain ⟨h1, h2, h3, h4⟩ := h
  replace h3 := bnot h3
  intro A env ρ D σ s L K q
  refine wpAny_Assign_Subscript (EVg.then (γ := Unit) ((he _ _ h4 _ _ _ _ _ _ L).1 _ q) fun w z D1 σ1 s1 r1 R1 T1 q => ?_) (swaps_plain h3)
  have L1 := L.next R1 T1
  refine EVg.then (γ := Unit) ((ha _ _ h1 _ _ _ _ _ _ L1).1 _ q) fun ov x D2 σ2 s2 r2 R2 T2 q => ?_
  have L2 := L1.next R2 T2
  refine EVg.then (γ := Unit) ((hi _ _ h2 _ _ _ _ _ _ L2).1 _ q) fun iv y D3 σ3 s3 r3 R3 T3 q => ?_
  refine EVg.then (γ := Unit) (ev_set L.Ro R3 (r2.mono (T3.tk R2)) r3 ((r1.mono (T2.tk R1)).mono (T3.tk R2)) q) fun _ _ D4 σ4 s4 _ R4 T4 q => ?_
  exact ⟨.next, ρ, D4, σ4, .next, R4, ((L2.next R3 T3).next R4 T4).e, (((T1.trans T2).trans T3).trans T4).toS, q⟩

theorem notRef_val {h v x} (r : VR h v x) (n : notRef x) : ∀ a, v ≠ .ref a := by
  cases r <;> first | exact n.elim | (intro a q; cases q)
theorem ps_exp {e} (he : PE X T W k e) : PS X T W k (.exp e) := by
  intro N st h
  replace h := mEx_inv h
  obtain ⟨v, p, h⟩ := h
  replace h := b2 h
  obtain ⟨h1, h2⟩ := h
  replace h1 := bnot h1
  intro A env ρ D σ s L K q
  refine wpAny_Expr (EVg.then (γ := Unit) ((he _ _ h2 _ _ _ _ _ _ L).1 _ q) fun w z D1 σ1 s1 r1 R1 T1 q => ?_) (by unfold interactive; rw [L.E.kind]; rfl) (swaps_plain h1)
  have hv := notRef_val r1 q.1
  have fin : PostF X env (FrAddr env) D σ s K .next s1 := ⟨.next, ρ, D1, σ1, .next, R1, (L.next R1 T1).e, T1.toS, q.2⟩
  cases w <;> first | exact fin | exact (hv _ rfl).elim

theorem ps_ret {e} (he : PE X T W k e) : PS X T W k (.ret e) := by
  intro N st h
  replace h := mRet_inv h
  obtain ⟨o, p, h⟩ := h
  induction o using Option.casesOn with
  | some v =>
    refine fun A env ρ D σ s L K q => wpAny_Return_some (EVg.then (γ := Unit) ((he _ _ h _ _ _ _ _ _ L).1 _ q) fun w z D1 σ1 s1 r1 R1 T1 q => ?_)
    exact ⟨.ret z, ρ, D1, σ1, .ret r1, R1, (L.next R1 T1).e, T1.toS, q⟩
  | none =>
    obtain rfl := isNon_inv h
    exact fun A env ρ D σ s L K q => wpAny_Return_none ⟨.ret .non, ρ, D, σ, .ret .non, L.R, L.e, TrS.refl .., q⟩
theorem ps_cont : PS X T W k .cont := by
  intro N st h
  replace h := mCont_inv h
  obtain ⟨p⟩ := h
  exact fun A env ρ D σ s L K q => wpAny_Continue ⟨.cont, ρ, D, σ, .cont, L.R, L.e, TrS.refl .., q⟩
theorem ps_dead : PS X T W k .dead := fun _ _ _ _ _ _ _ _ _ _ _ q => q.elim

theorem pss_nil : PSS X T W k .nil := by
  intro N st h A env ρ D σ s L K q
  induction st using List.casesOn with
  | nil => exact wpAny_execs_nil ⟨.next, ρ, D, σ, .next, L.R, L.e, TrS.refl .., q⟩
  | cons => cases h
theorem pss_cons {a l} (ha : PS X T W k a) (hl : PSS X T W k l) : PSS X T W k (.cons a l) := by
  intro N st h
  induction st using List.casesOn with
  | nil => cases h
  | cons st l =>
    replace h := b2 h
    refine fun A env ρ D σ s L K q => wpAny_execs_cons (wpAny_mono (ha _ _ h.1 _ _ _ _ _ _ L _ q) (fun f s1 p => ?_) fun _ _ e => e)
    obtain ⟨o, ρ1, D1, σ1, hf, R1, e1, T1, q⟩ := p
    cases hf with
    | next => exact wpAny_mono (hl _ _ h.2 _ _ _ _ _ _ (L.nextS R1 e1) _ q) (fun f2 s2 p => PostF.pre L.cl e1 T1 p) fun _ _ e => e
    | cont => exact ⟨.cont, ρ1, D1, σ1, .cont, R1, e1, T1, q⟩
    | ret r => exact ⟨_, ρ1, D1, σ1, .ret r, R1, e1, T1, q⟩
theorem ps_ite {c t f} (hc : PE X T W k c) (ht : PSS X T W k t) (hf : PSS X T W k f) : PS X T W k (.ite c t f) := by
  intro N st h
  replace h := mIfS_inv h
  obtain ⟨x, bb, o, p, h⟩ := h
  replace h := b3 h
  obtain ⟨h1, h2, h3⟩ := h
  intro A env ρ D σ s L K q
  refine wpAny_If (EVg.then (γ := Unit) ((hc _ _ h1 _ _ _ _ _ _ L).2 (fun b σ1 => (b = true → vss T W t ρ σ1 K) ∧ (b = false → vss T W f ρ σ1 K)) q) fun b b' D1 σ1 s1 r1 R1 T1 q => ?_)
  have e : b = b' := r1
  subst e
  have L1 := L.next R1 T1
  induction b using Bool.casesOn with
  | true => exact wpAny_mono (ht _ _ h2 _ _ _ _ _ _ L1 _ (q.1 rfl)) (fun f2 s2 p => PostF.pre L.cl L1.e T1.toS p) fun _ _ e => e
  | false => exact wpAny_mono (hf _ _ h3 _ _ _ _ _ _ L1 _ (q.2 rfl)) (fun f2 s2 p => PostF.pre L.cl L1.e T1.toS p) fun _ _ e => e

theorem ps_whl {c b} (hc : PE X T W k c) (hb : PSS X T W k b) : PS X T W k (.whl c b) := by
  intro N st h
  replace h := mWhl_inv h
  obtain ⟨x, body, o, p, h⟩ := h
  replace h := b3 h
  obtain ⟨ho, h1, h2⟩ := h
  obtain rfl := List.isEmpty_iff.mp ho
  intro A env ρ D σ s L K q
  refine wpAny_While ?_
  refine codeAny_whileLoop (fun n s' => ∃ ρ1 D1 σ1, Loc X A k env N ρ1 D1 σ1 s' ∧ TrS (FrAddr env) D σ s D1 σ1 s' ∧ vwh (fun ρ σ Q => ve T W c ρ σ Q) (fun ρ σ K => vss T W b ρ σ K) n ρ1 σ1 K) ?_ 100 ⟨ρ, D, σ, L, TrS.refl .., q⟩
  rintro n s1 ⟨ρ1, D1, σ1, L1, T1, v⟩
  have E : ∀ {e : Value} {s : Shared} {P : Prop}, no e s → P := fun h => h.elim
  induction n using Nat.casesOn with
  | zero => exact v.elim
  | succ n =>
    refine wpAny_mono (EVg.then (γ := Unit) ((hc _ _ h1 _ _ _ _ _ _ L1).2 (fun t σ2 => (t = true → vss T W b ρ1 σ2 fun o ρ σ => match o with
      | .ret v => K (.ret v) ρ σ
      | _ => vwh (fun ρ σ Q => ve T W c ρ σ Q) (fun ρ σ K => vss T W b ρ σ K) n ρ σ K) ∧ (t = false → K .next ρ1 σ2)) v) fun t t' D2 σ2 s2 r2 R2 T2 q => ?_) (fun _ _ h => h) fun _ _ e => E e
    have e : t = t' := r2
    subst e
    have L2 := L1.next R2 T2
    have T12 : TrS (FrAddr env) D σ s D2 σ2 s2 := T1.trans (fun b hb => L1.e.live2 L1.cl b hb) T2.toS
    induction t using Bool.casesOn with
    | false => exact wpAny_execs_nil ⟨.next, ρ1, D2, σ2, .next, R2, L2.e, T12, q.2 rfl⟩
    | true =>
      refine wpAny_mono (hb _ _ h2 _ _ _ _ _ _ L2 _ (q.1 rfl)) (fun f s3 p => ?_) fun _ _ e => E e
      obtain ⟨o, ρ3, D3, σ3, hf, R3, e3, T3, q3⟩ := p
      have T13 : TrS (FrAddr env) D σ s D3 σ3 s3 := T12.trans (fun b hb => L2.e.live2 L2.cl b hb) T3
      cases hf with
      | next => exact ⟨n, Nat.lt_succ_self n, ρ3, D3, σ3, L2.nextS R3 e3, T13, q3⟩
      | cont => exact ⟨n, Nat.lt_succ_self n, ρ3, D3, σ3, L2.nextS R3 e3, T13, q3⟩
      | ret r => exact ⟨_, ρ3, D3, σ3, .ret r, R3, e3, T13, q3⟩

theorem ps_for (P : Cp X T W k) {tg tup sk a b body} (ha : PE X T W k a) (hb : PSS X T W k body) : PS X T W k (.for tg tup sk a b body) := by
  intro N st h
  replace h := mFor_inv h
  obtain ⟨t, iter, bd, o, pos, h⟩ := h
  replace h := b6 h
  obtain ⟨ho, h1, h2, h3, h4, h5⟩ := h
  obtain rfl := List.isEmpty_iff.mp ho
  obtain rfl := isNon_inv h3
  intro A env ρ D σ s L K q
  refine wpAny_For (wpAny_mono (pt_src P ha h1 h5 L (Pp := fun items G σ2 => vfor tg tup (fun ρ σ K => vss T W body ρ σ K) G items ρ σ2 K) q) (fun v s1 h1' => wpAny_mono h1' (fun it s2 H => ?_) fun _ _ e => e) fun _ _ e => e) (folded_ok h2)
  obtain ⟨D2, σ2, s1', fp, wr, items, G, St, Md, H⟩ := H
  have L2 := L.next H.R H.T
  exact for_loop L.Ro L.E L.cl (by rw [L.N]; exact h1) (fun ρ D σ s K e' R' q' => hb _ _ h4 _ _ _ _ _ _ ⟨L.Ro, L.E, L.cl, L.N, e', R'⟩ _ q') H.W H.un (fun f s' p => p) H.R L2.e H.T.toS (H.fpOk L.cl L.e) H.st H.q

end

end Np

set_option backward.match.sparseCases true
namespace Np

section
variable {X : Cx} {T : Tab} {W : Spec} {k : Nat}

theorem bnot' {b : Bool} (h : (!b) = false) : b = true := by cases b <;> first | rfl | cases h
theorem eq_of_bne {n m : Nat} (h : (n != m) = false) : n = m := beq_iff_eq.mp (bnot' h)
theorem swG_none {α : Type} {a b c d e : Bool} {x y z : α} (h : swG a b c d e (some false) none (some true) = some false) : swG a b c d e x y z = x := by
  cases a
  · cases b
    · cases c
      · cases d
        · cases e <;> cases h
        · rfl
      · rfl
    · rfl
  · rfl
theorem swG_some {α : Type} {a b c d e : Bool} {x y z : α} (h : swG a b c d e (some false) none (some true) = some true) : swG a b c d e x y z = z ∧ a = false ∧ c = false := by
  cases a
  · cases b
    · cases c
      · cases d
        · cases e
          · exact ⟨rfl, rfl, rfl⟩
          · cases h
        · cases h
      · cases h
    · cases h
  · cases h
theorem sw_all {env : Env} (E : EnvS env) {us vs : List Expr} {a b p q} : swappedStores [.Tuple us a p] (.Tuple vs b q) env =
    swG (swL us vs) (swS vs) (swD (swNames env.scope.names us) us.length) (vs.all (foldedForSure 8)) (vs.all (constantsAlone 8)) (pure none) (unsupported "assign.tuple-of-constant-expressions:order-of-the-stores" >>= fun _ : Unit => pure (some (swNames env.scope.names us))) (pure (some (swNames env.scope.names us))) := by
  have hb : (env.blockKind != .function) = false := by unfold Env.blockKind; rw [E.kind]; rfl
  have e : swappedStores [.Tuple us a p] (.Tuple vs b q) env = swG (swL us vs || env.blockKind != .function) (swS vs) (swD (swNames env.scope.names us) us.length) (vs.all (foldedForSure 8)) (vs.all (constantsAlone 8)) (pure none) (unsupported "assign.tuple-of-constant-expressions:order-of-the-stores" >>= fun _ : Unit => pure (some (swNames env.scope.names us))) (pure (some (swNames env.scope.names us))) := rfl
  rw [e, hb, Bool.or_false]
theorem sw_none {env : Env} {N : Nm} (E : EnvS env) (hN : env.scope.names = N) {us vs : List Expr} {a b p q} (h : swN N us vs = some false) : swappedStores [.Tuple us a p] (.Tuple vs b q) env = pure none := by
  subst hN
  rw [sw_all E]
  exact swG_none h
theorem sw_some {env : Env} {N : Nm} (E : EnvS env) (hN : env.scope.names = N) {us vs : List Expr} {a b p q} (h : swN N us vs = some true) : swappedStores [.Tuple us a p] (.Tuple vs b q) env = pure (some (swNames N us)) ∧ (us.length = 2 ∨ us.length = 3) ∧ vs.length = us.length ∧ (swNames N us).length = us.length := by
  subst hN
  rw [sw_all E]
  obtain ⟨e, h1, h2⟩ := swG_some h
  replace h1 := Bool.or_eq_false_iff.mp h1
  obtain ⟨h1, h3⟩ := h1
  exact ⟨e, (Bool.or_eq_true_iff.mp (bnot' h1)).imp beq_iff_eq.mp beq_iff_eq.mp, eq_of_bne h3, eq_of_bne (Bool.or_eq_false_iff.mp h2).1⟩

-- the names that are stored from behind
theorem swNames_map {N : Nm} {us : List Expr} {line : Nat} : (us.filterMap (swNm N line)).length = us.length → ∀ {ts}, ctl N ts us = true → ∃ xs : List Str, us.filterMap (swNm N line) = xs ∧ xs.length = ts.length ∧ ∀ (n : Nat) (i : Nat) (x : Str), ts[n]? = some i → xs[n]? = some x → ∃ kd, N[i]? = some (x, kd) ∧ (kd = .local ∨ kd = .cell) := by
  induction us with
  | nil =>
    intro _ ts hc
    rcases ts with _ | ⟨i, is⟩
    · exact ⟨[], rfl, rfl, fun n i x h => nomatch h⟩
    · cases hc
  | cons u us ih =>
    intro h ts hc
    rcases ts with _ | ⟨i, is⟩
    · cases hc
    · replace hc := b2 hc
      obtain ⟨hc1, hc2⟩ := hc
      obtain ⟨x, p, kd, rfl, hN, hk⟩ := ctn_inv hc1
      by_cases c : (List.lookup x N == some NameKind.local && p.line == line) = true
      · have e : swNm N line (.Name x p) = some x := if_pos c
        rw [List.filterMap_cons_some e] at h ⊢
        obtain ⟨xs, h1, h2, h3⟩ := ih (Nat.succ.inj h) hc2
        refine ⟨x :: xs, congrArg (x :: ·) h1, congrArg Nat.succ h2, fun n j z hn hz => ?_⟩
        rcases n with _ | n
        · cases hn; cases hz; exact ⟨kd, hN, hk⟩
        · exact h3 n j z hn hz
      · have e : swNm N line (.Name x p) = none := if_neg c
        rw [List.filterMap_cons_none e] at h
        exact absurd (h ▸ List.length_filterMap_le (swNm N line) us) (Nat.not_succ_le_self _)

-- stores in a given order
theorem ev_names {A env D σ} (E : EnvS env) (hcl : CellsIn env) {is : List Nat} {l : List AV} {ρ ρ' : LE} (hb : VBind is l ρ ρ') : ∀ {xs : List Str} {vs : List Value} {s : Shared} {Pv : Unit → Shared → Prop}, (∀ (n : Nat) (i : Nat) (x : Str), is[n]? = some i → xs[n]? = some x → ∃ kd, env.scope.names[i]? = some (x, kd) ∧ (kd = .local ∨ kd = .cell)) →
    is.length = xs.length → EnvR X env ρ D σ s.heap → Rel X D σ s → VRs s.heap vs l →
    (∀ s', EnvR X env ρ' D σ s'.heap → Rel X D σ s' → TrS (FrAddr env) D σ s D σ s' → Pv () s') → wpAny (model pg X.w) A (assignInOrder (xs.map fun x => bindName env x) vs) Pv no s := by
  induction hb with
  | nil =>
    intro xs vs s Pv _ hl e R r h
    rcases xs with _ | ⟨x, xs⟩
    · cases r; exact assignInOrder_nil (h s e R (TrS.refl ..))
    · cases hl
  | cons _ _ ih =>
    intro xs vs s Pv hx hl e R r h
    rcases xs with _ | ⟨x, xs⟩
    · cases hl
    · replace r := r.cons_inv
      obtain ⟨v, ws, r, rs⟩ := r
      obtain ⟨kd, hN, hk⟩ := hx 0 _ x rfl rfl
      refine assignInOrder_cons (wpAny_bindName (ev_storeS (S := FrAddr env) E e R hN hk ⟨fun _ => .inl rfl, fun _ c hc => .inr ⟨_, hc⟩⟩ r fun s' e' R' T' tk => ?_))
      exact ih (fun n j z h1 h2 => hx (n + 1) j z h1 h2) (Nat.succ.inj hl) e' R' (rs.mono tk) fun s'' e'' R'' T'' => h s'' e'' R'' (T'.trans (fun b hb => e'.live2 hcl b hb) T'')

theorem VBind.set {j : Nat} {y : Option AV} {is : List Nat} {l : List AV} {ρ ρ' : LE} (h : VBind is l ρ ρ') (hn : j ∉ is) : VBind is l (ρ.set j y) (ρ'.set j y) := by
  induction h with
  | nil => exact .nil
  | cons c _ ih =>
    refine .cons (by rw [List.length_set]; exact c) ?_
    rw [List.set_comm _ _ fun q => hn (by rw [q]; exact .head _)]
    exact ih fun q => hn (.tail _ q)
theorem VBind.app {i : Nat} {x : AV} {is : List Nat} {l : List AV} {ρ ρ' : LE} (h : VBind is l ρ ρ') (hi : i < ρ'.length) : VBind (is ++ [i]) (l ++ [x]) ρ (ρ'.set i (some x)) := by
  induction h with
  | nil => exact .cons hi .nil
  | cons c _ ih => exact .cons c (ih hi)
theorem VBind.length {is : List Nat} {l : List AV} {ρ ρ' : LE} (h : VBind is l ρ ρ') : ρ'.length = ρ.length := by
  induction h with
  | nil => rfl
  | cons c _ ih => exact ih.trans List.length_set
theorem VBind.rev {is : List Nat} {l : List AV} {ρ ρ' : LE} (h : VBind is l ρ ρ') (hn : is.Nodup) : ∀ ρ2 : LE, ρ2.length = ρ.length → ∃ ρ3, VBind is.reverse l.reverse ρ2 ρ3 ∧ VBind is l ρ2 ρ3 := by
  induction h with
  | nil => exact fun ρ2 _ => ⟨ρ2, .nil, .nil⟩
  | cons c _ ih =>
    intro ρ2 h2
    replace hn := List.nodup_cons.mp hn
    obtain ⟨h1, hn⟩ := hn
    obtain ⟨ρ3, h3, h4⟩ := ih hn ρ2 (h2.trans List.length_set.symm)
    rw [List.reverse_cons, List.reverse_cons]
    exact ⟨_, h3.app (by rw [h3.length, h2]; exact c), .cons (by rw [h2]; exact c) (h4.set h1)⟩
theorem vbind_rev {is : List Nat} {l : List AV} {ρ ρ' : LE} (hn : is.Nodup) (h : vbind is l ρ = some ρ') : VBind is.reverse l.reverse ρ ρ' := by
  obtain ⟨ρ3, h1, h2⟩ := (VBind.of h).rev hn ρ rfl
  obtain rfl : ρ3 = ρ' := Option.some.inj (h2.eq.symm.trans h)
  exact h1

theorem getElem?_rev {α : Type} {l : List α} {n : Nat} {x : α} (h : l.reverse[n]? = some x) : ∃ m, l[m]? = some x ∧ n + m + 1 = l.length := by
  have hn : n < l.reverse.length := (List.getElem?_eq_some_iff.mp h).1
  rw [List.length_reverse] at hn
  rw [List.getElem?_reverse hn] at h
  exact ⟨_, h, by omega⟩

theorem vtg_tup {ts : List Nat} {xs : List AV} {ρ ρ' : LE} {Q : LE → Prop} (hb : vbind ts xs ρ = some ρ') (q : Q ρ') : vtg ts true (.tup xs) ρ Q := by
  show (match vbind ts xs ρ with | some ρ => Q ρ | none => False)
  rw [hb]; exact q
theorem opt_some {o : Option LE} {P : LE → Prop} (q : match o with | some ρ => P ρ | none => False) : ∃ ρ, o = some ρ ∧ P ρ := by
  induction o using Option.casesOn with
  | none => exact False.elim q
  | some ρ => exact ⟨ρ, rfl, q⟩
theorem ps_swp {ts es} (hl : PL X T W k es) : PS X T W k (.swp ts es) := by
  intro N st h
  replace h := mAsg1_inv h
  obtain ⟨t, v, pos, h⟩ := h
  replace h := mTup_inv h
  obtain ⟨us, kk, pp, h⟩ := h
  replace h := mTup_inv h
  obtain ⟨vs, kk2, pp2, h⟩ := h
  replace h := b4 h
  obtain ⟨h1, h2, h3, h4⟩ := h
  replace h2 := of_decide_eq_true h2
  intro A env ρ D σ s L K q
  obtain ⟨sw, hsw⟩ := Option.isSome_iff_exists.mp h3
  rw [exec_Assign_arm]
  refine wpAny_bind (wpAny_standAt ?_)
  rw [show swapsWithSole [.Tuple us kk pp] (.Tuple vs kk2 pp2) pos.line env = pure false by unfold swapsWithSole; exact swaps_plain rfl]
  refine wpAny_bind (wpAny_pure ?_)
  rw [if_neg (by decide)]
  refine wpAny_bind (wpAny_Tuple (EVg.then (γ := Unit) (hl _ _ h4 _ _ _ _ _ _ L _ _ q) fun ws xs D1 σ1 s1 r1 R1 T1 q => ⟨?_, ?_⟩))
  · rw [r1.length, sizeLine_eq]; have := q.1; omega
  obtain ⟨_, q⟩ := q
  obtain ⟨ρ', hb, q⟩ := opt_some q
  have k0 := push_keep (h := s1.heap) { cls := .type "tuple", data := .seq ws.toArray }
  have R1' : Rel X D1 σ1 { s1 with heap := s1.heap.push { cls := .type "tuple", data := .seq ws.toArray } } := R1.all k0 rfl rfl
  have T1' : Tr D σ s D1 σ1 { s1 with heap := s1.heap.push { cls := .type "tuple", data := .seq ws.toArray } } := T1.trans (Tr.all k0)
  have L1 := L.next R1' T1'
  have r1' : VRs (s1.heap.push { cls := .type "tuple", data := .seq ws.toArray }) ws xs := r1.mono fun a o e _ _ => k0 a o e
  have ht := isT_push s1.heap ws
  induction sw using Bool.casesOn with
  | false =>
    rw [sw_none L.E L.N hsw]
    refine wpAny_bind (wpAny_pure ?_)
    show wpAny (model pg X.w) A (assignAll (.ref s1.heap.objs.size) ((assignEach [.Tuple us kk pp] env).map (·.2)) >>= fun _ => pure Flow.next) _ no _
    refine wpAny_bind ?_
    show wpAny (model pg X.w) A (assign (.Tuple us kk pp) env (.ref s1.heap.objs.size)) _ no _
    refine ev_tg (S := FrAddr env) (tup := true) (tg := ts) L1.Ro L1.E L1.cl (fun b h => h) L1.e R1' (t := .Tuple us kk pp) (by rw [L1.N]; exact h1) (TgS.all env ts) (.tup ht r1') (Q := fun ρ => K .next ρ σ1) (vtg_tup hb q) fun ρ2 s2 q2 Z => wpAny_pure ?_
    exact ⟨.next, ρ2, D1, σ1, .next, Z.R, Z.e, (T1'.toS).trans (fun b hb => L1.e.live2 L1.cl b hb) Z.T, q2⟩
  | true =>
    obtain ⟨e1, _, e3, e4⟩ := sw_some (a := kk) (b := kk2) (p := pp) (q := pp2) L.E L.N hsw
    rw [e1]
    refine wpAny_bind (wpAny_pure ?_)
    obtain ⟨nms, n1, n2, n3⟩ := swNames_map (N := N) (us := us) (line := (us.head?.map (fun e : Expr => e.pos.line)).getD 0) e4 h1
    have hnm : swNames N us = nms := n1
    rw [hnm]
    have hwl : ws.length = nms.length := by rw [r1.length, ← vbind_len hb, n2]
    show wpAny (model pg X.w) A (rule "assign.swapped-stores" >>= fun _ => unpackItems (.ref s1.heap.objs.size) nms.length none >>= fun items => assignInOrder (nms.reverse.map fun n => bindName env n) items.reverse >>= fun _ => pure Flow.next) _ no _
    refine wpAny_bind (wpAny_rule (wpAny_bind ?_))
    rw [show nms.length = ws.toArray.size by rw [List.size_toArray, hwl]]
    refine PySem.wpAny_unpackItems_tuple L.Ro.hd ⟨_, ht, rfl, 0, rfl⟩ fun h' hx => ?_
    have hk : ∀ b o, (s1.heap.push { cls := .type "tuple", data := .seq ws.toArray }).get? b = some o → h'.get? b = some o := fun b o e => hx b o (Nat.ne_of_lt (Heap.lt_size e)) e
    have R2 : Rel X D1 σ1 { s1 with heap := h' } := R1'.all hk rfl rfl
    have L2 := L1.next R2 (Tr.all hk)
    have r2 : VRs h' ws xs := r1'.mono fun a o e _ _ => hk a o e
    refine wpAny_bind ?_
    refine ev_names (ρ' := ρ') (is := ts.reverse) (xs := nms.reverse) (l := xs.reverse) L2.E L2.cl (vbind_rev h2 hb) (fun n i x hi hx => ?_) (by rw [List.length_reverse, List.length_reverse, n2]) L2.e R2 (by simpa using r2.rev) fun s3 e3 R3 T3 => wpAny_pure ?_
    · obtain ⟨m1, a1, a2⟩ := getElem?_rev hi
      obtain ⟨m2, b1, b2⟩ := getElem?_rev hx
      have : m1 = m2 := by omega
      subst this
      rw [L2.N]
      exact n3 m1 i x a1 b1
    · exact ⟨.next, ρ', D1, σ1, .next, R3, e3, ((T1'.trans (Tr.all hk)).toS).trans (fun b hb => L2.e.live2 L2.cl b hb) T3, q⟩
end

end Np

set_option backward.match.sparseCases false
namespace Np

-- a list and a tuple, zipped
section
variable {prog : Program} {w : World} {A : Around} {E : Value → Shared → Prop} {s : Shared}

theorem nextOf_tuple_item {it l : Addr} {i : Nat} {items} {x : Value} {Q : Value → Shared → Prop} (hit : s.heap.IsTupleIter it l i) (hl : s.heap.IsTuple l items) (hx : items[i]? = some x)
    (hQ : ∀ h', h'.IsTupleIter it l (i + 1) → Heap.SameBut it s.heap h' → Q x { s with heap := h' }) :
    wpAny (model prog w) A (Builtin.SmallTypes.nextOf (.ref it)) Q E s := by
  obtain ⟨o, ho, hc, hd⟩ := id hit
  obtain ⟨ol, hol, _, nl, hdl⟩ := hl
  unfold Builtin.SmallTypes.nextOf
  refine wpAny_bind (wpAny_callSpecial?_slot (name := Str.ofString "__next__") hit.typeIs PySem.F.slot_tuple_iterator_next
    (wpAny_call_entry PySem.F.slot_tuple_iterator_next hit.typeIs PySem.F.entry_tuple_iterator_next ?_ (PySem.F.args_tuple_iterator_next_1 _)))
  show wpAny _ _ (field (.ref it) 0 >>= _) _ _ s
  refine wpAny_bind (wpAny_field ho hd (x := .ref l) rfl ?_)
  show wpAny _ _ (if (Value.ref l == Value.none) = true then _ else _) _ _ s
  rw [if_neg (show ¬ ((Value.ref l == Value.none) = true) from Bool.false_ne_true)]
  show wpAny _ _ (field (.ref it) 1 >>= _) _ _ s
  refine wpAny_bind (wpAny_field ho hd (x := .int i 0) rfl ?_)
  show wpAny _ _ (seqItems? (.ref l) >>= _) _ _ s
  refine wpAny_bind (wpAny_seqItems hol hdl ?_)
  simp only [Int.toNat_natCast, hx]
  refine wpAny_bind (wpAny_setField ho hd (by simp) (wpAny_pure ⟨x, rfl, wpAny_pure (hQ _ ?_ (Heap.SameBut.update ..))⟩))
  exact ⟨_, Heap.get?_update_self _ ho (Obj.isFreed_of_fields (Obj.data_mapFields hd _)), (Obj.cls_mapFields ..).trans hc, by
    rw [Obj.data_mapFields hd]; simp [rawInt]⟩

-- the zip's parts, and that they are apart
structure Zp (xs ys : Array Value) (z TI TO i1 i2 l1 l2 : Addr) (i : Nat) (h : Heap) : Prop where
  z : IsZip h z TI TO .none
  TI : IsPair h TI (.ref i1) (.ref i2)
  TO : ∃ a b, IsPair h TO a b
  i1 : h.IsListIter i1 l1 i
  i2 : h.IsTupleIter i2 l2 i
  l1 : h.IsList l1 xs
  l2 : h.IsTuple l2 ys

theorem zip_item {xs ys : Array Value} {z TI TO i1 i2 l1 l2 : Addr} {i : Nat} {x y : Value} {Q : Option Value → Shared → Prop} (D : ZipApart z TI TO i1 i2 l1 l2) (H : Zp xs ys z TI TO i1 i2 l1 l2 i s.heap) (hx : xs[i]? = some x) (hy : ys[i]? = some y)
    (hQ : ∀ T h', T = s.heap.objs.size → IsZip h' z TI TO (rawInt T) → IsPair h' TI (.ref i1) (.ref i2) → (∃ a b, IsPair h' TO a b) → h'.IsListIter i1 l1 (i + 1) → h'.IsTupleIter i2 l2 (i + 1) → IsPair h' T x y → h'.IsList l1 xs → h'.IsTuple l2 ys → T ≠ z → T ≠ TO → T ≠ i1 → T ≠ i2 →
      (∀ c o, c ≠ z → c ≠ TO → c ≠ i1 → c ≠ i2 → s.heap.get? c = some o → h'.get? c = some o) → Q (some (.ref T)) { s with heap := h' }) :
    wpAny (model prog w) A (pyNext (.ref z)) Q E s := by
  obtain ⟨hz, hTI, ⟨a, b, hTO⟩, h1, h2, hl1, hl2⟩ := H
  have hT : s.TypeIs (.ref z) "zip" := ⟨_, hz, rfl⟩
  unfold pyNext
  refine wpAny_bind (wpAny_attempt (wpAny_callSpecial?_slot (name := Str.ofString "__next__") hT PySem.F.slot_zip_next
    (wpAny_call_entry PySem.F.slot_zip_next hT PySem.F.entry_zip_next ?_ (PySem.F.args_zip_next_1 _))))
  show wpAny _ _ (field (.ref z) 2 >>= _) _ _ _
  refine wpAny_bind (wpAny_field hz rfl (x := .bool false) rfl ?_)
  show wpAny _ _ (field (.ref z) 3 >>= _) _ _ _
  refine wpAny_bind (wpAny_field hz rfl (x := .ref TI) rfl ?_)
  refine wpAny_bind (wpAny_seqItems hTI rfl ?_)
  show wpAny _ _ (Builtin.SmallTypes.ownedTupleIsFree (.ref z) >>= _) _ _ _
  refine wpAny_bind ?_
  unfold Builtin.SmallTypes.ownedTupleIsFree
  refine wpAny_bind (wpAny_field hz rfl (x := .none) rfl (wpAny_pure ?_))
  simp only [if_true]
  refine wpAny_bind (wpAny_rule ?_)
  refine wpAny_bind (wpAny_field hz rfl (x := .ref TO) rfl ?_)
  refine wpAny_bind (wpAny_setField_rec hz (by simp) fun h₁ hz₁ hs₁ => ?_)
  replace hz₁ : IsZip h₁ z TI TO .ellipsis := hz₁
  refine wpAny_bind ?_
  simp only [List.zipIdx_cons, List.zipIdx_nil, List.forIn_cons, List.forIn_nil]
  refine wpAny_bind (wpAny_bind (wpAny_onRaise ?_))
  show wpAny _ _ (Builtin.SmallTypes.nextOf (.ref i1) >>= _) _ _ _
  refine wpAny_bind (wpAny_nextOf_list_item (h1.extBut hs₁.extBut D.i1z) (hl1.extBut hs₁.extBut D.l1z) hx fun h₂ h1₂ hs₂ => wpAny_pure ?_)
  have hTO₂ : IsPair h₂ TO a b := hs₂.extBut _ _ D.TOi1 (hs₁.extBut _ _ D.TOz hTO)
  refine wpAny_bind (wpAny_seqItems hTO₂ rfl ?_)
  refine wpAny_bind (wpAny_updateSeq_pair hTO₂ fun h₃ hTO₃ hs₃ => ?_)
  replace hTO₃ : IsPair h₃ TO x b := hTO₃
  refine wpAny_bind (wpAny_letGo (wpAny_pure ?_))
  refine wpAny_bind (wpAny_bind (wpAny_onRaise ?_))
  show wpAny _ _ (Builtin.SmallTypes.nextOf (.ref i2) >>= _) _ _ _
  refine wpAny_bind (nextOf_tuple_item (((h2.extBut hs₁.extBut D.i2z).extBut hs₂.extBut D.i12.symm).extBut hs₃.extBut D.TOi2.symm)
    (((hl2.extBut hs₁.extBut D.l2z).extBut hs₂.extBut D.l2i1).extBut hs₃.extBut D.l2TO) hy fun h₄ h2₄ hs₄ => wpAny_pure ?_)
  have hTO₄ : IsPair h₄ TO x b := hs₄.extBut _ _ D.TOi2 hTO₃
  refine wpAny_bind (wpAny_seqItems hTO₄ rfl ?_)
  refine wpAny_bind (wpAny_updateSeq_pair hTO₄ fun h₅ hTO₅ hs₅ => ?_)
  replace hTO₅ : IsPair h₅ TO x y := hTO₅
  refine wpAny_bind (wpAny_letGo (wpAny_pure (wpAny_pure ?_)))
  refine wpAny_bind (wpAny_seqItems hTO₅ rfl ?_)
  refine wpAny_bind (wpAny_newTuple ?_)
  have hsz : h₅.objs.size = s.heap.objs.size := by rw [hs₅.1, hs₄.1, hs₃.1, hs₂.1, hs₁.1]
  have hz₅ : IsZip h₅ z TI TO .ellipsis := hs₅.extBut _ _ D.TOz.symm (hs₄.extBut _ _ D.i2z.symm (hs₃.extBut _ _ D.TOz.symm (hs₂.extBut _ _ D.i1z.symm hz₁)))
  have hk₅ : ∀ c o, c ≠ z → c ≠ TO → c ≠ i1 → c ≠ i2 → s.heap.get? c = some o → h₅.get? c = some o := fun c o c1 c2 c3 c4 e =>
    hs₅.extBut _ _ c2 (hs₄.extBut _ _ c4 (hs₃.extBut _ _ c2 (hs₂.extBut _ _ c3 (hs₁.extBut _ _ c1 e))))
  have h1₅ : h₅.IsListIter i1 l1 (i + 1) := ((h1₂.extBut hs₃.extBut D.TOi1.symm).extBut hs₄.extBut D.i12).extBut hs₅.extBut D.TOi1.symm
  have h2₅ : h₅.IsTupleIter i2 l2 (i + 1) := h2₄.extBut hs₅.extBut D.TOi2.symm
  have hzlt : z < h₅.objs.size := Heap.lt_size hz₅
  have hTOlt : TO < h₅.objs.size := Heap.lt_size hTO₅
  have hi1lt : i1 < h₅.objs.size := by obtain ⟨_, e, _⟩ := h1₅; exact Heap.lt_size e
  have hi2lt : i2 < h₅.objs.size := by obtain ⟨_, e, _⟩ := h2₅; exact Heap.lt_size e
  show wpAny _ _ (Builtin.SmallTypes.ownedTupleHandOut (.ref z) (.ref h₅.objs.size) >>= _) _ _ _
  refine wpAny_bind ?_
  unfold Builtin.SmallTypes.ownedTupleHandOut
  have hz₆ : IsZip (h₅.push { cls := .type "tuple", data := .seq #[x, y] }) z TI TO .ellipsis := Heap.get?_push_of_some _ hz₅
  refine wpAny_bind (wpAny_setField_rec hz₆ (by simp) fun h₇ hz₇ hs₇ => ?_)
  replace hz₇ : IsZip h₇ z TI TO (rawInt h₅.objs.size) := hz₇
  refine wpAny_setField_rec hz₇ (by simp) fun h₈ hz₈ hs₈ => ?_
  replace hz₈ : IsZip h₈ z TI TO (rawInt h₅.objs.size) := hz₈
  have up : ∀ c o, c ≠ z → h₅.get? c = some o → h₈.get? c = some o := fun c o c1 e => hs₈.extBut _ _ c1 (hs₇.extBut _ _ c1 (Heap.get?_push_of_some _ e))
  have hT₈ : IsPair h₈ h₅.objs.size x y := hs₈.extBut _ _ (Nat.ne_of_gt hzlt) (hs₇.extBut _ _ (Nat.ne_of_gt hzlt) (Heap.get?_push_size _ rfl))
  have hk : ∀ c o, c ≠ z → c ≠ TO → c ≠ i1 → c ≠ i2 → s.heap.get? c = some o → h₈.get? c = some o := fun c o c1 c2 c3 c4 e => up c o c1 (hk₅ c o c1 c2 c3 c4 e)
  refine wpAny_pure ⟨_, rfl, ?_⟩
  refine wpAny_pure ?_
  exact hQ h₅.objs.size h₈ hsz hz₈ (hk _ _ D.TIz D.TITO D.TIi1 D.TIi2 hTI) ⟨_, _, up _ _ D.TOz hTO₅⟩ (h1₅.at fun o e => up _ o D.i1z e) (h2₅.at fun o e => up _ o D.i2z e) hT₈
    (hl1.at fun o e => hk _ o D.l1z D.l1TO D.l1i1 D.l1i2 e) (hl2.at fun o e => hk _ o D.l2z D.l2TO D.l2i1 D.l2i2 e) (Nat.ne_of_gt hzlt) (Nat.ne_of_gt hTOlt) (Nat.ne_of_gt hi1lt) (Nat.ne_of_gt hi2lt) hk

theorem zip_done {xs ys : Array Value} {z TI TO i1 i2 l1 l2 : Addr} {i : Nat} {Q : Option Value → Shared → Prop} (hh : A.handled = none) (D : ZipApart z TI TO i1 i2 l1 l2) (H : Zp xs ys z TI TO i1 i2 l1 l2 i s.heap) (hx : xs[i]? = none)
    (hQ : ∀ h', (∀ c o, c ≠ z → c ≠ TO → c ≠ i1 → c ≠ i2 → s.heap.get? c = some o → h'.get? c = some o) → Q none { s with heap := h' }) : wpAny (model prog w) A (pyNext (.ref z)) Q E s := by
  obtain ⟨hz, hTI, ⟨a, b, hTO⟩, h1, h2, hl1, hl2⟩ := H
  have hT : s.TypeIs (.ref z) "zip" := ⟨_, hz, rfl⟩
  unfold pyNext
  refine wpAny_bind (wpAny_attempt (wpAny_callSpecial?_slot (name := Str.ofString "__next__") hT PySem.F.slot_zip_next
    (wpAny_call_entry PySem.F.slot_zip_next hT PySem.F.entry_zip_next ?_ (PySem.F.args_zip_next_1 _))))
  show wpAny _ _ (field (.ref z) 2 >>= _) _ _ _
  refine wpAny_bind (wpAny_field hz rfl (x := .bool false) rfl ?_)
  show wpAny _ _ (field (.ref z) 3 >>= _) _ _ _
  refine wpAny_bind (wpAny_field hz rfl (x := .ref TI) rfl ?_)
  refine wpAny_bind (wpAny_seqItems hTI rfl ?_)
  show wpAny _ _ (Builtin.SmallTypes.ownedTupleIsFree (.ref z) >>= _) _ _ _
  refine wpAny_bind ?_
  unfold Builtin.SmallTypes.ownedTupleIsFree
  refine wpAny_bind (wpAny_field hz rfl (x := .none) rfl (wpAny_pure ?_))
  simp only [if_true]
  refine wpAny_bind (wpAny_rule ?_)
  refine wpAny_bind (wpAny_field hz rfl (x := .ref TO) rfl ?_)
  refine wpAny_bind (wpAny_setField_rec hz (by simp) fun h₁ hz₁ hs₁ => ?_)
  replace hz₁ : IsZip h₁ z TI TO .ellipsis := hz₁
  refine wpAny_bind ?_
  simp only [List.zipIdx_cons, List.zipIdx_nil, List.forIn_cons, List.forIn_nil]
  refine wpAny_bind (wpAny_bind (wpAny_onRaise ?_))
  show wpAny _ _ (Builtin.SmallTypes.nextOf (.ref i1) >>= _) _ _ _
  refine wpAny_bind (wpAny_nextOf_list_end hh (h1.extBut hs₁.extBut D.i1z) (hl1.extBut hs₁.extBut D.l1z) hx fun h₂ e hs₂ he => ?_)
  obtain ⟨oe, hoe, hce⟩ := he
  have hz₂ : IsZip h₂ z TI TO .ellipsis := hs₂ _ _ D.i1z.symm hz₁
  have hez : e ≠ z := fun x => by subst x; rw [hz₂] at hoe; cases hoe; simp at hce
  refine wpAny_setField_rec hz₂ (by simp) fun h₃ _ hs₃ => ?_
  refine wpAny_bind (wpAny_isInstance (T := "StopIteration") (b := true) ⟨oe, hs₃.extBut _ _ hez hoe, hce⟩ isSubtype_stop ?_)
  exact wpAny_pure (hQ _ fun c o c1 _ c3 _ x => hs₃.extBut _ _ c1 (hs₂ _ _ c3 (hs₁.extBut _ _ c1 x)))

noncomputable abbrev zh1 (h : Heap) (l1 : Addr) : Heap := h.push { cls := .type "list_iterator", data := .fields #[.ref l1, .int 0 0] }
noncomputable abbrev zh2 (h : Heap) (l1 l2 : Addr) : Heap := (zh1 h l1).push { cls := .type "tuple_iterator", data := .fields #[.ref l2, .int 0 0] }
noncomputable abbrev zh3 (h : Heap) (l1 l2 : Addr) : Heap := (zh2 h l1 l2).push { cls := .type "tuple", data := .seq #[.ref h.objs.size, .ref (zh1 h l1).objs.size] }
noncomputable abbrev zh4 (h : Heap) (l1 l2 : Addr) : Heap := (zh3 h l1 l2).push { cls := .type "tuple", data := .seq #[.none, .none] }
noncomputable abbrev zh5 (h : Heap) (l1 l2 : Addr) : Heap := (zh4 h l1 l2).push { cls := .type "zip", data := .fields #[.none, .bool false, .bool false, .ref (zh2 h l1 l2).objs.size, .ref (zh3 h l1 l2).objs.size] }
theorem zip_new (l1 l2 : Addr) (xs ys : Array Value) :
    Meets (Builtin.«zip.__new__» ⟨[.type "zip", .ref l1, .ref l2], []⟩) (fun _ R s => s.heap.IsList l1 xs ∧ s.heap.IsTuple l2 ys ∧ R (.ok (.ret (.ref (zh4 s.heap l1 l2).objs.size))) { s with heap := zh5 s.heap l1 l2 }) :=
  .of_wp fun prog w A R s h => by
    obtain ⟨hp, g, d, tk, os⟩ := s; obtain ⟨hl1, hl2, h⟩ := h
    have hsub := sub_zip
    have hL1 : Heap.IsList (Shared.heap ⟨hp, g, d, tk, os⟩) l1 xs := hl1
    have hL2 : Heap.IsTuple (Shared.heap ⟨hp.push { cls := .type "list_iterator", data := .fields #[.ref l1, .int 0 0] }, g, d, tk, os⟩) l2 ys := let ⟨o, ho, r⟩ := hl2; ⟨o, Heap.get?_push_of_some _ ho, r⟩
    wp_walk using wpAny_pyIter_list hL1, wpAny_pyIter_tuple hL2
    exact ⟨_, rfl, h⟩

theorem zip_call {l1 l2 : Addr} {xs ys : Array Value} {Q : Value → Shared → Prop} (hl1 : s.heap.IsList l1 xs) (hl2 : s.heap.IsTuple l2 ys)
    (h : ∀ z TI TO i1 i2 h', s.heap.objs.size ≤ i1 → i1 < i2 → i2 < TI → TI < TO → TO < z → Zp xs ys z TI TO i1 i2 l1 l2 0 h' → (∀ c o, s.heap.get? c = some o → h'.get? c = some o) → Q (.ref z) { s with heap := h' }) :
    wpAny (model prog w) A (call (.type "zip") [.ref l1, .ref l2]) Q E s := by
  refine callType_new PySem.F.called_zip (by decide) (PySem.F.typeCall_zip_2 _ _) (PySem.F.newCall_zip_2 _ _) (fun obj => PySem.F.args_object_init_3 obj _ _) PySem.F.entry_zip_new (zip_new l1 l2 xs ys) ⟨hl1, hl2, ?_⟩
  have z1 : (zh1 s.heap l1).objs.size = s.heap.objs.size + 1 := Heap.size_push ..
  have z2 : (zh2 s.heap l1 l2).objs.size = s.heap.objs.size + 1 + 1 := by rw [Heap.size_push, z1]
  have z3 : (zh3 s.heap l1 l2).objs.size = s.heap.objs.size + 1 + 1 + 1 := by rw [Heap.size_push, z2]
  have z4 : (zh4 s.heap l1 l2).objs.size = s.heap.objs.size + 1 + 1 + 1 + 1 := by rw [Heap.size_push, z3]
  have g5 : (zh5 s.heap l1 l2).get? (zh4 s.heap l1 l2).objs.size = some _ := Heap.get?_push_size _ rfl
  have g4 : (zh5 s.heap l1 l2).get? (zh3 s.heap l1 l2).objs.size = some _ := Heap.get?_push_of_some _ (Heap.get?_push_size _ rfl)
  have g3 : (zh5 s.heap l1 l2).get? (zh2 s.heap l1 l2).objs.size = some _ := Heap.get?_push_of_some _ (Heap.get?_push_of_some _ (Heap.get?_push_size _ rfl))
  have g2 : (zh5 s.heap l1 l2).get? (zh1 s.heap l1).objs.size = some _ := Heap.get?_push_of_some _ (Heap.get?_push_of_some _ (Heap.get?_push_of_some _ (Heap.get?_push_size _ rfl)))
  have g1 : (zh5 s.heap l1 l2).get? s.heap.objs.size = some _ := Heap.get?_push_of_some _ (Heap.get?_push_of_some _ (Heap.get?_push_of_some _ (Heap.get?_push_of_some _ (Heap.get?_push_size _ rfl))))
  have keep : ∀ c o, s.heap.get? c = some o → (zh5 s.heap l1 l2).get? c = some o := fun c o x => Heap.get?_push_of_some _ (Heap.get?_push_of_some _ (Heap.get?_push_of_some _ (Heap.get?_push_of_some _ (Heap.get?_push_of_some _ x))))
  refine ⟨⟨_, g5, rfl⟩, h _ _ _ _ _ _ (Nat.le_refl _) ?_ ?_ ?_ ?_ ⟨g5, g3, ⟨_, _, g4⟩, ⟨_, g1, rfl, rfl⟩, ⟨_, g2, rfl, rfl⟩, let ⟨o, ho, r⟩ := hl1; ⟨o, keep _ _ ho, r⟩, let ⟨o, ho, r⟩ := hl2; ⟨o, keep _ _ ho, r⟩⟩ keep⟩
  · rw [z1]; exact Nat.lt_succ_self _
  · rw [z1, z2]; exact Nat.lt_succ_self _
  · rw [z2, z3]; exact Nat.lt_succ_self _
  · rw [z3, z4]; exact Nat.lt_succ_self _
end

end Np

namespace Np

noncomputable def zipV (a b : Value) : Value := if a == .none then b else a
theorem atoms_zip {h : Heap} {l m : List AV} {vs ws : List Value} (h1 : l.all atom = true) (h2 : m.all atom = true) (r1 : VRs h vs l) (r2 : VRs h ws m) (e : l.length = m.length) : VRs h (List.zipWith zipV vs ws) (zipA l m) := by
  induction l generalizing m vs ws with
  | nil =>
    cases r1
    rcases m with _ | ⟨y, m⟩
    · exact .nil
    · cases e
  | cons x l ih =>
    rcases m with _ | ⟨y, m⟩
    · cases e
    · replace h1 := b2 h1
      replace h2 := b2 h2
      cases r1 with
      | cons r rs => cases r2 with
        | cons q qs =>
          refine .cons ?_ (ih h1.2 h2.2 rs qs (Nat.succ.inj e))
          cases r with
          | non => exact q
          | int => exact .int
          | _ => cases h1.1

section
variable {X : Cx} {T : Tab} {W : Spec} {k : Nat}

theorem fresh_at {h : Heap} {c : Nat} (hc : h.objs.size ≤ c) : h.get? c = none := by
  cases q : h.get? c with
  | none => rfl
  | some o => exact absurd (Heap.lt_size q) (Nat.not_lt.mpr hc)
-- what holds ahead of each round of the zipped loop
inductive ZInv (env : Env) (vs ws : List Value) (z TI TO i1 i2 l1 l2 L : Addr) (s₀ : Shared) (n : Nat) (s : Shared) : Prop
  | mk (i : Nat) (h : Heap) (tk : Nat) (m : Str → Option Value) (nn : Nat) (en : n = vs.length - i) (hi : i ≤ vs.length) (es : s = { s₀ with heap := h, toks := tk }) (hz : Zp vs.toArray ws.toArray z TI TO i1 i2 l1 l2 i h)
    (hL : IsL h L (List.zipWith zipV (vs.take i) (ws.take i)).toArray nn) (hn : h.Ns env.locals m) (hk : ∀ c o, s₀.heap.get? c = some o → h.get? c = some o) : ZInv env vs ws z TI TO i1 i2 l1 l2 L s₀ n s

-- the loop of a zipped comprehension
theorem zip_loop {A : Around} (hh : A.handled = none) {env : Env} (hkd : env.scope.kind = .function) {a b : Str} (hka : env.kindOf a = some .local) (hkb : env.kindOf b = some .local) (hab : a ≠ b) (hda : (a == ("__debug__" : Str)) = false) (hdb : (b == ("__debug__" : Str)) = false)
    {p1 p2 p3 p4 p5 p6 p7 p8 p9 : Pos} {k1 k2 : Nat} {iter : Expr} {scope : Scope} {pos : Pos} {vs ws : List Value} {z TI TO i1 i2 l1 l2 L : Addr} (Dz : ZipApart z TI TO i1 i2 l1 l2) (hlen : vs.length = ws.length) (hsz : vs.length ≤ 1000)
    {s₀ : Shared} (n0 : @LE.le Nat _ s₀.heap.objs.size i1) (n1 : @LT.lt Nat _ i1 i2) (n2 : @LT.lt Nat _ i2 TI) (n3 : @LT.lt Nat _ TI TO) (n4 : @LT.lt Nat _ TO z) (n5 : @LT.lt Nat _ z L) (n6 : @LT.lt Nat _ L env.locals) (n7 : @LT.lt Nat _ l1 s₀.heap.objs.size) (n8 : @LT.lt Nat _ l2 s₀.heap.objs.size)
    {Rr : Result → Shared → Prop}
    (hR : ∀ h' tk n m, IsL h' L (List.zipWith zipV vs ws).toArray n → h'.Ns env.locals m → (∀ c o, s₀.heap.get? c = some o → h'.get? c = some o) → Rr (.ok .next) { s₀ with heap := h', toks := tk })
    {h : Heap} {tk : Nat} (hz : Zp vs.toArray ws.toArray z TI TO i1 i2 l1 l2 0 h) (hL : IsL h L #[] 0) {m : Str → Option Value} (hn : h.Ns env.locals m) (hk : ∀ c o, s₀.heap.get? c = some o → h.get? c = some o) :
    codeAny (model pg X.w) A (.compLoop (.ListComp (.IfExp (.Compare (.Name a p1) [.IsNot] [.Constant .none k1 p2] p3) (.Name a p4) (.Name b p5) p6) [⟨.Tuple [.Name a p7, .Name b p8] k2 p9, iter, [], 0⟩] scope pos) 0 (.ref z) (.ref L) env) Rr { s₀ with heap := h, toks := tk } := by
  have a1 := Nat.lt_trans n4 n5
  have a2 := Nat.lt_trans n3 a1
  have a3 := Nat.lt_trans n2 a2
  have a4 := Nat.lt_trans n1 a3
  have a0 := Nat.lt_of_le_of_lt n0 a4
  have a5 := Nat.lt_trans n7 a0
  have a6 := Nat.lt_trans n8 a0
  have Lz : L ≠ z := Nat.ne_of_gt n5
  have LTI : L ≠ TI := Nat.ne_of_gt a2
  have LTO : L ≠ TO := Nat.ne_of_gt a1
  have Li1 : L ≠ i1 := Nat.ne_of_gt a4
  have Li2 : L ≠ i2 := Nat.ne_of_gt a3
  have Ll1 : L ≠ l1 := Nat.ne_of_gt a5
  have Ll2 : L ≠ l2 := Nat.ne_of_gt a6
  have Cz : env.locals ≠ z := Nat.ne_of_gt (Nat.lt_trans n5 n6)
  have CTI : env.locals ≠ TI := Nat.ne_of_gt (Nat.lt_trans a2 n6)
  have CTO : env.locals ≠ TO := Nat.ne_of_gt (Nat.lt_trans a1 n6)
  have Ci1 : env.locals ≠ i1 := Nat.ne_of_gt (Nat.lt_trans a4 n6)
  have Ci2 : env.locals ≠ i2 := Nat.ne_of_gt (Nat.lt_trans a3 n6)
  have Cl1 : env.locals ≠ l1 := Nat.ne_of_gt (Nat.lt_trans a5 n6)
  have Cl2 : env.locals ≠ l2 := Nat.ne_of_gt (Nat.lt_trans a6 n6)
  have CL : env.locals ≠ L := Nat.ne_of_gt n6
  have m2 := Nat.le_trans n0 (Nat.le_of_lt n1)
  have m4 := Nat.le_trans (Nat.le_trans m2 (Nat.le_of_lt n2)) (Nat.le_of_lt n3)
  have Fz : s₀.heap.get? z = none := fresh_at (Nat.le_trans m4 (Nat.le_of_lt n4))
  have FTO : s₀.heap.get? TO = none := fresh_at m4
  have Fi1 : s₀.heap.get? i1 = none := fresh_at n0
  have Fi2 : s₀.heap.get? i2 = none := fresh_at m2
  have FL : s₀.heap.get? L = none := fresh_at (Nat.le_of_lt a0)
  have FC : s₀.heap.get? env.locals = none := fresh_at (Nat.le_of_lt (Nat.lt_trans a0 n6))
  clear a0 a1 a2 a3 a4 a5 a6 n0 n1 n2 n3 n4 n5 n6 n7 n8 m2 m4
  have ns0 : ∀ c, s₀.heap.get? c = none → ∀ b o, s₀.heap.get? b = some o → b ≠ c := fun c hc b o hb q => by rw [q, hc] at hb; cases hb
  refine codeAny_compLoop_go (ZInv env vs ws z TI TO i1 i2 l1 l2 L s₀) ?_ vs.length ⟨0, h, tk, m, 0, rfl, Nat.zero_le _, rfl, hz, by simpa using hL, hn, hk⟩
  rintro n s ⟨i, h, tk, m, nn, rfl, hi, rfl, hz, hL, hn, hk⟩
  rcases Nat.lt_or_ge i vs.length with hlt | hge
  · have hlt2 : i < ws.length := hlen ▸ hlt
    have hx : vs.toArray[i]? = some vs[i] := by simp [hlt]
    have hy : ws.toArray[i]? = some ws[i] := by simp [hlt2]
    refine zip_item (s := { s₀ with heap := h, toks := tk }) Dz hz hx hy fun Tt h1 hTt hz1 hTI hTO hi1 hi2 hT hl1 hl2 n1 n2 n3 n4 hk1 => ?_
    dsimp only at hTt hk1 ⊢
    have hLt : L ≠ Tt := fun q => by rw [hTt] at q; have := Heap.lt_size hL; rw [q] at this; exact Nat.lt_irrefl _ this
    have hCt : env.locals ≠ Tt := fun q => by obtain ⟨o, _, _, ho, _⟩ := hn; rw [hTt] at q; have := Heap.lt_size ho; rw [q] at this; exact Nat.lt_irrefl _ this
    have hL1 : IsL h1 L _ nn := hk1 _ _ Lz LTO Li1 Li2 hL
    have hn1 : h1.Ns env.locals m := hn.at' fun o ho => hk1 _ o Cz CTO Ci1 Ci2 ho
    have k1' : ∀ c o, s₀.heap.get? c = some o → h1.get? c = some o := fun c o hc => hk1 c o (ns0 z Fz c o hc) (ns0 TO FTO c o hc) (ns0 i1 Fi1 c o hc) (ns0 i2 Fi2 c o hc) (hk c o hc)
    refine wpAny_letOwnedTupleGo_zip (s := { s₀ with heap := h1, toks := tk }) hz1 fun h2 hz2 hs2 => ?_
    have up2 : ∀ c o, c ≠ z → h1.get? c = some o → h2.get? c = some o := fun c o hc ho => hs2.extBut c o hc ho
    refine PySem.wpAny_assign_Tuple hh ⟨_, up2 _ _ n1 hT, rfl, 0, rfl⟩ rfl rfl fun h3 hx3 => ?_
    have up3 : ∀ c o, h2.get? c = some o → h3.get? c = some o := fun c o ho => hx3 c o (Nat.ne_of_lt (Heap.lt_size ho)) ho
    have up23 : ∀ c o, c ≠ z → h1.get? c = some o → h3.get? c = some o := fun c o hc ho => up3 c o (up2 c o hc ho)
    have hn3 : h3.Ns env.locals m := hn1.at' fun o ho => up23 _ o Cz ho
    refine assignInOrder_cons (PySem.wpAny_assign_Name (wpAny_storeName_local (s := { s₀ with heap := h3, toks := tk }) hka hn3 (fun h4 hn4 hs4 => ?_) (by rw [hkd]; rfl)))
    refine assignInOrder_cons (PySem.wpAny_assign_Name (wpAny_storeName_local (s := { s₀ with heap := h4, toks := tk + 1 }) hkb hn4 (fun h5 hn5 hs5 => assignInOrder_nil ?_) (by rw [hkd]; rfl)))
    have up5 : ∀ c o, c ≠ env.locals → h3.get? c = some o → h5.get? c = some o := fun c o hc ho => hs5.extBut c o hc (hs4.extBut c o hc ho)
    have up15 : ∀ c o, c ≠ env.locals → c ≠ z → h1.get? c = some o → h5.get? c = some o := fun c o hc hz ho => up5 c o hc (up23 c o hz ho)
    have hz5 : IsZip h5 z TI TO .none := up5 _ _ (Ne.symm Cz) (up3 _ _ hz2)
    have hL5 : IsL h5 L _ nn := up15 _ _ (Ne.symm CL) Lz hL1
    have k5 : ∀ c o, s₀.heap.get? c = some o → h5.get? c = some o := fun c o hc => up15 c o (ns0 _ FC c o hc) (ns0 z Fz c o hc) (k1' c o hc)
    have hZ5 : Zp vs.toArray ws.toArray z TI TO i1 i2 l1 l2 (i + 1) h5 := by
      obtain ⟨ta, tb, hTO⟩ := hTO
      refine ⟨hz5, up15 _ _ (Ne.symm CTI) Dz.TIz hTI, ⟨ta, tb, up15 _ _ (Ne.symm CTO) Dz.TOz hTO⟩, ?_, ?_, ?_, ?_⟩
      · obtain ⟨o, ho, r⟩ := hi1; exact ⟨o, up15 _ _ (Ne.symm Ci1) Dz.i1z ho, r⟩
      · obtain ⟨o, ho, r⟩ := hi2; exact ⟨o, up15 _ _ (Ne.symm Ci2) Dz.i2z ho, r⟩
      · obtain ⟨o, ho, r⟩ := hl1; exact ⟨o, up15 _ _ (Ne.symm Cl1) Dz.l1z ho, r⟩
      · obtain ⟨o, ho, r⟩ := hl2; exact ⟨o, up15 _ _ (Ne.symm Cl2) Dz.l2z ho, r⟩
    have la : (if a = b then some ws[i] else if a = a then some vs[i] else m a) = some vs[i] := by rw [if_neg hab, if_pos rfl]
    have lb : (if b = b then some ws[i] else if b = a then some vs[i] else m b) = some ws[i] := by rw [if_pos rfl]
    have after : ∀ v tk', v = zipV vs[i] ws[i] → wpAny (model pg X.w) A (call (.builtin "list.append") [.ref L, v]) (fun _ s₄ => ∃ m_1, m_1 < vs.length - i ∧ ZInv env vs ws z TI TO i1 i2 l1 l2 L s₀ m_1 s₄) no { s₀ with heap := h5, toks := tk' } := fun v tk' hv => by
      subst hv
      refine call_meets PySem.F.slot_list_append ⟨_, hL5, rfl⟩ PySem.F.entry_list_append (PySem.F.args_list_append_2 _ _) (list_append L _ nn _ (by simp [sizeLine]; omega)) ⟨hL5, ?_⟩
      have hs := Heap.SameBut.update h5 L (Obj.mapSeq (·.push (zipV vs[i] ws[i])))
      obtain ⟨n6, h6⟩ : ∃ n6, IsL (h5.update L (Obj.mapSeq (·.push (zipV vs[i] ws[i])))) L ((List.zipWith zipV (vs.take i) (ws.take i)).toArray.push (zipV vs[i] ws[i])) n6 := ⟨_, IsL.update hL5 (·.push (zipV vs[i] ws[i]))⟩
      have up : ∀ c o, c ≠ L → h5.get? c = some o → (h5.update L (Obj.mapSeq (·.push (zipV vs[i] ws[i])))).get? c = some o := fun c o hc ho => hs.extBut c o hc ho
      refine ⟨vs.length - (i + 1), by omega, i + 1, _, tk', _, n6, rfl, hlt, rfl, ?_, ?_, hn5.at' fun o ho => up _ o CL ho, fun c o hc => up c o (ns0 L FL c o hc) (k5 c o hc)⟩
      · obtain ⟨q1, q2, ⟨ta, tb, q3⟩, ⟨o4, q4, r4⟩, ⟨o5, q5, r5⟩, ⟨o6, q6, r6⟩, ⟨o7, q7, r7⟩⟩ := hZ5
        exact ⟨up _ _ (Ne.symm Lz) q1, up _ _ (Ne.symm LTI) q2, ⟨ta, tb, up _ _ (Ne.symm LTO) q3⟩, ⟨o4, up _ _ (Ne.symm Li1) q4, r4⟩, ⟨o5, up _ _ (Ne.symm Li2) q5, r5⟩,
          ⟨o6, up _ _ (Ne.symm Ll1) q6, r6⟩, ⟨o7, up _ _ (Ne.symm Ll2) q7, r7⟩⟩
      · have e1 : vs.take (i + 1) = vs.take i ++ [vs[i]] := by rw [List.take_succ, List.getElem?_eq_getElem hlt]; rfl
        have e2 : ws.take (i + 1) = ws.take i ++ [ws[i]] := by rw [List.take_succ, List.getElem?_eq_getElem hlt2]; rfl
        rw [e1, e2, List.zipWith_append (by simp [hlen])]
        simpa using h6
    refine wpAny_IfExp (wpAny_isTrue_Compare1 (PySem.wpAny_Name (wpAny_loadName_local hkd hka hn5 la ?_) hda) rfl)
    refine wpAny_Constant_none (isnot_none_gen (wpAny_truthy_bool ?_))
    cases hq : (vs[i] == Value.none) with
    | true =>
      refine PySem.wpAny_Name (wpAny_loadName_local hkd hkb hn5 lb (after _ _ ?_)) hdb
      unfold zipV; rw [hq]; rfl
    | false =>
      refine PySem.wpAny_Name (wpAny_loadName_local hkd hka hn5 la (after _ _ ?_)) hda
      unfold zipV; rw [hq]; rfl
  · have hie : i = vs.length := Nat.le_antisymm hi hge
    subst hie
    refine zip_done (s := { s₀ with heap := h, toks := tk }) hh Dz hz (by simp) fun h1 hk1 => ?_
    dsimp only at hk1 ⊢
    refine hR h1 tk nn m ?_ (hn.at' fun o ho => hk1 _ o Cz CTO Ci1 Ci2 ho) fun c o hc => hk1 c o (ns0 z Fz c o hc) (ns0 TO FTO c o hc) (ns0 i1 Fi1 c o hc) (ns0 i2 Fi2 c o hc) (hk c o hc)
    have := hk1 _ _ Lz LTO Li1 Li2 hL
    rw [List.take_length, show ws.take vs.length = ws by rw [hlen, List.take_length]] at this
    exact this
end

end Np

namespace Np

theorem zap {n z TI TO i1 i2 l1 l2 : Nat} (h0 : n ≤ i1) (h1 : i1 < i2) (h2 : i2 < TI) (h3 : TI < TO) (h4 : TO < z) (h5 : l1 < n) (h6 : l2 < n) : ZipApart z TI TO i1 i2 l1 l2 := by
  constructor
  all_goals
    first
      | exact Nat.ne_of_lt (by lia)
      | exact Nat.ne_of_gt (by lia)

section
variable {X : Cx} {T : Tab} {W : Spec} {k : Nat}

inductive ZipElt (names : Nm) : Expr → Expr → Prop
  | mk (a b p1 p2 p3 p4 p5 p6 p7 p8 k1 k2 q) (h1 : a ≠ b) (h2 : (a == ("__debug__" : Str)) = false) (h3 : (b == ("__debug__" : Str)) = false) (h4 : names.lookup a = some .local) (h5 : names.lookup b = some .local) :
    ZipElt names (.IfExp (.Compare (.Name a p1) [.IsNot] [.Constant .none k1 p2] p3) (.Name a p4) (.Name b p5) p6) (.Tuple [.Name a p7, .Name b p8] k2 q)
theorem zipElt_inv {elt t : Expr} {names : Nm} (h : zipElt elt t names = true) : ZipElt names elt t := by
  replace h := zipE_inv h
  obtain ⟨x, y, z, p1, p2, p3, p4, p5, p6, k1, h⟩ := h
  replace h := mTup2N_inv h
  obtain ⟨a, b, p7, p8, k2, q, h⟩ := h
  replace h := b8 h
  obtain ⟨h1, h2, h3, h4, h5, h6, h7, h8⟩ := h
  obtain rfl := of_decide_eq_true h1
  obtain rfl := of_decide_eq_true h2
  obtain rfl := of_decide_eq_true h3
  exact .mk _ _ _ _ _ _ _ _ _ _ _ _ _ (of_decide_eq_true h4) (bnot h5) (bnot h6) (beq_iff_eq.mp h7) (beq_iff_eq.mp h8)

theorem vzip_inv {x y : AV} {σ : ASt} {Q : Post} (q : vzip x y σ Q) : ∃ a m, x = .ref a ∧ y = .tup m ∧ ∃ l, σ a = some (.lst l) ∧ l.all atom = true ∧ m.all atom = true ∧ l.length = m.length ∧ m.length ≤ 1000 ∧ newO σ (.lst (zipA l m)) Q := by
  induction x using AV.casesOn with
  | ref a => induction y using AV.casesOn with
    | tup m => exact ⟨a, m, rfl, rfl, q⟩
    | _ => exact False.elim q
  | _ => exact False.elim q
theorem pt_zip (P : Cp X T W k) {a b : IR} (ha : PE X T W k a) (hb : PE X T W k b) {N : Nm} {x : Expr} (h : ce T N (.zipc a b) x = true) :
    CompI X T W k (.zipc a b) N x := by
  replace h := mCompS_inv h
  obtain ⟨elt, t, iter, scope, pos, h⟩ := h
  replace h := mCallN_inv h
  obtain ⟨xn, xp, args, cp, h⟩ := h
  replace h := mL2_inv h
  obtain ⟨y, z, h⟩ := h
  replace h := b3 h
  obtain ⟨h0, h8, h9⟩ := h
  replace h0 := b8 h0
  obtain ⟨h1, hx, h2, h3, h4, h5, h6, h7⟩ := h0
  obtain rfl := of_decide_eq_true hx
  replace h5 := of_decide_eq_true h5
  have hnod : nodupN scope.names := nodup_of h6
  have hloc : ∀ w ∈ scope.names, w.2 = .local := fun w hw => beq_iff_eq.mp (List.all_eq_true.mp h7 w hw)
  clear h6 h7
  replace h1 := zipElt_inv h1
  obtain ⟨na, nb, p1, p2, p3, p4, p5, p6, p7, p8, k1, k2, pq, hab, hda, hdb, hla, hlb⟩ := h1
  refine ⟨_, _, _, scope, pos, fun A env ρ D σ s L Q q use Pv hP => ?_⟩
  obtain ⟨g1, g2, g3⟩ := glo_of h2
  have hclos : closureFor scope env = pure [] := closureFor_none fun w hw q => by rw [hloc w hw] at q; cases q
  refine wpAny_comprehension_free (g := ⟨_, _, [], 0⟩) rfl (folded_ok rfl) hclos h5 (fun w hw _ => ?_) ?_
  · obtain ⟨i, hi⟩ := List.getElem?_of_mem hw
    obtain ⟨wx, kd⟩ := w
    have := hloc _ hw
    dsimp only at this
    subst this
    exact (nod_of hnod i wx _ hi).1
  refine Call_Name rfl (ev_bname P.G L.E L.R (by rw [L.N]; exact g1) g2 g3 (P.TO.bl _ (by decide +kernel)) (v := .type "zip") (by decide +kernel) ?_)
  have hst : [y, z].all notStar = true := by rw [List.all_cons, h3, List.all_cons, h4]; rfl
  refine PyProof.Rows.callWith_type (backTo_any _ env [y, z] hst) (evalArgs_any hst ?_)
  rw [starEach_cons _ _ h3, backTo_cons]
  refine spliced_cons (EVg.then (γ := Unit) ((ha _ _ h8 _ _ _ _ _ _ L).1 _ q) fun v xa D1 σ1 s1 r1 R1 T1 q => ?_)
  have L1 := L.next R1 T1
  rw [starEach_cons _ _ h4, backTo_cons]
  refine spliced_cons (EVg.then (γ := Unit) ((hb _ _ h9 _ _ _ _ _ _ L1).1 _ q) fun w ya D2 σ2 s2 r2 R2 T2 q => spliced_nil ?_)
  have L2 := L1.next R2 T2
  have r1' := r1.mono (T2.tk R1)
  obtain ⟨l1, m, rfl, rfl, q⟩ := vzip_inv q
  obtain rfl := r1'.ref_inv
  obtain ⟨l2, ws, n2, rfl, ht2, rs2⟩ := r2.tup_inv
  obtain ⟨l, e1, a1, a2, hlen, hsz, q⟩ := q
  obtain ⟨vs, n1, hl1, rs1⟩ := OR.lst_inv (R2.objs _ _ e1)
  have hvl : vs.length = ws.length := by rw [rs1.length, rs2.length]; exact hlen
  have t1 : @LT.lt Nat _ l1 s2.heap.objs.size := Heap.lt_size hl1
  have t2 : @LT.lt Nat _ l2 s2.heap.objs.size := Heap.lt_size ht2
  refine zip_call hl1.isList ⟨_, ht2, rfl, n2, rfl⟩ fun zz TI TO i1 i2 h1 o0 o1 o2 o3 o4 Z k1h => ?_
  have o5 : (zz : Nat) < h1.objs.size := Heap.lt_size Z.z
  refine wpAny_pyIter_zip (s := { s2 with heap := h1 }) Z.z ?_
  refine wpAny_newObj_type ?_ (by show 0 ≤ sizeLine; exact Nat.zero_le _)
  have kL := push_keep (h := h1) { cls := .type "list", data := .seq ([] : List Value).toArray }
  have hLat : IsL (h1.push { cls := .type "list", data := .seq ([] : List Value).toArray }) h1.objs.size #[] 0 := Heap.get?_push_size _ rfl
  have hsz3 : (h1.push { cls := .type "list", data := .seq ([] : List Value).toArray }).objs.size = h1.objs.size + 1 := Heap.size_push ..
  dsimp only
  generalize hH : h1.push { cls := .type "list", data := .seq ([] : List Value).toArray } = h3 at kL hLat hsz3 ⊢
  have hab2 : X.base.objs.size ≤ h3.objs.size := by
    obtain ⟨o, ho⟩ := L2.e.live
    exact Nat.le_trans L2.e.above (Nat.le_of_lt (Heap.lt_size (kL _ _ (k1h _ _ ho))))
  refine newComp_env (X := X) (s := { s2 with heap := h3 }) (N := env.scope.names) hnod h5 hab2 (fun x c hc => by cases hc) (fun x y c hc => by cases hc) fun cenv h4 hl hc hg hb hsc NF => ?_
  dsimp only at hl hc NF
  have Dz : ZipApart zz TI TO i1 i2 l1 l2 := zap o0 o1 o2 o3 o4 t1 t2
  have b0 : (s2.heap.objs.size : Nat) ≤ i1 := o0
  have b1 : (i1 : Nat) < i2 := o1
  have b2 : (i2 : Nat) < TI := o2
  have b3 : (TI : Nat) < TO := o3
  have b4 : (TO : Nat) < zz := o4
  have hCk : (cenv.locals : Nat) = h1.objs.size + 1 := by rw [hl, hsz3]
  have keep4 : ∀ c o, h1.get? c = some o → h4.get? c = some o := fun c o ho => NF.keep _ _ (kL _ _ ho)
  have Z4 : Zp vs.toArray ws.toArray zz TI TO i1 i2 l1 l2 0 h4 := by
    obtain ⟨q1, q2, ⟨ta, tb, q3⟩, ⟨o4, q4, r4⟩, ⟨o5, q5, r5⟩, ⟨o6, q6, r6⟩, ⟨o7, q7, r7⟩⟩ := Z
    exact ⟨keep4 _ _ q1, keep4 _ _ q2, ⟨ta, tb, keep4 _ _ q3⟩, ⟨o4, keep4 _ _ q4, r4⟩, ⟨o5, keep4 _ _ q5, r5⟩, ⟨o6, keep4 _ _ q6, r6⟩, ⟨o7, keep4 _ _ q7, r7⟩⟩
  have kS : ∀ c o, s2.heap.get? c = some o → h4.get? c = some o := fun c o ho => keep4 _ _ (k1h _ _ ho)
  have hkind' : ({ cenv with scope := relabel scope env } : Env).scope.kind = .function := h5
  have loop : codeAny (model pg X.w) A (.compLoop (.ListComp (.IfExp (.Compare (.Name na p1) [.IsNot] [.Constant .none k1 p2] p3) (.Name na p4) (.Name nb p5) p6) [⟨.Tuple [.Name na p7, .Name nb p8] k2 pq, .Call (.Name (Str.ofString "zip") xp) [y, z] [] cp, [], 0⟩] scope pos) 0 (.ref zz) (.ref h1.objs.size) { cenv with scope := relabel scope env })
      (compPost (model pg X.w) A no use Pv (.ref h1.objs.size) cenv.locals) { s2 with heap := h4 } := by
    have n6 : @LT.lt Nat _ h1.objs.size cenv.locals := by rw [hCk]; exact Nat.lt_succ_self _
    have n0' : @LE.le Nat _ s2.heap.objs.size h1.objs.size := Nat.le_of_lt (Nat.lt_of_le_of_lt b0 (Nat.lt_trans b1 (Nat.lt_trans b2 (Nat.lt_trans b3 (Nat.lt_trans b4 o5)))))
    refine zip_loop L.Ro.hd hkind' (lookup_relabel_local hla) (lookup_relabel_local hlb) hab hda hdb Dz hvl (by rw [rs1.length, hlen]; exact hsz) (s₀ := s2) b0 b1 b2 b3 b4 o5 n6 t1 t2
      (fun h' tk n m' hI hn' hk' => ?_) (h := h4) (tk := s2.toks) Z4 (NF.keep _ _ hLat) (by rw [hl]; exact NF.ns) kS
    · have hLf : s2.heap.get? h1.objs.size = none := fresh_at n0'
      have hCf : s2.heap.get? cenv.locals = none := fresh_at (Nat.le_of_lt (Nat.lt_of_le_of_lt n0' n6))
      obtain ⟨R3, T3⟩ := R2.new (s' := { s2 with heap := h', toks := tk }) (o := .lst (zipA l m)) rfl hLf hk' ⟨_, n, hI, atoms_zip a1 a2 (rs1.mono fun a o ho _ _ => hk' a o ho) (rs2.mono fun a o ho _ _ => hk' a o ho) hlen⟩ rfl rfl
      refine hP cenv.locals h1.objs.size _ D2 _ (Un.of (T1.trans T2) hCf) ⟨R3, (T1.trans T2).trans T3, fun w => ?_, R2.baseFree hCf, ⟨m', hn'⟩, q _ (R2.none_of_free hLf)⟩
      rcases own_upd (o := .lst (zipA l m)) rfl w with z | z
      · exact absurd (show @Eq Nat cenv.locals h1.objs.size from z) (Nat.ne_of_gt n6)
      · obtain ⟨o, ho⟩ := R2.live z
        rw [hCf] at ho; cases ho
  exact codeAny_compStart_list loop (wpAny_pyIter_zip (s := { s2 with heap := h4 }) Z4.z loop)
end

end Np

namespace Np
section
variable {X : Cx} {T : Tab} {W : Spec} {k : Nat}

theorem pe_zipc (P : Cp X T W k) {a b : IR} (ha : PE X T W k a) (hb : PE X T W k b) : PE X T W k (.zipc a b) := fun _ _ h => (pt_zip P ha hb h).pe

mutual
theorem all_pe (P : Cp X T W k) : ∀ i : IR, PE X T W k i
  | .non => pe_non
  | .tt _ => pe_tt
  | .int _ => pe_int
  | .str _ => pe_str
  | .loc _ => pe_loc
  | .glob _ => pe_glob P
  | .bin _ a b => pe_bin (all_pe P a) (all_pe P b)
  | .cmp _ a b => pe_cmp P (all_pe P a) (all_pe P b)
  | .cm2 a _ b _ c => pe_cm2 P (all_pe P a) (all_pe P b) (all_pe P c)
  | .and a b => pe_and (all_pe P a) (all_pe P b)
  | .or a b => pe_or (all_pe P a) (all_pe P b)
  | .not a => pe_not (all_pe P a)
  | .ite c a b => pe_ite (all_pe P c) (all_pe P a) (all_pe P b)
  | .tup l => pe_tup (all_pl P l)
  | .lst l => pe_lst (all_pl P l)
  | .dc0 _ => pe_dc0
  | .dc1 a v => pe_dc1 (all_pe P a) (all_pe P v)
  | .dcs a v a2 v2 a3 v3 => pe_dcs (all_pe P a) (all_pe P v) (all_pe P a2) (all_pe P v2) (all_pe P a3) (all_pe P v3)
  | .att a _ => pe_att P (all_pe P a)
  | .sub a b => pe_sub (all_pe P a) (all_pe P b)
  | .slc a b c => pe_slc (all_pe P a) (all_pe P b) (all_pe P c)
  | .rev a => pe_rev (all_pe P a)
  | .bi _ l => pe_bi P (all_pl P l)
  | .isi a _ => pe_isi P (all_pe P a)
  | .isS a => pe_isS P (all_pe P a)
  | .fn _ l => pe_fn P (all_pl P l)
  | .cls _ l => pe_cls P (all_pl P l)
  | .me _ a l => pe_me (all_pe P a) (all_pl P l)
  | .mt _ a l => pe_mt P (all_pe P a) (all_pl P l)
  | .zipc a b => pe_zipc P (all_pe P a) (all_pe P b)
  | .comp _ _ _ _ a _ e => pe_comp P (all_pe P a) (all_pe P e)
  | .dead => pe_dead
theorem all_pl (P : Cp X T W k) : ∀ l : IRs, PL X T W k l
  | .nil => pl_nil
  | .cons a l => pl_cons (all_pe P a) (all_pl P l)
end

theorem CompI.pu {ir : IR} {N : Nm} {elt gens scope pos} (h : CompI X T W k ir N (.ListComp elt gens scope pos)) : PUe X T W k ir N elt gens scope pos := by
  generalize hx : Expr.ListComp elt gens scope pos = x at h
  obtain ⟨elt', t, iter, scope', pos', H⟩ := h
  cases hx
  exact H
theorem all_pu (P : Cp X T W k) (i : IR) : PU X T W k i := by
  intro N elt gens scope pos
  induction i using IR.casesOn with
  | comp cap tg tup sk a b e => exact fun h => (pt_comp P (all_pe P a) (all_pe P e) h).pu
  | zipc a b => exact fun h => (pt_zip P (all_pe P a) (all_pe P b) h).pu
  | dead => exact fun _ A env ρ D σ s L Q q => q.elim
  | _ => exact Bool.noConfusion

mutual
theorem all_ps (P : Cp X T W k) : ∀ i : IS, PS X T W k i
  | .asg _ e => ps_asg (all_pe P e) (all_pu P e)
  | .asgT _ e => ps_asgT (all_pe P e)
  | .swp _ es => ps_swp (all_pl P es)
  | .setA _ _ e => ps_setA P (all_pe P e)
  | .setA2 _ _ _ _ e => ps_setA2 P (all_pe P e)
  | .setI a i e => ps_setI (all_pe P a) (all_pe P i) (all_pe P e)
  | .exp e => ps_exp (all_pe P e)
  | .ite c t f => ps_ite (all_pe P c) (all_pss P t) (all_pss P f)
  | .whl c b => ps_whl (all_pe P c) (all_pss P b)
  | .for _ _ _ a _ body => ps_for P (all_pe P a) (all_pss P body)
  | .ret e => ps_ret (all_pe P e)
  | .cont => ps_cont
  | .dead => ps_dead
theorem all_pss (P : Cp X T W k) : ∀ l : ISs, PSS X T W k l
  | .nil => pss_nil
  | .cons a l => pss_cons (all_ps P a) (all_pss P l)
end
end

noncomputable abbrev Chk (T : Tab) : List (Str × NameKind) → ISs → List Stmt → Prop := fun N b st => css T N b st = true

theorem vW_succ {T : Tab} {Fs : List FnI} {n f : Nat} {l σ Q} (q : vW T Fs (n + 1) f l σ Q) : ∃ F, Fs[f]? = some F ∧ vfn T (vW T Fs n) F l σ Q := by
  replace q : (match Fs[f]? with | some F => vfn T (vW T Fs n) F l σ Q | none => False) := q
  revert q
  rcases Fs[f]? with _ | F
  · exact False.elim
  · exact fun q => ⟨F, rfl, q⟩
-- what the conditions say holds of the program's run
theorem sound {X : Cx} {T : Tab} {Fs : List FnI} (G : Gd X) (TO : TabOk X T) (hF : ∀ f F, Fs[f]? = some F → FnHas X T (Chk T) f F) : ∀ n, CallOk X T (vW T Fs n) (2 * n)
  | 0 => fun _ _ _ _ _ _ _ _ _ _ _ _ _ q => q.elim
  | n + 1 => fun f A D σ s vs l Q Rr Ro hab R r q hR => by
    obtain ⟨F, hf, q⟩ := vW_succ q
    have P : Cp X T (vW T Fs n) (2 * n) := ⟨G, TO, sound G TO hF n⟩
    exact call_fn (k := 2 * n + 1) G (hF f F hf) (fun A env ρ D σ s body K Ro E cl e R hc q => all_pss P F.body env.scope.names body hc A env ρ D σ s ⟨Ro, E, cl, rfl, e, R⟩ K q) Ro R r q hR hab

end Np

namespace Np

-- the program, as our own small language says it: printed by GenIR, gentab
-- law : 0 script, 1 pot (cell), 2 table, 3 width (cell), 4 height, 5 numbers, 6 boxes, 7 windows, 8 cells (cell), 9 selected, 10 number, 11 box, 12 codes, 13 name, 14 left, 15 top, 16 wide, 17 high, 18 shown, 19 view, 20 columns, 21 lines, 22 tells, 23 _law_pot (top), 24 FaceTable (top), 25 _law_dip (top), 26 Face (top), 27 _law_boxes (top), 28 len (top), 29 enumerate (top), 30 range (top), 31 Shown (top), 32 ModeLine (top), 33 Facts (top), 34 View (top), 35 laid_rows (top), 36 Options (top), 37 _law_due (top), 38 whole (top), 39 tuple (top)
noncomputable def fn0 : FnI := ⟨40, [0], [], (.cons (.swp [1, 2] (.cons (.fn 1 (.cons (.loc 0) .nil)) (.cons (.cls 13 .nil) .nil))) (.cons (.swp [3, 4] (.cons (.bin .Add (.int 6) (.fn 2 (.cons (.loc 1) (.cons (.int 11) .nil)))) (.cons (.bin .Add (.int 4) (.fn 2 (.cons (.loc 1) (.cons (.int 4) .nil)))) .nil))) (.cons (.exp (.mt 70 (.loc 2) (.cons (.str (Str.ofString "mode-line")) (.cons (.cls 12 (.cons (.tup (.cons .non (.cons .non (.cons .non (.cons .non (.cons .non (.cons (.int 1) .nil))))))) .nil)) .nil)))) (.cons (.exp (.mt 70 (.loc 2) (.cons (.str (Str.ofString "mode-line-inactive")) (.cons (.cls 12 (.cons (.tup (.cons .non (.cons .non (.cons (.int 1) (.cons .non (.cons .non (.cons (.int 1) .nil))))))) .nil)) .nil)))) (.cons (.asg 5 (.lst (.cons (.mt 71 (.loc 2) (.cons (.tup (.cons (.str (Str.ofString "mode-line")) .nil)) .nil)) (.cons (.mt 71 (.loc 2) (.cons (.tup (.cons (.str (Str.ofString "mode-line-inactive")) .nil)) .nil)) .nil)))) (.cons (.swp [6, 7, 8] (.cons (.fn 3 (.cons (.loc 1) (.cons (.loc 3) (.cons (.loc 4) .nil)))) (.cons (.lst .nil) (.cons (.dc0 true) .nil)))) (.cons (.asg 9 (.fn 2 (.cons (.loc 1) (.cons (.bi .len (.cons (.loc 6) .nil)) .nil)))) (.cons (.for [10, 11] true .enum (.loc 6) .non (.cons (.asg 12 (.comp [none, none, none, some 1] [1] false .range (.fn 2 (.cons (.loc 1) (.cons (.int 12) .nil))) .non (.sub (.lst (.cons (.int 97) (.cons (.int 98) (.cons (.int 32) (.cons (.int 10) (.cons (.int 99) .nil)))))) (.fn 2 (.cons (.loc 3) (.cons (.int 5) .nil)))))) (.cons (.asg 13 (.ite (.cmp .Eq (.fn 2 (.cons (.loc 1) (.cons (.int 3) .nil))) (.int 0)) .non (.sub (.lst (.cons (.str (Str.ofString "b")) (.cons (.str (Str.ofString "longername")) (.cons (.str (Str.ofString "")) .nil)))) (.fn 2 (.cons (.loc 1) (.cons (.int 3) .nil)))))) (.cons (.asgT [14, 15, 16, 17] (.loc 11)) (.cons (.asg 18 (.cls 9 (.cons (.loc 14) (.cons (.loc 15) (.cons (.loc 16) (.cons (.loc 17) (.cons (.lst .nil) (.cons (.cmp .Eq (.loc 10) (.loc 9)) .nil)))))))) (.cons (.ite (.cmp .IsNot (.loc 13) .non) (.cons (.setA 18 43 (.cls 10 (.cons (.str (Str.ofString "%b")) (.cons (.cls 1 (.cons (.loc 13) (.cons (.int 1) (.cons (.int 1) (.cons (.int 1) (.cons (.int 1) (.cons (.int 1) (.cons (.int 0) .nil)))))))) (.cons (.dc0 true) .nil))))) .nil) .nil) (.cons (.swp [19, 20] (.cons (.cls 5 (.cons (.loc 12) .nil)) (.cons (.ite (.cmp .Lt (.bin .Add (.loc 14) (.loc 16)) (.loc 3)) (.bin .Sub (.loc 16) (.int 1)) (.loc 16)) .nil))) (.cons (.asg 21 (.ite (.cmp .Is (.loc 13) .non) (.loc 17) (.bin .Sub (.loc 17) (.int 1)))) (.cons (.setA 18 24 (.fn 21 (.cons (.loc 19) (.cons (.loc 2) (.cons (.tup (.cons (.int 1) (.cons (.int 0) .nil))) (.cons (.int 0) (.cons (.loc 21) (.cons (.loc 20) (.cons (.cls 0 .nil) .nil))))))))) (.cons (.exp (.me .append (.loc 7) (.cons (.loc 18) .nil))) (.cons (.exp (.fn 4 (.cons (.loc 8) (.cons (.loc 11) (.cons (.loc 3) (.cons (.loc 12) (.cons (.loc 13) (.cons (.sub (.loc 5) (.ite (.cmp .Eq (.loc 10) (.loc 9)) (.int 0) (.int 1))) .nil)))))))) .nil))))))))))) (.cons (.asg 22 (.mt 68 (.fn 25 (.cons (.loc 3) (.cons (.loc 4) (.cons (.loc 7) (.cons (.loc 2) .nil))))) .nil)) (.cons (.ret (.cmp .Eq (.loc 22) (.bi .tuple (.cons (.comp [none, none, none, none, some 8, some 3] [1] false .range (.loc 4) .non (.bi .tuple (.cons (.comp [none, none, some 4, some 1] [1] false .range (.loc 5) .non (.sub (.loc 2) (.tup (.cons (.loc 3) (.cons (.loc 1) .nil))))) .nil))) .nil)))) .nil))))))))))⟩
-- _law_pot : 0 script, 1 cells, 2 sum (top)
noncomputable def fn1 : FnI := ⟨3, [0], [], (.cons (.asg 1 (.comp [none, none, none] [1] false .of (.slc (.loc 0) .non (.int 48)) .non (.bin .Mod (.bi .abs (.cons (.loc 1) .nil)) (.int 1000003)))) (.cons (.ret (.lst (.cons (.loc 1) (.cons (.int 0) (.cons (.bin .Add (.int 139) (.bin .Mod (.bi .sum (.cons (.loc 1) .nil)) (.int 65519))) .nil))))) .nil))⟩
-- _law_dip : 0 pot, 1 many, 2 at, 3 len (top)
noncomputable def fn2 : FnI := ⟨4, [0, 1], [], (.cons (.asg 2 (.sub (.loc 0) (.int 1))) (.cons (.setI (.loc 0) (.int 1) (.bin .Add (.loc 2) (.int 1))) (.cons (.ite (.cmp .Lt (.loc 2) (.bi .len (.cons (.sub (.loc 0) (.int 0)) .nil))) (.cons (.ret (.bin .Mod (.sub (.sub (.loc 0) (.int 0)) (.loc 2)) (.loc 1))) .nil) .nil) (.cons (.setI (.loc 0) (.int 2) (.bin .Mod (.bin .Add (.bin .Mult (.sub (.loc 0) (.int 2)) (.int 75)) (.int 74)) (.int 65537))) (.cons (.ret (.bin .Mod (.sub (.loc 0) (.int 2)) (.loc 1))) .nil)))))⟩
-- _law_boxes : 0 pot, 1 width, 2 height, 3 boxes, 4 nth, 5 left, 6 top, 7 wide, 8 high, 9 cut, 10 range (top), 11 _law_dip (top)
noncomputable def fn3 : FnI := ⟨12, [0, 1, 2], [], (.cons (.asg 3 (.lst (.cons (.tup (.cons (.int 0) (.cons (.int 0) (.cons (.loc 1) (.cons (.loc 2) .nil))))) .nil))) (.cons (.for [4] false .range (.fn 2 (.cons (.loc 0) (.cons (.int 4) .nil))) .non (.cons (.asgT [5, 6, 7, 8] (.me .pop (.loc 3) (.cons (.int 0) .nil))) (.cons (.ite (.and (.cmp .Eq (.fn 2 (.cons (.loc 0) (.cons (.int 2) .nil))) (.int 0)) (.cmp .GtE (.loc 7) (.int 6))) (.cons (.asg 9 (.bin .Add (.int 3) (.fn 2 (.cons (.loc 0) (.cons (.bin .Sub (.loc 7) (.int 5)) .nil))))) (.cons (.exp (.me .extend (.loc 3) (.cons (.lst (.cons (.tup (.cons (.loc 5) (.cons (.loc 6) (.cons (.loc 9) (.cons (.loc 8) .nil))))) (.cons (.tup (.cons (.bin .Add (.loc 5) (.loc 9)) (.cons (.loc 6) (.cons (.bin .Sub (.loc 7) (.loc 9)) (.cons (.loc 8) .nil))))) .nil))) .nil))) .nil)) (.cons (.ite (.cmp .GtE (.loc 8) (.int 4)) (.cons (.asg 9 (.bin .Add (.int 2) (.fn 2 (.cons (.loc 0) (.cons (.bin .Sub (.loc 8) (.int 3)) .nil))))) (.cons (.exp (.me .extend (.loc 3) (.cons (.lst (.cons (.tup (.cons (.loc 5) (.cons (.loc 6) (.cons (.loc 7) (.cons (.loc 9) .nil))))) (.cons (.tup (.cons (.loc 5) (.cons (.bin .Add (.loc 6) (.loc 9)) (.cons (.loc 7) (.cons (.bin .Sub (.loc 8) (.loc 9)) .nil))))) .nil))) .nil))) .nil)) (.cons (.exp (.me .append (.loc 3) (.cons (.tup (.cons (.loc 5) (.cons (.loc 6) (.cons (.loc 7) (.cons (.loc 8) .nil))))) .nil))) .nil)) .nil)) .nil))) (.cons (.ret (.loc 3)) .nil)))⟩
-- _law_due : 0 cells, 1 box, 2 width, 3 codes, 4 name, 5 face, 6 left, 7 top, 8 wide, 9 high, 10 has_bar, 11 room, 12 lines, 13 lines_laid, 14 line, 15 code, 16 number, 17 tells, 18 mark, 19 column, 20 letter, 21 len (top), 22 chr (top), 23 range (top), 24 enumerate (top), 25 ord (top)
noncomputable def fn4 : FnI := ⟨26, [0, 1, 2, 3, 4, 5], [], (.cons (.asgT [6, 7, 8, 9] (.loc 1)) (.cons (.asg 10 (.cmp .Lt (.bin .Add (.loc 6) (.loc 8)) (.loc 2))) (.cons (.swp [11, 12] (.cons (.bin .Sub (.ite (.loc 10) (.bin .Sub (.loc 8) (.int 1)) (.loc 8)) (.int 1)) (.cons (.ite (.cmp .Is (.loc 4) .non) (.loc 9) (.bin .Sub (.loc 9) (.int 1))) .nil))) (.cons (.swp [13, 14] (.cons (.lst .nil) (.cons (.lst .nil) .nil))) (.cons (.for [15] false .of (.bin .Add (.loc 3) (.lst (.cons (.int 10) .nil))) .non (.cons (.ite (.cmp .Eq (.loc 15) (.int 10)) (.cons (.exp (.me .append (.loc 13) (.cons (.tup (.cons (.loc 14) (.cons (.str (Str.ofString " ")) .nil))) .nil))) (.cons (.asg 14 (.lst .nil)) .nil)) (.cons (.ite (.cmp .Eq (.bi .len (.cons (.loc 14) .nil)) (.loc 11)) (.cons (.exp (.me .append (.loc 13) (.cons (.tup (.cons (.loc 14) (.cons (.bi .chr (.cons (.int 92) .nil)) .nil))) .nil))) (.cons (.asg 14 (.lst .nil)) .nil)) .nil) (.cons (.asg 14 (.bin .Add (.loc 14) (.lst (.cons (.bi .chr (.cons (.loc 15) .nil)) .nil)))) .nil))) .nil)) (.cons (.for [16] false .range (.loc 12) .non (.cons (.asgT [17, 18] (.ite (.cmp .Lt (.loc 16) (.bi .len (.cons (.loc 13) .nil))) (.sub (.loc 13) (.loc 16)) (.tup (.cons (.lst .nil) (.cons (.str (Str.ofString " ")) .nil))))) (.cons (.asg 17 (.bin .Add (.bin .Add (.bin .Add (.loc 17) (.bin .Mult (.lst (.cons (.str (Str.ofString " ")) .nil)) (.bin .Sub (.loc 11) (.bi .len (.cons (.loc 17) .nil))))) (.lst (.cons (.loc 18) .nil))) (.ite (.loc 10) (.lst (.cons (.str (Str.ofString "|")) .nil)) (.lst .nil)))) (.cons (.for [19, 20] true .enum (.loc 17) .non (.cons (.setI (.loc 0) (.tup (.cons (.bin .Add (.loc 7) (.loc 16)) (.cons (.bin .Add (.loc 6) (.loc 19)) .nil))) (.tup (.cons (.bi .ord (.cons (.loc 20) .nil)) (.cons (.int 0) .nil)))) .nil)) .nil)))) (.cons (.ite (.cmp .IsNot (.loc 4) .non) (.cons (.for [19] false .range (.loc 8) .non (.cons (.setI (.loc 0) (.tup (.cons (.bin .Sub (.bin .Add (.loc 7) (.loc 9)) (.int 1)) (.cons (.bin .Add (.loc 6) (.loc 19)) .nil))) (.tup (.cons (.bi .ord (.cons (.sub (.bin .Add (.loc 4) (.bin .Mult (.str (Str.ofString " ")) (.loc 8))) (.loc 19)) .nil)) (.cons (.loc 5) .nil)))) .nil)) .nil) .nil) .nil)))))))⟩
-- is_control : 0 code, 1 BLANK (top), 2 NEWLINE (top), 3 TAB (top), 4 DELETE (top)
noncomputable def fn5 : FnI := ⟨5, [0], [], (.cons (.ret (.or (.and (.cm2 (.int 0) .LtE (.loc 0) .Lt (.glob 3)) (.and (.cmp .NotEq (.loc 0) (.glob 1)) (.cmp .NotEq (.loc 0) (.glob 2)))) (.cmp .Eq (.loc 0) (.glob 4)))) .nil)⟩
-- is_raw : 0 code
noncomputable def fn6 : FnI := ⟨1, [0], [], (.cons (.ret (.cm2 (.int 128) .LtE (.loc 0) .Lt (.int 160))) .nil)⟩
-- shown_codes : 0 code, 1 column, 2 options, 3 NEWLINE (top), 4 TAB (top), 5 BLANK (top), 6 is_raw (top), 7 is_control (top), 8 figures_of (top), 9 CARET (top), 10 DELETE (top)
noncomputable def fn7 : FnI := ⟨11, [0, 1, 2], [], (.cons (.ite (.cmp .Eq (.loc 0) (.glob 1)) (.cons (.ret (.lst .nil)) .nil) .nil) (.cons (.ite (.cmp .Eq (.loc 0) (.glob 2)) (.cons (.ret (.bin .Mult (.lst (.cons (.glob 3) .nil)) (.bin .Sub (.att (.loc 2) 0) (.bin .Mod (.loc 1) (.att (.loc 2) 0))))) .nil) .nil) (.cons (.ite (.or (.fn 6 (.cons (.loc 0) .nil)) (.and (.fn 5 (.cons (.loc 0) .nil)) (.not (.att (.loc 2) 1)))) (.cons (.ret .dead) .nil) .nil) (.cons (.ite (.fn 5 (.cons (.loc 0) .nil)) (.cons (.ret (.lst (.cons (.glob 5) (.cons (.ite (.cmp .Eq (.loc 0) (.glob 4)) (.int 63) (.bin .Add (.loc 0) (.int 64))) .nil)))) .nil) .nil) (.cons (.ret (.lst (.cons (.loc 0) .nil))) .nil)))))⟩
-- told_by : 0 letter, 1 facts, 2 size, 3 str (top), 4 top_percent (top), 5 bottom_percent (top), 6 short_size (top), 7 star (top), 8 plus (top), 9 brackets (top)
noncomputable def fn8 : FnI := ⟨10, [0, 1], [], (.cons (.ite (.and (.cmp .In (.loc 0) (.str (Str.ofString "bfm"))) (.cmp .NotEq (.loc 0) (.str (Str.ofString "")))) (.cons (.ret (.sub (.dcs (.str (Str.ofString "b")) (.att (.loc 1) 5) (.str (Str.ofString "f")) (.att (.loc 1) 6) (.str (Str.ofString "m")) (.att (.loc 1) 7)) (.loc 0))) .nil) .nil) (.cons (.ite (.and (.cmp .In (.loc 0) (.str (Str.ofString "lcC"))) (.cmp .NotEq (.loc 0) (.str (Str.ofString "")))) (.cons (.ret .dead) .nil) .nil) (.cons (.ite (.and (.cmp .In (.loc 0) (.str (Str.ofString "pP"))) (.cmp .NotEq (.loc 0) (.str (Str.ofString "")))) (.cons (.ret (.ite (.cmp .Eq (.loc 0) (.str (Str.ofString "p"))) .dead .dead)) .nil) .nil) (.cons (.ite (.and (.cmp .In (.loc 0) (.str (Str.ofString "iI"))) (.cmp .NotEq (.loc 0) (.str (Str.ofString "")))) (.cons (.asg 2 (.bin .Sub (.att (.loc 1) 9) (.att (.loc 1) 8))) (.cons (.ret (.ite (.cmp .Eq (.loc 0) (.str (Str.ofString "i"))) .dead .dead)) .nil)) .nil) (.cons (.ite (.and (.cmp .In (.loc 0) (.str (Str.ofString "*+&"))) (.cmp .NotEq (.loc 0) (.str (Str.ofString "")))) (.cons (.ret (.sub (.dcs (.str (Str.ofString "*")) .dead (.str (Str.ofString "+")) .dead (.str (Str.ofString "&")) (.ite (.att (.loc 1) 14) (.str (Str.ofString "*")) (.str (Str.ofString "-")))) (.loc 0))) .nil) .nil) (.cons (.ite (.cmp .Eq (.loc 0) (.str (Str.ofString "n"))) (.cons (.ret (.ite (.att (.loc 1) 16) (.str (Str.ofString " Narrow")) (.str (Str.ofString "")))) .nil) .nil) (.cons (.ite (.cmp .Eq (.loc 0) (.str (Str.ofString "["))) (.cons (.ret .dead) .nil) .nil) (.cons (.ite (.cmp .Eq (.loc 0) (.str (Str.ofString "]"))) (.cons (.ret .dead) .nil) .nil) (.cons (.ret (.ite (.cmp .Eq (.loc 0) (.str (Str.ofString "%"))) (.str (Str.ofString "%")) (.str (Str.ofString "")))) .nil)))))))))⟩
-- field_width : 0 text, 1 at, 2 end, 3 len (top), 4 MOST_FIGURES (top), 5 FIGURES (top), 6 int (top)
noncomputable def fn9 : FnI := ⟨7, [0, 1], [], (.cons (.asg 2 (.loc 1)) (.cons (.whl (.and (.cmp .Lt (.loc 2) (.bi .len (.cons (.loc 0) .nil))) (.and (.cmp .Lt (.bin .Sub (.loc 2) (.loc 1)) (.glob 12)) (.cmp .In (.sub (.loc 0) (.loc 2)) (.glob 11)))) (.cons (.asg 2 (.bin .Add (.loc 2) (.int 1))) .nil)) (.cons (.ret (.tup (.cons (.ite (.cmp .Gt (.loc 2) (.loc 1)) .dead (.int 0)) (.cons (.loc 2) .nil)))) .nil)))⟩
-- told_text : 0 text, 1 facts, 2 room, 3 found, 4 at, 5 width, 6 place, 7 letter, 8 own, 9 len (top), 10 PERCENT (top), 11 field_width (top), 12 max (top), 13 sum (top), 14 told_by (top)
noncomputable def fn10 : FnI := ⟨15, [0, 1, 2], [], (.cons (.swp [3, 4] (.cons (.lst .nil) (.cons (.int 0) .nil))) (.cons (.whl (.cmp .Lt (.loc 4) (.bi .len (.cons (.loc 0) .nil))) (.cons (.ite (.cmp .NotEq (.sub (.loc 0) (.loc 4)) (.glob 10)) (.cons (.exp (.me .append (.loc 3) (.cons (.sub (.loc 0) (.loc 4)) .nil))) (.cons (.asg 4 (.bin .Add (.loc 4) (.int 1))) (.cons .cont .nil))) .nil) (.cons (.asgT [5, 6] (.fn 9 (.cons (.loc 0) (.cons (.bin .Add (.loc 4) (.int 1)) .nil)))) (.cons (.asg 7 (.slc (.loc 0) (.loc 6) (.bin .Add (.loc 6) (.int 1)))) (.cons (.asg 4 (.bin .Add (.loc 6) (.int 1))) (.cons (.ite (.cmp .Eq (.loc 7) (.str (Str.ofString "-"))) (.cons (.asg 8 (.bin .Mult (.str (Str.ofString "-")) (.bi .max (.cons (.int 0) (.cons (.bin .Sub (.loc 2) (.bi .sum (.cons (.comp [none, none, none] [1] false .of (.loc 3) .non (.bi .len (.cons (.loc 1) .nil))) .nil))) .nil))))) .nil) (.cons (.asg 8 (.fn 8 (.cons (.loc 7) (.cons (.loc 1) .nil)))) .nil)) (.cons (.exp (.me .append (.loc 3) (.cons (.bin .Add (.loc 8) (.bin .Mult (.str (Str.ofString " ")) (.bi .max (.cons (.int 0) (.cons (.bin .Sub (.loc 5) (.bi .len (.cons (.loc 8) .nil))) .nil))))) .nil))) .nil))))))) (.cons (.ret (.me .join (.str (Str.ofString "")) (.cons (.loc 3) .nil))) .nil)))⟩
-- told_cells : 0 form, 1 facts, 2 names, 3 width, 4 told, 5 waiting, 6 left, 7 piece, 8 room, 9 Told (top), 10 Piece (top), 11 MOST_PIECES (top), 12 isinstance (top), 13 Fit (top), 14 str (top), 15 len (top), 16 told_text (top), 17 inner_pieces (top)
noncomputable def fn11 : FnI := ⟨18, [0, 1, 2, 3], [], (.cons (.swp [4, 5, 6] (.cons (.cls 4 .nil) (.cons (.lst (.cons (.cls 2 (.cons (.loc 0) (.cons (.tup .nil) (.cons (.tt true) .nil)))) .nil)) (.cons (.glob 9) .nil)))) (.cons (.whl (.cmp .NotEq (.loc 5) (.lst .nil)) (.cons (.asg 7 (.me .pop (.loc 5) .nil)) (.cons (.ite (.isi (.loc 7) 3) (.cons (.exp (.mt 53 (.loc 4) (.cons (.loc 7) .nil))) .nil) (.cons (.ite (.cmp .Gt (.loc 6) (.int 0)) (.cons (.asg 6 (.bin .Sub (.loc 6) (.int 1))) (.cons (.ite (.isS (.att (.loc 7) 18)) (.cons (.asg 8 (.bin .Sub (.loc 3) (.bi .len (.cons (.att (.loc 4) 21) .nil)))) (.cons (.exp (.mt 52 (.loc 4) (.cons (.ite (.att (.loc 7) 20) (.fn 10 (.cons (.att (.loc 7) 18) (.cons (.loc 1) (.cons (.loc 8) .nil)))) (.att (.loc 7) 18)) (.cons (.att (.loc 7) 19) .nil)))) .nil)) (.cons (.ite (.cmp .Eq (.sub (.att (.loc 7) 18) (.int 0)) (.str (Str.ofString "width"))) (.cons (.exp (.me .append (.loc 5) (.cons .dead .nil))) .nil) .nil) (.cons (.exp (.me .extend (.loc 5) (.cons (.rev .dead) .nil))) .nil))) .nil)) .nil) .nil)) .nil))) (.cons (.ret (.att (.loc 4) 21)) .nil)))⟩
-- mode_line_cells : 0 form, 1 facts, 2 names, 3 table (cell), 4 face (cell), 5 width, 6 told, 7 found, 8 told_cells (top), 9 BLANK (top), 10 len (top)
noncomputable def fn12 : FnI := ⟨11, [0, 1, 2, 3, 4, 5], [], (.cons (.asg 6 (.slc (.fn 11 (.cons (.loc 0) (.cons (.loc 1) (.cons (.loc 2) (.cons (.loc 5) .nil))))) .non (.loc 5))) (.cons (.asg 7 (.comp [none, none, none, some 4, some 3] [1, 2] true .of (.loc 6) .non (.tup (.cons (.loc 1) (.cons (.mt 71 (.loc 4) (.cons (.bin .Add (.loc 2) (.tup (.cons (.loc 3) .nil))) .nil)) .nil))))) (.cons (.ret (.bin .Add (.loc 7) (.bin .Mult (.lst (.cons (.tup (.cons (.glob 3) (.cons (.mt 71 (.loc 3) (.cons (.tup (.cons (.loc 4) .nil)) .nil)) .nil))) .nil)) (.bin .Sub (.loc 5) (.bi .len (.cons (.loc 7) .nil)))))) .nil)))⟩
-- is_break : 0 view, 1 place, 2 NEWLINE (top), 3 SHOWN (top)
noncomputable def fn13 : FnI := ⟨4, [0, 1], [], (.cons (.ret (.and (.cmp .Eq (.mt 54 (.loc 0) (.cons (.loc 1) .nil)) (.glob 1)) (.and (.cmp .Eq (.mt 56 (.loc 0) (.cons (.loc 1) .nil)) (.glob 13)) (.cmp .Is (.mt 57 (.loc 0) (.cons (.loc 1) .nil)) .non)))) .nil)⟩
-- string_signs : 0 view, 1 table, 2 place, 3 found, 4 codes, 5 faces, 6 face (cell)
noncomputable def fn14 : FnI := ⟨7, [0, 1, 2], [], (.cons (.asg 3 (.lst .nil)) (.cons (.for [4, 5] true .of (.mt 58 (.loc 0) (.cons (.loc 2) .nil)) .non (.cons (.asg 6 (.mt 71 (.loc 1) (.cons (.loc 5) .nil))) (.cons (.exp (.me .extend (.loc 3) (.cons (.comp [none, none, none, some 6] [1] false .of (.loc 4) .non (.tup (.cons (.loc 1) (.cons (.loc 3) (.cons (.glob 0) .nil))))) .nil))) .nil))) (.cons (.ret (.loc 3)) .nil)))⟩
-- signs_at : 0 view, 1 table, 2 place (cell), 3 ahead, 4 shown, 5 codes, 6 faces, 7 end, 8 face (cell), 9 string_signs (top), 10 Signs (top), 11 SHOWN (top), 12 hidden_signs (top)
noncomputable def fn15 : FnI := ⟨13, [0, 1, 2], [], (.cons (.asg 3 (.fn 14 (.cons (.loc 0) (.cons (.loc 1) (.cons (.loc 2) .nil))))) (.cons (.ite (.cmp .GtE (.loc 2) (.mt 9 (.loc 0) .nil)) (.cons (.ret (.cls 6 (.cons (.loc 3) (.cons (.loc 2) (.cons (.bin .Add (.loc 2) (.int 1)) .nil))))) .nil) .nil) (.cons (.ite (.cmp .NotEq (.mt 56 (.loc 0) (.cons (.loc 2) .nil)) (.glob 13)) (.cons (.ret .dead) .nil) .nil) (.cons (.asg 4 (.mt 57 (.loc 0) (.cons (.loc 2) .nil))) (.cons (.ite (.cmp .IsNot (.loc 4) .non) (.cons (.asgT [5, 6, 7] (.loc 4)) (.cons (.asg 8 (.mt 71 (.loc 1) (.cons (.loc 6) .nil))) (.cons (.ret (.cls 6 (.cons (.bin .Add (.loc 3) (.comp [none, none, some 8, some 2] [1] false .of (.loc 5) .non (.tup (.cons (.loc 1) (.cons (.loc 2) (.cons (.loc 3) .nil)))))) (.cons (.loc 7) (.cons (.bin .Add (.loc 7) (.int 1)) .nil))))) .nil))) .nil) (.cons (.asg 8 (.mt 71 (.loc 1) (.cons (.mt 55 (.loc 0) (.cons (.loc 2) .nil)) .nil))) (.cons (.ret (.cls 6 (.cons (.bin .Add (.loc 3) (.lst (.cons (.tup (.cons (.mt 54 (.loc 0) (.cons (.loc 2) .nil)) (.cons (.loc 8) (.cons (.loc 2) .nil)))) .nil))) (.cons (.bin .Add (.loc 2) (.int 1)) (.cons (.bin .Add (.loc 2) (.int 1)) .nil))))) .nil)))))))⟩
-- put_sign : 0 row, 1 sign, 2 codes, 3 code
noncomputable def fn16 : FnI := ⟨4, [0, 1, 2], [], (.cons (.for [3] false .of (.loc 2) .non (.cons (.exp (.me .append (.att (.loc 0) 34) (.cons (.tup (.cons (.loc 3) (.cons (.sub (.loc 1) (.int 1)) (.cons (.sub (.loc 1) (.int 2)) .nil)))) .nil))) .nil)) .nil)⟩
-- end_of_line : 0 row, 1 walk, 2 sign, 3 column, 4 NOWHERE (top), 5 is_break (top)
noncomputable def fn17 : FnI := ⟨6, [0, 1, 2, 3], [], (.cons (.ite (.cmp .Is (.loc 2) .non) (.cons (.setA 0 37 (.tt true)) (.cons (.exp (.mt 63 (.loc 0) (.cons (.loc 1) (.cons (.loc 3) .nil)))) .nil)) (.cons (.exp (.mt 61 (.loc 1) .nil)) (.cons (.setA 0 35 (.tt true)) (.cons (.setA 0 36 (.and (.cmp .NotEq (.sub (.loc 2) (.int 2)) (.glob 0)) (.fn 13 (.cons (.att (.loc 1) 27) (.cons (.sub (.loc 2) (.int 2)) .nil))))) (.cons (.exp (.mt 63 (.loc 0) (.cons (.loc 1) (.cons (.int 0) .nil)))) .nil))))) .nil)⟩
-- overflow : 0 row, 1 walk, 2 sign, 3 codes, 4 column, 5 room, 6 last_break, 7 used, 8 len (top), 9 TAB (top), 10 put_sign (top)
noncomputable def fn18 : FnI := ⟨11, [0, 1, 2, 3, 4, 5, 6], [], (.cons (.asg 7 (.bi .len (.cons (.att (.loc 0) 34) .nil))) (.cons (.ite (.or (.and (.cmp .Eq (.sub (.loc 2) (.int 0)) (.glob 2)) (.cmp .Lt (.loc 7) (.loc 5))) (.cmp .Eq (.loc 7) (.int 0))) (.cons (.exp (.fn 16 (.cons (.loc 0) (.cons (.loc 2) (.cons (.slc (.loc 3) .non (.bin .Sub (.loc 5) (.loc 7))) .nil))))) (.cons (.exp (.mt 61 (.loc 1) .nil)) (.cons (.exp (.mt 63 (.loc 0) (.cons (.loc 1) (.cons (.bin .Add (.loc 4) (.bi .len (.cons (.loc 3) .nil))) .nil)))) .nil))) (.cons (.exp (.mt 63 (.loc 0) (.cons (.loc 1) (.cons (.loc 4) .nil)))) (.cons (.ite (.cmp .IsNot (.loc 6) .non) (.cons (.exp (.mt 64 (.loc 0) (.cons (.sub (.loc 6) (.int 0)) (.cons (.sub (.loc 6) (.int 1)) (.cons (.sub (.loc 6) (.int 2)) .nil))))) .nil) .nil) .nil))) .nil))⟩
-- folded_row : 0 view, 1 table, 2 spot, 3 column, 4 width, 5 options, 6 walk, 7 room, 8 last_break, 9 row, 10 sign, 11 codes, 12 Walk (top), 13 Row (top), 14 NEWLINE (top), 15 end_of_line (top), 16 shown_codes (top), 17 len (top), 18 overflow (top), 19 BLANK (top), 20 BACKSLASH (top), 21 put_sign (top), 22 TAB (top)
noncomputable def fn19 : FnI := ⟨23, [0, 1, 2, 3, 4, 5], [], (.cons (.swp [6, 7, 8] (.cons (.cls 7 (.cons (.loc 0) (.cons (.loc 1) (.cons (.loc 2) .nil)))) (.cons (.bin .Sub (.loc 4) (.int 1)) (.cons .non .nil)))) (.cons (.asg 9 (.cls 8 (.cons (.mt 62 (.loc 6) .nil) (.cons (.loc 3) .nil)))) (.cons (.whl (.tt true) (.cons (.asg 10 (.mt 60 (.loc 6) .nil)) (.cons (.ite (.or (.cmp .Is (.loc 10) .non) (.cmp .Eq (.sub (.loc 10) (.int 0)) (.glob 1))) (.cons (.exp (.fn 17 (.cons (.loc 9) (.cons (.loc 6) (.cons (.loc 10) (.cons (.loc 3) .nil)))))) (.cons (.ret (.loc 9)) .nil)) .nil) (.cons (.asg 11 (.fn 7 (.cons (.sub (.loc 10) (.int 0)) (.cons (.loc 3) (.cons (.loc 5) .nil))))) (.cons (.ite (.cmp .Gt (.bin .Add (.bi .len (.cons (.att (.loc 9) 34) .nil)) (.bi .len (.cons (.loc 11) .nil))) (.loc 7)) (.cons (.exp (.fn 18 (.cons (.loc 9) (.cons (.loc 6) (.cons (.loc 10) (.cons (.loc 11) (.cons (.loc 3) (.cons (.loc 7) (.cons (.loc 8) .nil))))))))) (.cons (.setA 9 38 (.ite (.att (.loc 5) 3) (.glob 3) (.glob 6))) (.cons (.ret (.loc 9)) .nil))) .nil) (.cons (.exp (.fn 16 (.cons (.loc 9) (.cons (.loc 10) (.cons (.loc 11) .nil))))) (.cons (.asg 3 (.bin .Add (.loc 3) (.bi .len (.cons (.loc 11) .nil)))) (.cons (.exp (.mt 61 (.loc 6) .nil)) (.cons (.ite (.and (.att (.loc 5) 3) (.cmp .In (.sub (.loc 10) (.int 0)) (.tup (.cons (.glob 3) (.cons (.glob 2) .nil))))) (.cons (.asg 8 (.tup (.cons (.bi .len (.cons (.att (.loc 9) 34) .nil)) (.cons (.mt 62 (.loc 6) .nil) (.cons (.loc 3) .nil))))) .nil) .nil) .nil))))))))) .nil)))⟩
-- laid_row : 0 view, 1 table, 2 spot, 3 column, 4 width, 5 options, 6 cut_row (top), 7 folded_row (top)
noncomputable def fn20 : FnI := ⟨8, [0, 1, 2, 3, 4, 5], [], (.cons (.ite (.att (.loc 5) 2) (.cons (.ret .dead) .nil) .nil) (.cons (.ret (.fn 19 (.cons (.loc 0) (.cons (.loc 1) (.cons (.loc 2) (.cons (.loc 3) (.cons (.loc 4) (.cons (.loc 5) .nil)))))))) .nil))⟩
-- laid_rows : 0 view, 1 table, 2 spot, 3 column, 4 height, 5 width, 6 options, 7 found, 8 row, 9 len (top), 10 laid_row (top)
noncomputable def fn21 : FnI := ⟨11, [0, 1, 2, 3, 4, 5, 6], [], (.cons (.asg 7 (.lst .nil)) (.cons (.whl (.cmp .Lt (.bi .len (.cons (.loc 7) .nil)) (.loc 4)) (.cons (.asg 8 (.fn 20 (.cons (.loc 0) (.cons (.loc 1) (.cons (.loc 2) (.cons (.loc 3) (.cons (.loc 5) (.cons (.loc 6) .nil)))))))) (.cons (.exp (.me .append (.loc 7) (.cons (.loc 8) .nil))) (.cons (.ite (.att (.loc 8) 37) (.cons (.ret (.loc 7)) .nil) .nil) (.cons (.swp [2, 3] (.cons (.att (.loc 8) 9) (.cons (.att (.loc 8) 33) .nil))) .nil))))) (.cons (.ret (.loc 7)) .nil)))⟩
-- row_cells : 0 row, 1 width, 2 found, 3 BLANK (top), 4 len (top)
noncomputable def fn22 : FnI := ⟨5, [0, 1], [], (.cons (.asg 2 (.comp [none, none, none, none] [1, 2, 3] true .of (.att (.loc 0) 34) .non (.tup (.cons (.loc 1) (.cons (.loc 2) .nil))))) (.cons (.asg 2 (.bin .Add (.loc 2) (.bin .Mult (.lst (.cons (.tup (.cons (.glob 3) (.cons (.int 0) .nil))) .nil)) (.bin .Sub (.bin .Sub (.loc 1) (.int 1)) (.bi .len (.cons (.loc 2) .nil)))))) (.cons (.ret (.bin .Add (.loc 2) (.lst (.cons (.tup (.cons (.att (.loc 0) 38) (.cons (.int 0) .nil))) .nil)))) .nil)))⟩
-- put_text : 0 matrix, 1 shown, 2 width, 3 number, 4 cells, 5 range (top), 6 len (top), 7 row_cells (top), 8 EMPTY_CELL (top)
noncomputable def fn23 : FnI := ⟨9, [0, 1], [], (.cons (.asg 2 (.mt 66 (.loc 1) (.cons (.loc 0) .nil))) (.cons (.for [3] false .range (.mt 67 (.loc 1) .nil) .non (.cons (.asg 4 (.ite (.cmp .Lt (.loc 3) (.bi .len (.cons (.att (.loc 1) 24) .nil))) (.fn 22 (.cons (.sub (.att (.loc 1) 24) (.loc 3)) (.cons (.loc 2) .nil))) (.bin .Mult (.lst (.cons (.glob 16) .nil)) (.loc 2)))) (.cons (.exp (.mt 52 (.loc 0) (.cons (.bin .Add (.att (.loc 1) 10) (.loc 3)) (.cons (.att (.loc 1) 39) (.cons (.loc 4) .nil))))) .nil))) .nil))⟩
-- put_edges : 0 matrix, 1 shown, 2 table, 3 number, 4 own, 5 face, 6 cells, 7 range (top), 8 BAR (top), 9 MODE_LINE (top), 10 INACTIVE (top), 11 mode_line_cells (top)
noncomputable def fn24 : FnI := ⟨12, [0, 1, 2], [], (.cons (.ite (.mt 65 (.loc 1) (.cons (.loc 0) .nil)) (.cons (.for [3] false .range (.mt 67 (.loc 1) .nil) .non (.cons (.exp (.mt 52 (.loc 0) (.cons (.bin .Add (.att (.loc 1) 10) (.loc 3)) (.cons (.bin .Sub (.bin .Add (.att (.loc 1) 39) (.att (.loc 1) 40)) (.int 1)) (.cons (.lst (.cons (.tup (.cons (.glob 15) (.cons (.int 0) .nil))) .nil)) .nil))))) .nil)) .nil) .nil) (.cons (.ite (.cmp .IsNot (.att (.loc 1) 43) .non) (.cons (.swp [4, 5] (.cons (.att (.loc 1) 43) (.cons (.ite (.att (.loc 1) 42) (.glob 17) (.glob 18)) .nil))) (.cons (.asg 6 (.fn 12 (.cons (.att (.loc 4) 18) (.cons (.att (.loc 4) 44) (.cons (.att (.loc 4) 45) (.cons (.loc 2) (.cons (.loc 5) (.cons (.att (.loc 1) 40) .nil)))))))) (.cons (.exp (.mt 52 (.loc 0) (.cons (.bin .Sub (.bin .Add (.att (.loc 1) 10) (.att (.loc 1) 41)) (.int 1)) (.cons (.att (.loc 1) 39) (.cons (.loc 6) .nil))))) .nil))) .nil) .nil))⟩
-- whole : 0 width, 1 height, 2 windows, 3 table, 4 matrix, 5 shown, 6 Matrix (top), 7 put_text (top), 8 put_edges (top)
noncomputable def fn25 : FnI := ⟨9, [0, 1, 2, 3], [], (.cons (.asg 4 (.cls 11 (.cons (.loc 0) (.cons (.loc 1) .nil)))) (.cons (.for [5] false .of (.loc 2) .non (.cons (.exp (.fn 23 (.cons (.loc 4) (.cons (.loc 5) .nil)))) (.cons (.exp (.fn 24 (.cons (.loc 4) (.cons (.loc 5) (.cons (.loc 3) .nil))))) .nil))) (.cons (.ret (.loc 4)) .nil)))⟩
-- Options.__init__ : 0 self, 1 tab_width, 2 has_carets, 3 truncates, 4 wraps_words, 5 hscroll
noncomputable def fn26 : FnI := ⟨6, [0, 1, 2, 3, 4, 5], [.int 8, .bool true, .bool false, .bool false, .int 0], (.cons (.setA 0 0 (.loc 1)) (.cons (.setA 0 1 (.loc 2)) (.cons (.setA 0 2 (.loc 3)) (.cons (.setA 0 3 (.loc 4)) (.cons (.setA 0 4 (.loc 5)) .nil)))))⟩
-- Facts.__init__ : 0 self, 1 name, 2 begin, 3 end, 4 top, 5 bottom, 6 line, 7 column
noncomputable def fn27 : FnI := ⟨8, [0, 1, 2, 3, 4, 5, 6, 7], [], (.cons (.setA 0 5 (.loc 1)) (.cons (.setA 0 6 (.str (Str.ofString ""))) (.cons (.setA 0 7 (.str (Str.ofString "Fundamental"))) (.cons (.setA 0 8 (.loc 2)) (.cons (.setA 0 9 (.loc 3)) (.cons (.setA 0 10 (.loc 4)) (.cons (.setA 0 11 (.loc 5)) (.cons (.setA 0 12 (.loc 6)) (.cons (.setA 0 13 (.loc 7)) (.cons (.setA 0 14 (.tt false)) (.cons (.setA 0 15 (.tt false)) (.cons (.setA 0 16 (.tt false)) (.cons (.setA 0 17 (.int 0)) .nil)))))))))))))⟩
-- Piece.__init__ : 0 self, 1 form, 2 faces, 3 has_signs
noncomputable def fn28 : FnI := ⟨4, [0, 1, 2, 3], [], (.cons (.setA 0 18 (.loc 1)) (.cons (.setA 0 19 (.loc 2)) (.cons (.setA 0 20 (.loc 3)) .nil)))⟩
-- Told.__init__ : 0 self
noncomputable def fn29 : FnI := ⟨1, [0], [], (.cons (.setA 0 21 (.lst .nil)) .nil)⟩
-- Told.put : 0 self, 1 text, 2 faces (cell)
noncomputable def fn30 : FnI := ⟨3, [0, 1, 2], [], (.cons (.exp (.me .extend (.att (.loc 0) 21) (.cons (.comp [none, none, none, some 2] [1] false .of (.loc 1) .non (.tup (.cons (.bi .ord (.cons (.loc 1) .nil)) (.cons (.loc 3) .nil)))) .nil))) .nil)⟩
-- View.__init__ : 0 self, 1 codes, 2 begin
noncomputable def fn31 : FnI := ⟨3, [0, 1, 2], [.int 1], (.cons (.setA 0 22 (.loc 1)) (.cons (.setA 0 23 (.loc 2)) .nil))⟩
-- View.begin : 0 self
noncomputable def fn32 : FnI := ⟨1, [0], [], (.cons (.ret (.att (.loc 0) 23)) .nil)⟩
-- View.end : 0 self, 1 len (top)
noncomputable def fn33 : FnI := ⟨2, [0], [], (.cons (.ret (.bin .Add (.att (.loc 0) 23) (.bi .len (.cons (.att (.loc 0) 22) .nil)))) .nil)⟩
-- View.code_at : 0 self, 1 place
noncomputable def fn34 : FnI := ⟨2, [0, 1], [], (.cons (.ret (.ite (.cm2 (.mt 8 (.loc 0) .nil) .LtE (.loc 1) .Lt (.mt 9 (.loc 0) .nil)) (.sub (.att (.loc 0) 22) (.bin .Sub (.loc 1) (.att (.loc 0) 23))) (.int (-1)))) .nil)⟩
-- View.faces_at : 0 self, 1 place
noncomputable def fn35 : FnI := ⟨2, [0, 1], [], (.cons (.ret (.tup .nil)) .nil)⟩
-- View.hidden_at : 0 self, 1 place, 2 SHOWN (top)
noncomputable def fn36 : FnI := ⟨3, [0, 1], [], (.cons (.ret (.glob 13)) .nil)⟩
-- View.shown_at : 0 self, 1 place
noncomputable def fn37 : FnI := ⟨2, [0, 1], [], (.cons (.ret .non) .nil)⟩
-- View.strings_at : 0 self, 1 place
noncomputable def fn38 : FnI := ⟨2, [0, 1], [], (.cons (.ret (.tup .nil)) .nil)⟩
-- Signs.__init__ : 0 self, 1 rows, 2 after, 3 reach
noncomputable def fn39 : FnI := ⟨4, [0, 1, 2, 3], [], (.cons (.setA 0 24 (.loc 1)) (.cons (.setA 0 25 (.loc 2)) (.cons (.setA 0 26 (.loc 3)) .nil)))⟩
-- Walk.__init__ : 0 self, 1 view, 2 table, 3 spot, 4 signs_at (top)
noncomputable def fn40 : FnI := ⟨5, [0, 1, 2, 3], [], (.cons (.setA 0 27 (.loc 1)) (.cons (.setA 0 28 (.loc 2)) (.cons (.setA2 0 29 0 30 (.loc 3)) (.cons (.setA 0 31 (.fn 15 (.cons (.loc 1) (.cons (.loc 2) (.cons (.att (.loc 0) 29) .nil))))) (.cons (.setA 0 26 (.att (.att (.loc 0) 31) 26)) .nil)))))⟩
-- Walk.settle : 0 self, 1 len (top), 2 signs_at (top), 3 max (top)
noncomputable def fn41 : FnI := ⟨4, [0], [], (.cons (.whl (.cmp .GtE (.att (.loc 0) 30) (.bi .len (.cons (.att (.att (.loc 0) 31) 24) .nil))) (.cons (.ite (.cmp .GtE (.att (.loc 0) 29) (.mt 9 (.att (.loc 0) 27) .nil)) (.cons (.ret (.tt false)) .nil) .nil) (.cons (.setA 0 29 (.att (.att (.loc 0) 31) 25)) (.cons (.setA 0 30 (.bin .Sub (.att (.loc 0) 30) (.bi .len (.cons (.att (.att (.loc 0) 31) 24) .nil)))) (.cons (.setA 0 31 (.fn 15 (.cons (.att (.loc 0) 27) (.cons (.att (.loc 0) 28) (.cons (.att (.loc 0) 29) .nil))))) (.cons (.setA 0 26 (.bi .max (.cons (.att (.loc 0) 26) (.cons (.att (.att (.loc 0) 31) 26) .nil)))) .nil)))))) (.cons (.ret (.tt true)) .nil))⟩
-- Walk.sign : 0 self
noncomputable def fn42 : FnI := ⟨1, [0], [], (.cons (.ret (.ite (.mt 59 (.loc 0) .nil) (.sub (.att (.att (.loc 0) 31) 24) (.att (.loc 0) 30)) .non)) .nil)⟩
-- Walk.step : 0 self
noncomputable def fn43 : FnI := ⟨1, [0], [], (.cons (.setA 0 30 (.bin .Add (.att (.loc 0) 30) (.int 1))) .nil)⟩
-- Walk.spot : 0 self
noncomputable def fn44 : FnI := ⟨1, [0], [], (.cons (.exp (.mt 59 (.loc 0) .nil)) (.cons (.ret (.tup (.cons (.att (.loc 0) 29) (.cons (.att (.loc 0) 30) .nil)))) .nil))⟩
-- Row.__init__ : 0 self, 1 start, 2 column, 3 BLANK (top)
noncomputable def fn45 : FnI := ⟨4, [0, 1, 2], [], (.cons (.setA 0 32 (.loc 1)) (.cons (.setA 0 13 (.loc 2)) (.cons (.setA 0 9 (.loc 1)) (.cons (.setA 0 33 (.loc 2)) (.cons (.setA 0 34 (.lst .nil)) (.cons (.setA 0 35 (.tt false)) (.cons (.setA 0 36 (.tt false)) (.cons (.setA 0 37 (.tt false)) (.cons (.setA 0 38 (.glob 3)) (.cons (.setA 0 26 (.sub (.loc 1) (.int 0))) .nil))))))))))⟩
-- Row.stop : 0 self, 1 walk, 2 column, 3 max (top)
noncomputable def fn46 : FnI := ⟨4, [0, 1, 2], [], (.cons (.setA 0 9 (.mt 62 (.loc 1) .nil)) (.cons (.setA 0 33 (.loc 2)) (.cons (.setA 0 26 (.bi .max (.cons (.att (.loc 0) 26) (.cons (.att (.loc 1) 26) .nil)))) .nil)))⟩
-- Shown.__init__ : 0 self, 1 left, 2 top, 3 width, 4 height, 5 rows, 6 is_selected
noncomputable def fn47 : FnI := ⟨7, [0, 1, 2, 3, 4, 5, 6], [], (.cons (.setA 0 39 (.loc 1)) (.cons (.setA 0 10 (.loc 2)) (.cons (.setA 0 40 (.loc 3)) (.cons (.setA 0 41 (.loc 4)) (.cons (.setA 0 24 (.loc 5)) (.cons (.setA 0 42 (.loc 6)) (.cons (.setA 0 43 .non) .nil)))))))⟩
-- Shown.has_bar : 0 self, 1 matrix
noncomputable def fn48 : FnI := ⟨2, [0, 1], [], (.cons (.ret (.cmp .Lt (.bin .Add (.att (.loc 0) 39) (.att (.loc 0) 40)) (.att (.loc 1) 40))) .nil)⟩
-- Shown.text_width : 0 self, 1 matrix
noncomputable def fn49 : FnI := ⟨2, [0, 1], [], (.cons (.ret (.ite (.mt 65 (.loc 0) (.cons (.loc 1) .nil)) (.bin .Sub (.att (.loc 0) 40) (.int 1)) (.att (.loc 0) 40))) .nil)⟩
-- Shown.text_height : 0 self
noncomputable def fn50 : FnI := ⟨1, [0], [], (.cons (.ret (.ite (.cmp .Is (.att (.loc 0) 43) .non) (.att (.loc 0) 41) (.bin .Sub (.att (.loc 0) 41) (.int 1)))) .nil)⟩
-- ModeLine.__init__ : 0 self, 1 form, 2 facts, 3 names
noncomputable def fn51 : FnI := ⟨4, [0, 1, 2, 3], [], (.cons (.setA 0 18 (.loc 1)) (.cons (.setA 0 44 (.loc 2)) (.cons (.setA 0 45 (.loc 3)) .nil)))⟩
-- Matrix.__init__ : 0 self, 1 width (cell), 2 height, 3 range (top)
noncomputable def fn52 : FnI := ⟨4, [0, 1, 2], [], (.cons (.setA 0 40 (.loc 1)) (.cons (.setA 0 41 (.loc 2)) (.cons (.setA 0 24 (.comp [none, none, none, some 1] [1] false .range (.loc 2) .non (.bin .Mult (.lst (.cons (.glob 16) .nil)) (.loc 3)))) (.cons (.setA 0 46 (.tup (.cons (.int 0) (.cons (.int 0) .nil)))) .nil))))⟩
-- Matrix.put : 0 self, 1 row, 2 column, 3 cells, 4 own, 5 len (top)
noncomputable def fn53 : FnI := ⟨6, [0, 1, 2, 3], [], (.cons (.asg 4 (.sub (.att (.loc 0) 24) (.loc 1))) (.cons (.setI (.att (.loc 0) 24) (.loc 1) (.bin .Add (.bin .Add (.slc (.loc 4) .non (.loc 2)) (.loc 3)) (.slc (.loc 4) (.bin .Add (.loc 2) (.bi .len (.cons (.loc 3) .nil))) .non))) .nil))⟩
-- Matrix.told : 0 self, 1 tuple (top)
noncomputable def fn54 : FnI := ⟨2, [0], [], (.cons (.ret (.bi .tuple (.cons (.comp [none, none, none] [1] false .of (.att (.loc 0) 24) .non (.bi .tuple (.cons (.loc 1) .nil))) .nil))) .nil)⟩
-- Face.__init__ : 0 self, 1 parts, 2 parents
noncomputable def fn55 : FnI := ⟨3, [0, 1, 2], [.tup []], (.cons (.setA 0 47 (.loc 1)) (.cons (.setA 0 48 (.loc 2)) .nil))⟩
-- FaceTable.__init__ : 0 self, 1 DEFAULT (top), 2 Face (top), 3 PLAIN (top)
noncomputable def fn56 : FnI := ⟨4, [0], [], (.cons (.setA 0 49 (.dc1 (.glob 19) (.cls 12 (.cons (.glob 20) .nil)))) (.cons (.setA 0 50 (.lst (.cons (.glob 20) .nil))) (.cons (.setA 0 51 (.dc1 (.glob 20) (.int 0))) .nil)))⟩
-- FaceTable.define : 0 self, 1 name, 2 face, 3 told, 4 number, 5 look, 6 DEFAULT (top), 7 zip (top), 8 PLAIN (top), 9 Face (top), 10 tuple (top), 11 enumerate (top)
noncomputable def fn57 : FnI := ⟨12, [0, 1, 2], [], (.cons (.ite (.cmp .NotEq (.loc 1) (.glob 19)) (.cons (.setI (.att (.loc 0) 49) (.loc 1) (.loc 2)) (.cons (.ret .non) .nil)) .nil) (.cons (.asg 3 (.zipc (.att (.loc 2) 47) (.glob 20))) (.cons (.setI (.att (.loc 0) 49) (.glob 19) (.cls 12 (.cons (.bi .tuple (.cons (.loc 3) .nil)) .nil))) (.cons (.setI (.att (.loc 0) 50) (.int 0) (.bi .tuple (.cons (.loc 3) .nil))) (.cons (.setA 0 51 (.dc0 false)) (.cons (.for [4, 5] true .enum (.att (.loc 0) 50) .non (.cons (.ite (.cmp .NotIn (.loc 5) (.att (.loc 0) 51)) (.cons (.setI (.att (.loc 0) 51) (.loc 5) (.loc 4)) .nil) .nil) .nil)) .nil))))))⟩
-- FaceTable.merged : 0 self, 1 names, 2 waiting, 3 met, 4 found, 5 name, 6 face, 7 DEFAULT (top), 8 list (top), 9 UNTOLD (top), 10 zip (top), 11 tuple (top)
noncomputable def fn58 : FnI := ⟨12, [0, 1], [], (.cons (.swp [2, 3, 4] (.cons (.bin .Add (.lst (.cons (.glob 19) .nil)) (.rev (.bi .list (.cons (.loc 1) .nil)))) (.cons (.dc0 false) (.cons (.bi .list (.cons (.glob 21) .nil)) .nil)))) (.cons (.whl (.cmp .NotEq (.loc 2) (.lst .nil)) (.cons (.asg 5 (.me .pop (.loc 2) .nil)) (.cons (.ite (.and (.cmp .In (.loc 5) (.att (.loc 0) 49)) (.cmp .NotIn (.loc 5) (.loc 3))) (.cons (.setI (.loc 3) (.loc 5) (.tt true)) (.cons (.asg 6 (.sub (.att (.loc 0) 49) (.loc 5))) (.cons (.asg 4 (.zipc (.loc 4) (.att (.loc 6) 47))) (.cons (.exp (.me .extend (.loc 2) (.cons (.rev (.bi .list (.cons (.att (.loc 6) 48) .nil))) .nil))) .nil)))) .nil) .nil))) (.cons (.ret (.bi .tuple (.cons (.loc 4) .nil))) .nil)))⟩
-- FaceTable.number_of : 0 self, 1 names, 2 look, 3 len (top)
noncomputable def fn59 : FnI := ⟨4, [0, 1], [], (.cons (.ite (.cmp .Eq (.loc 1) (.tup .nil)) (.cons (.ret (.int 0)) .nil) .nil) (.cons (.asg 2 (.mt 69 (.loc 0) (.cons (.loc 1) .nil))) (.cons (.ite (.cmp .NotIn (.loc 2) (.att (.loc 0) 51)) (.cons (.setI (.att (.loc 0) 51) (.loc 2) (.bi .len (.cons (.att (.loc 0) 50) .nil))) (.cons (.exp (.me .append (.att (.loc 0) 50) (.cons (.loc 2) .nil))) .nil)) .nil) (.cons (.ret (.sub (.att (.loc 0) 51) (.loc 2))) .nil))))⟩
noncomputable def Fs : List FnI := [fn0, fn1, fn2, fn3, fn4, fn5, fn6, fn7, fn8, fn9, fn10, fn11, fn12, fn13, fn14, fn15, fn16, fn17, fn18, fn19, fn20, fn21, fn22, fn23, fn24, fn25, fn26, fn27, fn28, fn29, fn30, fn31, fn32, fn33, fn34, fn35, fn36, fn37, fn38, fn39, fn40, fn41, fn42, fn43, fn44, fn45, fn46, fn47, fn48, fn49, fn50, fn51, fn52, fn53, fn54, fn55, fn56, fn57, fn58, fn59]

noncomputable def globsT : List (Str × AV) := [(Str.ofString "NOWHERE", .int (-1)), (Str.ofString "NEWLINE", .int 10), (Str.ofString "TAB", .int 9), (Str.ofString "BLANK", .int 32), (Str.ofString "DELETE", .int 127), (Str.ofString "CARET", .int 94), (Str.ofString "BACKSLASH", .int 92), (Str.ofString "DOLLAR", .int 36), (Str.ofString "POINT", .int 46), (Str.ofString "MOST_PIECES", .int 200), (Str.ofString "PERCENT", .str (Str.ofString "%")), (Str.ofString "FIGURES", .str (Str.ofString "0123456789")), (Str.ofString "MOST_FIGURES", .int 4), (Str.ofString "SHOWN", .int 0), (Str.ofString "POINTS", .int 2), (Str.ofString "BAR", .int 124), (Str.ofString "EMPTY_CELL", .tup [.int 32, .int 0]), (Str.ofString "MODE_LINE", .str (Str.ofString "mode-line")), (Str.ofString "INACTIVE", .str (Str.ofString "mode-line-inactive")), (Str.ofString "DEFAULT", .str (Str.ofString "default")), (Str.ofString "PLAIN", .tup [.int 0, .int 0, .int 0, .int 0, .int 0, .int 0]), (Str.ofString "UNTOLD", .tup [.non, .non, .non, .non, .non, .non])]
noncomputable def fnsT : List (Str × Addr) := [(Str.ofString "law", 731), (Str.ofString "_law_pot", 705), (Str.ofString "_law_dip", 712), (Str.ofString "_law_boxes", 719), (Str.ofString "_law_due", 726), (Str.ofString "is_control", 50), (Str.ofString "is_raw", 57), (Str.ofString "shown_codes", 71), (Str.ofString "told_by", 149), (Str.ofString "field_width", 231), (Str.ofString "told_text", 236), (Str.ofString "told_cells", 248), (Str.ofString "mode_line_cells", 253), (Str.ofString "is_break", 352), (Str.ofString "string_signs", 364), (Str.ofString "signs_at", 376), (Str.ofString "put_sign", 467), (Str.ofString "end_of_line", 474), (Str.ofString "overflow", 481), (Str.ofString "folded_row", 488), (Str.ofString "laid_row", 502), (Str.ofString "laid_rows", 509), (Str.ofString "row_cells", 514), (Str.ofString "put_text", 616), (Str.ofString "put_edges", 623), (Str.ofString "whole", 630), (Str.empty, 36), (Str.empty, 86), (Str.empty, 163), (Str.empty, 205), (Str.empty, 210), (Str.empty, 268), (Str.empty, 275), (Str.empty, 282), (Str.empty, 289), (Str.empty, 296), (Str.empty, 303), (Str.empty, 310), (Str.empty, 317), (Str.empty, 338), (Str.empty, 390), (Str.empty, 397), (Str.empty, 404), (Str.empty, 411), (Str.empty, 418), (Str.empty, 439), (Str.empty, 446), (Str.empty, 529), (Str.empty, 536), (Str.empty, 543), (Str.empty, 550), (Str.empty, 571), (Str.empty, 590), (Str.empty, 597), (Str.empty, 602), (Str.empty, 648), (Str.empty, 669), (Str.empty, 674), (Str.empty, 679), (Str.empty, 686), (Str.empty, 184)]
noncomputable def clsT : List CI := [⟨Str.ofString "Options", 39, 26, [], [0, 1, 2, 3, 4]⟩,
  ⟨Str.ofString "Facts", 89, 27, [], [5, 6, 7, 8, 9, 10, 11, 12, 13, 14, 15, 16, 17]⟩,
  ⟨Str.ofString "Piece", 166, 28, [], [18, 19, 20]⟩,
  ⟨Str.ofString "Fit", 187, 60, [], []⟩,
  ⟨Str.ofString "Told", 220, 29, [(52, 30)], [21]⟩,
  ⟨Str.ofString "View", 320, 31, [(8, 32), (9, 33), (54, 34), (55, 35), (56, 36), (57, 37), (58, 38)], [22, 23]⟩,
  ⟨Str.ofString "Signs", 341, 39, [], [24, 25, 26]⟩,
  ⟨Str.ofString "Walk", 421, 40, [(59, 41), (60, 42), (61, 43), (62, 44)], [27, 28, 29, 30, 31, 26]⟩,
  ⟨Str.ofString "Row", 456, 45, [(63, 46)], [32, 13, 9, 33, 34, 35, 36, 37, 38, 26]⟩,
  ⟨Str.ofString "Shown", 553, 47, [(65, 48), (66, 49), (67, 50)], [39, 10, 40, 41, 24, 42, 43]⟩,
  ⟨Str.ofString "ModeLine", 574, 51, [], [18, 44, 45]⟩,
  ⟨Str.ofString "Matrix", 605, 52, [(52, 53), (68, 54)], [40, 41, 24, 46]⟩,
  ⟨Str.ofString "Face", 651, 55, [], [47, 48]⟩,
  ⟨Str.ofString "FaceTable", 696, 56, [(70, 57), (69, 58), (71, 59)], [49, 50, 51]⟩]
noncomputable def TT : Tab := ⟨globsT, clsT, fnsT, [(166, 187)]⟩

end Np

namespace Np

-- the tables held against the head's objects
noncomputable def atomIn (v : Value) (x : AV) : Bool := match x with
  | .non => (match v with
    | .none => true
    | _ => false)
  | .bool b => (match v with
    | .bool a => a == b
    | _ => false)
  | .int j => (match v with
    | .int i _ => decide (i = j)
    | _ => false)
  | .str y => (match v with
    | .str x _ => decide (x = y)
    | _ => false)
  | _ => false
theorem atomIn_vr {h : Heap} {v : Value} {x : AV} : atomIn v x = true → VR h v x := by
  induction x using AV.casesOn with
  | non => cases v with
    | none => exact fun _ => .non
    | _ => exact Bool.noConfusion
  | bool b => cases v with
    | bool a => exact fun e => by rw [beq_iff_eq.mp e]; exact .bool
    | _ => exact Bool.noConfusion
  | int j => cases v with
    | int i _ => exact fun e => by rw [of_decide_eq_true e]; exact .int
    | _ => exact Bool.noConfusion
  | str y => cases v with
    | str x _ => exact fun e => by rw [of_decide_eq_true e]; exact .str
    | _ => exact Bool.noConfusion
  | _ => exact Bool.noConfusion
noncomputable def atomsIn : List Value → List AV → Bool
  | [], xs => xs.isEmpty
  | v :: vs, xs => match xs with
    | [] => false
    | x :: xs => atomIn v x && atomsIn vs xs
theorem atomsIn_vr {h : Heap} : ∀ {vs xs}, atomsIn vs xs = true → VRs h vs xs
  | [], [], _ => .nil
  | v :: vs, x :: xs, e => .cons (atomIn_vr (b2 e).1) (atomsIn_vr (b2 e).2)
  | [], _ :: _, e => by cases e
  | _ :: _, [], e => by cases e
noncomputable def tupO (o : Obj) (f : List Value → Bool) : Bool := match o with
  | ⟨c, d, dat, sl⟩ => (match c with
    | .type c => decide (c = "tuple")
    | _ => false) && d.isNone && decide (sl.toList = []) && (match dat with
    | .seq items _ => f items.toList
    | _ => false)
theorem tupO_inv {o : Obj} {f} (e : tupO o f = true) : ∃ items n, o = { cls := .type "tuple", data := .seq items n } ∧ f items.toList = true := by
  obtain ⟨c, d, dat, sl⟩ := o
  replace e := b4 e
  obtain ⟨e1, e2, e3, e4⟩ := e
  obtain rfl := isNone_inv e2
  obtain rfl : sl = #[] := Array.toList_eq_nil_iff.mp (of_decide_eq_true e3)
  cases dat with
  | seq items n => cases c with
    | type c => obtain rfl : c = "tuple" := of_decide_eq_true e1; exact ⟨items, n, rfl, e4⟩
    | _ => exact Bool.noConfusion e1
  | _ => exact Bool.noConfusion e4
noncomputable def tupIn (K : Frag) (v : Value) (x : AV) : Bool := match x with
  | .tup l => (match v with
    | .ref a => mS (K.lookup a) fun o => tupO o fun vs => atomsIn vs l
    | _ => false)
  | x => atomIn v x
theorem tupIn_vr {K : Frag} {h : Heap} (hK : K.In h) {v x} (e : tupIn K v x = true) : VR h v x := by
  induction x using AV.casesOn with
  | tup l => cases v with
    | ref a =>
      obtain ⟨o, ho, e⟩ := mS_some e
      obtain ⟨items, n, rfl, e⟩ := tupO_inv e
      exact .tup (n := n) (vs := items.toList) (hK _ _ ho) (atomsIn_vr e)
    | _ => exact Bool.noConfusion e
  | _ => exact atomIn_vr e

noncomputable def globOk (K : Frag) (p : Str × AV) : Bool := mS (nsIn K mainGlobals p.1) fun o => mS o fun v => tupIn K v p.2
theorem globOk_inv {K : Frag} {p : Str × AV} (h : globOk K p = true) : ∃ v, nsIn K mainGlobals p.1 = some (some v) ∧ tupIn K v p.2 = true := by
  obtain ⟨o, h1, h⟩ := mS_some h
  replace h := mS_inv h
  obtain ⟨v, h⟩ := h
  exact ⟨v, h1, h⟩
noncomputable def fnOkT (K : Frag) (p : Str × Addr) : Bool := decide (p.1 = Str.empty) || (keepIn K (.ref p.2) && nsIn K mainGlobals p.1 == some (some (.ref p.2)))

theorem TabOk.mk' {X : Cx} {T : Tab} (hK : X.K.In X.base) (h1 : T.cls.all (clsOk X.K T) = true) (h2 : T.globs.all (globOk X.K) = true) (h3 : T.fns.all (fnOkT X.K) = true)
    (h4 : (T.cls.all fun ci => nsIn X.K mainGlobals ci.name == some (some (.ref ci.addr))) = true) (h5 : (usedBuiltins.all fun x => nsIn X.K mainGlobals x == some none) = true) (h6 : (T.isi.all fun p => isiOk X.K p.1 p.2) = true) : TabOk X T := by
  refine ⟨List.all_eq_true.mp h1, fun p hp => ?_, fun p hp => ?_, fun c hc => beq_iff_eq.mp (List.all_eq_true.mp h4 c hc), fun c hc => beq_iff_eq.mp (List.all_eq_true.mp h5 c hc), List.all_eq_true.mp h6⟩
  · obtain ⟨v, e, z⟩ := globOk_inv (List.all_eq_true.mp h2 p hp)
    exact ⟨v, e, tupIn_vr hK z⟩
  · rcases Bool.or_eq_true_iff.mp (List.all_eq_true.mp h3 p hp) with z | z
    · exact .inl (of_decide_eq_true z)
    · exact .inr ⟨(b2 z).1, beq_iff_eq.mp (b2 z).2⟩

noncomputable def TabHeld (K : Frag) : Prop := (TT.cls.all (clsOk K TT) = true) ∧ (TT.globs.all (globOk K) = true) ∧ (TT.fns.all (fnOkT K) = true)
    ∧ ((TT.cls.all fun ci => nsIn K mainGlobals ci.name == some (some (.ref ci.addr))) = true) ∧ ((usedBuiltins.all fun x => nsIn K mainGlobals x == some none) = true) ∧ ((TT.isi.all fun p => isiOk K p.1 p.2) = true)

end Np

namespace Np

-- the defs held against the head's objects
noncomputable def tupsIn (K : Frag) : List Value → List AV → Bool
  | [], xs => xs.isEmpty
  | v :: vs, xs => match xs with
    | [] => false
    | x :: xs => tupIn K v x && tupsIn K vs xs
theorem tupsIn_vr {K : Frag} {h : Heap} (hK : K.In h) : ∀ {vs xs}, tupsIn K vs xs = true → VRs h vs xs
  | [], [], _ => .nil
  | v :: vs, x :: xs, e => .cons (tupIn_vr hK (b2 e).1) (tupsIn_vr hK (b2 e).2)
  | [], _ :: _, e => by cases e
  | _ :: _, [], e => by cases e
noncomputable def fdBody (fd : FuncData) : List Stmt := match fd.body with
  | .stmts b => b
  | _ => []
noncomputable def isStmts (fd : FuncData) : Bool := match fd.body with
  | .stmts _ => true
  | _ => false
noncomputable def dataF : Data → Option FuncData
  | .func fd => some fd
  | _ => none
noncomputable def fdOf (K : Frag) (a : Addr) : Option FuncData := match K.lookup a with
  | some o => dataF o.data
  | none => none
theorem dataF_inv {d : Data} {fd} : dataF d = some fd → d = .func fd := by
  cases d with
  | func fd => exact fun e => by cases e; rfl
  | _ => exact nofun
theorem fdOf_inv {K : Frag} {a : Addr} {fd} (h : fdOf K a = some fd) : ∃ o, K.lookup a = some o ∧ o.data = .func fd := by
  unfold fdOf at h
  cases e : K.lookup a with
  | none => rw [e] at h; cases h
  | some o => rw [e] at h; exact ⟨o, rfl, dataF_inv h⟩
noncomputable def dvsOf (K : Frag) (v : Value) : List Value := match v with
  | .ref a => match K.lookup a with
    | some ⟨_, _, .seq items _, _⟩ => items.toList
    | _ => []
  | _ => []
noncomputable def nodB (names : List (Str × NameKind)) : Bool := decide (names.map (·.1)).Nodup
noncomputable def pnOf (fd : FuncData) : List Str := fd.params.args.map (·.arg)
noncomputable def fdB (K : Frag) (T : Tab) (F : FnI) (fd : FuncData) : Bool :=
  (isStmts fd && decide (fd.globals = mainGlobals) && fd.closure.isEmpty && decide (fd.builtins = builtinsNs) && codeIn K fd.code fd.qualname && decide (fd.scope.kind = .function)) && (!fd.scope.isCoroutine && !fd.scope.isGenerator &&
    nodB fd.scope.names && fd.scope.names.all (fun x => x.2 != .free) && decide (F.n = fd.scope.names.length) && psOk fd.scope.names F.ps (pnOf fd) && tupsIn K (dvsOf K fd.defaults) F.dflt && css T fd.scope.names F.body (fdBody fd))
noncomputable def binds (K : Frag) (f : Addr) : Prop := ∀ fd, fdOf K f = some fd → ∀ vs, vs.length + (dvsOf K fd.defaults).length = (pnOf fd).length → ∀ S, peek K S (bindArgs fd ⟨vs, []⟩) = some ((pnOf fd).zip (vs ++ dvsOf K fd.defaults))
noncomputable def fnB (K : Frag) (T : Tab) (f : Nat) (F : FnI) : Bool := mS (fdOf K (fnAt T f)) fun fd => fdB K T F fd

theorem nodB_nod {names : List (Str × NameKind)} (h : nodB names = true) : nodupN names := by
  unfold nodB at h; unfold nodupN; exact of_decide_eq_true h
theorem fd_eq {fd : FuncData} (h1 : isStmts fd = true) (h2 : fd.globals = mainGlobals) (h3 : fd.closure = []) (h4 : fd.builtins = builtinsNs) :
    fd = fnOf fd.name fd.qualname fd.params (fdBody fd) fd.scope fd.defaults fd.kwdefaults fd.doc fd.pyModule fd.annotations fd.code fd.closureTuple := by
  obtain ⟨a1, a2, a3, a4, a5, a6, a7, a8, a9, a10, a11, a12, a13, a14, a15⟩ := fd
  dsimp only at h2 h3 h4
  subst h2 h3 h4
  unfold isStmts at h1
  dsimp only at h1
  unfold fdBody
  split at h1
  · rfl
  · cases h1
theorem fnHas_of {X : Cx} {T : Tab} (hK : X.K.In X.base) {f : Nat} {F : FnI} (h : fnB X.K T f F = true) (hb : binds X.K (fnAt T f)) : FnHas X T (Chk T) f F := by
  replace h := mS_some h
  obtain ⟨fd, hfd, h⟩ := h
  replace hb := hb fd hfd
  replace hfd := fdOf_inv hfd
  obtain ⟨⟨oc, od, dat, osl⟩, hl, rfl⟩ := hfd
  replace h := b2 h
  obtain ⟨hA, hB⟩ := h
  replace hA := b6 hA
  obtain ⟨h1, h2, h3, h4, h5, h6⟩ := hA
  replace hB := b8 hB
  obtain ⟨h7, h8, h9, h10, h11, h12, h13, h14⟩ := hB
  have e := fd_eq h1 (of_decide_eq_true h2) (List.isEmpty_iff.mp h3) (of_decide_eq_true h4)
  exact ⟨fd.name, fd.qualname, fd.params, fdBody fd, fd.scope, fd.defaults, fd.kwdefaults, fd.doc, fd.pyModule, fd.code, fd.closureTuple, oc, fd.annotations, od, osl, pnOf fd, dvsOf X.K fd.defaults, e ▸ hl, h5, of_decide_eq_true h6, bnot h7, bnot h8, nodB_nod h9, h10,
    of_decide_eq_true h11, h12, tupsIn_vr hK h13, fun vs hv S => e ▸ hb vs hv S, h14⟩

theorem binds_of {K : Frag} {f : Addr} {k : Nat} (h : (match fdOf K f with | some fd => decide (k + (dvsOf K fd.defaults).length = (pnOf fd).length) | none => true) = true)
    (hb : ∀ vs, vs.length = k → ∀ S, (match fdOf K f with | some fd => peek K S (bindArgs fd ⟨vs, []⟩) | none => none) = (match fdOf K f with | some fd => some ((pnOf fd).zip (vs ++ dvsOf K fd.defaults)) | none => none)) : binds K f := by
  intro fd hfd vs hv S
  rw [hfd] at h
  have h : k + (dvsOf K fd.defaults).length = (pnOf fd).length := of_decide_eq_true h
  have := hb vs (by lia) S
  rw [hfd] at this
  exact this
theorem len1 {Pp : List Value → Prop} (h : ∀ v0, Pp [v0]) : ∀ vs, vs.length = 1 → Pp vs
  | [v0], _ => h v0
  | [], e => by cases e
  | v0 :: v1 :: _, e => by simp only [List.length_cons] at e; lia
theorem len2 {Pp : List Value → Prop} (h : ∀ v0 v1, Pp [v0, v1]) : ∀ vs, vs.length = 2 → Pp vs
  | [v0, v1], _ => h v0 v1
  | [], e => by cases e
  | [v0], e => by cases e
  | v0 :: v1 :: v2 :: _, e => by simp only [List.length_cons] at e; lia
theorem len3 {Pp : List Value → Prop} (h : ∀ v0 v1 v2, Pp [v0, v1, v2]) : ∀ vs, vs.length = 3 → Pp vs
  | [v0, v1, v2], _ => h v0 v1 v2
  | [], e => by cases e
  | [v0], e => by cases e
  | [v0, v1], e => by cases e
  | v0 :: v1 :: v2 :: v3 :: _, e => by simp only [List.length_cons] at e; lia
theorem len4 {Pp : List Value → Prop} (h : ∀ v0 v1 v2 v3, Pp [v0, v1, v2, v3]) : ∀ vs, vs.length = 4 → Pp vs
  | [v0, v1, v2, v3], _ => h v0 v1 v2 v3
  | [], e => by cases e
  | [v0], e => by cases e
  | [v0, v1], e => by cases e
  | [v0, v1, v2], e => by cases e
  | v0 :: v1 :: v2 :: v3 :: v4 :: _, e => by simp only [List.length_cons] at e; lia
theorem len5 {Pp : List Value → Prop} (h : ∀ v0 v1 v2 v3 v4, Pp [v0, v1, v2, v3, v4]) : ∀ vs, vs.length = 5 → Pp vs
  | [v0, v1, v2, v3, v4], _ => h v0 v1 v2 v3 v4
  | [], e => by cases e
  | [v0], e => by cases e
  | [v0, v1], e => by cases e
  | [v0, v1, v2], e => by cases e
  | [v0, v1, v2, v3], e => by cases e
  | v0 :: v1 :: v2 :: v3 :: v4 :: v5 :: _, e => by simp only [List.length_cons] at e; lia
theorem len6 {Pp : List Value → Prop} (h : ∀ v0 v1 v2 v3 v4 v5, Pp [v0, v1, v2, v3, v4, v5]) : ∀ vs, vs.length = 6 → Pp vs
  | [v0, v1, v2, v3, v4, v5], _ => h v0 v1 v2 v3 v4 v5
  | [], e => by cases e
  | [v0], e => by cases e
  | [v0, v1], e => by cases e
  | [v0, v1, v2], e => by cases e
  | [v0, v1, v2, v3], e => by cases e
  | [v0, v1, v2, v3, v4], e => by cases e
  | v0 :: v1 :: v2 :: v3 :: v4 :: v5 :: v6 :: _, e => by simp only [List.length_cons] at e; lia
theorem len7 {Pp : List Value → Prop} (h : ∀ v0 v1 v2 v3 v4 v5 v6, Pp [v0, v1, v2, v3, v4, v5, v6]) : ∀ vs, vs.length = 7 → Pp vs
  | [v0, v1, v2, v3, v4, v5, v6], _ => h v0 v1 v2 v3 v4 v5 v6
  | [], e => by cases e
  | [v0], e => by cases e
  | [v0, v1], e => by cases e
  | [v0, v1, v2], e => by cases e
  | [v0, v1, v2, v3], e => by cases e
  | [v0, v1, v2, v3, v4], e => by cases e
  | [v0, v1, v2, v3, v4, v5], e => by cases e
  | v0 :: v1 :: v2 :: v3 :: v4 :: v5 :: v6 :: v7 :: _, e => by simp only [List.length_cons] at e; lia
theorem len8 {Pp : List Value → Prop} (h : ∀ v0 v1 v2 v3 v4 v5 v6 v7, Pp [v0, v1, v2, v3, v4, v5, v6, v7]) : ∀ vs, vs.length = 8 → Pp vs
  | [v0, v1, v2, v3, v4, v5, v6, v7], _ => h v0 v1 v2 v3 v4 v5 v6 v7
  | [], e => by cases e
  | [v0], e => by cases e
  | [v0, v1], e => by cases e
  | [v0, v1, v2], e => by cases e
  | [v0, v1, v2, v3], e => by cases e
  | [v0, v1, v2, v3, v4], e => by cases e
  | [v0, v1, v2, v3, v4, v5], e => by cases e
  | [v0, v1, v2, v3, v4, v5, v6], e => by cases e
  | v0 :: v1 :: v2 :: v3 :: v4 :: v5 :: v6 :: v7 :: v8 :: _, e => by simp only [List.length_cons] at e; lia

end Np

namespace Np
noncomputable def Upto (P : Nat → Prop) : Nat → Nat → Prop
  | _, 0 => True
  | s, n + 1 => P s ∧ Upto P (s + 1) n
theorem Upto.at {P : Nat → Prop} : ∀ {n s : Nat}, Upto P s n → ∀ {i : Nat}, s ≤ i → i < s + n → P i
  | 0, s, _, i, h1, h2 => absurd h2 (Nat.not_lt.mpr h1)
  | n + 1, s, h, i, h1, h2 => by
    rcases Nat.lt_or_eq_of_le h1 with q | q
    · exact Upto.at h.2 q (by lia)
    · exact q ▸ h.1
noncomputable def fnsB (K : Frag) (T : Tab) : Nat → List FnI → Bool
  | _, [] => true
  | i, F :: r => fnB K T i F && fnsB K T (i + 1) r
theorem fnsB_at {K : Frag} {T : Tab} : ∀ {l : List FnI} {i f : Nat} {F : FnI}, fnsB K T i l = true → l[f]? = some F → fnB K T (i + f) F = true
  | [], _, _, _, _, e => by cases e
  | F :: r, i, 0, _, h, e => by cases e; exact (b2 h).1
  | F :: r, i, f + 1, _, h, e => by
    have := fnsB_at (i := i + 1) (f := f) (b2 h).2 e
    rw [show i + (f + 1) = i + 1 + f by lia]; exact this
noncomputable def BindsHeld (K : Frag) : Prop := Upto (fun f => binds K (fnAt TT f)) 0 60
noncomputable def FnsHeld (K : Frag) : Prop := fnsB K TT 0 Fs = true
theorem fnsHave {X : Cx} (H1 : BindsHeld X.K) (H2 : FnsHeld X.K) (hK : X.K.In X.base) : ∀ f F, Fs[f]? = some F → FnHas X TT (Chk TT) f F := by
  intro f F e
  have hf : f < 60 := by
    have := (List.getElem?_eq_some_iff.mp e).1
    exact this
  have h2 := fnsB_at H2 e
  rw [Nat.zero_add] at h2
  exact fnHas_of hK h2 (H1.at (Nat.zero_le f) (by lia))

end Np

set_option backward.match.sparseCases true
namespace Np

theorem ints_of {h : Heap} {P : Params} : ∀ {vs : List Value} {xs : List WData}, WShape.hasItems [] xs .int = true → WellAll P h vs xs → ∃ l : List Int, l.length = xs.length ∧ ∀ h', VRs h' vs (l.map .int)
  | _, _, _, .nil => ⟨[], rfl, fun _ => .nil⟩
  | _, _, hh, .cons w r => by
    have hh' := hh
    simp only [WShape.hasItems, Bool.and_eq_true] at hh'
    obtain ⟨i, rfl⟩ := hasW_int hh'.1
    obtain ⟨l, h1, h2⟩ := ints_of hh'.2 r
    cases w
    exact ⟨i :: l, by simp [h1], fun h' => .cons .int (h2 h')⟩

theorem pre_len {xs : List WData} (h : PySem.Challenge.rw_np0096_01.row.toRowW.pre.holds [] { args := [.list xs] } = true) : xs.length ≤ 63 := by
  have h : WTm.holds [] (.and (.not (.lt (.lit (.int 63)) (.len (.arg 0)))) (.lit (.bool true))) { args := [.list xs] } = true := h
  by_cases q : xs.length ≤ 63
  · exact q
  · have e : decide ((63 : Int) < xs.length) = true := decide_eq_true (by omega)
    have k : ∀ b : Bool, b = decide ((63 : Int) < xs.length) → b = false := fun b hb => by
      cases b
      · rfl
      · rw [show WTm.holds [] (.and (.not (.lt (.lit (.int 63)) (.len (.arg 0)))) (.lit (.bool true))) { args := [.list xs] } = !decide ((63 : Int) < xs.length) by
          show WTm.holds [] (.and (.not (.lit (.bool (decide ((63 : Int) < xs.length))))) (.lit (.bool true))) { args := [.list xs] } = !decide ((63 : Int) < xs.length)
          rw [e]; rfl, ← hb] at h
        cases h
    exact absurd ((k _ rfl).symm.trans e) Bool.false_ne_true

theorem walked (n : Nat) (hn : n ≤ 40) (law : ∀ (l : List Int), l.length ≤ 63 → ∀ (a : Addr), vW TT Fs n 0 [.ref a] (upd (fun _ => none) a (.fro (l.map .int))) (fun r _ => r = .bool true))
    {q : Program} {loose : List Str} {XP : (Str → Option Value) → Heap → Prop} {K : Params → Frag} {as : List Addr} {e : ∀ P, as = (K P).map (·.1)} {fd : DefRec}
    (hq : importsNone q = true) (hfd : fd.name = Str.ofString "law") (H0 : ∀ P, TabHeld (K P)) (H1 : ∀ P, BindsHeld (K P)) (H2 : ∀ P, FnsHeld (K P)) :
    WalkO q loose XP (kHook K as e).says PySem.Challenge.rw_np0096_01.row.toRowW fd [] (fun f vs => call f vs) := by
  intro w s₀ s₁ mg mb G Y fa o pm cd doc dV kV ho hd hcd hD hmg hg args vals as hpre hlay hrd hwl hlo
  have KX : (K w.params).In s₁.heap := kIn_of Y
  obtain ⟨hp1, hp2⟩ := pre_splitW hpre
  obtain ⟨d, r, rfl, hd1, hd2⟩ := hasAllW_cons hp1
  obtain rfl := hasAllW_nil hd2
  obtain ⟨xs, rfl, hxs⟩ := hasW_list hd1
  have hlen := pre_len hp2
  cases hwl with
  | cons w1 w2 =>
    cases w2
    cases w1 with
    | @list a vs _ hobj hws =>
      obtain ⟨l, hl1, hl2⟩ := ints_of hxs hws
      have T := G.T
      have Gd1 : ∀ X : Cx, X = ⟨w, s₁.heap, s₁.gens, s₁.os, K w.params⟩ → Gd X := by
        rintro _ rfl
        refine ⟨KX, T.g.eq_nsMap ▸ T.g, T.b.eq_nsMap ▸ T.b, fun x hx => T.b.eq_nsMap ▸ T.builtins x hx, T.nolimit, ?_⟩
        obtain ⟨mm, ⟨o, _, _, hm, _⟩, _⟩ := (T.seer hq).mods
        exact ⟨o, hm⟩
      generalize hX : (⟨w, s₁.heap, s₁.gens, s₁.os, K w.params⟩ : Cx) = X at Gd1
      have GX : Gd X := Gd1 X rfl
      have hXw : X.w = w := by rw [← hX]
      have hXK : X.K = K w.params := by rw [← hX]
      have hXb : X.base = s₁.heap := by rw [← hX]
      have hXg : X.gens = s₁.gens := by rw [← hX]
      have hXo : X.os = s₁.os := by rw [← hX]
      obtain ⟨t1, t2, t3, t4, t5, t6⟩ := H0 w.params
      have TO : TabOk X TT := .mk' GX.kin (by rw [hXK]; exact t1) (by rw [hXK]; exact t2) (by rw [hXK]; exact t3) (by rw [hXK]; exact t4) (by rw [hXK]; exact t5) (by rw [hXK]; exact t6)
      have S := sound (Fs := Fs) GX TO (fnsHave (hXK ▸ H1 w.params) (hXK ▸ H2 w.params) GX.kin) n
      have hfa : fa = 731 := by
        have h1 := (TO.fns (Str.ofString "law", 731) (by unfold TT fnsT; exact .head _)).resolve_left (by decide)
        have h2 := mg_of GX.kin GX.glob h1.2
        have h3 : mg = s₁.heap.nsMap mainGlobals := T.g.eq_nsMap
        rw [hXb, ← h3] at h2
        have h4 : mg (Str.ofString "law") = some (.ref fa) := hfd ▸ hmg
        rw [h4] at h2
        cases h2; rfl
      subst hfa
      have R0 : Rel X (fun _ => 0) (upd (fun _ => none) a (.fro (l.map .int))) s₁ := by
        refine ⟨fun b o e => by rw [← hXb]; exact e, fun b o e => ?_, fun b w => ?_, fun x y C C' at_ at' e1 e2 e3 => ?_, fun x C at_ e => ?_, hXg.symm, hXo.symm⟩
        · unfold upd at e
          split at e
          · rename_i hb; subst hb; cases e
            exact ⟨vs, 0, by rw [hXb]; exact hobj, hl2 _⟩
          · cases e
        · rcases w with ⟨o, e, h⟩ | ⟨x, C, at_, e, h⟩ <;> unfold upd at e <;> split at e <;> cases e
          cases h
        · unfold upd at e1; split at e1 <;> cases e1
        · unfold upd at e; split at e <;> cases e
      have Rm : Room callerA (2 * n) := ⟨rfl, by show 1 + claimMargin + 5 * (2 * n) + 10 < recursionLimit; unfold claimMargin recursionLimit; omega, by show 4 + 60 * (2 * n) + 200 < cLine; unfold cLine; omega⟩
      have key := S 0 callerA (fun _ => 0) _ s₁ [.ref a] [.ref a] _ (fun r s' => match r with | .ok (.ret v) => GoodWG PySem.Challenge.rw_np0096_01.row.toRowW.claim (classAt s₀.heap) (ExcName.means s₀.heap) [.list xs] s₁ (.ok (.ret v)) s' | .ok _ => False | .error e => GoodWG PySem.Challenge.rw_np0096_01.row.toRowW.claim (classAt s₀.heap) (ExcName.means s₀.heap) [.list xs] s₁ (.error e) s')
        Rm (by rw [hXb]; exact Nat.le_refl _) R0 (.cons .ref .nil) (law l (by omega) a) fun v s' p => ?_
      · show wpAny (model pg w) callerA (call (.ref 731) [.ref a]) _ _ _
        rw [← hXw]
        exact wpAny_call key
      · obtain ⟨x, D', σ', hv, R', T', rfl⟩ := p
        obtain rfl := hv.bool_inv
        show GoodWG _ _ _ _ _ _ _
        refine ⟨.inl ⟨_, .bool true, [], rfl, fun _ => rfl, .bool _, ?_, fun _ => ⟨List.nodup_nil, nofun⟩⟩, .of_keep fun b o e => R'.base b o (by rw [hXb]; exact e), R'.os.trans hXo, ?_⟩
        · show (WShape.has [] (.bool true) .bool && WTm.holds [] (.eq .res (.lit (.bool true))) _) = true
          kernel_rfl
        · rw [R'.gens, hXg, hg]; exact .of_eq rfl

end Np

set_option backward.match.sparseCases false
namespace Np
noncomputable def thenS (s : IS) : ISs := match s with
  | .ite _ t _ => t
  | _ => .nil
noncomputable def elseS (s : IS) : ISs := match s with
  | .ite _ _ r => r
  | _ => .nil
noncomputable def tailS (l : ISs) : ISs := match l with
  | .cons _ r => r
  | .nil => .nil
noncomputable def onStr (f : Str → AV) (y : AV) : AV := match y with
  | .str z => f z
  | y => y
noncomputable def onInt (f : Int → AV) (y : AV) : AV := match y with
  | .int z => f z
  | y => y
noncomputable def onPair (f : AV → AV) (y : AV) : AV := match y with
  | .tup [c, _] => f c
  | y => y
theorem exW : ∃ W : Nat → Spec, ∀ n, W n = vW TT Fs n := ⟨_, fun _ => rfl⟩
@[irreducible] noncomputable def WW : Nat → Spec := Classical.choose exW
theorem WW_eq (n : Nat) : WW n = vW TT Fs n := by unfold WW; exact Classical.choose_spec exW n
theorem W_at {n f : Nat} {F : FnI} {l : List AV} {σ : ASt} {Q : Post} {ρ : LE} (hf : Fs[f]? = some F) (hb : vbind F.ps (l ++ F.dflt) (List.replicate F.n none) = some ρ)
    (h : vss TT (WW n) F.body ρ σ fun o _ σ => match o with
      | .ret x => Q x σ
      | .next => Q .non σ
      | .cont => False) : WW (n + 1) f l σ Q := by
  rw [WW_eq]
  show (match Fs[f]? with | some F => vfn TT (vW TT Fs n) F l σ Q | none => False)
  rw [hf]
  show (match vbind F.ps (l ++ F.dflt) (List.replicate F.n none) with
    | some ρ => vss TT (vW TT Fs n) F.body ρ σ fun o _ σ => (match o with
      | .ret x => Q x σ
      | .next => Q .non σ
      | .cont => False)
    | none => False)
  rw [hb, ← WW_eq]
  exact h

theorem l_att {σ : ASt} {a C k : Nat} {at_ : List (Nat × AV)} {y : AV} {P : AV → Prop} (h : σ a = some (.inst C at_)) (h1 : TT.attr C k = true) (h2 : aget k at_ = some y) (h3 : y.isVal = false) (q : P y) :
    ∃ C at_ y, σ a = some (.inst C at_) ∧ TT.attr C k = true ∧ aget k at_ = some y ∧ y.isVal = false ∧ P y := ⟨_, _, _, h, h1, h2, h3, q⟩
theorem l_mth {σ : ASt} {a C k f : Nat} {at_ : List (Nat × AV)} {P : Nat → Prop} (h : σ a = some (.inst C at_)) (h1 : aget k at_ = none) (h2 : TT.meth C k = some f) (q : P f) :
    ∃ C at_ f, σ a = some (.inst C at_) ∧ aget k at_ = none ∧ TT.meth C k = some f ∧ P f := ⟨_, _, _, h, h1, h2, q⟩
theorem l_set {σ : ASt} {a C k : Nat} {at_ : List (Nat × AV)} {P : Nat → List (Nat × AV) → Prop} (h : σ a = some (.inst C at_)) (h1 : TT.attr C k = true) (h2 : at_.length ≤ 900) (q : P C at_) :
    ∃ C at_, σ a = some (.inst C at_) ∧ TT.attr C k = true ∧ at_.length ≤ 900 ∧ P C at_ := ⟨_, _, h, h1, h2, q⟩
theorem ex12 {α0 : Type} {P0 P1 : α0 → Prop} {x0 : α0} (h0 : P0 x0) (h1 : P1 x0) : ∃ x0, P0 x0 ∧ P1 x0 := ⟨x0, h0, h1⟩
theorem ex13 {α0 : Type} {P0 P1 P2 : α0 → Prop} {x0 : α0} (h0 : P0 x0) (h1 : P1 x0) (h2 : P2 x0) : ∃ x0, P0 x0 ∧ P1 x0 ∧ P2 x0 := ⟨x0, h0, h1, h2⟩
theorem ex14 {α0 : Type} {P0 P1 P2 P3 : α0 → Prop} {x0 : α0} (h0 : P0 x0) (h1 : P1 x0) (h2 : P2 x0) (h3 : P3 x0) : ∃ x0, P0 x0 ∧ P1 x0 ∧ P2 x0 ∧ P3 x0 := ⟨x0, h0, h1, h2, h3⟩
theorem ex23 {α0 α1 : Type} {P0 P1 P2 : α0 → α1 → Prop} {x0 : α0} {x1 : α1} (h0 : P0 x0 x1) (h1 : P1 x0 x1) (h2 : P2 x0 x1) : ∃ x0 x1, P0 x0 x1 ∧ P1 x0 x1 ∧ P2 x0 x1 := ⟨x0, x1, h0, h1, h2⟩
theorem ex24 {α0 α1 : Type} {P0 P1 P2 P3 : α0 → α1 → Prop} {x0 : α0} {x1 : α1} (h0 : P0 x0 x1) (h1 : P1 x0 x1) (h2 : P2 x0 x1) (h3 : P3 x0 x1) : ∃ x0 x1, P0 x0 x1 ∧ P1 x0 x1 ∧ P2 x0 x1 ∧ P3 x0 x1 := ⟨x0, x1, h0, h1, h2, h3⟩
theorem ex34 {α0 α1 α2 : Type} {P0 P1 P2 P3 : α0 → α1 → α2 → Prop} {x0 : α0} {x1 : α1} {x2 : α2} (h0 : P0 x0 x1 x2) (h1 : P1 x0 x1 x2) (h2 : P2 x0 x1 x2) (h3 : P3 x0 x1 x2) : ∃ x0 x1 x2, P0 x0 x1 x2 ∧ P1 x0 x1 x2 ∧ P2 x0 x1 x2 ∧ P3 x0 x1 x2 := ⟨x0, x1, x2, h0, h1, h2, h3⟩
theorem ex35 {α0 α1 α2 : Type} {P0 P1 P2 P3 P4 : α0 → α1 → α2 → Prop} {x0 : α0} {x1 : α1} {x2 : α2} (h0 : P0 x0 x1 x2) (h1 : P1 x0 x1 x2) (h2 : P2 x0 x1 x2) (h3 : P3 x0 x1 x2) (h4 : P4 x0 x1 x2) : ∃ x0 x1 x2, P0 x0 x1 x2 ∧ P1 x0 x1 x2 ∧ P2 x0 x1 x2 ∧ P3 x0 x1 x2 ∧ P4 x0 x1 x2 := ⟨x0, x1, x2, h0, h1, h2, h3, h4⟩
end Np

namespace Np

-- the plain law: what the parts compute
noncomputable def Ext (σ σ' : ASt) : Prop := ∀ b o, σ b = some o → σ' b = some o
noncomputable def ExtB (S : List Addr) (σ σ' : ASt) : Prop := ∀ b o, b ∉ S → σ b = some o → σ' b = some o

noncomputable def Pot (σ : ASt) (p c : Addr) (cs : List Int) : Prop :=
  σ c = some (.lst (cs.map .int)) ∧ c ≠ p ∧ (∀ x ∈ cs, 0 ≤ x) ∧ cs.length ≤ 48 ∧ ∃ at_ seed : Int, σ p = some (.lst [.ref c, .int at_, .int seed]) ∧ 0 ≤ at_ ∧ 0 ≤ seed ∧ seed ≤ 70000

theorem fm {a b : Int} (h : 0 < b) : 0 ≤ a.fmod b ∧ a.fmod b < b := by
  rw [Int.fmod_eq_emod_of_nonneg _ (Int.le_of_lt h)]
  exact ⟨Int.emod_nonneg _ (by lia), Int.emod_lt_of_pos _ h⟩

theorem sp_dip {n : Nat} {p c : Addr} {cs : List Int} {many : Int} {σ : ASt} {Q : Post} (h : Pot σ p c cs) (hm : 0 < many) (hQ : ∀ r σ', 0 ≤ r → r < many → Pot σ' p c cs → ExtB [p] σ σ' → Q (.int r) σ') : WW (n + 1) 2 [.ref p, .int many] σ Q := by
  refine W_at rfl rfl ?_
  obtain ⟨hc, hcp, hpos, hlen, at_, seed, hp, h1, h2, h3⟩ := h
  refine ex24 hp ⟨by decide, by decide⟩ rfl ?_
  refine ex13 hp ⟨by decide, by decide, by simp⟩ ?_
  have hp2 := upd_self σ p (.lst [.ref c, .int (at_ + 1), .int seed])
  change σ p = _ at hp
  have hs2 : ExtB [p] σ (upd σ p (.lst [.ref c, .int (at_ + 1), .int seed])) := fun b o hb e => by rw [upd_ne (by simpa using hb)]; exact e
  rw [show [AV.ref c, .int at_, .int seed].set (Int.toNat 1) (.int (at_ + 1)) = [.ref c, .int (at_ + 1), .int seed] from rfl]
  generalize upd σ p (.lst [.ref c, .int (at_ + 1), .int seed]) = σ2 at *
  have hc2 : σ2 c = some (.lst (cs.map .int)) := hs2 _ _ (by simpa using hcp) hc
  refine ex24 hp2 ⟨by decide, by decide⟩ rfl ?_
  refine ex13 hc2 (by simp; lia) ?_
  refine ⟨fun h => ?_, fun h => ?_⟩
  · have h := of_decide_eq_true h
    rw [List.length_map] at h
    refine ex24 hp2 ⟨by decide, by decide⟩ rfl ?_
    obtain ⟨k, rfl⟩ := Int.eq_ofNat_of_zero_le h1
    have hk : k < cs.length := by lia
    refine ⟨_, .int cs[k], hc2, ⟨h1, by lia⟩, by rw [List.getElem?_map]; simp [hk], ?_⟩
    refine ⟨by lia, ?_⟩
    exact hQ _ _ ((fm hm).1) ((fm hm).2) ⟨hc2, hcp, hpos, hlen, _, _, hp2, by lia, h2, h3⟩ hs2
  · skip
    refine ex24 hp2 ⟨by decide, by decide⟩ rfl ?_
    refine ⟨?_, ?_⟩
    · exact IntMulOk.of_right (by decide)
    refine ⟨by decide, ?_⟩
    refine ex13 hp2 ⟨by decide, by decide, by simp⟩ ?_
    have h4 := (fm (a := seed * 75 + 74) (show (0 : Int) < 65537 by decide)).1
    have h5 := (fm (a := seed * 75 + 74) (show (0 : Int) < 65537 by decide)).2
    generalize (seed * 75 + 74).fmod 65537 = sd at *
    rw [show [AV.ref c, .int (at_ + 1), .int seed].set (Int.toNat 2) (.int sd) = [.ref c, .int (at_ + 1), .int sd] from rfl]
    have hp3 := upd_self σ2 p (.lst [.ref c, .int (at_ + 1), .int sd])
    have hs3 : ExtB [p] σ2 (upd σ2 p (.lst [.ref c, .int (at_ + 1), .int sd])) := fun b o hb e => by rw [upd_ne (by simpa using hb)]; exact e
    generalize upd σ2 p (.lst [.ref c, .int (at_ + 1), .int sd]) = σ3 at *
    refine ex24 hp3 ⟨by decide, by decide⟩ rfl ?_
    refine ⟨by lia, ?_⟩
    exact hQ _ _ ((fm hm).1) ((fm hm).2) ⟨hs3 _ _ (by simpa using hcp) hc2, hcp, hpos, hlen, _, _, hp3, by lia, h4, by lia⟩ fun b o hb e => hs3 _ _ hb (hs2 _ _ hb e)

end Np

namespace Np

theorem Ext.refl (σ : ASt) : Ext σ σ := fun _ _ e => e
theorem Ext.trans {a b c : ASt} (x : Ext a b) (y : Ext b c) : Ext a c := fun _ _ e => y _ _ (x _ _ e)
theorem Ext.new {σ : ASt} {a : Addr} {o : AO} (h : σ a = none) : Ext σ (upd σ a o) := fun b p e => by
  rw [upd_ne]; exact e
  rintro rfl; rw [h] at e; cases e
theorem Ext.toB {S : List Addr} {a b : ASt} (x : Ext a b) : ExtB S a b := fun _ _ _ e => x _ _ e
theorem ExtB.trans {S : List Addr} {a b c : ASt} (x : ExtB S a b) (y : ExtB S b c) : ExtB S a c := fun _ _ h e => y _ _ h (x _ _ h e)
theorem ExtB.mono {S T : List Addr} {a b : ASt} (h : ∀ x ∈ S, x ∈ T) (x : ExtB S a b) : ExtB T a b := fun _ _ n e => x _ _ (fun q => n (h _ q)) e
theorem ExtB.upd {σ : ASt} {a : Addr} {o : AO} : ExtB [a] σ (upd σ a o) := fun b p h e => by
  rw [upd_ne]; exact e
  simpa using h
theorem upd_upd (σ : ASt) (a : Addr) (o o' : AO) : upd (upd σ a o) a o' = upd σ a o' := by
  funext b; unfold upd; split <;> rfl
theorem ne_of {σ : ASt} {a b : Addr} {o : AO} (h : σ a = none) (e : σ b = some o) : b ≠ a := by
  rintro rfl; rw [h] at e; cases e

section
variable {n : Nat} {σ : ASt} {F : Addr → ASt → Prop}

theorem mk_Options (hQ : ∀ a σ', σ a = none → σ' a = some (.inst 39 [(0, .int 8), (1, .bool true), (2, .bool false), (3, .bool false), (4, .int 0)]) → Ext σ σ' → F a σ') : ∀ a, σ a = none → WW (n + 1) 26 (.ref a :: []) (upd σ a (.inst 39 [])) (fun r σ => r = .non ∧ F a σ) := by
  intro a ha
  refine W_at rfl rfl ?_
  refine l_set (upd_self _ _ _) rfl (Nat.le_of_ble_eq_true rfl) ?_; refine l_set (upd_self _ _ _) rfl (Nat.le_of_ble_eq_true rfl) ?_; refine l_set (upd_self _ _ _) rfl (Nat.le_of_ble_eq_true rfl) ?_; refine l_set (upd_self _ _ _) rfl (Nat.le_of_ble_eq_true rfl) ?_; refine l_set (upd_self _ _ _) rfl (Nat.le_of_ble_eq_true rfl) ?_
  simp only [upd_upd]
  exact ⟨trivial, hQ _ _ ha (upd_self _ _ _) (Ext.new ha)⟩
theorem mk_Facts {name begin_ end_ top bottom line column : AV} (hQ : ∀ a σ', σ a = none → σ' a = some (.inst 89 [(5, name), (6, .str (Str.ofString "")), (7, .str (Str.ofString "Fundamental")), (8, begin_), (9, end_), (10, top), (11, bottom), (12, line), (13, column), (14, .bool false), (15, .bool false), (16, .bool false), (17, .int 0)]) → Ext σ σ' → F a σ') :
    ∀ a, σ a = none → WW (n + 1) 27 (.ref a :: [name, begin_, end_, top, bottom, line, column]) (upd σ a (.inst 89 [])) (fun r σ => r = .non ∧ F a σ) := by
  intro a ha
  refine W_at rfl rfl ?_
  refine l_set (upd_self _ _ _) rfl (Nat.le_of_ble_eq_true rfl) ?_; refine l_set (upd_self _ _ _) rfl (Nat.le_of_ble_eq_true rfl) ?_; refine l_set (upd_self _ _ _) rfl (Nat.le_of_ble_eq_true rfl) ?_; refine l_set (upd_self _ _ _) rfl (Nat.le_of_ble_eq_true rfl) ?_; refine l_set (upd_self _ _ _) rfl (Nat.le_of_ble_eq_true rfl) ?_; refine l_set (upd_self _ _ _) rfl (Nat.le_of_ble_eq_true rfl) ?_; refine l_set (upd_self _ _ _) rfl (Nat.le_of_ble_eq_true rfl) ?_; refine l_set (upd_self _ _ _) rfl (Nat.le_of_ble_eq_true rfl) ?_; refine l_set (upd_self _ _ _) rfl (Nat.le_of_ble_eq_true rfl) ?_; refine l_set (upd_self _ _ _) rfl (Nat.le_of_ble_eq_true rfl) ?_; refine l_set (upd_self _ _ _) rfl (Nat.le_of_ble_eq_true rfl) ?_; refine l_set (upd_self _ _ _) rfl (Nat.le_of_ble_eq_true rfl) ?_; refine l_set (upd_self _ _ _) rfl (Nat.le_of_ble_eq_true rfl) ?_
  simp only [upd_upd]
  exact ⟨trivial, hQ _ _ ha (upd_self _ _ _) (Ext.new ha)⟩
theorem mk_Piece {form faces signs : AV} (hQ : ∀ a σ', σ a = none → σ' a = some (.inst 166 [(18, form), (19, faces), (20, signs)]) → Ext σ σ' → F a σ') :
    ∀ a, σ a = none → WW (n + 1) 28 (.ref a :: [form, faces, signs]) (upd σ a (.inst 166 [])) (fun r σ => r = .non ∧ F a σ) := by
  intro a ha
  refine W_at rfl rfl ?_
  refine l_set (upd_self _ _ _) rfl (Nat.le_of_ble_eq_true rfl) ?_; refine l_set (upd_self _ _ _) rfl (Nat.le_of_ble_eq_true rfl) ?_; refine l_set (upd_self _ _ _) rfl (Nat.le_of_ble_eq_true rfl) ?_
  simp only [upd_upd]
  exact ⟨trivial, hQ _ _ ha (upd_self _ _ _) (Ext.new ha)⟩
theorem mk_View {codes : AV} (hQ : ∀ a σ', σ a = none → σ' a = some (.inst 320 [(22, codes), (23, .int 1)]) → Ext σ σ' → F a σ') :
    ∀ a, σ a = none → WW (n + 1) 31 (.ref a :: [codes]) (upd σ a (.inst 320 [])) (fun r σ => r = .non ∧ F a σ) := by
  intro a ha
  refine W_at rfl rfl ?_
  refine l_set (upd_self _ _ _) rfl (Nat.le_of_ble_eq_true rfl) ?_; refine l_set (upd_self _ _ _) rfl (Nat.le_of_ble_eq_true rfl) ?_
  simp only [upd_upd]
  exact ⟨trivial, hQ _ _ ha (upd_self _ _ _) (Ext.new ha)⟩
theorem mk_Signs {rows after reach : AV} (hQ : ∀ a σ', σ a = none → σ' a = some (.inst 341 [(24, rows), (25, after), (26, reach)]) → Ext σ σ' → F a σ') :
    ∀ a, σ a = none → WW (n + 1) 39 (.ref a :: [rows, after, reach]) (upd σ a (.inst 341 [])) (fun r σ => r = .non ∧ F a σ) := by
  intro a ha
  refine W_at rfl rfl ?_
  refine l_set (upd_self _ _ _) rfl (Nat.le_of_ble_eq_true rfl) ?_; refine l_set (upd_self _ _ _) rfl (Nat.le_of_ble_eq_true rfl) ?_; refine l_set (upd_self _ _ _) rfl (Nat.le_of_ble_eq_true rfl) ?_
  simp only [upd_upd]
  exact ⟨trivial, hQ _ _ ha (upd_self _ _ _) (Ext.new ha)⟩
theorem mk_Shown {left top width height rows sel : AV} (hQ : ∀ a σ', σ a = none → σ' a = some (.inst 553 [(39, left), (10, top), (40, width), (41, height), (24, rows), (42, sel), (43, .non)]) → Ext σ σ' → F a σ') :
    ∀ a, σ a = none → WW (n + 1) 47 (.ref a :: [left, top, width, height, rows, sel]) (upd σ a (.inst 553 [])) (fun r σ => r = .non ∧ F a σ) := by
  intro a ha
  refine W_at rfl rfl ?_
  refine l_set (upd_self _ _ _) rfl (Nat.le_of_ble_eq_true rfl) ?_; refine l_set (upd_self _ _ _) rfl (Nat.le_of_ble_eq_true rfl) ?_; refine l_set (upd_self _ _ _) rfl (Nat.le_of_ble_eq_true rfl) ?_; refine l_set (upd_self _ _ _) rfl (Nat.le_of_ble_eq_true rfl) ?_; refine l_set (upd_self _ _ _) rfl (Nat.le_of_ble_eq_true rfl) ?_; refine l_set (upd_self _ _ _) rfl (Nat.le_of_ble_eq_true rfl) ?_; refine l_set (upd_self _ _ _) rfl (Nat.le_of_ble_eq_true rfl) ?_
  simp only [upd_upd]
  exact ⟨trivial, hQ _ _ ha (upd_self _ _ _) (Ext.new ha)⟩
theorem mk_ModeLine {form facts names : AV} (hQ : ∀ a σ', σ a = none → σ' a = some (.inst 574 [(18, form), (44, facts), (45, names)]) → Ext σ σ' → F a σ') :
    ∀ a, σ a = none → WW (n + 1) 51 (.ref a :: [form, facts, names]) (upd σ a (.inst 574 [])) (fun r σ => r = .non ∧ F a σ) := by
  intro a ha
  refine W_at rfl rfl ?_
  refine l_set (upd_self _ _ _) rfl (Nat.le_of_ble_eq_true rfl) ?_; refine l_set (upd_self _ _ _) rfl (Nat.le_of_ble_eq_true rfl) ?_; refine l_set (upd_self _ _ _) rfl (Nat.le_of_ble_eq_true rfl) ?_
  simp only [upd_upd]
  exact ⟨trivial, hQ _ _ ha (upd_self _ _ _) (Ext.new ha)⟩
theorem mk_Face {parts : AV} (hQ : ∀ a σ', σ a = none → σ' a = some (.inst 651 [(47, parts), (48, .tup [])]) → Ext σ σ' → F a σ') :
    ∀ a, σ a = none → WW (n + 1) 55 (.ref a :: [parts]) (upd σ a (.inst 651 [])) (fun r σ => r = .non ∧ F a σ) := by
  intro a ha
  refine W_at rfl rfl ?_
  refine l_set (upd_self _ _ _) rfl (Nat.le_of_ble_eq_true rfl) ?_; refine l_set (upd_self _ _ _) rfl (Nat.le_of_ble_eq_true rfl) ?_
  simp only [upd_upd]
  exact ⟨trivial, hQ _ _ ha (upd_self _ _ _) (Ext.new ha)⟩
theorem mk_Told (hQ : ∀ a c σ', σ a = none → σ' a = some (.inst 220 [(21, .ref c)]) → σ' c = some (.lst []) → c ≠ a → σ c = none → Ext σ σ' → F a σ') :
    ∀ a, σ a = none → WW (n + 1) 29 (.ref a :: []) (upd σ a (.inst 220 [])) (fun r σ => r = .non ∧ F a σ) := by
  intro a ha
  refine W_at rfl rfl ?_
  refine ⟨by decide, fun c hc => ?_⟩
  have hca : c ≠ a := by rintro rfl; rw [upd_self] at hc; cases hc
  refine ex24 ((upd_ne hca.symm).trans (upd_self _ _ _)) rfl (Nat.le_of_ble_eq_true rfl) ?_
  have hc' : σ c = none := by rw [upd_ne hca] at hc; exact hc
  refine ⟨by trivial, hQ _ c _ ha (upd_self _ _ _) ?_ hca hc' ?_⟩
  · rw [upd_ne hca, upd_self]
  · intro b o e
    rw [upd_ne (ne_of ha e), upd_ne (ne_of hc' e), upd_ne (ne_of ha e)]; exact e
theorem mk_Row {p0 q0 : AV} {column : AV} (hQ : ∀ a g σ', σ a = none → σ' a = some (.inst 456 [(32, .tup [p0, q0]), (13, column), (9, .tup [p0, q0]), (33, column), (34, .ref g), (35, .bool false), (36, .bool false), (37, .bool false), (38, .int 32), (26, p0)]) → σ' g = some (.lst []) → g ≠ a → σ g = none → Ext σ σ' → F a σ') :
    ∀ a, σ a = none → WW (n + 1) 45 (.ref a :: [.tup [p0, q0], column]) (upd σ a (.inst 456 [])) (fun r σ => r = .non ∧ F a σ) := by
  intro a ha
  refine W_at rfl rfl ?_
  refine l_set (upd_self _ _ _) rfl (Nat.le_of_ble_eq_true rfl) ?_; refine l_set (upd_self _ _ _) rfl (Nat.le_of_ble_eq_true rfl) ?_; refine l_set (upd_self _ _ _) rfl (Nat.le_of_ble_eq_true rfl) ?_; refine l_set (upd_self _ _ _) rfl (Nat.le_of_ble_eq_true rfl) ?_
  simp only [upd_upd]
  refine ⟨by decide, fun c hc => ?_⟩
  have hca : c ≠ a := by rintro rfl; rw [upd_self] at hc; cases hc
  have hc' : σ c = none := by rw [upd_ne hca] at hc; exact hc
  refine ex24 ((upd_ne hca.symm).trans (upd_self _ _ _)) rfl (Nat.le_of_ble_eq_true rfl) ?_
  refine l_set (upd_self _ _ _) rfl (Nat.le_of_ble_eq_true rfl) ?_; refine l_set (upd_self _ _ _) rfl (Nat.le_of_ble_eq_true rfl) ?_; refine l_set (upd_self _ _ _) rfl (Nat.le_of_ble_eq_true rfl) ?_; refine l_set (upd_self _ _ _) rfl (Nat.le_of_ble_eq_true rfl) ?_
  refine ex13 ⟨by decide, by decide⟩ rfl ?_
  refine l_set (upd_self _ _ _) rfl (Nat.le_of_ble_eq_true rfl) ?_
  simp only [upd_upd]
  refine ⟨by trivial, hQ _ c _ ha (upd_self _ _ _) ?_ hca hc' ?_⟩
  · rw [upd_ne hca, upd_self]
  · intro b o e
    rw [upd_ne (ne_of ha e), upd_ne (ne_of hc' e), upd_ne (ne_of ha e)]; exact e
end

end Np

namespace Np
section
variable {n : Nat} {σ : ASt} {Q : Post}

-- the view
noncomputable def Vw (σ : ASt) (v L : Addr) (cs : List Int) : Prop := σ v = some (.inst 320 [(22, .ref L), (23, .int 1)]) ∧ σ L = some (.lst (cs.map .int)) ∧ cs.length ≤ 11
theorem Vw.ext {σ' v L cs} (h : Vw σ v L cs) (x : Ext σ σ') : Vw σ' v L cs := ⟨x _ _ h.1, x _ _ h.2.1, h.2.2⟩

theorem sp_begin {v L cs} (h : Vw σ v L cs) (hQ : Q (.int 1) σ) : WW (n + 1) 32 [.ref v] σ Q := by
  refine W_at rfl rfl ?_
  refine l_att (h.1) rfl rfl rfl ?_
  exact hQ
theorem sp_end {v L cs} (h : Vw σ v L cs) (hQ : Q (.int (1 + cs.length)) σ) : WW (n + 1) 33 [.ref v] σ Q := by
  refine W_at rfl rfl ?_
  refine l_att (h.1) rfl rfl rfl ?_
  refine l_att (h.1) rfl rfl rfl ?_
  refine ex13 h.2.1 (by have := h.2.2; simp; lia) ?_
  rw [List.length_map]
  exact hQ
theorem sp_code {v L cs} (h : Vw σ v L cs) {k : Nat} (hk : k < cs.length) (hQ : Q (.int cs[k]) σ) : WW (n + 2) 34 [.ref v, .int (1 + k)] σ Q := by
  refine W_at rfl rfl ?_
  refine l_mth (h.1) rfl rfl ?_
  refine sp_begin h ?_
  refine ⟨fun _ => ?_, fun q => absurd (of_decide_eq_false q) (by lia)⟩
  refine l_mth (h.1) rfl rfl ?_
  refine sp_end h ?_
  refine ⟨fun _ => ?_, fun q => absurd (of_decide_eq_false q) (by lia)⟩
  refine l_att (h.1) rfl rfl rfl ?_
  refine l_att (h.1) rfl rfl rfl ?_
  refine ⟨_, .int cs[k], h.2.1, ?_, ?_, ?_⟩
  · have := h.2.2; lia
  · rw [show ((1 : Int) + k - 1) = k by lia]; simp [hk]
  · exact hQ
theorem sp_faces {v p} (hQ : Q (.tup []) σ) : WW (n + 1) 35 [.ref v, p] σ Q := by
  refine W_at rfl rfl ?_
  exact ⟨by decide, hQ⟩
theorem sp_hidden {v p} (hQ : Q (.int 0) σ) : WW (n + 1) 36 [.ref v, p] σ Q := by
  refine W_at rfl rfl ?_
  exact hQ
theorem sp_shown {v p} (hQ : Q .non σ) : WW (n + 1) 37 [.ref v, p] σ Q := by
  refine W_at rfl rfl ?_
  exact hQ
theorem sp_strings {v p} (hQ : Q (.tup []) σ) : WW (n + 1) 38 [.ref v, p] σ Q := by
  refine W_at rfl rfl ?_
  exact ⟨by decide, hQ⟩

-- a table whose faces are not asked
inductive Tb (σ : ASt) (t : Addr) : Prop
  | mk (at_ : List (Nat × AV)) (a : σ t = some (.inst 696 at_)) (b : aget 71 at_ = none) : Tb σ t
theorem Tb.ext {σ' t} (h : Tb σ t) (x : Ext σ σ') : Tb σ' t := let ⟨at_, a, b⟩ := h; ⟨at_, x _ _ a, b⟩
theorem sp_number0 {t} (hQ : Q (.int 0) σ) : WW (n + 1) 59 [.ref t, .tup []] σ Q := by
  refine W_at rfl rfl ?_
  refine ⟨by decide, ?_⟩
  refine ⟨.tuple [], .tuple [], .tup .nil, .tup .nil, by decide, by decide, ?_⟩
  refine ⟨fun _ => ?_, fun h => absurd h (by decide)⟩
  exact hQ

theorem sp_stringSigns {v L cs t} {p : AV} (h : Vw σ v L cs) (hQ : ∀ f, σ f = none → Q (.ref f) (upd σ f (.lst []))) : WW (n + 2) 14 [.ref v, .ref t, p] σ Q := by
  refine W_at rfl rfl ?_
  refine ⟨by decide, fun f hf => ?_⟩
  refine l_mth (((upd_ne (ne_of hf h.1)).trans h.1)) rfl rfl ?_
  refine sp_strings ?_
  refine ⟨by decide, trivial, ?_⟩
  exact hQ f hf

noncomputable def rowsAt (cs : List Int) (k : Nat) : List AV := match cs[k]? with
  | some c => [.tup [.int c, .int 0, .int (1 + k)]]
  | none => []
noncomputable def afterAt (cs : List Int) (k : Nat) : Int := if k < cs.length then 2 + k else 1 + k

structure Sg (σ : ASt) (s r : Addr) (cs : List Int) (k : Nat) : Prop where
  s : ∃ re : Int, σ s = some (.inst 341 [(24, .ref r), (25, .int (afterAt cs k)), (26, .int re)])
  r : σ r = some (.lst (rowsAt cs k))
theorem Sg.ext {σ' s r cs k} (h : Sg σ s r cs k) (x : Ext σ σ') : Sg σ' s r cs k := ⟨let ⟨re, a⟩ := h.s; ⟨re, x _ _ a⟩, x _ _ h.r⟩

theorem sp_signsAt {v L cs t} (h : Vw σ v L cs) (ht : Tb σ t) {k : Nat} (hk : k ≤ cs.length) (hQ : ∀ s r σ', Sg σ' s r cs k → σ s = none → σ r = none → Ext σ σ' → Q (.ref s) σ') : WW (n + 3) 15 [.ref v, .ref t, .int (1 + k)] σ Q := by
  refine W_at rfl rfl ?_
  refine sp_stringSigns h fun f hf => ?_
  have x1 : Ext σ (upd σ f (.lst [])) := Ext.new hf
  have hf1 : upd σ f (.lst []) f = some (.lst []) := upd_self _ _ _
  generalize upd σ f (.lst []) = σ1 at *
  have h1 := h.ext x1
  refine l_mth (h1.1) rfl rfl ?_
  refine sp_end h1 ?_
  refine ⟨fun q => ?_, fun q => ?_⟩
  · have q := of_decide_eq_true q
    obtain rfl : k = cs.length := by lia
    refine mk_Signs fun s σ2 hs hs2 x2 => ?_
    refine hQ s f σ2 ⟨⟨_, by unfold afterAt; rw [if_neg (Nat.lt_irrefl _)]; exact hs2⟩, ?_⟩ ?_ hf (x1.trans x2)
    · rw [show rowsAt cs cs.length = [] by unfold rowsAt; simp]; exact x2 _ _ hf1
    · cases e : σ s with
      | none => rfl
      | some o => rw [x1 _ _ e] at hs; cases hs
  · have q := of_decide_eq_false q
    have hk : k < cs.length := by lia
    refine l_mth (h1.1) rfl rfl ?_
    refine sp_hidden ?_
    refine ⟨fun z => absurd z (by decide), fun _ => ?_⟩
    refine l_mth (h1.1) rfl rfl ?_
    refine sp_shown ?_
    refine ⟨fun z => (absurd z (by decide)), fun _ => ?_⟩
    obtain ⟨at_, ht1, ht2⟩ := ht.ext x1
    refine ex34 ht1 ht2 rfl ?_
    refine l_mth (h1.1) rfl rfl ?_
    refine sp_faces ?_
    refine sp_number0 ?_
    refine l_mth (h1.1) rfl rfl ?_
    refine sp_code h1 hk ?_
    refine ⟨by simp, by simp, fun g hg => ?_⟩
    have x2 := Ext.new (o := .lst [.tup [.int cs[k], .int 0, .int (1 + k)]]) hg
    have hg1 := upd_self σ1 g (.lst [.tup [.int cs[k], .int 0, .int (1 + k)]])
    generalize upd σ1 g (.lst [.tup [.int cs[k], .int 0, .int (1 + k)]]) = σ2 at *
    refine ex24 (x2 _ _ hf1) hg1 (Nat.le_of_ble_eq_true rfl) (fun r hr => ?_)
    have x3 := Ext.new (o := .lst ([] ++ [.tup [.int cs[k], .int 0, .int (1 + k)]])) hr
    have hr1 := upd_self σ2 r (.lst ([] ++ [.tup [.int cs[k], .int 0, .int (1 + k)]]))
    generalize upd σ2 r (.lst ([] ++ [.tup [.int cs[k], .int 0, .int (1 + k)]])) = σ3 at *
    refine mk_Signs fun s σ4 hs hs2 x4 => ?_
    have fr : ∀ {b}, σ3 b = none → σ b = none := fun {b} hb => by
      cases e : σ b with
      | none => rfl
      | some o => rw [x3 _ _ (x2 _ _ (x1 _ _ e))] at hb; cases hb
    have fr2 : ∀ {b}, σ2 b = none → σ b = none := fun {b} hb => by
      cases e : σ b with
      | none => rfl
      | some o => rw [(x2 _ _ (x1 _ _ e))] at hb; cases hb
    refine hQ s r σ4 ⟨⟨_, by unfold afterAt; rw [if_pos hk]; rw [show (2 : Int) + k = 1 + k + 1 by lia]; exact hs2⟩, ?_⟩ (fr hs) (fr2 hr) (((x1.trans x2).trans x3).trans x4)
    rw [show rowsAt cs k = [.tup [.int cs[k], .int 0, .int (1 + k)]] by unfold rowsAt; simp [hk]]; exact x4 _ _ hr1
end
end Np

namespace Np
section
variable {n : Nat} {σ : ASt} {Q : Post}

theorem Ext.none {σ σ' : ASt} (x : Ext σ σ') {b : Addr} (h : σ' b = none) : σ b = none := by
  cases e : σ b with
  | none => rfl
  | some o => rw [x _ _ e] at h; cases h
theorem ExtB.none {S : List Addr} {σ σ' : ASt} (x : ExtB S σ σ') {b : Addr} (hs : b ∉ S) (h : σ' b = none) : σ b = none := by
  cases e : σ b with
  | none => rfl
  | some o => rw [x _ _ hs e] at h; cases h

-- the walk
inductive Wk (σ : ASt) (w v t : Addr) (cs : List Int) (k : Nat) (num : Int) (r : Addr) : Prop
  | mk (h : Addr) (re : Int) (c : σ w = some (.inst 421 [(27, .ref v), (28, .ref t), (29, .int (1 + k)), (30, .int num), (31, .ref h), (26, .int re)])) (d : Sg σ h r cs k) : Wk σ w v t cs k num r
theorem Wk.ext {σ' w v t cs k num r} (h : Wk σ w v t cs k num r) (x : Ext σ σ') : Wk σ' w v t cs k num r := let ⟨a, b, c, d⟩ := h; ⟨a, b, x _ _ c, d.ext x⟩
theorem Vw.extB {S σ' v L cs} (h : Vw σ v L cs) (x : ExtB S σ σ') (h1 : v ∉ S) (h2 : L ∉ S) : Vw σ' v L cs := ⟨x _ _ h1 h.1, x _ _ h2 h.2.1, h.2.2⟩
theorem Tb.extB {S σ' t} (h : Tb σ t) (x : ExtB S σ σ') (h1 : t ∉ S) : Tb σ' t := let ⟨at_, a, b⟩ := h; ⟨at_, x _ _ h1 a, b⟩
theorem ne_ob {σ : ASt} {a b : Addr} {o p : AO} (h : σ a = some o) (e : σ b = some p) (d : o ≠ p) : a ≠ b := by
  rintro rfl; rw [h] at e; cases e; exact d rfl

noncomputable def AO.tag : AO → Nat
  | .lst _ => 0
  | .dcs _ => 1
  | .dct _ => 2
  | .fro _ => 3
  | .inst C _ => C + 4
theorem ne_ot {σ : ASt} {a b : Addr} {o p : AO} (h : σ a = some o) (e : σ b = some p) (d : Nat.beq o.tag p.tag = false) : a ≠ b := by
  rintro rfl
  rw [h] at e
  cases e
  exact Nat.ne_of_beq_eq_false d rfl

theorem mk_Walk {F : Addr → ASt → Prop} {v L cs t} (h : Vw σ v L cs) (ht : Tb σ t) {k : Nat} (hk : k ≤ cs.length) (hQ : ∀ w r σ', σ w = none → σ r = none → Wk σ' w v t cs k 0 r → Ext σ σ' → F w σ') :
    ∀ a, σ a = none → WW (n + 4) 40 (.ref a :: [.ref v, .ref t, .tup [.int (1 + k), .int 0]]) (upd σ a (.inst 421 [])) (fun r σ => r = .non ∧ F a σ) := by
  intro a ha
  refine W_at rfl rfl ?_
  refine l_set (upd_self _ _ _) rfl (Nat.le_of_ble_eq_true rfl) ?_; refine l_set (upd_self _ _ _) rfl (Nat.le_of_ble_eq_true rfl) ?_; refine l_set (upd_self _ _ _) rfl (Nat.le_of_ble_eq_true rfl) ?_; refine l_set (upd_self _ _ _) rfl (Nat.le_of_ble_eq_true rfl) ?_
  simp only [upd_upd]
  refine l_att (upd_self _ _ _) rfl rfl rfl ?_
  have x1 : ∀ o, Ext σ (upd σ a o) := fun o => Ext.new ha
  refine sp_signsAt (h.ext (x1 _)) (ht.ext (x1 _)) hk fun s r σ' hs hs1 hr1 x => ?_
  have hw := x _ _ (upd_self _ _ _)
  refine ex24 hw rfl (Nat.le_of_ble_eq_true rfl) ?_
  have hsa : s ≠ a := by rintro rfl; rw [upd_self] at hs1; cases hs1
  have hra : r ≠ a := by rintro rfl; rw [upd_self] at hr1; cases hr1
  refine l_att (upd_self _ _ _) rfl rfl rfl ?_
  obtain ⟨re, hre⟩ := hs.s
  refine l_att (((upd_ne hsa).trans hre)) rfl rfl rfl ?_
  refine l_set (upd_self _ _ _) rfl (Nat.le_of_ble_eq_true rfl) ?_
  simp only [upd_upd]
  refine ⟨trivial, hQ a r _ ha ((x1 _).none hr1) ⟨s, re, upd_self _ _ _, ⟨⟨re, (upd_ne hsa).trans hre⟩, (upd_ne hra).trans hs.r⟩⟩ fun b o e => ?_⟩
  have hb : b ≠ a := ne_of ha e
  rw [upd_ne hb]
  exact x _ _ ((upd_ne hb).trans e)

theorem rowsAt_lt {cs : List Int} {k : Nat} (h : k < cs.length) : rowsAt cs k = [.tup [.int cs[k], .int 0, .int (1 + k)]] := by unfold rowsAt; simp [h]
theorem rowsAt_end (cs : List Int) : rowsAt cs cs.length = [] := by unfold rowsAt; simp
theorem afterAt_lt {cs : List Int} {k : Nat} (h : k < cs.length) : afterAt cs k = 1 + ((k + 1 : Nat) : Int) := by unfold afterAt; rw [if_pos h]; omega

theorem sp_settle {w v L cs t k r} (hv : Vw σ v L cs) (ht : Tb σ t) (hk : k ≤ cs.length) {num : Nat} (hn : num = 0 ∨ num = 1 ∧ k < cs.length) (hw : Wk σ w v t cs k num r)
    (hQ : ∀ r' σ', (r' = r ∨ σ r' = none) → Wk σ' w v t cs (k + num) 0 r' → ExtB [w] σ σ' → Q (.bool (decide (k + num < cs.length))) σ') : WW (n + 4) 41 [.ref w] σ Q := by
  refine W_at rfl rfl ?_
  obtain ⟨h, re, hw1, hs⟩ := hw
  obtain ⟨re2, hs1⟩ := hs.s
  refine l_att (hw1) rfl rfl rfl ?_
  refine l_att (hw1) rfl rfl rfl ?_
  refine l_att (hs1) rfl rfl rfl ?_
  have hvw : v ≠ w := ne_ot hv.1 hw1 rfl
  have hLw : L ≠ w := ne_ot hv.2.1 hw1 rfl
  have htw : t ≠ w := by obtain ⟨at_, a, _⟩ := ht; exact ne_ot a hw1 rfl
  refine ex13 hs.r ?_ ?_
  · unfold rowsAt; split <;> simp
  rcases hn with rfl | ⟨rfl, hlt⟩
  · by_cases hlt : k < cs.length
    · rw [rowsAt_lt hlt]
      refine ⟨fun q => absurd (of_decide_eq_true q) (by simp), fun _ => ?_⟩
      have := hQ r σ (.inl rfl) ⟨h, re, hw1, hs⟩ (Ext.refl σ).toB
      rw [decide_eq_true (by omega)] at this
      exact this
    · obtain rfl : k = cs.length := by omega
      rw [rowsAt_end]
      refine ⟨fun _ => ?_, fun q => absurd (of_decide_eq_false q) (by simp)⟩
      refine l_att (hw1) rfl rfl rfl ?_
      refine l_att (hw1) rfl rfl rfl ?_
      refine l_mth (hv.1) rfl rfl ?_
      refine sp_end hv ?_
      refine ⟨fun _ => ?_, fun q => absurd (of_decide_eq_false q) (by omega)⟩
      have := hQ r σ (.inl rfl) ⟨h, re, hw1, hs⟩ (Ext.refl σ).toB
      rw [decide_eq_false (by omega)] at this
      exact this
  · rw [rowsAt_lt hlt]
    refine ⟨fun _ => ?_, fun q => absurd (of_decide_eq_false q) (by simp)⟩
    refine l_att (hw1) rfl rfl rfl ?_
    refine l_att (hw1) rfl rfl rfl ?_
    refine l_mth (hv.1) rfl rfl ?_
    refine sp_end hv ?_
    refine ⟨fun q => absurd (of_decide_eq_true q) (by omega), fun _ => ?_⟩
    refine l_att (hw1) rfl rfl rfl ?_
    refine l_att (hs1) rfl rfl rfl ?_
    refine ex24 hw1 rfl (Nat.le_of_ble_eq_true rfl) ?_
    have hhw : h ≠ w := ne_ot hs1 hw1 rfl
    have hrw : r ≠ w := ne_ot hs.r hw1 rfl
    refine l_att (upd_self _ _ _) rfl rfl rfl ?_
    refine l_att (upd_self _ _ _) rfl rfl rfl ?_
    refine l_att (((upd_ne hhw).trans hs1)) rfl rfl rfl ?_
    refine ex13 ((upd_ne hrw).trans hs.r) ?_ ?_
    · unfold rowsAt; split <;> simp
    refine l_set (upd_self _ _ _) rfl (Nat.le_of_ble_eq_true rfl) ?_
    simp only [upd_upd]
    refine l_att (upd_self _ _ _) rfl rfl rfl ?_
    refine l_att (upd_self _ _ _) rfl rfl rfl ?_
    refine l_att (upd_self _ _ _) rfl rfl rfl ?_
    have xB : ∀ o, ExtB [w] σ (upd σ w o) := fun o => ExtB.upd
    have nw : ∀ {b}, b ≠ w → b ∉ [w] := fun h => by simpa using h
    rw [afterAt_lt hlt]
    refine sp_signsAt (hv.extB (xB _) (nw hvw) (nw hLw)) (ht.extB (xB _) (nw htw)) (show k + 1 ≤ cs.length from hlt) fun s' r' σ' hs' hsn hrn x => ?_
    have hw2 := x _ _ (upd_self _ _ _)
    refine ex24 hw2 rfl (Nat.le_of_ble_eq_true rfl) ?_
    have hsw : s' ≠ w := by rintro rfl; rw [upd_self] at hsn; cases hsn
    have hrw' : r' ≠ w := by rintro rfl; rw [upd_self] at hrn; cases hrn
    obtain ⟨re3, hs3⟩ := hs'.s
    refine l_att (upd_self _ _ _) rfl rfl rfl ?_
    refine l_att (upd_self _ _ _) rfl rfl rfl ?_
    refine l_att (((upd_ne hsw).trans hs3)) rfl rfl rfl ?_
    refine l_set (upd_self _ _ _) rfl (Nat.le_of_ble_eq_true rfl) ?_
    simp only [upd_upd]
    have Wfin : ∀ re4 : Int, Wk (upd σ' w (.inst 421 [(27, .ref v), (28, .ref t), (29, .int (1 + (k + 1 : Nat))), (30, .int 0), (31, .ref s'), (26, .int re4)])) w v t cs (k + 1) 0 r' := fun re4 =>
      ⟨s', re4, upd_self _ _ _, ⟨⟨re3, (upd_ne hsw).trans hs3⟩, (upd_ne hrw').trans hs'.r⟩⟩
    have Xfin : ∀ o, ExtB [w] σ (upd σ' w o) := fun o b p hb e => by
      have hb' : b ≠ w := by simpa using hb
      rw [upd_ne hb']
      exact x _ _ ((upd_ne hb').trans e)
    have hrn' : σ r' = none := (upd_ne hrw').symm.trans hrn
    rw [show ((1 : Nat) : Int) - ((rowsAt cs k).length : Int) = 0 by rw [rowsAt_lt hlt]; rfl]
    have Wf := Wfin (if re3 > re then re3 else re)
    have Xf := Xfin (.inst 421 [(27, .ref v), (28, .ref t), (29, .int (1 + (k + 1 : Nat))), (30, .int 0), (31, .ref s'), (26, .int (if re3 > re then re3 else re))])
    change Wk (upd σ' w (AO.inst 421 (aset 26 (AV.int (if re3 > re then re3 else re)) (aset 31 (AV.ref s') (aset 30 (AV.int 0) (aset 29 (AV.int (1 + ((k + 1 : Nat) : Int))) [(27, AV.ref v), (28, AV.ref t), (29, AV.int (1 + (k : Int))), (30, AV.int ((1 : Nat) : Int)), (31, AV.ref h), (26, AV.int re)])))))) w v t cs (k + 1) 0 r' at Wf
    change ExtB [w] σ (upd σ' w (AO.inst 421 (aset 26 (AV.int (if re3 > re then re3 else re)) (aset 31 (AV.ref s') (aset 30 (AV.int 0) (aset 29 (AV.int (1 + ((k + 1 : Nat) : Int))) [(27, AV.ref v), (28, AV.ref t), (29, AV.int (1 + (k : Int))), (30, AV.int ((1 : Nat) : Int)), (31, AV.ref h), (26, AV.int re)])))))) at Xf
    generalize upd σ' w (AO.inst 421 (aset 26 (AV.int (if re3 > re then re3 else re)) (aset 31 (AV.ref s') (aset 30 (AV.int 0) (aset 29 (AV.int (1 + ((k + 1 : Nat) : Int))) [(27, AV.ref v), (28, AV.ref t), (29, AV.int (1 + (k : Int))), (30, AV.int ((1 : Nat) : Int)), (31, AV.ref h), (26, AV.int re)]))))) = σ2 at *
    have fin := hQ r' σ2 (.inr hrn') Wf Xf
    have hv2 := hv.extB Xf (nw hvw) (nw hLw)
    obtain ⟨h4, re4, hw4, hs4⟩ := Wf
    obtain ⟨re5, hs5⟩ := hs4.s
    refine l_att (hw4) rfl rfl rfl ?_
    refine l_att (hw4) rfl rfl rfl ?_
    refine l_att (hs5) rfl rfl rfl ?_
    refine ex13 hs4.r ?_ ?_
    · unfold rowsAt; split <;> simp
    by_cases hlt2 : k + 1 < cs.length
    · rw [rowsAt_lt hlt2]
      refine ⟨fun q => absurd (of_decide_eq_true q) (by simp), fun _ => ?_⟩
      rw [decide_eq_true hlt2] at fin
      exact fin
    · obtain hk2 : k + 1 = cs.length := by omega
      rw [hk2, rowsAt_end]
      refine ⟨fun _ => ?_, fun q => absurd (of_decide_eq_false q) (by simp)⟩
      refine l_att (hw4) rfl rfl rfl ?_
      refine l_att (hw4) rfl rfl rfl ?_
      refine l_mth (hv2.1) rfl rfl ?_
      refine sp_end hv2 ?_
      refine ⟨fun _ => ?_, fun q => absurd (of_decide_eq_false q) (by omega)⟩
      rw [decide_eq_false hlt2] at fin
      exact fin

theorem sp_sign {w v L cs t k r} (hv : Vw σ v L cs) (ht : Tb σ t) (hk : k ≤ cs.length) {num : Nat} (hn : num = 0 ∨ num = 1 ∧ k < cs.length) (hw : Wk σ w v t cs k num r)
    (hQ : ∀ r' σ', (r' = r ∨ σ r' = none) → Wk σ' w v t cs (k + num) 0 r' → ExtB [w] σ σ' → Q (match cs[k + num]? with | some c => .tup [.int c, .int 0, .int (1 + (k + num : Nat))] | none => .non) σ') : WW (n + 5) 42 [.ref w] σ Q := by
  refine W_at rfl rfl ?_
  have hw' := hw
  obtain ⟨h, re, hw1, hs⟩ := hw'
  refine l_mth (hw1) rfl rfl ?_
  refine sp_settle hv ht hk hn hw fun r' σ' hr' hw2 x => ?_
  have fin := hQ r' σ' hr' hw2 x
  obtain ⟨h2, re2, hw3, hs3⟩ := hw2
  refine ⟨fun q => ?_, fun q => ?_⟩
  · have q := of_decide_eq_true q
    rw [List.getElem?_eq_getElem q] at fin
    refine l_att (hw3) rfl rfl rfl ?_
    obtain ⟨re4, hs4⟩ := hs3.s
    refine l_att (hs4) rfl rfl rfl ?_
    refine l_att (hw3) rfl rfl rfl ?_
    refine ⟨_, _, hs3.r, ⟨by decide, by decide⟩, ?_, fin⟩
    rw [rowsAt_lt q]; rfl
  · have q := of_decide_eq_false q
    rw [List.getElem?_eq_none (by omega)] at fin
    exact fin
theorem sp_step {w v cs t k r} (hw : Wk σ w v t cs k 0 r) (hQ : ∀ σ', Wk σ' w v t cs k 1 r → ExtB [w] σ σ' → Q .non σ') : WW (n + 1) 43 [.ref w] σ Q := by
  refine W_at rfl rfl ?_
  obtain ⟨h, re, hw1, hs⟩ := hw
  refine l_att (hw1) rfl rfl rfl ?_
  obtain ⟨re2, hs1⟩ := hs.s
  have hhw : h ≠ w := ne_ot hs1 hw1 rfl
  have hrw : r ≠ w := ne_ot hs.r hw1 rfl
  refine ex24 hw1 rfl (Nat.le_of_ble_eq_true rfl) ?_
  exact hQ _ ⟨h, re, upd_self _ _ _, ⟨⟨re2, (upd_ne hhw).trans hs1⟩, (upd_ne hrw).trans hs.r⟩⟩ ExtB.upd
theorem sp_spot {w v L cs t k r} (hv : Vw σ v L cs) (ht : Tb σ t) (hk : k ≤ cs.length) {num : Nat} (hn : num = 0 ∨ num = 1 ∧ k < cs.length) (hw : Wk σ w v t cs k num r)
    (hQ : ∀ r' σ', (r' = r ∨ σ r' = none) → Wk σ' w v t cs (k + num) 0 r' → ExtB [w] σ σ' → Q (.tup [.int (1 + (k + num : Nat)), .int 0]) σ') : WW (n + 5) 44 [.ref w] σ Q := by
  refine W_at rfl rfl ?_
  have hw' := hw
  obtain ⟨h, re, hw1, hs⟩ := hw'
  refine l_mth (hw1) rfl rfl ?_
  refine sp_settle hv ht hk hn hw fun r' σ' hr' hw2 x => ?_
  have fin := hQ r' σ' hr' hw2 x
  refine ⟨trivial, ?_⟩
  obtain ⟨h2, re2, hw3, hs3⟩ := hw2
  refine l_att (hw3) rfl rfl rfl ?_
  refine l_att (hw3) rfl rfl rfl ?_
  exact ⟨Nat.le_of_ble_eq_true rfl, fin⟩
end
end Np

namespace Np
section
variable {n : Nat} {σ : ASt} {Q : Post}

-- a row under way
noncomputable def rowO (st c0 en nc : AV) (g : Addr) (b1 b2 : AV) (e : Bool) (m re : Int) : AO :=
  .inst 456 [(32, st), (13, c0), (9, en), (33, nc), (34, .ref g), (35, b1), (36, b2), (37, .bool e), (38, .int m), (26, .int re)]

structure RS (σ : ASt) (v L t w r g : Addr) (cs : List Int) (k num : Nat) (rr : Addr) (gl : List AV) (st c0 en nc b1 b2 : AV) (e : Bool) (m re : Int) : Prop where
  vw : Vw σ v L cs
  tb : Tb σ t
  wk : Wk σ w v t cs k num rr
  gl : σ g = some (.lst gl)
  row : σ r = some (rowO st c0 en nc g b1 b2 e m re)
  Lg : L ≠ g
  rg : rr ≠ g

variable {v L t w r g : Addr} {cs : List Int} {k num : Nat} {rr : Addr} {gl : List AV} {st c0 en nc b1 b2 : AV} {e : Bool} {m re : Int}

theorem RS.walked {σ' : ASt} {k' num' : Nat} {rr' : Addr} (h : RS σ v L t w r g cs k num rr gl st c0 en nc b1 b2 e m re) (hr : rr' = rr ∨ σ rr' = none) (hw : Wk σ' w v t cs k' num' rr') (x : ExtB [w] σ σ') :
    RS σ' v L t w r g cs k' num' rr' gl st c0 en nc b1 b2 e m re := by
  obtain ⟨h1, re1, w1, s1⟩ := h.wk
  obtain ⟨at_, t1, t2⟩ := id h.tb
  have nw : ∀ {b}, b ≠ w → b ∉ [w] := fun h => by simpa using h
  have e1 : v ≠ w := ne_ot h.vw.1 w1 rfl
  have e2 : L ≠ w := ne_ot h.vw.2.1 w1 rfl
  have e3 : t ≠ w := ne_ot t1 w1 rfl
  have e4 : g ≠ w := ne_ot h.gl w1 rfl
  have e5 : r ≠ w := ne_ot h.row w1 rfl
  refine ⟨h.vw.extB x (nw e1) (nw e2), h.tb.extB x (nw e3), hw, x _ _ (nw e4) h.gl, x _ _ (nw e5) h.row, h.Lg, ?_⟩
  rcases hr with rfl | hr
  · exact h.rg
  · rintro rfl; rw [h.gl] at hr; cases hr
theorem RS.rowSet {st' c0' en' nc' b1' b2' : AV} {e' : Bool} {m' re' : Int} (h : RS σ v L t w r g cs k num rr gl st c0 en nc b1 b2 e m re) :
    RS (upd σ r (rowO st' c0' en' nc' g b1' b2' e' m' re')) v L t w r g cs k num rr gl st' c0' en' nc' b1' b2' e' m' re' := by
  obtain ⟨h1, re1, w1, s1⟩ := h.wk
  obtain ⟨re2, s2⟩ := s1.s
  obtain ⟨at_, t1, t2⟩ := h.tb
  have e1 : v ≠ r := ne_ot h.vw.1 h.row rfl
  have e2 : L ≠ r := ne_ot h.vw.2.1 h.row rfl
  have e3 : t ≠ r := ne_ot t1 h.row rfl
  have e4 : g ≠ r := ne_ot h.gl h.row rfl
  have e5 : w ≠ r := ne_ot w1 h.row rfl
  have e6 : h1 ≠ r := ne_ot s2 h.row rfl
  have e7 : rr ≠ r := ne_ot s1.r h.row rfl
  exact ⟨⟨(upd_ne e1).trans h.vw.1, (upd_ne e2).trans h.vw.2.1, h.vw.2.2⟩, ⟨at_, (upd_ne e3).trans t1, t2⟩, ⟨h1, re1, (upd_ne e5).trans w1, ⟨⟨re2, (upd_ne e6).trans s2⟩, (upd_ne e7).trans s1.r⟩⟩,
    (upd_ne e4).trans h.gl, upd_self _ _ _, h.Lg, h.rg⟩
theorem RS.glSet {gl' : List AV} (h : RS σ v L t w r g cs k num rr gl st c0 en nc b1 b2 e m re) :
    RS (upd σ g (.lst gl')) v L t w r g cs k num rr gl' st c0 en nc b1 b2 e m re := by
  obtain ⟨h1, re1, w1, s1⟩ := h.wk
  obtain ⟨re2, s2⟩ := s1.s
  obtain ⟨at_, t1, t2⟩ := h.tb
  have e1 : v ≠ g := ne_ot h.vw.1 h.gl rfl
  have e3 : t ≠ g := ne_ot t1 h.gl rfl
  have e4 : r ≠ g := ne_ot h.row h.gl rfl
  have e5 : w ≠ g := ne_ot w1 h.gl rfl
  have e6 : h1 ≠ g := ne_ot s2 h.gl rfl
  exact ⟨⟨(upd_ne e1).trans h.vw.1, (upd_ne h.Lg).trans h.vw.2.1, h.vw.2.2⟩, ⟨at_, (upd_ne e3).trans t1, t2⟩, ⟨h1, re1, (upd_ne e5).trans w1, ⟨⟨re2, (upd_ne e6).trans s2⟩, (upd_ne h.rg).trans s1.r⟩⟩,
    upd_self _ _ _, (upd_ne e4).trans h.row, h.Lg, h.rg⟩
theorem RS.ext {σ' : ASt} (h : RS σ v L t w r g cs k num rr gl st c0 en nc b1 b2 e m re) (x : Ext σ σ') : RS σ' v L t w r g cs k num rr gl st c0 en nc b1 b2 e m re :=
  ⟨h.vw.ext x, h.tb.ext x, h.wk.ext x, x _ _ h.gl, x _ _ h.row, h.Lg, h.rg⟩

theorem ExtB.upd' {S : List Addr} {σ : ASt} {a : Addr} {o : AO} (h : a ∈ S) : ExtB S σ (Np.upd σ a o) := fun b p hb e => by
  rw [upd_ne]; exact e
  rintro rfl; exact hb h
theorem ExtB.refl (S : List Addr) (σ : ASt) : ExtB S σ σ := fun _ _ _ e => e

theorem sp_stop {col : AV} (h : RS σ v L t w r g cs k num rr gl st c0 en nc b1 b2 e m re) (hk : k ≤ cs.length) (hn : num = 0 ∨ num = 1 ∧ k < cs.length)
    (hQ : ∀ rr' re' σ', RS σ' v L t w r g cs (k + num) 0 rr' gl st c0 (.tup [.int (1 + (k + num : Nat)), .int 0]) col b1 b2 e m re' → ExtB [w, r, g] σ σ' → Q .non σ') : WW (n + 6) 46 [.ref r, .ref w, col] σ Q := by
  refine W_at rfl rfl ?_
  have hwk := h.wk
  obtain ⟨h1, re1, w1, s1⟩ := hwk
  refine l_mth (w1) rfl rfl ?_
  refine sp_spot h.vw h.tb hk hn h.wk fun rr' σ1 hr1 hw1 x1 => ?_
  have H := h.walked hr1 hw1 x1
  refine ex24 H.row rfl (Nat.le_of_ble_eq_true rfl) ?_
  refine l_set (upd_self _ _ _) rfl (Nat.le_of_ble_eq_true rfl) ?_
  simp only [upd_upd]
  refine l_att (upd_self _ _ _) rfl rfl rfl ?_
  obtain ⟨h2, re2, w2, s2⟩ := H.wk
  have e5 : w ≠ r := ne_ot w2 H.row rfl
  refine l_att (((upd_ne e5).trans w2)) rfl rfl rfl ?_
  refine l_set (upd_self _ _ _) rfl (Nat.le_of_ble_eq_true rfl) ?_
  simp only [upd_upd]
  refine hQ rr' _ _ H.rowSet fun b o hb e => ?_
  simp only [List.mem_cons, not_or] at hb
  exact (upd_ne hb.2.1).trans (x1 _ _ (by simpa using hb.1) e)

theorem sp_putSign {q : Addr} {x face pos : AV} {code : AV} (h : RS σ v L t w r g cs k num rr gl st c0 en nc b1 b2 e m re) (hq : σ q = some (.lst [x])) (hqg : q ≠ g) (hl : gl.length ≤ 1000)
    (hQ : ∀ σ', RS σ' v L t w r g cs k num rr (gl ++ [.tup [x, face, pos]]) st c0 en nc b1 b2 e m re → ExtB [w, r, g] σ σ' → Q .non σ') : WW (n + 1) 16 [.ref r, .tup [code, face, pos], .ref q] σ Q := by
  refine W_at rfl rfl ?_
  refine ⟨[x], hq, by simp, hq, ?_⟩
  refine l_att (h.row) rfl rfl rfl ?_
  refine ⟨⟨_, h.gl⟩, ?_⟩
  refine ex13 ⟨by decide, by decide⟩ rfl ?_
  refine ex13 ⟨by decide, by decide⟩ rfl ?_
  refine ⟨Nat.le_of_ble_eq_true rfl, ?_⟩
  refine ex13 h.gl (by rw [sizeLine_eq]; lia) ?_
  refine ⟨trivial, ?_⟩
  refine ⟨(upd_ne hqg).trans hq, ?_⟩
  exact hQ _ h.glSet (ExtB.upd' (by simp))
end
end Np

namespace Np
section
variable {n : Nat} {σ : ASt} {Q : Post}

theorem sp_raw {c : Int} (h1 : c < 127) (hQ : Q (.bool false) σ) : WW (n + 1) 6 [.int c] σ Q := by
  refine W_at rfl rfl ?_
  refine ⟨fun q => absurd (of_decide_eq_true q) (by lia), fun _ => ?_⟩
  exact hQ
theorem sp_control {c : Int} (h0 : 32 ≤ c) (h1 : c < 127) (hQ : Q (.bool false) σ) : WW (n + 1) 5 [.int c] σ Q := by
  refine W_at rfl rfl ?_
  refine ⟨fun _ => ?_, fun q => absurd (of_decide_eq_false q) (by lia)⟩
  refine ⟨fun q => absurd (of_decide_eq_true q) (by lia), fun _ => ?_⟩
  refine ⟨fun q => (by cases q), fun _ => ?_⟩
  have e : (c == 127) = false := by rw [beq_eq_false_iff_ne]; lia
  conv => whnf
  rw [e]
  exact hQ
theorem sp_shownCodes {c : Int} (h0 : 32 ≤ c) (h1 : c < 127) {col : AV} {o : Addr} (hQ : ∀ q, σ q = none → Q (.ref q) (upd σ q (.lst [.int c]))) : WW (n + 2) 7 [.int c, col, .ref o] σ Q := by
  refine W_at rfl rfl ?_
  refine ⟨fun q => absurd (beq_iff_eq.mp q) (by lia), fun _ => ?_⟩
  refine ⟨fun q => absurd (beq_iff_eq.mp q) (by lia), fun _ => ?_⟩
  refine sp_raw h1 ?_
  refine ⟨fun q => (by cases q), fun _ => ?_⟩
  refine sp_control h0 h1 ?_
  refine ⟨fun q => (by cases q), fun _ => ?_⟩
  refine ⟨fun q => (by cases q), fun _ => ?_⟩
  refine sp_control h0 h1 ?_
  refine ⟨fun q => (by cases q), fun _ => ?_⟩
  refine ⟨Nat.le_of_ble_eq_true rfl, fun q hq => ?_⟩
  exact hQ q hq

theorem sp_isBreak {v L cs} (h : Vw σ v L cs) {k : Nat} (hk : k < cs.length) (hQ : ∀ b, Q (.bool b) σ) : WW (n + 3) 13 [.ref v, .int (1 + k)] σ Q := by
  refine W_at rfl rfl ?_
  refine l_mth (h.1) rfl rfl ?_
  refine sp_code h hk ?_
  refine ⟨fun _ => ?_, fun _ => ?_⟩
  · skip
    refine l_mth (h.1) rfl rfl ?_
    refine sp_hidden ?_
    refine ⟨fun _ => ?_, fun q => absurd q (by decide)⟩
    refine l_mth (h.1) rfl rfl ?_
    refine sp_shown ?_
    exact hQ _
  · exact hQ _

variable {v L t w r g : Addr} {cs : List Int} {k num : Nat} {rr : Addr} {gl : List AV} {st c0 en nc b1 b2 : AV} {e : Bool} {m re : Int}

theorem sp_eolEnd {col : AV} (h : RS σ v L t w r g cs k 0 rr gl st c0 en nc b1 b2 e m re) (hk : k ≤ cs.length)
    (hQ : ∀ rr' re' σ' en' nc', RS σ' v L t w r g cs k 0 rr' gl st c0 en' nc' b1 b2 true m re' → ExtB [w, r, g] σ σ' → Q .non σ') : WW (n + 7) 17 [.ref r, .ref w, .non, col] σ Q := by
  refine W_at rfl rfl ?_
  refine ⟨fun _ => ?_, fun q => absurd q (by decide)⟩
  refine ex24 h.row rfl (Nat.le_of_ble_eq_true rfl) ?_
  have H : RS (upd σ r (rowO st c0 en nc g b1 b2 true m re)) v L t w r g cs k 0 rr gl st c0 en nc b1 b2 true m re := h.rowSet
  refine l_mth (upd_self _ _ _) rfl rfl ?_
  refine sp_stop H hk (.inl rfl) fun rr' re' σ' H' x => ?_
  exact ⟨trivial, hQ rr' re' σ' _ _ H' ((ExtB.upd' (by simp)).trans x)⟩

theorem sp_eolNl {col : AV} (h : RS σ v L t w r g cs k 0 rr gl st c0 en nc b1 b2 e m re) (hk : k < cs.length) {c f : AV}
    (hQ : ∀ rr' re' σ' b1' b2', RS σ' v L t w r g cs (k + 1) 0 rr' gl st c0 (.tup [.int (1 + (k + 1 : Nat)), .int 0]) (.int 0) b1' b2' e m re' → ExtB [w, r, g] σ σ' → Q .non σ') : WW (n + 7) 17 [.ref r, .ref w, .tup [c, f, .int (1 + k)], col] σ Q := by
  refine W_at rfl rfl ?_
  refine ⟨fun q => absurd (show false = true from q) (by decide), fun _ => ?_⟩
  have hwk := h.wk
  obtain ⟨h1, re1, w1, s1⟩ := hwk
  refine l_mth (w1) rfl rfl ?_
  refine sp_step h.wk fun σ1 hw1 x1 => ?_
  have H := h.walked (num' := 1) (.inl rfl) hw1 x1
  refine ⟨trivial, ?_⟩
  refine ex24 H.row rfl (Nat.le_of_ble_eq_true rfl) ?_
  have H2 : RS (upd σ1 r (rowO st c0 en nc g (.bool true) b2 e m re)) v L t w r g cs k 1 rr gl st c0 en nc (.bool true) b2 e m re := H.rowSet
  have x2 : ExtB [w, r, g] σ (upd σ1 r (rowO st c0 en nc g (.bool true) b2 e m re)) := (x1.mono (by simp)).trans (ExtB.upd' (by simp))
  change vss TT (WW (n + 6)) _ _ (upd σ1 r (rowO st c0 en nc g (.bool true) b2 e m re)) _
  generalize upd σ1 r (rowO st c0 en nc g (.bool true) b2 e m re) = σ2 at *
  have more : ∀ b : Bool, ∃ C at_, σ2 r = some (.inst C at_) ∧ TT.attr C 36 = true ∧ at_.length ≤ 900 ∧ (fun σ => vss TT (WW (n + 6)) (.cons (.exp (.mt 63 (.loc 0) (.cons (.loc 1) (.cons (.int 0) .nil)))) .nil) [some (.ref r), some (.ref w), some (.tup [c, f, .int (1 + k)]), some col, none, none] σ fun o _ σ => match o with
      | .ret x => Q x σ
      | .next => Q .non σ
      | .cont => False) (upd σ2 r (.inst C (aset 36 (.bool b) at_))) := fun b => by
    refine ex24 H2.row rfl (Nat.le_of_ble_eq_true rfl) ?_
    have H3 : RS (upd σ2 r (rowO st c0 en nc g (.bool true) (.bool b) e m re)) v L t w r g cs k 1 rr gl st c0 en nc (.bool true) (.bool b) e m re := H2.rowSet
    refine l_mth (upd_self _ _ _) rfl rfl ?_
    refine sp_stop H3 (Nat.le_of_lt hk) (.inr ⟨rfl, hk⟩) fun rr' re' σ' H' x => ?_
    exact ⟨trivial, hQ rr' re' σ' _ _ H' ((x2.trans (ExtB.upd' (by simp))).trans x)⟩
  refine ex13 ⟨by decide, by decide⟩ rfl ?_
  refine ⟨fun _ => ?_, fun _ => ?_⟩
  · skip
    obtain ⟨h3, re3, w3, s3⟩ := H2.wk
    refine l_att (w3) rfl rfl rfl ?_
    refine ex13 ⟨by decide, by decide⟩ rfl ?_
    refine sp_isBreak H2.vw hk fun b => ?_
    exact more b
  · skip
    exact more false

theorem sp_overflow {col : AV} {q : Addr} {c p : Int} (h : RS σ v L t w r g cs k 0 rr gl st c0 en nc b1 b2 e m re) (hk : k ≤ cs.length) (hl : 0 < gl.length) (hl2 : gl.length ≤ 1000) (hc : 32 ≤ c) {room : Int}
    (hQ : ∀ rr' re' σ', RS σ' v L t w r g cs k 0 rr' gl st c0 (.tup [.int (1 + (k : Nat)), .int 0]) col b1 b2 e m re' → ExtB [w, r, g] σ σ' → Q .non σ') : WW (n + 7) 18 [.ref r, .ref w, .tup [.int c, .int 0, .int p], .ref q, col, .int room, .non] σ Q := by
  refine W_at rfl rfl ?_
  refine l_att (h.row) rfl rfl rfl ?_
  refine ex13 h.gl (by lia) ?_
  refine ex13 ⟨by decide, by decide⟩ rfl ?_
  refine ⟨fun z => absurd (beq_iff_eq.mp z) (by lia), fun _ => ?_⟩
  refine ⟨fun z => absurd z (by decide), fun _ => ?_⟩
  refine ⟨fun z => absurd (beq_iff_eq.mp z) (by lia), fun _ => ?_⟩
  refine l_mth (h.row) rfl rfl ?_
  refine sp_stop h hk (.inl rfl) fun rr' re' σ' H' x => ?_
  refine ⟨trivial, ?_⟩
  refine ⟨fun z => absurd z (by decide), fun _ => ?_⟩
  exact hQ rr' re' σ' H' x
end
end Np

namespace Np

-- what the rows of a text are
noncomputable def lay (room : Nat) : List Int → List Int → List (List Int × Int)
  | line, [] => [(line, 32)]
  | line, c :: r => if c = 10 then (line, 32) :: lay room [] r else if line.length = room then (line, 92) :: lay room [c] r else lay room (line ++ [c]) r

theorem lay_nil (room : Nat) (line : List Int) : lay room line [] = [(line, 32)] := rfl
theorem lay_nl (room : Nat) (line r : List Int) : lay room line (10 :: r) = (line, 32) :: lay room [] r := rfl
theorem lay_full {room : Nat} {line : List Int} {c : Int} (r : List Int) (h : c ≠ 10) (hl : line.length = room) : lay room line (c :: r) = (line, 92) :: lay room [c] r := by
  rw [show lay room line (c :: r) = if c = 10 then (line, 32) :: lay room [] r else if line.length = room then (line, 92) :: lay room [c] r else lay room (line ++ [c]) r from rfl, if_neg h, if_pos hl]
theorem lay_more {room : Nat} {line : List Int} {c : Int} (r : List Int) (h : c ≠ 10) (hl : line.length ≠ room) : lay room line (c :: r) = lay room (line ++ [c]) r := by
  rw [show lay room line (c :: r) = if c = 10 then (line, 32) :: lay room [] r else if line.length = room then (line, 92) :: lay room [c] r else lay room (line ++ [c]) r from rfl, if_neg h, if_neg hl]

noncomputable def GlOk : List AV → List Int → Prop
  | [], [] => True
  | g :: gs, c :: cs => (∃ p : Int, g = .tup [.int c, .int 0, .int p]) ∧ GlOk gs cs
  | _, _ => False
theorem GlOk.snoc {c p : Int} : ∀ {gs cs}, GlOk gs cs → GlOk (gs ++ [.tup [.int c, .int 0, .int p]]) (cs ++ [c])
  | [], [], _ => ⟨⟨p, rfl⟩, trivial⟩
  | _ :: _, _ :: _, h => ⟨h.1, h.2.snoc⟩
  | [], _ :: _, h => h.elim
  | _ :: _, [], h => h.elim
theorem GlOk.len : ∀ {gs cs}, GlOk gs cs → gs.length = cs.length
  | [], [], _ => rfl
  | _ :: _, _ :: _, h => by simp [h.2.len]
  | [], _ :: _, h => h.elim
  | _ :: _, [], h => h.elim

noncomputable def nthS : ISs → Nat → IS
  | .nil, _ => .dead
  | .cons a _, 0 => a
  | .cons _ l, n + 1 => nthS l n
noncomputable def bodyOf : IS → ISs
  | .whl _ b => b
  | .for _ _ _ _ _ b => b
  | _ => .nil

noncomputable def Op (σ : ASt) (o : Addr) : Prop := σ o = some (.inst 39 [(0, .int 8), (1, .bool true), (2, .bool false), (3, .bool false), (4, .int 0)])

section
variable {n : Nat} {Q : Post} {v L t w r g o : Addr} {cs : List Int} {st c0 : AV}

noncomputable def foldEnv (v t : Addr) (spot : Option AV) (col : Int) (width : Option AV) (o w : Addr) (room : Int) (r : Addr) (x10 x11 : Option AV) : LE :=
  [some (.ref v), some (.ref t), spot, some (.int col), width, some (.ref o), some (.ref w), some (.int room), some .non, some (.ref r), x10, x11, none, none, none, none, none, none, none, none, none, none, none]

theorem fold_loop {room : Nat} (hr : 1 ≤ room) (hr2 : room ≤ 100) (hcs : ∀ c ∈ cs, c = 10 ∨ 32 ≤ c ∧ c < 127) {spot width : Option AV} {K : PostS} : ∀ (fuel k num : Nat) (line : List Int) (gl : List AV) (col : Int) (σ : ASt) (x10 x11 : Option AV) (rr : Addr) (en nc b1 b2 : AV) (re : Int),
    RS σ v L t w r g cs k num rr gl st c0 en nc b1 b2 false 32 re → Op σ o → GlOk gl line → line.length ≤ room → k ≤ cs.length → (num = 0 ∨ num = 1 ∧ k < cs.length) → cs.length - (k + num) < fuel →
    (∀ line' mark isEnd k' gl' en' nc' b1' b2' re' σ' ρ', lay room line (cs.drop (k + num)) = (line', mark) :: (if isEnd = true then [] else lay room [] (cs.drop k')) → k' ≤ cs.length → σ' r = some (rowO st c0 en' nc' g b1' b2' isEnd mark re') →
      (isEnd = false → en' = .tup [.int (1 + (k' : Nat)), .int 0] ∧ ∃ c' : Int, nc' = .int c') → σ' g = some (.lst gl') → GlOk gl' line' → ExtB [w, r, g] σ σ' → K (.ret (.ref r)) ρ' σ') →
    vwh (fun ρ σ Q => ve TT (WW (n + 7)) (.tt true) ρ σ Q) (fun ρ σ K => vss TT (WW (n + 7)) (bodyOf (nthS fn19.body 2)) ρ σ K) fuel (foldEnv v t spot col width o w room r x10 x11) σ K := by
  intro fuel
  induction fuel with
  | zero => intro k num line gl col σ x10 x11 rr en nc b1 b2 re h ho hg hl hk hn hf; lia
  | succ fuel ih =>
    intro k num line gl col σ x10 x11 rr en nc b1 b2 re h ho hg hl hk hn hf hK
    refine ⟨fun _ => ?_, fun q => absurd q (by decide)⟩
    have hwk := h.wk
    obtain ⟨h1, re1, w1, s1⟩ := hwk
    refine l_mth (w1) rfl rfl ?_
    refine sp_sign h.vw h.tb hk hn h.wk fun rr1 σ1 hr1 hw1 x1 => ?_
    have H := h.walked (num' := 0) hr1 hw1 x1
    have hkn : k + num ≤ cs.length := by lia
    have how : o ≠ w := ne_ot ho w1 rfl
    have hor : o ≠ r := ne_ot ho h.row rfl
    have hog : o ≠ g := ne_ot ho h.gl rfl
    have ho1 : Op σ1 o := x1 _ _ (by simpa using how) ho
    have nin : o ∉ [w, r, g] := by simp [how, hor, hog]
    have X1 : ExtB [w, r, g] σ σ1 := x1.mono (by simp)
    generalize hkk : k + num = kk at *
    by_cases hend : kk < cs.length
    · rw [List.getElem?_eq_getElem hend]
      have hdrop : cs.drop kk = cs[kk] :: cs.drop (kk + 1) := List.drop_eq_getElem_cons hend
      have hc := hcs cs[kk] (List.getElem_mem hend)
      generalize hcv : cs[kk] = c at *
      refine ⟨fun q => absurd (show false = true from q) (by decide), fun _ => ?_⟩
      refine ex13 ⟨by decide, by decide⟩ rfl ?_
      refine ⟨fun q => ?_, fun q => ?_⟩
      · obtain rfl := beq_iff_eq.mp q
        refine sp_eolNl H hend fun rr' re' σ' b1' b2' H' x => ?_
        refine ⟨trivial, ?_⟩
        refine hK line 32 false (kk + 1) gl _ _ _ _ _ _ _ ?_ hend H'.row (fun _ => ⟨rfl, _, rfl⟩) H'.gl hg (X1.trans x)
        rw [hdrop, lay_nl]; rfl
      · have hc10 : c ≠ 10 := by simpa using q
        obtain ⟨c1, c2⟩ := hc.resolve_left hc10
        refine ex13 ⟨by decide, by decide⟩ rfl ?_
        refine sp_shownCodes c1 c2 fun q hq => ?_
        have x2 : Ext σ1 (upd σ1 q (.lst [.int c])) := Ext.new hq
        have hq1 := upd_self σ1 q (.lst [.int c])
        have hqg : q ≠ g := fun z => by (subst z; rw [H.gl] at hq; cases hq)
        generalize upd σ1 q (.lst [.int c]) = σ2 at *
        have H2 := H.ext x2
        have ho2 : Op σ2 o := x2 _ _ ho1
        refine l_att (H2.row) rfl rfl rfl ?_
        refine ex13 H2.gl (by have := hg.len; lia) ?_
        refine ex13 hq1 (by simp) ?_
        have hlen := hg.len
        refine ⟨fun z => ?_, fun z => ?_⟩
        · have z := of_decide_eq_true z
          have hroom : line.length = room := by simp at z; lia
          refine sp_overflow H2 hkn (by lia) (by lia) c1 fun rr' re' σ' H' x => ?_
          refine ⟨trivial, ?_⟩
          have ho3 : Op σ' o := x _ _ nin ho2
          refine l_att (ho3) rfl rfl rfl ?_
          refine ⟨fun z => absurd z (by decide), fun _ => ?_⟩
          refine ex24 H'.row rfl (Nat.le_of_ble_eq_true rfl) ?_
          refine hK line 92 false kk gl _ _ _ _ _ _ _ ?_ hkn (upd_self _ _ _) (fun _ => ⟨rfl, _, rfl⟩) ((upd_ne (ne_ot H'.gl H'.row rfl)).trans H'.gl) hg (((X1.trans x2.toB).trans x).trans (ExtB.upd' (by simp)))
          rw [hdrop]
          rw [lay_full _ hc10 hroom, lay_more _ hc10 (show ([] : List Int).length ≠ room by simp; lia)]
          rfl
        · have z := of_decide_eq_false z
          have hroom : line.length < room := by simp at z; lia
          refine sp_putSign H2 hq1 hqg (by lia) fun σ3 H3 x3 => ?_
          refine ⟨trivial, ?_⟩
          refine ⟨_, (x3 _ _ (by
            obtain ⟨h4, re4, w4, s4⟩ := H2.wk
            have e1 : q ≠ w := ne_ot hq1 w4 rfl
            have e2 : q ≠ r := ne_ot hq1 H2.row rfl
            simp [e1, e2, hqg]) hq1), by simp, ?_⟩
          obtain ⟨h5, re5, w5, s5⟩ := H3.wk
          refine l_mth (w5) rfl rfl ?_
          refine sp_step H3.wk fun σ4 hw4 x4 => ?_
          have H4 := H3.walked (num' := 1) (.inl rfl) hw4 x4
          refine ⟨trivial, ?_⟩
          have ho4 : Op σ4 o := x4 _ _ (by simpa using how) (x3 _ _ nin ho2)
          refine l_att (ho4) rfl rfl rfl ?_
          refine ⟨fun z => absurd z (by decide), fun _ => ?_⟩
          refine ⟨fun z => absurd z (by decide), fun _ => ?_⟩
          have X4 : ExtB [w, r, g] σ σ4 := ((X1.trans x2.toB).trans x3).trans (x4.mono (by simp))
          refine ih kk 1 (line ++ [c]) _ _ σ4 _ _ _ _ _ _ _ _ H4 ho4 hg.snoc (by simp; lia) hkn (.inr ⟨rfl, hend⟩) (by lia) fun line' mark isEnd k' gl' en' nc' b1' b2' re' σ' ρ' q1 q2 q3 q4 q5 q6 q7 => ?_
          refine hK line' mark isEnd k' gl' en' nc' b1' b2' re' σ' ρ' ?_ q2 q3 q4 q5 q6 (X4.trans q7)
          rw [hdrop, lay_more _ hc10 (by lia)]
          exact q1
    · obtain rfl : kk = cs.length := by lia
      rw [List.getElem?_eq_none (Nat.le_refl _)]
      refine ⟨fun _ => ?_, fun q => absurd (show true = false from q) (by decide)⟩
      refine ⟨fun _ => ?_, fun q => absurd (show true = false from q) (by decide)⟩
      refine sp_eolEnd H hkn fun rr' re' σ' en' nc' H' x => ?_
      refine ⟨trivial, ?_⟩
      refine hK line 32 true cs.length gl _ _ _ _ _ _ _ ?_ (Nat.le_refl _) H'.row (fun z => by cases z) H'.gl hg (X1.trans x)
      rw [List.drop_length, lay_nil]; rfl

theorem sp_folded {σ : ASt} {k : Nat} (hv : Vw σ v L cs) (ht : Tb σ t) (ho : Op σ o) (hk : k ≤ cs.length) (hcs : ∀ c ∈ cs, c = 10 ∨ 32 ≤ c ∧ c < 127) {room : Nat} (hro : 1 ≤ room) (hro2 : room ≤ 100) {col : Int}
    (hQ : ∀ r g line mark isEnd k' gl' en' nc' st c0 b1' b2' re' σ', lay room [] (cs.drop k) = (line, mark) :: (if isEnd = true then [] else lay room [] (cs.drop k')) → k' ≤ cs.length → σ' r = some (rowO st c0 en' nc' g b1' b2' isEnd mark re') →
      (isEnd = false → en' = .tup [.int (1 + (k' : Nat)), .int 0] ∧ ∃ c' : Int, nc' = .int c') → σ' g = some (.lst gl') → GlOk gl' line → σ r = none → σ g = none → Ext σ σ' → Q (.ref r) σ') : WW (n + 8) 19 [.ref v, .ref t, .tup [.int (1 + k), .int 0], .int col, .int (room + 1), .ref o] σ Q := by
  refine W_at rfl rfl ?_
  refine mk_Walk (n := n + 3) hv ht hk fun w rr σ1 hw hrr hwk x1 => ?_
  refine ⟨Nat.le_of_ble_eq_true rfl, ?_⟩
  have hv1 := hv.ext x1
  have ht1 := ht.ext x1
  have hwk' := hwk
  obtain ⟨h1, re1, w1, s1⟩ := hwk'
  refine l_mth (w1) rfl rfl ?_
  refine sp_spot hv1 ht1 hk (num := 0) (.inl rfl) hwk fun rr1 σ2 hr1 hwk2 x2 => ?_
  refine mk_Row fun r g σ3 hr hrow hg hgr hgn x3 => ?_
  have nw : ∀ {b ob}, σ b = some ob → b ∉ [w] := fun e => by simpa using ne_of hw e
  have X : Ext σ σ3 := fun b ob e => x3 _ _ (x2 _ _ (nw e) (x1 _ _ e))
  have hg2 : g ≠ w := fun z => by subst z; obtain ⟨_, _, z, _⟩ := hwk2; rw [hgn] at z; cases z
  have hg0 : σ g = none := x1.none (x2.none (by simpa using hg2) hgn)
  have hr2' : r ≠ w := fun z => by subst z; obtain ⟨_, _, z, _⟩ := hwk2; rw [hr] at z; cases z
  have hr0 : σ r = none := x1.none (x2.none (by simpa using hr2') hr)
  have H : RS σ3 v L t w r g cs k 0 rr1 [] (.tup [.int (1 + (k : Nat)), .int 0]) (.int col) (.tup [.int (1 + (k : Nat)), .int 0]) (.int col) (.bool false) (.bool false) false 32 (1 + (k : Nat)) := by
    refine ⟨hv.ext X, ht.ext X, hwk2.ext x3, hg, hrow, ?_, ?_⟩
    · exact fun z => by subst z; rw [hv.2.1] at hg0; cases hg0
    · rintro rfl
      obtain ⟨_, _, _, z⟩ := hwk2
      have := z.r
      rw [hgn] at this; cases this
  rw [show ((room : Nat) : Int) + 1 - 1 = room by lia]
  refine (fold_loop (spot := _) (width := _) hro hro2 hcs 100 k 0 [] [] col σ3 none none rr1 _ _ _ _ _ H (X _ _ ho) trivial (Nat.zero_le _) hk (.inl rfl) (by have := hv.2.2; lia) fun line' mark isEnd k' gl' en' nc' b1' b2' re' σ' ρ' q1 q2 q3 q4 q5 q6 q7 => ?_)
  refine hQ r g line' mark isEnd k' gl' en' nc' _ _ b1' b2' re' σ' q1 q2 q3 q4 q5 q6 hr0 hg0 fun b ob e => q7 _ _ ?_ (X _ _ e)
  have e1 : b ≠ w := ne_of hw e
  have e2 : b ≠ r := ne_of hr0 e
  have e3 : b ≠ g := ne_of hg0 e
  simp [e1, e2, e3]
end
end Np

namespace Np

inductive RowOk (σ : ASt) (S : List Addr) (r : Addr) (p : List Int × Int) : Prop
  | mk (st c0 en nc : AV) (g : Addr) (b1 b2 : AV) (e : Bool) (re : Int) (gl : List AV) (h1 : σ r = some (rowO st c0 en nc g b1 b2 e p.2 re)) (h2 : σ g = some (.lst gl)) (h3 : GlOk gl p.1) (h4 : g ∉ S) : RowOk σ S r p
-- two lists, each pair as told
noncomputable def Fa2 {α β : Type} (R : α → β → Prop) : List α → List β → Prop
  | [], bs => match bs with
    | [] => True
    | _ :: _ => False
  | a :: as, bs => match bs with
    | [] => False
    | b :: bs => R a b ∧ Fa2 R as bs
theorem Fa2.map {α β : Type} {R R' : α → β → Prop} (f : ∀ a b, R a b → R' a b) {as : List α} {bs : List β} (h : Fa2 R as bs) : Fa2 R' as bs := by
  induction as generalizing bs with
  | nil => rcases bs with _ | ⟨b, bs⟩ <;> exact h
  | cons a as ih =>
    rcases bs with _ | ⟨b, bs⟩
    · exact h
    · exact ⟨f _ _ h.1, ih h.2⟩
theorem Fa2.len {α β : Type} {R : α → β → Prop} {as : List α} {bs : List β} (h : Fa2 R as bs) : as.length = bs.length := by
  induction as generalizing bs with
  | nil => rcases bs with _ | ⟨b, bs⟩
           · rfl
           · exact h.elim
  | cons a as ih =>
    rcases bs with _ | ⟨b, bs⟩
    · exact h.elim
    · exact congrArg Nat.succ (ih h.2)
theorem Fa2.snoc {α β : Type} {R : α → β → Prop} {a : α} {b : β} (q : R a b) {as : List α} {bs : List β} (h : Fa2 R as bs) : Fa2 R (as ++ [a]) (bs ++ [b]) := by
  induction as generalizing bs with
  | nil => rcases bs with _ | ⟨b, bs⟩
           · exact ⟨q, trivial⟩
           · exact h.elim
  | cons a as ih =>
    rcases bs with _ | ⟨b, bs⟩
    · exact h.elim
    · exact ⟨h.1, ih h.2⟩
theorem Fa2.get {α β : Type} {R : α → β → Prop} {as : List α} {bs : List β} (h : Fa2 R as bs) {i : Nat} {a : α} (e : as[i]? = some a) : ∃ b, bs[i]? = some b ∧ R a b := by
  induction as generalizing bs i with
  | nil => cases e
  | cons x as ih =>
    rcases bs with _ | ⟨b, bs⟩
    · exact h.elim
    · rcases i with _ | i
      · cases e; exact ⟨b, rfl, h.1⟩
      · exact ih h.2 e
noncomputable def RowsOk (σ : ASt) (S : List Addr) : List Addr → List (List Int × Int) → Prop := Fa2 (RowOk σ S)
theorem RowsOk.len {σ S rs ps} (h : RowsOk σ S rs ps) : rs.length = ps.length := Fa2.len h
theorem RowsOk.snoc {σ S r p} (q : RowOk σ S r p) {rs ps} (h : RowsOk σ S rs ps) : RowsOk σ S (rs ++ [r]) (ps ++ [p]) := Fa2.snoc q h
theorem RowsOk.get {σ S} {rs : List Addr} {ps : List (List Int × Int)} (h : RowsOk σ S rs ps) {i : Nat} {r : Addr} (e : rs[i]? = some r) : ∃ p, ps[i]? = some p ∧ RowOk σ S r p := Fa2.get h e
-- what may change: lists of a set that holds none of the glyphs'
theorem RowOk.extB {σ σ' S r p} (h : RowOk σ S r p) (x : ExtB S σ σ') (hS : ∀ a ∈ S, ∀ C at_, σ a ≠ some (.inst C at_)) : RowOk σ' S r p := by
  obtain ⟨st, c0, en, nc, g, b1, b2, e, re, gl, h1, h2, h3, h4⟩ := h
  exact ⟨st, c0, en, nc, g, b1, b2, e, re, gl, x _ _ (fun q => hS _ q _ _ h1) h1, x _ _ h4 h2, h3, h4⟩
theorem RowOk.ext {σ σ' S r p} (x : Ext σ σ') (h : RowOk σ S r p) : RowOk σ' S r p := by
  obtain ⟨st, c0, en, nc, g, b1, b2, e, re, gl, h1, h2, h3, h4⟩ := h
  exact ⟨st, c0, en, nc, g, b1, b2, e, re, gl, x _ _ h1, x _ _ h2, h3, h4⟩
theorem RowOk.sub {σ S T r p} (f : ∀ g gl, σ g = some (.lst gl) → g ∉ S → g ∉ T) (h : RowOk σ S r p) : RowOk σ T r p := by
  obtain ⟨st, c0, en, nc, g, b1, b2, e, re, gl, h1, h2, h3, h4⟩ := h
  exact ⟨st, c0, en, nc, g, b1, b2, e, re, gl, h1, h2, h3, f g gl h2 h4⟩
theorem RowsOk.extB {σ σ' S} (x : ExtB S σ σ') (hS : ∀ a ∈ S, ∀ C at_, σ a ≠ some (.inst C at_)) {rs ps} (h : RowsOk σ S rs ps) : RowsOk σ' S rs ps := Fa2.map (fun _ _ q => q.extB x hS) h
theorem RowsOk.ext {σ σ' S} (x : Ext σ σ') {rs ps} (h : RowsOk σ S rs ps) : RowsOk σ' S rs ps := Fa2.map (fun _ _ q => q.ext x) h
theorem RowsOk.sub {σ S T} (hT : ∀ a ∈ T, a ∈ S) {rs ps} (h : RowsOk σ S rs ps) : RowsOk σ T rs ps := Fa2.map (fun _ _ q => q.sub fun g _ _ n z => n (hT g z)) h

section
variable {n : Nat} {Q : Post} {v L t o : Addr} {cs : List Int} {σ : ASt}

theorem sp_laidRow {k : Nat} (hv : Vw σ v L cs) (ht : Tb σ t) (ho : Op σ o) (hk : k ≤ cs.length) (hcs : ∀ c ∈ cs, c = 10 ∨ 32 ≤ c ∧ c < 127) {room : Nat} (hro : 1 ≤ room) (hro2 : room ≤ 100) {col : Int}
    (hQ : ∀ r g line mark isEnd k' gl' en' nc' st c0 b1' b2' re' σ', lay room [] (cs.drop k) = (line, mark) :: (if isEnd = true then [] else lay room [] (cs.drop k')) → k' ≤ cs.length → σ' r = some (rowO st c0 en' nc' g b1' b2' isEnd mark re') →
      (isEnd = false → en' = .tup [.int (1 + (k' : Nat)), .int 0] ∧ ∃ c' : Int, nc' = .int c') → σ' g = some (.lst gl') → GlOk gl' line → σ r = none → σ g = none → Ext σ σ' → Q (.ref r) σ') : WW (n + 9) 20 [.ref v, .ref t, .tup [.int (1 + k), .int 0], .int col, .int (room + 1), .ref o] σ Q := by
  refine W_at rfl rfl ?_
  refine l_att (ho) rfl rfl rfl ?_
  refine ⟨fun z => absurd z (by decide), fun _ => ?_⟩
  exact sp_folded hv ht ho hk hcs hro hro2 hQ

noncomputable def rowsEnv (v t : Addr) (k : Nat) (col : Int) (height : Int) (room : Int) (o f : Addr) (x8 : Option AV) : LE :=
  [some (.ref v), some (.ref t), some (.tup [.int (1 + k), .int 0]), some (.int col), some (.int height), some (.int room), some (.ref o), some (.ref f), x8, none, none]

theorem rows_loop {S : List Addr} (hcs : ∀ c ∈ cs, c = 10 ∨ 32 ≤ c ∧ c < 127) {room : Nat} (hro : 1 ≤ room) (hro2 : room ≤ 100) {height : Nat} (hh : height ≤ 90) {f : Addr} {K : PostS} : ∀ (fuel k : Nat) (col : Int) (σ : ASt) (rs : List Addr) (done : List (List Int × Int)) (x8 : Option AV),
    Vw σ v L cs → Tb σ t → Op σ o → k ≤ cs.length → σ f = some (.lst (rs.map .ref)) → L ≠ f → (∀ a ∈ S, σ a ≠ none) → RowsOk σ (f :: S) rs done → done.length ≤ height → height - done.length < fuel →
    done ++ (lay room [] (cs.drop k)).take (height - done.length) = (lay room [] cs).take height →
    (∀ rs' σ' ρ', σ' f = some (.lst (rs'.map .ref)) → RowsOk σ' (f :: S) rs' ((lay room [] cs).take height) → ExtB [f] σ σ' → K (.ret (.ref f)) ρ' σ' ∧ ∀ k col x8, K .next (rowsEnv v t k col height (room + 1) o f x8) σ') →
    vwh (fun ρ σ Q => ve TT (WW (n + 9)) (.cmp .Lt (.bi .len (.cons (.loc 7) .nil)) (.loc 4)) ρ σ Q) (fun ρ σ K => vss TT (WW (n + 9)) (bodyOf (nthS fn21.body 1)) ρ σ K) fuel (rowsEnv v t k col height (room + 1) o f x8) σ K := by
  intro fuel
  induction fuel with
  | zero => intro k col σ rs done x8 hv ht ho hk hf hLf hS hrs hd hfu; lia
  | succ fuel ih =>
    intro k col σ rs done x8 hv ht ho hk hf hLf hS hrs hd hfu heq hK
    have hlen := hrs.len
    refine ex13 hf (by simp; lia) ?_
    refine ⟨fun q => ?_, fun q => ?_⟩
    · have q := of_decide_eq_true q
      have hlt : done.length < height := by simp at q; lia
      refine sp_laidRow hv ht ho hk hcs hro hro2 fun r g line mark isEnd k' gl' en' nc' st c0 b1' b2' re' σ1 q1 q2 q3 q4 q5 q6 hr hg x => ?_
      refine ⟨⟨_, x _ _ hf⟩, ?_⟩
      refine ex13 (x _ _ hf) (by rw [sizeLine_eq]; simp; lia) ?_
      refine ⟨trivial, ?_⟩
      have hrf : r ≠ f := fun z => by subst z; rw [hf] at hr; cases hr
      have hgf : g ≠ f := fun z => by subst z; rw [hf] at hg; cases hg
      have hgS : g ∉ f :: S := by
        simp only [List.mem_cons, not_or]
        exact ⟨hgf, fun z => hS _ z hg⟩
      have hS2 : ∀ a ∈ S, σ1 a ≠ none := fun a ha => by
        cases e : σ a with
        | none => exact absurd e (hS a ha)
        | some ob => rw [x _ _ e]; simp
      have xf : ExtB [f] σ (upd σ1 f (.lst (rs.map .ref ++ [.ref r]))) := x.toB.trans ExtB.upd
      have hR : RowOk (upd σ1 f (.lst (rs.map .ref ++ [.ref r]))) (f :: S) r (line, mark) := ⟨st, c0, en', nc', g, b1', b2', isEnd, re', gl', (upd_ne hrf).trans q3, (upd_ne hgf).trans q5, q6, hgS⟩
      have hrs1 := hrs.ext x
      have hrs2 : RowsOk (upd σ1 f (.lst (rs.map .ref ++ [.ref r]))) (f :: S) rs done := by
        have : ∀ {o' : AO} {rs : List Addr} {ps : List (List Int × Int)}, RowsOk σ1 (f :: S) rs ps → RowsOk (upd σ1 f o') (f :: S) rs ps := by
          intro o' rs
          induction rs with
          | nil => intro ps h; cases ps; exact h; exact h
          | cons r0 rs ihh =>
            intro ps h
            induction ps using List.casesOn with
            | nil => exact h
            | cons p ps =>
              obtain ⟨⟨st, c0, en, nc, g, b1, b2, e, re, gl, h1, h2, h3, h4⟩, h5⟩ := h
              refine ⟨⟨st, c0, en, nc, g, b1, b2, e, re, gl, ?_, ?_, h3, h4⟩, ihh h5⟩
              · exact (upd_ne (ne_ot h1 (x _ _ hf) rfl)).trans h1
              · exact (upd_ne (fun z => h4 (by rw [z]; exact List.mem_cons_self))).trans h2
        exact this hrs1
      have hrs3 := hrs2.snoc hR
      have hS3 : ∀ a ∈ S, (upd σ1 f (.lst (rs.map .ref ++ [.ref r]))) a ≠ none := fun a ha => by
        unfold upd; split
        · simp
        · exact hS2 a ha
      have hf3 : (upd σ1 f (.lst (rs.map .ref ++ [.ref r]))) f = some (.lst ((rs ++ [r]).map .ref)) := by rw [upd_self]; simp
      have hv3 : Vw (upd σ1 f (.lst (rs.map .ref ++ [.ref r]))) v L cs := (hv.ext x).extB ExtB.upd (by simpa using ne_ot (x _ _ hv.1) (x _ _ hf) rfl) (by simpa using hLf)
      have ht3 : Tb (upd σ1 f (.lst (rs.map .ref ++ [.ref r]))) t := (ht.ext x).extB ExtB.upd (by obtain ⟨_, z, _⟩ := ht; simpa using ne_ot z hf rfl)
      have ho3 : Op (upd σ1 f (.lst (rs.map .ref ++ [.ref r]))) o := (upd_ne (ne_ot ho hf rfl)).trans (x _ _ ho)
      have hr3 : (upd σ1 f (.lst (rs.map .ref ++ [.ref r]))) r = some (rowO st c0 en' nc' g b1' b2' isEnd mark re') := (upd_ne hrf).trans q3
      generalize upd σ1 f (.lst (rs.map .ref ++ [.ref r])) = σ3 at *
      have htk : (lay room [] (cs.drop k)).take (height - done.length) = (line, mark) :: (if isEnd = true then [] else lay room [] (cs.drop k')).take (height - (done ++ [(line, mark)]).length) := by
        rw [q1, show height - done.length = (height - (done ++ [(line, mark)]).length) + 1 by simp; lia, List.take_succ_cons]
      rw [htk] at heq
      refine l_att (hr3) rfl rfl rfl ?_
      induction isEnd using Bool.casesOn with
      | true =>
        refine ⟨fun _ => ?_, fun z => absurd z (by decide)⟩
        refine (hK (rs ++ [r]) σ3 _ hf3 ?_ xf).1
        rw [← heq]
        simpa using hrs3
      | false =>
        refine ⟨fun z => absurd z (by decide), fun _ => ?_⟩
        obtain ⟨rfl, c', rfl⟩ := q4 rfl
        refine l_att (hr3) rfl rfl rfl ?_
        refine l_att (hr3) rfl rfl rfl ?_
        refine ⟨Nat.le_of_ble_eq_true rfl, ?_⟩
        refine ih k' c' σ3 (rs ++ [r]) (done ++ [(line, mark)]) _ hv3 ht3 ho3 q2 hf3 hLf hS3 hrs3 (by simp; lia) (by simp; lia) (by rw [← heq]; simp) fun rs' σ' ρ' z1 z2 z3 => ?_
        exact hK rs' σ' ρ' z1 z2 (xf.trans z3)
    · have q := of_decide_eq_false q
      have hge : done.length = height := by simp at q; lia
      rw [hge, Nat.sub_self, List.take_zero, List.append_nil] at heq
      exact (hK rs σ [] hf (by rw [← heq]; exact hrs) (ExtB.refl _ _)).2 k col x8

theorem sp_laidRows {S : List Addr} (hv : Vw σ v L cs) (ht : Tb σ t) (ho : Op σ o) (hcs : ∀ c ∈ cs, c = 10 ∨ 32 ≤ c ∧ c < 127) {room : Nat} (hro : 1 ≤ room) (hro2 : room ≤ 100) {height : Nat} (hh : height ≤ 90) (hS : ∀ a ∈ S, σ a ≠ none)
    (hQ : ∀ f rs σ', σ f = none → σ' f = some (.lst (rs.map .ref)) → RowsOk σ' (f :: S) rs ((lay room [] cs).take height) → Ext σ σ' → Q (.ref f) σ') : WW (n + 10) 21 [.ref v, .ref t, .tup [.int 1, .int 0], .int 0, .int height, .int (room + 1), .ref o] σ Q := by
  refine W_at rfl rfl ?_
  refine ⟨by decide, fun f hf => ?_⟩
  have x : Ext σ (upd σ f (.lst [])) := Ext.new hf
  have hf1 := upd_self σ f (.lst [])
  generalize upd σ f (.lst []) = σ1 at *
  have hLf : L ≠ f := fun z => by subst z; rw [hv.2.1] at hf; cases hf
  refine rows_loop (S := S) (n := n) (v := v) (t := t) (o := o) hcs hro hro2 hh 100 0 0 σ1 [] [] none (hv.ext x) (ht.ext x) (x _ _ ho) (Nat.zero_le _) hf1 hLf (fun a ha => ?_) trivial (Nat.zero_le _) (by lia) (by simp) fun rs' σ' ρ' q1 q2 q3 => ?_
  · cases e : σ a with
    | none => exact absurd e (hS a ha)
    | some ob => rw [x _ _ e]; simp
  · have X : Ext σ σ' := fun b ob e => q3 _ _ (by simpa using ne_of hf e) (x _ _ e)
    exact ⟨hQ f rs' σ' hf q1 q2 X, fun _ _ _ => hQ f rs' σ' hf q1 q2 X⟩
end
end Np

namespace Np

theorem vtg_mono {tg tup x ρ} {Q R : LE → Prop} (h : ∀ ρ, Q ρ → R ρ) (q : vtg tg tup x ρ Q) : vtg tg tup x ρ R := by
  have key : ∀ r : Option LE, (match r with | some ρ => Q ρ | none => False) → (match r with | some ρ => R ρ | none => False) := fun r => by
    induction r using Option.casesOn with
    | none => exact fun z => z
    | some ρ => exact h ρ
  induction tup using Bool.casesOn with
  | false => induction tg using List.casesOn with
    | nil => exact q
    | cons i r => induction r using List.casesOn with
      | nil => exact key _ q
      | cons _ _ => exact q
  | true => induction x using AV.casesOn with
    | tup l => exact key _ q
    | _ => exact q

-- a comprehension that only makes
theorem comp_pure {tg : List Nat} {tup : Bool} {e : LE → ASt → Post → Prop} {G : ASt → Prop} (I : LE → Prop) (f : AV → AV) {Q : Post} : ∀ (items : List AV) (ρ : LE) (σ : ASt) (acc : List AV), (∀ σ', Ext σ σ' → G σ') →
    (∀ x ∈ items, ∀ ρ, I ρ → vtg tg tup x ρ fun ρ' => I ρ' ∧ ∀ σ' Q', Ext σ σ' → (∀ σ'', Ext σ' σ'' → Q' (f x) σ'') → e ρ' σ' Q') → I ρ →
    (∀ a σ', σ' a = some (.lst (acc ++ items.map f)) → Ext σ σ' → σ a = none → Q (.ref a) σ') → vcomp tg tup e G items ρ σ acc Q
  | [], ρ, σ, acc, hG, _, _, hQ => by
    refine ⟨hG σ (Ext.refl σ), fun a ha => hQ a _ ?_ (Ext.new ha) ha⟩
    rw [upd_self]; simp
  | x :: r, ρ, σ, acc, hG, he, hI, hQ => by
    refine ⟨hG σ (Ext.refl σ), vtg_mono (fun ρ' q => q.2 σ _ (Ext.refl σ) fun σ'' x2 => ?_) (he x (.head _) ρ hI)⟩
    refine comp_pure I f r ρ' σ'' (acc ++ [f x]) (fun σ3 x3 => hG σ3 (x2.trans x3)) (fun y hy ρ2 hI2 => vtg_mono (fun ρ3 z => ⟨z.1, fun σ' Q' x3 => z.2 σ' Q' (x2.trans x3)⟩) (he y (.tail _ hy) ρ2 hI2)) q.1 fun a σ' h1 h2 h3 => ?_
    exact hQ a σ' (by rw [h1]; simp) (x2.trans h2) (x2.none h3)

noncomputable def cell (c f : Int) : AV := .tup [.int c, .int f]
-- the cells of a row of text
noncomputable def txtCells (room : Nat) (p : List Int × Int) : List AV := p.1.map (cell · 0) ++ List.replicate (room - p.1.length) (cell 32 0) ++ [cell p.2 0]
theorem flat_rep {α : Type} (x : α) : ∀ n, (List.replicate n [x]).flatten = List.replicate n x
  | 0 => rfl
  | n + 1 => by rw [List.replicate_succ, List.flatten_cons, flat_rep x n]; rfl

theorem gl_cells : ∀ {gl : List AV} {line : List Int}, GlOk gl line → (∀ g ∈ gl, ∃ c p : Int, g = .tup [.int c, .int 0, .int p])
  | [], [], _, g, h => by cases h
  | g :: gs, c :: cs, ⟨⟨p, e⟩, h⟩, g', hg => by
    rcases List.mem_cons.mp hg with rfl | hg
    · exact ⟨c, p, e⟩
    · exact gl_cells h g' hg
  | [], _ :: _, h, _, _ => h.elim
  | _ :: _, [], h, _, _ => h.elim
noncomputable def cut3 : AV → AV
  | .tup [a, b, _] => .tup [a, b]
  | x => x
theorem gl_cut : ∀ {gl : List AV} {line : List Int}, GlOk gl line → gl.map cut3 = line.map (cell · 0)
  | [], [], _ => rfl
  | g :: gs, c :: cs, ⟨⟨p, e⟩, h⟩ => by
    subst e
    simp only [List.map_cons, gl_cut h]
    rfl
  | [], _ :: _, h => h.elim
  | _ :: _, [], h => h.elim

section
variable {n : Nat} {Q : Post} {σ : ASt}

theorem sp_rowCells {S : List Addr} {r : Addr} {p : List Int × Int} {room : Nat} (h : RowOk σ S r p) (hl : p.1.length ≤ room) (hro : room ≤ 100)
    (hQ : ∀ a σ', σ a = none → σ' a = some (.lst (txtCells room p)) → Ext σ σ' → Q (.ref a) σ') : WW (n + 1) 22 [.ref r, .int (room + 1)] σ Q := by
  obtain ⟨st, c0, en, nc, g, b1, b2, e, re, gl, h1, h2, h3, h4⟩ := h
  have hlen := h3.len
  refine W_at rfl rfl ?_
  refine l_att (h1) rfl rfl rfl ?_
  refine ⟨gl, h2, by lia, ?_⟩
  refine comp_pure (fun ρ => ∃ a b c d, ρ = [a, b, c, d]) cut3 _ _ _ _ (fun σ' x => x _ _ h2) (fun x hx ρ hI => ?_) ⟨_, _, _, _, rfl⟩ fun f σ1 hf1 x1 hf0 => ?_
  · obtain ⟨a, b, c, d, rfl⟩ := hI
    obtain ⟨c, p, rfl⟩ := gl_cells h3 x hx
    refine ⟨⟨_, _, _, _, rfl⟩, fun σ' Q' _ hQ' => ?_⟩
    exact ⟨Nat.le_of_ble_eq_true rfl, hQ' σ' (Ext.refl _)⟩
  · rw [List.nil_append, gl_cut h3] at hf1
    refine ⟨Nat.le_of_ble_eq_true rfl, ?_⟩
    refine ⟨Nat.le_of_ble_eq_true rfl, fun q hq => ?_⟩
    have x2 : Ext σ1 (upd σ1 q (.lst [cell 32 0])) := Ext.new hq
    have hq1 := upd_self σ1 q (.lst [cell 32 0])
    change ve TT _ _ _ (upd σ1 q (.lst [cell 32 0])) _
    generalize upd σ1 q (.lst [cell 32 0]) = σ2 at *
    refine ex13 (x2 _ _ hf1) (by simp; lia) ?_
    conv => whnf
    rw [List.length_map, show ((room : Int) + 1 - 1 - (p.1.length : Nat)) = ((room - p.1.length : Nat) : Int) by lia]
    refine ex13 hq1 ⟨by lia, by lia, by simp; lia⟩ (fun b hb => ?_)
    rw [show (List.replicate ((room - p.1.length : Nat) : Int).toNat [cell 32 0]).flatten = List.replicate (room - p.1.length) (cell 32 0) by rw [flat_rep]; simp]
    have x3 : Ext σ2 (upd σ2 b (.lst (List.replicate (room - p.1.length) (cell 32 0)))) := Ext.new hb
    have hb1 := upd_self σ2 b (.lst (List.replicate (room - p.1.length) (cell 32 0)))
    generalize upd σ2 b (.lst (List.replicate (room - p.1.length) (cell 32 0))) = σ3 at *
    refine ex24 (x3 _ _ (x2 _ _ hf1)) hb1 (by rw [sizeLine_eq]; simp; lia) (fun d hd => ?_)
    have x4 := Ext.new (o := .lst (p.1.map (cell · 0) ++ List.replicate (room - p.1.length) (cell 32 0))) hd
    have hd1 := upd_self σ3 d (.lst (p.1.map (cell · 0) ++ List.replicate (room - p.1.length) (cell 32 0)))
    generalize upd σ3 d (.lst (p.1.map (cell · 0) ++ List.replicate (room - p.1.length) (cell 32 0))) = σ4 at *
    have X : Ext σ σ4 := ((x1.trans x2).trans x3).trans x4
    refine l_att ((X _ _ h1)) rfl rfl rfl ?_
    refine ⟨Nat.le_of_ble_eq_true rfl, Nat.le_of_ble_eq_true rfl, fun q hq => ?_⟩
    have x5 : Ext σ4 (upd σ4 q (.lst [cell p.2 0])) := Ext.new hq
    have hq1 := upd_self σ4 q (.lst [cell p.2 0])
    change ∃ l m, (upd σ4 q (.lst [cell p.2 0])) d = some (.lst l) ∧ _
    refine ex24 (x5 _ _ hd1) hq1 (by rw [sizeLine_eq]; simp; lia) (fun a ha => ?_)
    have x6 : Ext _ (upd (upd σ4 q (.lst [cell p.2 0])) a (.lst (p.1.map (cell · 0) ++ List.replicate (room - p.1.length) (cell 32 0) ++ [cell p.2 0]))) := Ext.new ha
    exact hQ a _ ((X.trans x5).none ha) (upd_self _ _ _) ((X.trans x5).trans x6)
end
end Np

namespace Np

-- a comprehension that makes a new list each time
theorem comp_rows {tg : List Nat} {tup : Bool} {e : LE → ASt → Post → Prop} {G : ASt → Prop} (I : LE → Prop) (X : AO) {Q : Post} : ∀ (items : List AV) (ρ : LE) (σ : ASt) (acc : List Addr), (∀ σ', Ext σ σ' → G σ') →
    (∀ x ∈ items, ∀ ρ, I ρ → vtg tg tup x ρ fun ρ' => I ρ' ∧ ∀ σ' Q', Ext σ σ' → (∀ a σ'', σ' a = none → σ'' a = some X → Ext σ' σ'' → Q' (.ref a) σ'') → e ρ' σ' Q') → I ρ → (∀ r ∈ acc, σ r = some X) →
    (∀ (a : Addr) (refs : List Addr) σ', refs.length = acc.length + items.length → σ' a = some (.lst (refs.map .ref)) → (∀ r ∈ refs, σ' r = some X ∧ r ≠ a) → Ext σ σ' → σ a = none → Q (.ref a) σ') → vcomp tg tup e G items ρ σ (acc.map .ref) Q
  | [], ρ, σ, acc, hG, _, _, ha, hQ => by
    refine ⟨hG σ (Ext.refl σ), fun a h => hQ a acc _ (by simp) (upd_self _ _ _) (fun r hr => ?_) (Ext.new h) h⟩
    have : r ≠ a := ne_of h (ha r hr)
    exact ⟨(upd_ne this).trans (ha r hr), this⟩
  | x :: r, ρ, σ, acc, hG, he, hI, ha, hQ => by
    refine ⟨hG σ (Ext.refl σ), vtg_mono (fun ρ' q => q.2 σ _ (Ext.refl σ) fun b σ'' hb hb2 x2 => ?_) (he x (.head _) ρ hI)⟩
    have := comp_rows I X (Q := Q) r ρ' σ'' (acc ++ [b]) (fun σ3 x3 => hG σ3 (x2.trans x3)) (fun y hy ρ2 hI2 => vtg_mono (fun ρ3 z => ⟨z.1, fun σ' Q' x3 => z.2 σ' Q' (x2.trans x3)⟩) (he y (.tail _ hy) ρ2 hI2)) q.1 (fun r hr => ?_) fun a refs σ' h0 h1 h2 h3 h4 => ?_
    · rw [List.map_append] at this; exact this
    · rcases List.mem_append.mp hr with hr | hr
      · exact x2 _ _ (ha r hr)
      · rw [List.mem_singleton.mp hr]; exact hb2
    · exact hQ a refs σ' (by rw [h0]; simp; lia) h1 h2 (x2.trans h3) (x2.none h4)

noncomputable def put1 (F : Nat → Nat → AV) (row col : Nat) (cells : List AV) : Nat → Nat → AV := fun i j => if i = row ∧ col ≤ j ∧ j < col + cells.length then cells.getD (j - col) .non else F i j
theorem put1_row (F : Nat → Nat → AV) (row col W : Nat) (cells : List AV) (h : col + cells.length ≤ W) :
    ((List.range W).map (F row)).take col ++ cells ++ ((List.range W).map (F row)).drop (col + cells.length) = (List.range W).map (put1 F row col cells row) := by
  apply List.ext_getElem
  · simp; lia
  · intro j h1 h2
    simp only [List.length_map, List.length_range] at h2
    rw [List.getElem_map, List.getElem_range]
    unfold put1
    by_cases c1 : j < col
    · rw [if_neg (by lia), List.getElem_append_left (by simp; lia), List.getElem_append_left (by simp; lia), List.getElem_take, List.getElem_map, List.getElem_range]
    · by_cases c2 : j < col + cells.length
      · have e1 : (List.take col ((List.range W).map (F row))).length = col := by simp; lia
        rw [if_pos ⟨rfl, by lia, c2⟩, List.getElem_append_left (by simp; lia), List.getElem_append_right (by lia)]
        simp only [e1]
        rw [List.getD_eq_getElem?_getD, List.getElem?_eq_getElem (by lia)]
        rfl
      · rw [if_neg (by lia), List.getElem_append_right (by simp; lia)]
        simp only [List.length_append, List.length_take, List.length_map, List.length_range, List.getElem_drop, List.getElem_map, List.getElem_range]
        congr 1
        lia
theorem put1_ne (F : Nat → Nat → AV) {row i : Nat} (col : Nat) (cells : List AV) (h : i ≠ row) : put1 F row col cells i = F i := by
  funext j; unfold put1; rw [if_neg (by intro z; exact h z.1)]

noncomputable def Mat (σ : ASt) (m rl : Addr) (F : Nat → Nat → AV) (W H : Nat) : Prop :=
  σ m = some (.inst 605 [(40, .int W), (41, .int H), (24, .ref rl), (46, .tup [.int 0, .int 0])]) ∧
  ∃ refs : List Addr, refs.length = H ∧ σ rl = some (.lst (refs.map .ref)) ∧ ∀ (i : Nat) (a : Addr), refs[i]? = some a → σ a = some (.lst ((List.range W).map (F i))) ∧ a ≠ rl
theorem Mat.ext {σ σ' m rl F W H} (h : Mat σ m rl F W H) (x : Ext σ σ') : Mat σ' m rl F W H :=
  let ⟨h1, refs, h2, h3, h4⟩ := h
  ⟨x _ _ h1, refs, h2, x _ _ h3, fun i a e => ⟨x _ _ (h4 i a e).1, (h4 i a e).2⟩⟩

section
variable {n : Nat} {Q : Post} {σ : ASt}

theorem mk_Matrix {W H : Nat} (hW : W ≤ 200) (hH : H ≤ 200) {F : Addr → ASt → Prop} (hQ : ∀ a rl σ', σ a = none → σ rl = none → Mat σ' a rl (fun _ _ => cell 32 0) W H → Ext σ σ' → F a σ') :
    ∀ a, σ a = none → WW (n + 1) 52 [.ref a, .int W, .int H] (upd σ a (.inst 605 [])) (fun r σ => r = .non ∧ F a σ) := by
  intro a ha
  refine W_at rfl rfl ?_
  refine l_set (upd_self _ _ _) rfl (Nat.le_of_ble_eq_true rfl) ?_; refine l_set (upd_self _ _ _) rfl (Nat.le_of_ble_eq_true rfl) ?_
  refine ⟨⟨by lia, by lia⟩, ?_⟩
  refine comp_rows (fun ρ => ∃ x, ρ = [none, x, none, some (.int W)]) (.lst (List.replicate W (cell 32 0))) _ _ _ [] (fun _ _ => trivial) (fun x hx ρ hI => ?_) ⟨_, rfl⟩ (fun r hr => by cases hr) fun l refs σ1 h0 h1 h2 x1 hl => ?_
  · obtain ⟨y, rfl⟩ := hI
    refine ⟨⟨_, rfl⟩, fun σ' Q' _ hQ' => ?_⟩
    refine ⟨Nat.le_of_ble_eq_true rfl, fun q hq => ?_⟩
    refine ex13 (upd_self _ _ _) ⟨by lia, by lia, by simp; lia⟩ (fun b hb => ?_)
    refine hQ' b _ ((Ext.new hq).none hb) ?_ ((Ext.new hq).trans (Ext.new hb))
    rw [upd_self]
    rw [show ((W : Nat) : Int).toNat = W by simp]
    show some (AO.lst (List.replicate W [cell 32 0]).flatten) = _
    rw [flat_rep]
  · skip
    simp only [upd_upd] at x1 hl
    have hla : l ≠ a := by rintro rfl; rw [upd_self] at hl; cases hl
    refine ex24 (x1 _ _ (upd_self _ _ _)) rfl (Nat.le_of_ble_eq_true rfl) ?_
    refine ⟨Nat.le_of_ble_eq_true rfl, ?_⟩
    refine l_set (upd_self _ _ _) rfl (Nat.le_of_ble_eq_true rfl) ?_
    simp only [upd_upd]
    have hra : ∀ r ∈ refs, r ≠ a := fun r hr => ne_ob (h2 r hr).1 (x1 _ _ (upd_self _ _ _)) (by simp)
    refine ⟨trivial, hQ a l _ ha ((upd_ne hla).symm.trans hl) ⟨upd_self _ _ _, refs, by simpa [rangeA] using h0, (upd_ne hla).trans h1, fun i b hb => ?_⟩ fun b o e => ?_⟩
    · have hm := List.mem_of_getElem? hb
      refine ⟨(upd_ne (hra b hm)).trans ?_, (h2 b hm).2⟩
      rw [(h2 b hm).1]
      congr 2
      apply List.ext_getElem <;> simp
    · have hb : b ≠ a := ne_of ha e
      exact (upd_ne hb).trans (x1 _ _ ((upd_ne hb).trans e))

theorem sp_put {m rl cl : Addr} {F : Nat → Nat → AV} {W H row col : Nat} {cells : List AV} (h : Mat σ m rl F W H) (hrow : row < H) (hcl : σ cl = some (.lst cells)) (hc : col + cells.length ≤ W) (hW : W ≤ 200) (hH : H ≤ 200)
    (hQ : ∀ σ', Mat σ' m rl (put1 F row col cells) W H → ExtB [rl] σ σ' → Q .non σ') : WW (n + 1) 53 [.ref m, .int row, .int col, .ref cl] σ Q := by
  obtain ⟨h1, refs, h2, h3, h4⟩ := h
  refine W_at rfl rfl ?_
  refine l_att (h1) rfl rfl rfl ?_
  have hr : row < refs.length := by lia
  obtain ⟨q1, q2⟩ := h4 row refs[row] (List.getElem?_eq_getElem hr)
  refine ⟨_, .ref refs[row], h3, ⟨by lia, by lia⟩, by simp [hr], ?_⟩
  refine ex14 (.inl q1) (by rw [sizeLine_eq]; simp; lia) (by lia) (fun a ha => ?_)
  have x1 : Ext σ (upd σ a (.lst (((List.range W).map (F row)).take (col : Int).toNat))) := Ext.new ha
  have ha1 := upd_self σ a (.lst (((List.range W).map (F row)).take (col : Int).toNat))
  generalize upd σ a (.lst (((List.range W).map (F row)).take (col : Int).toNat)) = σ1 at *
  refine ex24 ha1 (x1 _ _ hcl) (by rw [sizeLine_eq]; simp; lia) (fun b hb => ?_)
  have x2 := Ext.new (o := .lst (((List.range W).map (F row)).take (col : Int).toNat ++ cells)) hb
  have hb1 := upd_self σ1 b (.lst (((List.range W).map (F row)).take (col : Int).toNat ++ cells))
  generalize upd σ1 b (.lst (((List.range W).map (F row)).take (col : Int).toNat ++ cells)) = σ2 at *
  refine ex13 (x2 _ _ (x1 _ _ hcl)) (by lia) ?_
  refine ex14 (x2 _ _ (x1 _ _ q1)) (by rw [sizeLine_eq]; simp; lia) (by lia) (fun d hd => ?_)
  have x3 := Ext.new (o := .lst (((List.range W).map (F row)).drop ((col : Int) + (cells.length : Nat)).toNat)) hd
  have hd1 := upd_self σ2 d (.lst (((List.range W).map (F row)).drop ((col : Int) + (cells.length : Nat)).toNat))
  generalize upd σ2 d (.lst (((List.range W).map (F row)).drop ((col : Int) + (cells.length : Nat)).toNat)) = σ3 at *
  refine ex24 (x3 _ _ hb1) hd1 (by rw [sizeLine_eq]; simp; lia) (fun w hw => ?_)
  rw [show (col : Int).toNat = col by simp, show ((col : Int) + (cells.length : Nat)).toNat = col + cells.length by lia, put1_row F row col W cells hc]
  have x4 := Ext.new (o := .lst ((List.range W).map (put1 F row col cells row))) hw
  have hw1 := upd_self σ3 w (.lst ((List.range W).map (put1 F row col cells row)))
  generalize upd σ3 w (.lst ((List.range W).map (put1 F row col cells row))) = σ4 at *
  have X : Ext σ σ4 := ((x1.trans x2).trans x3).trans x4
  refine l_att ((X _ _ h1)) rfl rfl rfl ?_
  refine ex13 (X _ _ h3) ⟨by lia, by lia, by simp; lia⟩ ?_
  rw [show (row : Int).toNat = row by simp]
  have hwr : w ≠ rl := fun z => by subst z; rw [x3 _ _ (x2 _ _ (x1 _ _ h3))] at hw; cases hw
  have hmr : m ≠ rl := ne_ot h1 h3 rfl
  refine hQ _ ⟨(upd_ne hmr).trans (X _ _ h1), refs.set row w, by simpa using h2, by rw [upd_self, List.map_set], fun i b hb => ?_⟩ (X.toB.trans ExtB.upd)
  by_cases e : i = row
  · subst e
    rw [List.getElem?_set_self hr] at hb
    cases hb
    exact ⟨(upd_ne hwr).trans hw1, hwr⟩
  · rw [List.getElem?_set_ne (Ne.symm e)] at hb
    obtain ⟨z1, z2⟩ := h4 i b hb
    rw [put1_ne F col cells e]
    exact ⟨(upd_ne z2).trans (X _ _ z1), z2⟩
end
end Np

namespace Np

theorem for_items {tg : List Nat} {tup : Bool} {body : LE → ASt → PostS → Prop} {G : ASt → Prop} {K : PostS} (items : List AV) (P : Nat → LE → ASt → Prop) (hG : ∀ k ρ σ, P k ρ σ → G σ)
    (hb : ∀ k (hk : k < items.length) ρ σ, P k ρ σ → ∀ K' : PostS, (∀ ρ' σ', P (k + 1) ρ' σ' → K' .next ρ' σ') → vtg tg tup items[k] ρ fun ρ' => body ρ' σ K') (hK : ∀ ρ σ, P items.length ρ σ → K .next ρ σ) :
    ∀ ρ σ, P 0 ρ σ → vfor tg tup body G items ρ σ K := by
  have main : ∀ (rest : List AV) (k : Nat) ρ σ, items.drop k = rest → k ≤ items.length → P k ρ σ → vfor tg tup body G rest ρ σ K := by
    intro rest
    induction rest with
    | nil =>
      intro k ρ σ e hk hP
      have : k = items.length := by
        have := congrArg List.length e
        simp at this; lia
      subst this
      exact ⟨hG _ _ _ hP, hK _ _ hP⟩
    | cons x r ih =>
      intro k ρ σ e hk hP
      have hlt : k < items.length := by
        have := congrArg List.length e
        simp at this; lia
      have e2 := List.drop_eq_getElem_cons hlt
      rw [e] at e2
      injection e2 with e3 e4
      refine ⟨hG _ _ _ hP, ?_⟩
      rw [e3]
      exact hb k hlt ρ σ hP _ fun ρ' σ' q => ih (k + 1) ρ' σ' e4.symm hlt q
  intro ρ σ h
  exact main items 0 ρ σ (by simp) (Nat.zero_le _) h

noncomputable def blk (F : Nat → Nat → AV) (t l lines cw : Nat) (con : Nat → Nat → AV) : Nat → Nat → AV := fun i j => if t ≤ i ∧ i < t + lines ∧ l ≤ j ∧ j < l + cw then con (i - t) (j - l) else F i j
theorem blk_zero (F t l cw con) : blk F t l 0 cw con = F := by
  funext i j; unfold blk; rw [if_neg (by lia)]
theorem blk_put {F : Nat → Nat → AV} {t l k cw : Nat} {con : Nat → Nat → AV} {cells : List AV} (hl : cells.length = cw) (hc : ∀ j, j < cw → cells.getD j .non = con k j) : put1 (blk F t l k cw con) (t + k) l cells = blk F t l (k + 1) cw con := by
  funext i j
  unfold put1 blk
  by_cases c1 : i = t + k ∧ l ≤ j ∧ j < l + cells.length
  · rw [if_pos c1, if_pos (by lia), hc (j - l) (by lia)]
    congr 1; lia
  · rw [if_neg c1]
    by_cases c2 : t ≤ i ∧ i < t + k ∧ l ≤ j ∧ j < l + cw
    · rw [if_pos c2, if_pos (by lia)]
    · rw [if_neg c2, if_neg (by lia)]

noncomputable def txtRow (room : Nat) (rows : List (List Int × Int)) (k : Nat) : List AV := txtCells room (rows.getD k ([], 32))
theorem txtCells_len {room : Nat} {p : List Int × Int} (h : p.1.length ≤ room) : (txtCells room p).length = room + 1 := by
  unfold txtCells; simp; lia

structure Sh (σ : ASt) (s : Addr) (l t w h : Nat) (R : Addr) (sel : Bool) (ml : AV) (rs : List Addr) (rowsD : List (List Int × Int)) (S : List Addr) : Prop where
  o : σ s = some (.inst 553 [(39, .int l), (10, .int t), (40, .int w), (41, .int h), (24, .ref R), (42, .bool sel), (43, ml)])
  r : σ R = some (.lst (rs.map .ref))
  rows : RowsOk σ S rs rowsD
  RS : R ∉ S
theorem Sh.extB {σ σ' s l t w h R sel ml rs rowsD S} (z : Sh σ s l t w h R sel ml rs rowsD S) (x : ExtB S σ σ') (hS : ∀ a ∈ S, ∀ C at_, σ a ≠ some (.inst C at_)) : Sh σ' s l t w h R sel ml rs rowsD S :=
  ⟨x _ _ (fun q => hS _ q _ _ z.o) z.o, x _ _ z.RS z.r, z.rows.extB x hS, z.RS⟩
theorem Sh.ext {σ σ' s l t w h R sel ml rs rowsD S} (z : Sh σ s l t w h R sel ml rs rowsD S) (x : Ext σ σ') : Sh σ' s l t w h R sel ml rs rowsD S :=
  ⟨x _ _ z.o, x _ _ z.r, z.rows.ext x, z.RS⟩
theorem Sh.sub {σ s l t w h R sel ml rs rowsD S T} (z : Sh σ s l t w h R sel ml rs rowsD S) (hT : ∀ a ∈ T, a ∈ S) : Sh σ s l t w h R sel ml rs rowsD T :=
  ⟨z.o, z.r, z.rows.sub hT, fun q => z.RS (hT _ q)⟩

section
variable {n : Nat} {Q : Post} {σ : ASt} {s m rl R : Addr} {l t w h W H : Nat} {sel : Bool} {ml : AV} {rs : List Addr} {rowsD : List (List Int × Int)} {S : List Addr} {F : Nat → Nat → AV}

theorem sp_hasBar (z : Sh σ s l t w h R sel ml rs rowsD S) (M : Mat σ m rl F W H) (hQ : Q (.bool (decide (l + w < W))) σ) : WW (n + 1) 48 [.ref s, .ref m] σ Q := by
  refine W_at rfl rfl ?_
  refine l_att (z.o) rfl rfl rfl ?_
  refine l_att (z.o) rfl rfl rfl ?_
  refine l_att (M.1) rfl rfl rfl ?_
  conv => whnf
  rw [show decide ((l : Int) + (w : Int) < (W : Int)) = decide (l + w < W) by congr 1; apply propext; lia]
  exact hQ
theorem sp_textWidth (z : Sh σ s l t w h R sel ml rs rowsD S) (M : Mat σ m rl F W H) (hw : 1 ≤ w) (hQ : Q (.int ((if l + w < W then w - 1 else w : Nat) : Int)) σ) : WW (n + 2) 49 [.ref s, .ref m] σ Q := by
  refine W_at rfl rfl ?_
  refine l_mth (z.o) rfl rfl ?_
  refine sp_hasBar z M ?_
  refine ⟨fun q => ?_, fun q => ?_⟩
  · have q := of_decide_eq_true q
    rw [if_pos q] at hQ
    refine l_att (z.o) rfl rfl rfl ?_
    conv => whnf
    rw [show (w : Int) - 1 = ((w - 1 : Nat) : Int) by lia]
    exact hQ
  · have q := of_decide_eq_false q
    rw [if_neg q] at hQ
    refine l_att (z.o) rfl rfl rfl ?_
    exact hQ
theorem sp_textHeight (z : Sh σ s l t w h R sel ml rs rowsD S) (hm : ml = .non ∨ ∃ a, ml = .ref a) (hh : 1 ≤ h) (hQ : Q (.int ((if ml.isNon = true then h else h - 1 : Nat) : Int)) σ) : WW (n + 1) 50 [.ref s] σ Q := by
  refine W_at rfl rfl ?_
  rcases hm with rfl | ⟨a, rfl⟩
  · refine l_att (z.o) rfl rfl rfl ?_
    refine ⟨fun q => ?_, fun q => absurd (show true = false from q) (by decide)⟩
    refine l_att (z.o) rfl rfl rfl ?_
    exact hQ
  · refine l_att (z.o) rfl rfl rfl ?_
    refine ⟨fun q => absurd (show false = true from q) (by decide), fun q => ?_⟩
    refine l_att (z.o) rfl rfl rfl ?_
    conv => whnf
    rw [show (h : Int) - 1 = ((h - 1 : Nat) : Int) by lia]
    exact hQ

theorem Mat.rlst (M : Mat σ m rl F W H) : ∀ a ∈ [rl], ∀ C at_, σ a ≠ some (.inst C at_) := fun a ha C at_ e => by
  obtain ⟨_, refs, _, h3, _⟩ := M
  rw [List.mem_singleton.mp ha, h3] at e; cases e

theorem sp_putText (z : Sh σ s l t w h R sel ml rs rowsD [rl]) (M : Mat σ m rl F W H) (hm : ml = .non ∨ ∃ a, ml = .ref a) {room lines : Nat} (hw : (if l + w < W then w - 1 else w) = room + 1) (hw1 : 1 ≤ w) (hh : 1 ≤ h) (hlines : (if ml.isNon = true then h else h - 1) = lines)
    (hlen : ∀ p ∈ rowsD, p.1.length ≤ room) (hrd : rowsD.length ≤ 100) (hW : W ≤ 100) (hH : H ≤ 100) (hlw : l + w ≤ W) (hth : t + h ≤ H)
    (hQ : ∀ σ', Mat σ' m rl (blk F t l lines (room + 1) fun k j => (txtRow room rowsD k).getD j .non) W H → ExtB [rl] σ σ' → Q .non σ') : WW (n + 3) 23 [.ref m, .ref s] σ Q := by
  have hroom : room + 1 ≤ w := by split at hw <;> lia
  have hlh : lines ≤ h := by split at hlines <;> lia
  refine W_at rfl rfl ?_
  refine l_mth (z.o) rfl rfl ?_
  refine sp_textWidth z M hw1 ?_
  rw [hw]
  refine l_mth (z.o) rfl rfl ?_
  refine sp_textHeight z hm hh ?_
  rw [hlines]
  refine ⟨⟨by lia, by lia⟩, ?_⟩
  refine for_items (rangeA ((lines : Nat) : Int).toNat) (fun k ρ σ' => (∃ a b, ρ = [some (.ref m), some (.ref s), some (.int ((room + 1 : Nat) : Int)), a, b, none, none, none, none]) ∧ Mat σ' m rl (blk F t l k (room + 1) fun k j => (txtRow room rowsD k).getD j .non) W H ∧ ExtB [rl] σ σ')
    (fun _ _ _ _ => trivial) (fun k hk ρ σ1 hP K' hK' => ?_) (fun ρ σ1 hP => ?_) _ _ ⟨⟨_, _, rfl⟩, by rw [blk_zero]; exact M, ExtB.refl _ _⟩
  · obtain ⟨⟨a, b, rfl⟩, M1, x1⟩ := hP
    have hk : k < lines := by simpa [rangeA] using hk
    have z1 := z.extB x1 M.rlst
    have hrl := z1.rows.len
    rw [show (rangeA ((lines : Nat) : Int).toNat)[k] = .int k by simp [rangeA]]
    refine l_att (z1.o) rfl rfl rfl ?_
    refine ex13 z1.r (by simp; lia) ?_
    have put : ∀ c σ2, σ2 c = some (.lst (txtRow room rowsD k)) → Ext σ1 σ2 → ∀ a : Option AV, WW (n + 2) 53 [.ref m, .int ((t : Int) + k), .int l, .ref c] σ2 fun x σ => notRef x ∧ K' .next [some (.ref m), some (.ref s), some (.int ((room + 1 : Nat) : Int)), some (.int k), some (.ref c), none, none, none, none] σ := fun c σ2 hc x2 a => by
      have hl1 : (rowsD.getD k ([], 32)).1.length ≤ room := by
        rw [List.getD_eq_getElem?_getD]
        cases e : rowsD[k]? with
        | none => simp
        | some p => exact hlen p (List.mem_of_getElem? e)
      have hl2 : (txtRow room rowsD k).length = room + 1 := txtCells_len hl1
      rw [show (t : Int) + (k : Int) = ((t + k : Nat) : Int) by lia]
      refine sp_put (M1.ext x2) (by lia) hc (by lia) (by lia) (by lia) fun σ3 M3 x3 => ⟨trivial, hK' _ _ ⟨⟨_, _, rfl⟩, ?_, (x1.trans x2.toB).trans x3⟩⟩
      rw [blk_put hl2 (fun _ _ => rfl)] at M3
      exact M3
    refine ⟨fun q => ?_, fun q => ?_⟩
    · have q := of_decide_eq_true q
      have hkr : k < rs.length := by simp at q; lia
      refine l_att (z1.o) rfl rfl rfl ?_
      refine ⟨_, .ref rs[k], z1.r, ⟨by lia, by lia⟩, by simp [hkr], ?_⟩
      obtain ⟨p, hp1, hp2⟩ := z1.rows.get (List.getElem?_eq_getElem hkr)
      refine sp_rowCells (n := n + 1) hp2 (hlen p (List.mem_of_getElem? hp1)) (by lia) fun c σ2 hc hc2 x2 => ?_
      refine l_mth ((x2 _ _ M1.1)) rfl rfl ?_
      refine l_att ((x2 _ _ z1.o)) rfl rfl rfl ?_
      refine l_att ((x2 _ _ z1.o)) rfl rfl rfl ?_
      refine put c σ2 ?_ x2 a
      unfold txtRow
      rw [List.getD_eq_getElem?_getD, hp1]; exact hc2
    · have q := of_decide_eq_false q
      have hkr : ¬ k < rs.length := by simp at q; lia
      refine ⟨Nat.le_of_ble_eq_true rfl, fun e he => ?_⟩
      refine ex13 (upd_self _ _ _) ⟨by lia, by lia, by simp; lia⟩ (fun c hc => ?_)
      have x2 : Ext σ1 (upd (upd σ1 e (.lst [.tup [.int 32, .int 0]])) c (.lst (List.replicate ((room + 1 : Nat) : Int).toNat [.tup [.int 32, .int 0]]).flatten)) := (Ext.new he).trans (Ext.new hc)
      have hc2 := upd_self (upd σ1 e (.lst [.tup [.int 32, .int 0]])) c (.lst (List.replicate ((room + 1 : Nat) : Int).toNat [.tup [.int 32, .int 0]]).flatten)
      generalize upd (upd σ1 e (.lst [.tup [.int 32, .int 0]])) c (.lst (List.replicate ((room + 1 : Nat) : Int).toNat [.tup [.int 32, .int 0]]).flatten) = σ2 at *
      refine l_mth ((x2 _ _ M1.1)) rfl rfl ?_
      refine l_att ((x2 _ _ z1.o)) rfl rfl rfl ?_
      refine l_att ((x2 _ _ z1.o)) rfl rfl rfl ?_
      refine put c σ2 ?_ x2 a
      rw [hc2]
      unfold txtRow
      rw [List.getD_eq_getElem?_getD, List.getElem?_eq_none (by lia), flat_rep]
      congr 2
      show _ = List.replicate (room - 0) (cell 32 0) ++ [cell 32 0]
      rw [show ((room + 1 : Nat) : Int).toNat = room + 1 by simp, List.replicate_succ']
      rfl
  · obtain ⟨_, M1, x1⟩ := hP
    refine hQ σ1 ?_ x1
    rw [show (rangeA ((lines : Nat) : Int).toNat).length = lines by simp [rangeA]] at M1
    exact M1
end
end Np

namespace Np

theorem vwh_step {c : LE → ASt → Post → Prop} {b : LE → ASt → PostS → Prop} {n : Nat} {ρ : LE} {σ : ASt} {K : PostS} (h : c ρ σ fun x σ => vif x (b ρ σ fun o ρ σ => match o with
    | .ret v => K (.ret v) ρ σ
    | _ => vwh c b n ρ σ K) (K .next ρ σ)) : vwh c b (n + 1) ρ σ K := h
theorem vss_whl {T W c b l ρ σ} {K : PostS} (h : ∀ n, vwh (fun ρ σ Q => ve T W c ρ σ Q) (fun ρ σ K => vss T W b ρ σ K) (n + 90) ρ σ (fun o ρ σ => match o with
    | .next => vss T W l ρ σ K
    | o => K o ρ σ)) : vss T W (.cons (.whl c b) l) ρ σ K := h 10

-- faces
noncomputable abbrev nmD : Str := Str.ofString "default"
noncomputable abbrev nmM : Str := Str.ofString "mode-line"
noncomputable abbrev nmI : Str := Str.ofString "mode-line-inactive"
noncomputable abbrev plainL : List AV := [.int 0, .int 0, .int 0, .int 0, .int 0, .int 0]
noncomputable abbrev partsM : List AV := [.non, .non, .non, .non, .non, .int 1]
noncomputable abbrev partsI : List AV := [.non, .non, .int 1, .non, .non, .int 1]
noncomputable abbrev lookM : List AV := [.int 0, .int 0, .int 0, .int 0, .int 0, .int 1]
noncomputable abbrev lookI : List AV := [.int 0, .int 0, .int 1, .int 0, .int 0, .int 1]
noncomputable def faceO (p : List AV) : AO := .inst 651 [(47, .tup p), (48, .tup [])]

-- the table, its faces named
structure FT (σ : ASt) (t d l m : Addr) (kd : List (Str × AV)) (ll : List AV) (km : List (List Int × AV)) : Prop where
  o : σ t = some (.inst 696 [(49, .ref d), (50, .ref l), (51, .ref m)])
  d : σ d = some (.dcs kd)
  l : σ l = some (.lst ll)
  m : σ m = some (.dct km)
theorem FT.ext {σ σ' t d l m kd ll km} (h : FT σ t d l m kd ll km) (x : Ext σ σ') : FT σ' t d l m kd ll km := ⟨x _ _ h.o, x _ _ h.d, x _ _ h.l, x _ _ h.m⟩

section
variable {n : Nat} {Q : Post} {σ : ASt} {t d l m : Addr} {kd : List (Str × AV)} {ll : List AV} {km : List (List Int × AV)}

theorem mk_Table {F : Addr → ASt → Prop} (hQ : ∀ t d l m f σ', FT σ' t d l m [(nmD, .ref f)] [.tup plainL] [([0, 0, 0, 0, 0, 0], .int 0)] → σ' f = some (faceO plainL) → Ext σ σ' → σ t = none → σ d = none → σ l = none → σ m = none → F t σ') :
    ∀ a, σ a = none → WW (n + 2) 56 [.ref a] (upd σ a (.inst 696 [])) (fun r σ => r = .non ∧ F a σ) := by
  intro a ha
  refine W_at rfl rfl ?_
  have x0 : Ext σ (upd σ a (.inst 696 [])) := Ext.new ha
  have ha0 := upd_self σ a (.inst 696 [])
  refine mk_Face fun f σ1 hf hf1 x1 => ?_
  intro d hd
  have x2 := Ext.new (o := .dcs [(nmD, .ref f)]) hd
  have hd1 := upd_self σ1 d (.dcs [(nmD, .ref f)])
  refine ex24 (x2 _ _ (x1 _ _ ha0)) rfl (Nat.le_of_ble_eq_true rfl) ?_
  generalize upd σ1 d (.dcs [(nmD, .ref f)]) = σ2 at *
  have hda : d ≠ a := fun z => by subst z; rw [x1 _ _ ha0] at hd; cases hd
  have hfa : f ≠ a := fun z => by subst z; rw [ha0] at hf; cases hf
  have y3 : ExtB [a] σ2 (upd σ2 a (.inst 696 [(49, .ref d)])) := ExtB.upd
  have ha3 := upd_self σ2 a (.inst 696 [(49, .ref d)])
  rw [show aset 49 (AV.ref d) [] = [(49, AV.ref d)] from rfl]
  generalize upd σ2 a (.inst 696 [(49, .ref d)]) = σ3 at *
  refine ⟨Nat.le_of_ble_eq_true rfl, fun l hl => ?_⟩
  have x4 := Ext.new (o := .lst [.tup plainL]) hl
  have hl4 := upd_self σ3 l (.lst [.tup plainL])
  refine ex24 (x4 _ _ ha3) rfl (Nat.le_of_ble_eq_true rfl) ?_
  generalize upd σ3 l (.lst [.tup plainL]) = σ4 at *
  have hla : l ≠ a := fun z => by subst z; rw [ha3] at hl; cases hl
  have y5 : ExtB [a] σ4 (upd σ4 a (.inst 696 [(49, .ref d), (50, .ref l)])) := ExtB.upd
  have ha5 := upd_self σ4 a (.inst 696 [(49, .ref d), (50, .ref l)])
  rw [show aset 50 (AV.ref l) [(49, AV.ref d)] = [(49, AV.ref d), (50, .ref l)] from rfl]
  generalize upd σ4 a (.inst 696 [(49, .ref d), (50, .ref l)]) = σ5 at *
  refine ⟨[0, 0, 0, 0, 0, 0], rfl, fun m hm => ?_⟩
  have x6 := Ext.new (o := .dct [([0, 0, 0, 0, 0, 0], .int 0)]) hm
  have hm6 := upd_self σ5 m (.dct [([0, 0, 0, 0, 0, 0], .int 0)])
  refine ex24 (x6 _ _ ha5) rfl (Nat.le_of_ble_eq_true rfl) ?_
  generalize upd σ5 m (.dct [([0, 0, 0, 0, 0, 0], .int 0)]) = σ6 at *
  have hma : m ≠ a := fun z => by subst z; rw [ha5] at hm; cases hm
  have na : ∀ {b}, b ≠ a → b ∉ [a] := fun h => by simpa using h
  refine ⟨rfl, hQ a d l m f _ ⟨upd_self _ _ _, ?_, ?_, (upd_ne hma).trans hm6⟩ ?_ (fun b o e => ?_) ha ?_ ?_ ?_⟩
  · exact (upd_ne hda).trans (x6 _ _ (y5 _ _ (na hda) (x4 _ _ (y3 _ _ (na hda) hd1))))
  · exact (upd_ne hla).trans (x6 _ _ (y5 _ _ (na hla) hl4))
  · exact (upd_ne hfa).trans (x6 _ _ (y5 _ _ (na hfa) (x4 _ _ (y3 _ _ (na hfa) (x2 _ _ hf1)))))
  · have hb := ne_of ha e
    exact (upd_ne hb).trans (x6 _ _ (y5 _ _ (na hb) (x4 _ _ (y3 _ _ (na hb) (x2 _ _ (x1 _ _ (x0 _ _ e)))))))
  · exact x0.none (x1.none hd)
  · exact x0.none (x1.none (x2.none (y3.none (na hla) hl)))
  · exact x0.none (x1.none (x2.none (y3.none (na hma) (x4.none (y5.none (na hma) hm)))))

theorem sp_define {nm : Str} {f : AV} (h : FT σ t d l m kd ll km) (hn : (nm != nmD) = true) (hk : kd.length ≤ 1000) (hQ : ∀ σ', FT σ' t d l m (dpt kd nm f) ll km → ExtB [d] σ σ' → Q .non σ') : WW (n + 1) 57 [.ref t, .str nm, f] σ Q := by
  refine W_at rfl rfl ?_
  change ((nm != nmD) = true → _) ∧ ((nm != nmD) = false → _)
  refine ⟨fun _ => ?_, fun q => by rw [hn] at q; cases q⟩
  refine l_att (h.o) rfl rfl rfl ?_
  refine ex13 h.d (by rw [sizeLine_eq]; lia) ?_
  have hl : l ≠ d := ne_ot h.l h.d rfl
  have ht : t ≠ d := ne_ot h.o h.d rfl
  have hm : m ≠ d := ne_ot h.m h.d rfl
  exact hQ _ ⟨(upd_ne ht).trans h.o, upd_self _ _ _, (upd_ne hl).trans h.l, (upd_ne hm).trans h.m⟩ ExtB.upd

-- the table with its three faces
structure T3 (σ : ASt) (t d l m f0 f1 f2 : Addr) (ll : List AV) (km : List (List Int × AV)) : Prop where
  t : FT σ t d l m [(nmD, .ref f0), (nmM, .ref f1), (nmI, .ref f2)] ll km
  f0 : σ f0 = some (faceO plainL)
  f1 : σ f1 = some (faceO partsM)
  f2 : σ f2 = some (faceO partsI)
theorem T3.ext {σ σ' t d l m f0 f1 f2 ll km} (h : T3 σ t d l m f0 f1 f2 ll km) (x : Ext σ σ') : T3 σ' t d l m f0 f1 f2 ll km := ⟨h.t.ext x, x _ _ h.f0, x _ _ h.f1, x _ _ h.f2⟩

noncomputable def mergedEnv (t : Addr) (names : Option AV) (w e g : Addr) (x5 x6 : Option AV) : LE := [some (.ref t), names, some (.ref w), some (.ref e), some (.ref g), x5, x6, none, none, none, none, none]
theorem merged_iter {w e g f : Addr} {fuel : Nat} {names x5 x6 : Option AV} {pre parts found : List AV} {met : List (Str × AV)} {name : Str} {K : PostS} (ht : σ t = some (.inst 696 [(49, .ref d), (50, .ref l), (51, .ref m)])) (hd : σ d = some (.dcs kd))
    (hk : dgt kd name = some (.ref f)) (hf : σ f = some (faceO parts)) (hmet : dgt met name = none) (hw : σ w = some (.lst (pre ++ [.str name]))) (he : σ e = some (.dcs met)) (hg : σ g = some (.lst found)) (hgw : g ≠ w) (hed : e ≠ d)
    (ha1 : found.all atom = true) (ha2 : parts.all atom = true) (hl1 : found.length = parts.length) (hl2 : parts.length ≤ 1000) (hl3 : pre.length ≤ 1000) (hl4 : met.length ≤ 1000)
    (hK : ∀ g' σ' x5 x6, σ' w = some (.lst pre) → σ' e = some (.dcs (dpt met name (.bool true))) → σ' g' = some (.lst (zipA found parts)) → ExtB [w, e] σ σ' → g' ≠ w →
      vwh (fun ρ σ Q => ve TT (WW n) (.cmp .NotEq (.loc 2) (.lst .nil)) ρ σ Q) (fun ρ σ K => vss TT (WW n) (bodyOf (nthS fn58.body 1)) ρ σ K) fuel (mergedEnv t names w e g' x5 x6) σ' K) :
    vwh (fun ρ σ Q => ve TT (WW n) (.cmp .NotEq (.loc 2) (.lst .nil)) ρ σ Q) (fun ρ σ K => vss TT (WW n) (bodyOf (nthS fn58.body 1)) ρ σ K) (fuel + 1) (mergedEnv t names w e g x5 x6) σ K := by
  refine vwh_step ?_
  refine ⟨by decide, fun b0 hb0 => ?_⟩
  have y1 : Ext σ (upd σ b0 (.lst [])) := Ext.new hb0
  refine ⟨_, _, y1 _ _ hw, upd_self _ _ _, .inl ⟨by simp, ?_⟩⟩
  generalize upd σ b0 (.lst []) = σ1 at *
  refine ⟨fun _ => ?_, fun q => absurd q (by decide)⟩
  refine ⟨⟨_, y1 _ _ hw⟩, ?_⟩
  refine ⟨pre, .str name, y1 _ _ hw, by rw [sizeLine_eq]; lia, ?_⟩
  have y2 : ExtB [w] σ1 (upd σ1 w (.lst pre)) := ExtB.upd
  have hw2 := upd_self σ1 w (.lst pre)
  generalize upd σ1 w (.lst pre) = σ2 at *
  have nw : ∀ {b}, b ≠ w → b ∉ [w] := fun h => by simpa using h
  have dw : d ≠ w := ne_ot hd hw rfl
  have tw : t ≠ w := ne_ot ht hw rfl
  have fw : f ≠ w := ne_ot hf hw rfl
  have ew : e ≠ w := ne_ot he hw rfl
  have te : t ≠ e := ne_ot ht he rfl
  have fe : f ≠ e := ne_ot hf he rfl
  have ge : g ≠ e := ne_ot hg he rfl
  have ht2 := y2 _ _ (nw tw) (y1 _ _ ht)
  have hd2 := y2 _ _ (nw dw) (y1 _ _ hd)
  have hf2 := y2 _ _ (nw fw) (y1 _ _ hf)
  have he2 := y2 _ _ (nw ew) (y1 _ _ he)
  have hg2 := y2 _ _ (nw hgw) (y1 _ _ hg)
  refine l_att (ht2) rfl rfl rfl ?_
  refine ex12 hd2 ?_
  rw [hk]
  refine ⟨fun _ => ?_, fun q => absurd (show true = false from q) (by decide)⟩
  refine ex12 he2 ?_
  rw [hmet]
  refine ⟨fun _ => ?_, fun q => absurd q (by decide)⟩
  refine ex13 he2 (by rw [sizeLine_eq]; lia) ?_
  have y3 : ExtB [e] σ2 (upd σ2 e (.dcs (dpt met name (.bool true)))) := ExtB.upd
  have he3 := upd_self σ2 e (.dcs (dpt met name (.bool true)))
  generalize upd σ2 e (.dcs (dpt met name (.bool true))) = σ3 at *
  have ne : ∀ {b}, b ≠ e → b ∉ [e] := fun h => by simpa using h
  have ht3 := y3 _ _ (ne te) ht2
  have hd3 := y3 _ _ (ne hed.symm) hd2
  have hf3 := y3 _ _ (ne fe) hf2
  have hg3 := y3 _ _ (ne ge) hg2
  have hw3 := y3 _ _ (ne ew.symm) hw2
  refine l_att (ht3) rfl rfl rfl ?_
  refine ex23 hd3 hk ?_
  refine l_att (hf3) rfl rfl rfl ?_
  refine ⟨_, hg3, ha1, ha2, hl1, hl2, fun g' hg' => ?_⟩
  have y4 : Ext σ3 (upd σ3 g' (.lst (zipA found parts))) := Ext.new hg'
  have hg4 := upd_self σ3 g' (.lst (zipA found parts))
  generalize upd σ3 g' (.lst (zipA found parts)) = σ4 at *
  refine ⟨⟨_, y4 _ _ hw3⟩, ?_⟩
  refine l_att ((y4 _ _ hf3)) rfl rfl rfl ?_
  refine ⟨by decide, fun b1 hb1 => ?_⟩
  have y5 : Ext σ4 (upd σ4 b1 (.lst [])) := Ext.new hb1
  have hb2 := upd_self σ4 b1 (.lst [])
  generalize upd σ4 b1 (.lst []) = σ5 at *
  refine ex14 hb2 (by decide) rfl (fun b3 hb3 => ?_)
  have y6 : Ext σ5 (upd σ5 b3 (.lst ([] : List AV).reverse)) := Ext.new hb3
  have hb4 := upd_self σ5 b3 (.lst ([] : List AV).reverse)
  generalize upd σ5 b3 (.lst ([] : List AV).reverse) = σ6 at *
  refine ex24 (y6 _ _ (y5 _ _ (y4 _ _ hw3))) hb4 (by simp; lia) ?_
  refine ⟨trivial, ?_⟩
  have y7 : ExtB [w] σ6 (upd σ6 w (.lst (pre ++ ([] : List AV).reverse))) := ExtB.upd
  have hw7 := upd_self σ6 w (.lst (pre ++ ([] : List AV).reverse))
  generalize upd σ6 w (.lst (pre ++ ([] : List AV).reverse)) = σ7 at *
  have gw' : g' ≠ w := fun z => by subst z; rw [hw3] at hg'; cases hg'
  refine hK g' σ7 _ _ (by rw [hw7]; simp) (y7 _ _ (nw ew) (y6 _ _ (y5 _ _ (y4 _ _ he3)))) (y7 _ _ (nw gw') (y6 _ _ (y5 _ _ hg4))) (fun b o hb e1 => ?_) gw'
  simp only [List.mem_cons, not_or] at hb
  have hbw := hb.1
  have hbe := hb.2.1
  exact y7 _ _ (nw hbw) (y6 _ _ (y5 _ _ (y4 _ _ (y3 _ _ (ne hbe) (y2 _ _ (nw hbw) (y1 _ _ e1))))))

theorem sp_merged {f0 f1 f2 : Addr} (h : T3 σ t d l m f0 f1 f2 ll km) {nm : Str} {look : List AV} (hn : nm = nmM ∧ look = lookM ∨ nm = nmI ∧ look = lookI) (hQ : ∀ σ', Ext σ σ' → Q (.tup look) σ') : WW (n + 1) 58 [.ref t, .tup [.str nm]] σ Q := by
  refine W_at rfl rfl ?_
  refine ⟨Nat.le_of_ble_eq_true rfl, fun a ha => ?_⟩
  have x1 := Ext.new (o := .lst [.str nmD]) ha
  have ha1 := upd_self σ a (.lst [.str nmD])
  generalize upd σ a (.lst [.str nmD]) = σ1 at *
  refine ⟨Nat.le_of_ble_eq_true rfl, fun b hb => ?_⟩
  have x2 := Ext.new (o := .lst [.str nm]) hb
  have hb1 := upd_self σ1 b (.lst [.str nm])
  generalize upd σ1 b (.lst [.str nm]) = σ2 at *
  refine ex14 hb1 (Nat.le_of_ble_eq_true rfl) rfl (fun c hc => ?_)
  have x3 := Ext.new (o := .lst [.str nm]) hc
  have hc1 := upd_self σ2 c (.lst [.str nm])
  rw [show [AV.str nm].reverse = [.str nm] from rfl]
  generalize upd σ2 c (.lst [.str nm]) = σ3 at *
  refine ex24 (x3 _ _ (x2 _ _ ha1)) hc1 (Nat.le_of_ble_eq_true rfl) (fun w hw => ?_)
  have x4 := Ext.new (o := .lst [.str nmD, .str nm]) hw
  have hw1 := upd_self σ3 w (.lst [.str nmD, .str nm])
  rw [show [AV.str nmD] ++ [AV.str nm] = [.str nmD, .str nm] from rfl]
  generalize upd σ3 w (.lst [.str nmD, .str nm]) = σ4 at *
  intro e he
  have x5 := Ext.new (o := .dcs []) he
  have he1 := upd_self σ4 e (.dcs [])
  generalize upd σ4 e (.dcs []) = σ5 at *
  refine ⟨Nat.le_of_ble_eq_true rfl, fun g hg => ?_⟩
  have x6 := Ext.new (o := .lst [.non, .non, .non, .non, .non, .non]) hg
  have hg1 := upd_self σ5 g (.lst [.non, .non, .non, .non, .non, .non])
  generalize upd σ5 g (.lst [.non, .non, .non, .non, .non, .non]) = σ6 at *
  refine ⟨Nat.le_of_ble_eq_true rfl, ?_⟩
  refine vss_whl fun fuel => ?_
  have X6 : Ext σ σ6 := ((((x1.trans x2).trans x3).trans x4).trans x5).trans x6
  have T6 := h.ext X6
  have hwd : w ≠ d := fun z => by subst z; rw [x3 _ _ (x2 _ _ (x1 _ _ h.t.d))] at hw; cases hw
  have hed : e ≠ d := fun z => by subst z; rw [x4 _ _ (x3 _ _ (x2 _ _ (x1 _ _ h.t.d)))] at he; cases he
  have hgw : g ≠ w := fun z => by subst z; rw [x5 _ _ hw1] at hg; cases hg
  have hgm : ∀ {q : Addr} {o : AO}, σ6 q = some o → q ≠ w → q ≠ e → q ∉ [w, e] := fun _ h1 h2 => by simp [h1, h2]
  obtain ⟨f, parts, hf1, hf2, hne, hz1, hz2, hz3, hz4⟩ : ∃ (f : Addr) (parts : List AV), dgt [(nmD, AV.ref f0), (nmM, .ref f1), (nmI, .ref f2)] nm = some (.ref f) ∧ σ6 f = some (faceO parts) ∧ nm ≠ nmD ∧ parts.all atom = true ∧ parts.length = 6 ∧ (zipA [.non, .non, .non, .non, .non, .non] parts).all atom = true ∧ zipA (zipA [.non, .non, .non, .non, .non, .non] parts) plainL = look := by
    rcases hn with ⟨rfl, rfl⟩ | ⟨rfl, rfl⟩
    · exact ⟨f1, partsM, rfl, T6.f1, by decide, rfl, rfl, rfl, rfl⟩
    · exact ⟨f2, partsI, rfl, T6.f2, by decide, rfl, rfl, rfl, rfl⟩
  have hzl : (zipA [.non, .non, .non, .non, .non, .non] parts).length = 6 := by
    match parts, hz2 with
    | [_, _, _, _, _, _], _ => rfl
  have hfw : f ≠ w := ne_ot hf2 (x6 _ _ (x5 _ _ hw1)) rfl
  have hfe : f ≠ e := ne_ot hf2 (x6 _ _ he1) rfl
  have hdw : d ∉ [w, e] := by simp [Ne.symm hwd, Ne.symm hed]
  have htw : t ∉ [w, e] := by simp [ne_ot T6.t.o (x6 _ _ (x5 _ _ hw1)) rfl, ne_ot T6.t.o (x6 _ _ he1) rfl]
  have h0w : f0 ∉ [w, e] := by simp [ne_ot T6.f0 (x6 _ _ (x5 _ _ hw1)) rfl, ne_ot T6.f0 (x6 _ _ he1) rfl]
  refine merged_iter (n := n) (pre := [.str nmD]) (name := nm) (f := f) (parts := parts) (found := [.non, .non, .non, .non, .non, .non]) (met := []) T6.t.o T6.t.d hf1 hf2 rfl (x6 _ _ (x5 _ _ hw1)) (x6 _ _ he1) hg1 hgw hed rfl hz1 (by simp [hz2]) (by simp [hz2]) (by decide) (by decide) fun g' σ7 x5' x6' q1 q2 q3 q4 q5 => ?_
  refine merged_iter (n := n) (pre := []) (name := nmD) (f := f0) (parts := plainL) (found := zipA [.non, .non, .non, .non, .non, .non] parts) (met := dpt [] nm (.bool true)) (q4 _ _ htw T6.t.o) (q4 _ _ hdw T6.t.d) rfl (q4 _ _ h0w T6.f0) ?_ q1 q2 q3 q5 hed hz3 rfl (by rw [hzl]; rfl) (by decide) (by decide) ?_ fun g2 σ8 y5 y6 r1 r2 r3 r4 r5 => ?_
  · unfold dgt dpt dgt
    simp [hne]
  · unfold dpt dgt; simp
  refine vwh_step ?_
  refine ⟨by decide, fun b0 hb0 => ?_⟩
  refine ⟨_, _, (Ext.new hb0) _ _ r1, upd_self _ _ _, .inr ⟨rfl, rfl, ?_⟩⟩
  refine ⟨fun q => absurd q (by decide), fun _ => ?_⟩
  refine ex13 ((Ext.new hb0) _ _ r3) ?_ ?_
  · rw [hz4]
    rcases hn with ⟨_, rfl⟩ | ⟨_, rfl⟩ <;> exact Nat.le_of_ble_eq_true rfl
  rw [hz4]
  refine hQ _ fun b p e1 => (Ext.new hb0) _ _ (r4 _ _ ?_ (q4 _ _ ?_ (X6 _ _ e1)))
  all_goals
    have z1 : b ≠ w := fun z => by subst z; rw [x3 _ _ (x2 _ _ (x1 _ _ e1))] at hw; cases hw
    have z2 : b ≠ e := fun z => by subst z; rw [x4 _ _ (x3 _ _ (x2 _ _ (x1 _ _ e1)))] at he; cases he
    simp [z1, z2]
end
end Np

namespace Np
section
variable {n : Nat} {Q : Post} {σ : ASt} {t d l m f0 f1 f2 : Addr} {ll : List AV} {km : List (List Int × AV)}

theorem shapedNm {nm : Str} {look : List AV} (hn : nm = nmM ∧ look = lookM ∨ nm = nmI ∧ look = lookI) : SeqAt.shaped (.tuple [.str nm]) = true := by
  have h : PyData.strOk nm = true := by rcases hn with ⟨rfl, _⟩ | ⟨rfl, _⟩ <;> decide +kernel
  simp [SeqAt.shaped, PyData.canLay0, PyData.canLayAll0, PyData.depth, PyData.depthAll, h]
theorem sp_numOld (h : T3 σ t d l m f0 f1 f2 ll km) {nm : Str} {look : List AV} (hn : nm = nmM ∧ look = lookM ∨ nm = nmI ∧ look = lookI) {ks : List Int} (hks : intsOf look = some ks) {v : AV} (hv : dgt km ks = some v) (hQ : ∀ σ', Ext σ σ' → Q v σ') :
    WW (n + 2) 59 [.ref t, .tup [.str nm]] σ Q := by
  refine W_at rfl rfl ?_
  refine ⟨by decide, ?_⟩
  refine ⟨.tuple [.str nm], .tuple [], .tup (.cons .str .nil), .tup .nil, shapedNm hn, by simp [SeqAt.shaped, PyData.canLay0, PyData.canLayAll0, PyData.depth, PyData.depthAll], ?_⟩
  refine ⟨fun q => absurd (show false = true from q) (by decide), fun _ => ?_⟩
  refine l_mth (h.t.o) rfl rfl ?_
  refine sp_merged h hn fun σ1 x1 => ?_
  have h1 := h.ext x1
  refine l_att (h1.t.o) rfl rfl rfl ?_
  refine ⟨_, ks, hks, h1.t.m, ?_⟩
  rw [hv]
  refine ⟨fun q => absurd (show false = true from q) (by decide), fun _ => ?_⟩
  refine l_att (h1.t.o) rfl rfl rfl ?_
  exact ⟨_, ks, v, hks, h1.t.m, hv, hQ _ x1⟩

theorem sp_numNew (h : T3 σ t d l m f0 f1 f2 ll km) {nm : Str} {look : List AV} (hn : nm = nmM ∧ look = lookM ∨ nm = nmI ∧ look = lookI) {ks : List Int} (hks : intsOf look = some ks) (hv : dgt km ks = none) (hll : ll.length ≤ 100) (hkm : km.length ≤ 100)
    (hQ : ∀ σ', T3 σ' t d l m f0 f1 f2 (ll ++ [.tup look]) (dpt km ks (.int ll.length)) → ExtB [m, l] σ σ' → Q (.int ll.length) σ') :
    WW (n + 2) 59 [.ref t, .tup [.str nm]] σ Q := by
  refine W_at rfl rfl ?_
  refine ⟨by decide, ?_⟩
  refine ⟨.tuple [.str nm], .tuple [], .tup (.cons .str .nil), .tup .nil, shapedNm hn, by simp [SeqAt.shaped, PyData.canLay0, PyData.canLayAll0, PyData.depth, PyData.depthAll], ?_⟩
  refine ⟨fun q => absurd (show false = true from q) (by decide), fun _ => ?_⟩
  refine l_mth (h.t.o) rfl rfl ?_
  refine sp_merged h hn fun σ1 x1 => ?_
  have h1 := h.ext x1
  refine l_att (h1.t.o) rfl rfl rfl ?_
  refine ⟨_, ks, hks, h1.t.m, ?_⟩
  rw [hv]
  refine ⟨fun _ => ?_, fun q => absurd (show true = false from q) (by decide)⟩
  refine l_att (h1.t.o) rfl rfl rfl ?_
  refine ex13 h1.t.l (by lia) ?_
  refine l_att (h1.t.o) rfl rfl rfl ?_
  refine ⟨_, ks, hks, h1.t.m, by rw [sizeLine_eq]; lia, ?_⟩
  have e1 : t ≠ m := ne_ot h1.t.o h1.t.m rfl
  have e2 : d ≠ m := ne_ot h1.t.d h1.t.m rfl
  have e3 : l ≠ m := ne_ot h1.t.l h1.t.m rfl
  have e4 : f0 ≠ m := ne_ot h1.f0 h1.t.m rfl
  have e5 : f1 ≠ m := ne_ot h1.f1 h1.t.m rfl
  have e6 : f2 ≠ m := ne_ot h1.f2 h1.t.m rfl
  have h2 : T3 (upd σ1 m (.dct (dpt km ks (.int ll.length)))) t d l m f0 f1 f2 ll (dpt km ks (.int ll.length)) :=
    ⟨⟨(upd_ne e1).trans h1.t.o, (upd_ne e2).trans h1.t.d, (upd_ne e3).trans h1.t.l, upd_self _ _ _⟩, (upd_ne e4).trans h1.f0, (upd_ne e5).trans h1.f1, (upd_ne e6).trans h1.f2⟩
  have y2 : ExtB [m, l] σ (upd σ1 m (.dct (dpt km ks (.int ll.length)))) := x1.toB.trans (ExtB.upd' (by simp))
  generalize upd σ1 m (.dct (dpt km ks (.int ll.length))) = σ2 at *
  refine l_att (h2.t.o) rfl rfl rfl ?_
  refine ⟨⟨_, h2.t.l⟩, ?_⟩
  refine ex13 h2.t.l (by rw [sizeLine_eq]; lia) ?_
  have e1 : t ≠ l := ne_ot h2.t.o h2.t.l rfl
  have e2 : d ≠ l := ne_ot h2.t.d h2.t.l rfl
  have e4 : f0 ≠ l := ne_ot h2.f0 h2.t.l rfl
  have e5 : f1 ≠ l := ne_ot h2.f1 h2.t.l rfl
  have e6 : f2 ≠ l := ne_ot h2.f2 h2.t.l rfl
  have h3 : T3 (upd σ2 l (.lst (ll ++ [.tup look]))) t d l m f0 f1 f2 (ll ++ [.tup look]) (dpt km ks (.int ll.length)) :=
    ⟨⟨(upd_ne e1).trans h2.t.o, (upd_ne e2).trans h2.t.d, upd_self _ _ _, (upd_ne (Ne.symm e3)).trans h2.t.m⟩, (upd_ne e4).trans h2.f0, (upd_ne e5).trans h2.f1, (upd_ne e6).trans h2.f2⟩
  have y3 : ExtB [m, l] σ (upd σ2 l (.lst (ll ++ [.tup look]))) := y2.trans (ExtB.upd' (by simp))
  generalize upd σ2 l (.lst (ll ++ [.tup look])) = σ3 at *
  refine ⟨trivial, ?_⟩
  refine l_att (h3.t.o) rfl rfl rfl ?_
  refine ⟨_, ks, .int ll.length, hks, h3.t.m, ?_, hQ _ h3 y3⟩
  unfold dpt
  rw [hv]
  unfold dgt at hv ⊢
  rw [if_neg (by simp), List.find?_append]
  have : List.find? (fun x => decide (x.1 = ks)) km = none := by simpa using hv
  rw [this]
  simp

-- the table at rest: three faces, three looks
noncomputable def kmF : List (List Int × AV) := [([0, 0, 0, 0, 0, 0], .int 0), ([0, 0, 0, 0, 0, 1], .int 1), ([0, 0, 1, 0, 0, 1], .int 2)]
structure TF (σ : ASt) (t d l m f0 f1 f2 : Addr) : Prop where
  t : T3 σ t d l m f0 f1 f2 [.tup plainL, .tup lookM, .tup lookI] kmF
theorem TF.ext {σ' : ASt} (h : TF σ t d l m f0 f1 f2) (x : Ext σ σ') : TF σ' t d l m f0 f1 f2 := ⟨h.t.ext x⟩
theorem TF.tb (h : TF σ t d l m f0 f1 f2) : Tb σ t := ⟨_, h.t.t.o, rfl⟩
theorem TF.num (h : TF σ t d l m f0 f1 f2) {nm : Str} {num : Int} (hn : nm = nmM ∧ num = 1 ∨ nm = nmI ∧ num = 2) (hQ : ∀ σ', Ext σ σ' → Q (.int num) σ') : WW (n + 2) 59 [.ref t, .tup [.str nm]] σ Q := by
  rcases hn with ⟨rfl, rfl⟩ | ⟨rfl, rfl⟩
  · exact sp_numOld h.t (.inl ⟨rfl, rfl⟩) (ks := [0, 0, 0, 0, 0, 1]) rfl rfl hQ
  · exact sp_numOld h.t (.inr ⟨rfl, rfl⟩) (ks := [0, 0, 1, 0, 0, 1]) rfl rfl hQ

end
end Np

namespace Np

noncomputable def pB : Str := Str.ofString "%b"
noncomputable def NmOk (x : Str) : Prop := x = Str.ofString "b" ∨ x = Str.ofString "longername" ∨ x = Str.ofString ""
noncomputable def factsO (x : Str) : AO := .inst 89 [(5, .str x), (6, .str (Str.ofString "")), (7, .str (Str.ofString "Fundamental")), (8, .int 1), (9, .int 1), (10, .int 1), (11, .int 1), (12, .int 1), (13, .int 0), (14, .bool false), (15, .bool false), (16, .bool false), (17, .int 0)]
section
variable {n : Nat} {Q : Post} {σ : ASt}

theorem vss_nil {T W ρ σ} {K : PostS} (h : K .next ρ σ) : vss T W .nil ρ σ K := h
theorem sp_toldBy {x : Str} {fa : Addr} (h : σ fa = some (factsO x)) (hQ : ∀ σ', Ext σ σ' → Q (.str x) σ') : WW (n + 1) 8 [.str (Str.ofString "b"), .ref fa] σ Q := by
  refine W_at rfl rfl ?_
  refine ⟨fun _ => ?_, fun q => absurd q (by decide +kernel)⟩
  refine ⟨fun _ => ?_, fun q => absurd q (by decide +kernel)⟩
  refine l_att (h) rfl rfl rfl ?_
  refine l_att (h) rfl rfl rfl ?_
  refine l_att (h) rfl rfl rfl ?_
  intro d hd
  have x1 := Ext.new (o := .dcs (dpt (dpt [(Str.ofString "b", AV.str x)] (Str.ofString "f") (.str (Str.ofString ""))) (Str.ofString "m") (.str (Str.ofString "Fundamental")))) hd
  refine ⟨_, .str x, upd_self _ _ _, rfl, hQ _ x1⟩

theorem sp_fieldWidth (hQ : Q (.tup [.int 0, .int 1]) σ) : WW (n + 1) 9 [.str pB, .int (0 + 1)] σ Q := by
  refine W_at rfl rfl ?_
  change vss TT (WW n) _ ((((List.replicate 7 none).set 0 (some (.str pB))).set 1 (some (.int 1))).set 2 (some (.int 1))) σ _
  refine vss_whl fun fuel => ?_
  refine vwh_step ?_
  refine ⟨by decide +kernel, ?_⟩
  refine ⟨fun _ => ?_, fun q => absurd q (by decide +kernel)⟩
  refine ⟨fun _ => ?_, fun q => absurd q (by decide +kernel)⟩
  refine ⟨98, by decide, rfl, ?_⟩
  refine ⟨fun q => absurd q (by decide +kernel), fun _ => ?_⟩
  refine ⟨fun q => absurd q (by decide +kernel), fun _ => ?_⟩
  exact ⟨Nat.le_of_ble_eq_true rfl, hQ⟩

theorem sp_toldText {x : Str} (hx : NmOk x) {fa : Addr} (h : σ fa = some (factsO x)) {room : AV} (hQ : ∀ σ', Ext σ σ' → Q (.str x) σ') : WW (n + 2) 10 [.str pB, .ref fa, room] σ Q := by
  refine W_at rfl rfl ?_
  refine ⟨Nat.le_of_ble_eq_true rfl, fun f hf => ?_⟩
  have x1 : Ext σ (upd σ f (.lst [])) := Ext.new hf
  have hf1 := upd_self σ f (.lst [])
  generalize upd σ f (.lst []) = σ1 at *
  refine ⟨Nat.le_of_ble_eq_true rfl, ?_⟩
  refine vss_whl fun fuel => ?_
  refine vwh_step ?_
  refine ⟨by decide +kernel, ?_⟩
  refine ⟨fun _ => ?_, fun q => absurd q (by decide +kernel)⟩
  refine ⟨37, by decide, rfl, ?_⟩
  refine ⟨fun q => absurd q (by decide +kernel), fun _ => ?_⟩
  refine sp_fieldWidth (n := n) ?_
  refine ⟨by decide +kernel, ?_⟩
  rw [show strSl pB 1 (1 + 1) = Str.ofString "b" by decide +kernel]
  refine ⟨fun q => absurd q (by decide +kernel), fun _ => ?_⟩
  refine sp_toldBy (x1 _ _ h) fun σ2 x2 => ?_
  refine ⟨⟨_, x2 _ _ hf1⟩, ?_⟩
  have hxl : x.length ≤ 100 := by rcases hx with rfl | rfl | rfl <;> decide +kernel
  refine ⟨by lia, ?_⟩
  have e0 : (if (0 : Int) - (x.length : Int) > 0 then (0 : Int) - (x.length : Int) else 0) = 0 := if_neg (by lia)
  conv => whnf
  rw [e0]
  refine ⟨by unfold MulOk; decide +kernel, ?_⟩
  refine ⟨by rw [sizeLine_eq]; have : (Txt.mul (Str.ofString " ") 0).length = 0 := by { decide +kernel }; lia, ?_⟩
  refine ex13 (x2 _ _ hf1) (by decide) ?_
  have y3 : ExtB [f] σ2 (upd σ2 f (.lst ([] ++ [.str (x ++ Txt.mul (Str.ofString " ") 0)]))) := ExtB.upd
  have hf3 := upd_self σ2 f (.lst ([] ++ [.str (x ++ Txt.mul (Str.ofString " ") 0)]))
  generalize upd σ2 f (.lst ([] ++ [.str (x ++ Txt.mul (Str.ofString " ") 0)])) = σ3 at *
  refine ⟨trivial, ?_⟩
  refine vss_nil ?_
  refine vwh_step ?_
  refine ⟨by decide +kernel, ?_⟩
  refine ⟨fun q => absurd q (by decide +kernel), fun _ => ?_⟩
  refine ⟨trivial, ?_⟩
  have X : Ext σ σ3 := fun b o e => y3 _ _ (by simpa using ne_of hf e) (x2 _ _ (x1 _ _ e))
  refine ⟨_, [x ++ Txt.mul (Str.ofString " ") 0], hf3, rfl, ?_, ?_⟩
  · rcases hx with rfl | rfl | rfl <;> decide +kernel
  · have : Txt.join (Str.ofString "") [x ++ Txt.mul (Str.ofString " ") 0] = x := by rcases hx with rfl | rfl | rfl <;> decide +kernel
    rw [this]
    exact hQ _ X

noncomputable def codesOf (x : Str) : List Int := x.cps.toList.map fun c : Nat => (c : Int)
theorem sp_toldPut {to c : Addr} {x : Str} {l : List AV} {fs : AV} (h : σ to = some (.inst 220 [(21, .ref c)])) (hc : σ c = some (.lst l)) (hl : l.length ≤ 1000) (hx : NmOk x) (hQ : ∀ σ', σ' to = some (.inst 220 [(21, .ref c)]) → σ' c = some (.lst (l ++ (codesOf x).map fun i => .tup [.int i, fs])) → ExtB [c] σ σ' → Q .non σ') :
    WW (n + 1) 30 [.ref to, .str x, fs] σ Q := by
  have hx1 : x.cps.all (· < 128) = true := by rcases hx with rfl | rfl | rfl <;> decide +kernel
  have hx2 : x.length ≤ 100000 := by rcases hx with rfl | rfl | rfl <;> decide +kernel
  have hx3 : (codesOf x).length ≤ 1000 := by rcases hx with rfl | rfl | rfl <;> decide +kernel
  refine W_at rfl rfl ?_
  refine l_att (h) rfl rfl rfl ?_
  refine ⟨⟨_, hc⟩, ?_⟩
  refine ⟨hx1, hx2, ?_⟩
  refine comp_pure (fun ρ => ∃ a b, ρ = [a, b, none, some fs]) (onStr fun z => .tup [.int ((z.cps.getD 0 0 : Nat) : Int), fs]) _ _ _ _ (fun _ _ => trivial) (fun y hy ρ hI => ?_) ⟨_, _, rfl⟩ fun f σ1 hf1 x1 hf0 => ?_
  · obtain ⟨a, b, rfl⟩ := hI
    obtain ⟨c, hc, rfl⟩ := List.mem_map.mp hy
    refine ⟨⟨_, _, rfl⟩, fun σ' Q' _ hQ' => ?_⟩
    exact ⟨c, rfl, Nat.le_of_ble_eq_true rfl, hQ' σ' (Ext.refl _)⟩
  · skip
    have hcf : c ≠ f := ne_of hf0 hc
    refine ex24 (x1 _ _ hc) hf1 (by simp; unfold codesOf at hx3; simp at hx3; lia) ?_
    refine ⟨trivial, ?_⟩
    have htc : to ≠ c := ne_ot h hc rfl
    refine hQ _ ((upd_ne htc).trans (x1 _ _ h)) ?_ (x1.toB.trans ExtB.upd)
    rw [upd_self]
    congr 3
    unfold codesOf
    rw [List.nil_append, List.map_map, List.map_map]
    rfl
end
end Np

namespace Np
section
variable {n : Nat} {Q : Post} {σ : ASt}

theorem sp_toldCells {x : Str} (hx : NmOk x) {fa : Addr} (h : σ fa = some (factsO x)) {names width : AV} {wd : Int} (hwd : width = .int wd)
    (hQ : ∀ c σ', σ c = none → σ' c = some (.lst ((codesOf x).map fun i => .tup [.int i, .tup []])) → Ext σ σ' → Q (.ref c) σ') : WW (n + 3) 11 [.str pB, .ref fa, names, width] σ Q := by
  subst hwd
  refine W_at rfl rfl ?_
  refine mk_Told fun to c σ1 hto ht1 hc1 hct hc0 x1 => ?_
  refine ⟨by decide, ?_⟩
  refine mk_Piece fun p σ2 hp hp2 x2 => ?_
  refine ⟨Nat.le_of_ble_eq_true rfl, fun w hw => ?_⟩
  have x3 : Ext σ2 (upd σ2 w (.lst [.ref p])) := Ext.new hw
  have hw3 := upd_self σ2 w (.lst [.ref p])
  generalize upd σ2 w (.lst [.ref p]) = σ3 at *
  refine ⟨Nat.le_of_ble_eq_true rfl, ?_⟩
  refine vss_whl fun fuel => ?_
  refine vwh_step ?_
  refine ⟨by decide, fun b hb => ?_⟩
  have x4 : Ext σ3 (upd σ3 b (.lst [])) := Ext.new hb
  have hb4 := upd_self σ3 b (.lst [])
  generalize upd σ3 b (.lst []) = σ4 at *
  refine ⟨_, _, x4 _ _ hw3, hb4, .inl ⟨by simp, ?_⟩⟩
  refine ⟨fun _ => ?_, fun q => absurd q (by decide)⟩
  refine ⟨⟨_, x4 _ _ hw3⟩, ?_⟩
  refine ⟨[], .ref p, x4 _ _ hw3, by decide, ?_⟩
  have hcw : c ≠ w := fun z => by subst z; rw [x2 _ _ hc1] at hw; cases hw
  have htw : to ≠ w := ne_ot (x4 _ _ (x3 _ _ (x2 _ _ ht1))) (x4 _ _ hw3) rfl
  have hpw : p ≠ w := ne_ot (x4 _ _ (x3 _ _ hp2)) (x4 _ _ hw3) rfl
  have nw : ∀ {b}, b ≠ w → b ∉ [w] := fun h => by simpa using h
  have y5 : ExtB [w] σ4 (upd σ4 w (.lst [])) := ExtB.upd
  have hw5 := upd_self σ4 w (.lst [])
  generalize upd σ4 w (.lst []) = σ5 at *
  have hp5 := y5 _ _ (nw hpw) (x4 _ _ (x3 _ _ hp2))
  have ht5 := y5 _ _ (nw htw) (x4 _ _ (x3 _ _ (x2 _ _ ht1)))
  have hc5 := y5 _ _ (nw hcw) (x4 _ _ (x3 _ _ (x2 _ _ hc1)))
  have hσw : σ w = none := x1.none (x2.none hw)
  have X5 : Ext σ σ5 := fun b o e => y5 _ _ (nw (ne_of hσw e)) (x4 _ _ (x3 _ _ (x2 _ _ (x1 _ _ e))))
  refine ex23 hp5 (by decide) ?_
  refine ⟨fun q => absurd q (by decide), fun _ => ?_⟩
  refine ⟨fun _ => ?_, fun q => absurd q (by decide)⟩
  refine l_att (hp5) rfl rfl rfl ?_
  refine ⟨fun _ => ?_, fun q => absurd q (by decide)⟩
  refine l_att (ht5) rfl rfl rfl ?_
  refine ex13 hc5 (by decide) ?_
  refine l_mth (ht5) rfl rfl ?_
  refine l_att (hp5) rfl rfl rfl ?_
  refine ⟨fun _ => ?_, fun q => absurd q (by decide)⟩
  refine l_att (hp5) rfl rfl rfl ?_
  refine sp_toldText hx (X5 _ _ h) fun σ6 x6 => ?_
  refine l_att ((x6 _ _ hp5)) rfl rfl rfl ?_
  refine sp_toldPut (n := n + 1) (x6 _ _ ht5) (x6 _ _ hc5) (by decide) hx fun σ7 ht7 hc7 y7 => ?_
  refine ⟨trivial, ?_⟩
  have hwc : w ∉ [c] := by simpa using hcw.symm
  have hw7 := y7 _ _ hwc (x6 _ _ hw5)
  refine vss_nil ?_
  refine vss_nil ?_
  refine vss_nil ?_
  refine vss_nil ?_
  refine vwh_step ?_
  refine ⟨by decide, fun b2 hb2 => ?_⟩
  have x8 : Ext σ7 (upd σ7 b2 (.lst [])) := Ext.new hb2
  have hb8 := upd_self σ7 b2 (.lst [])
  generalize upd σ7 b2 (.lst []) = σ8 at *
  refine ⟨_, _, x8 _ _ hw7, hb8, .inr ⟨rfl, rfl, ?_⟩⟩
  refine ⟨fun q => absurd q (by decide), fun _ => ?_⟩
  refine l_att ((x8 _ _ ht7)) rfl rfl rfl ?_
  refine hQ c σ8 hc0 (x8 _ _ hc7) fun b o e => x8 _ _ (y7 _ _ (by simpa using ne_of hc0 e) (x6 _ _ (X5 _ _ e)))
end
end Np

namespace Np
noncomputable def modeCells (x : Str) (num : Int) (w : Nat) : List AV := ((codesOf x).take w).map (cell · num) ++ List.replicate (w - ((codesOf x).take w).length) (cell 32 num)
theorem modeCells_len (x : Str) (num : Int) (w : Nat) : (modeCells x num w).length = w := by
  unfold modeCells; simp; lia
section
variable {n : Nat} {Q : Post} {σ : ASt} {t d l m f0 f1 f2 : Addr}

theorem sp_modeCells {x : Str} (hx : NmOk x) {fa : Addr} (h : σ fa = some (factsO x)) {names : AV} {w : Nat} (hw : w ≤ 200) (ht : TF σ t d l m f0 f1 f2) {nm : Str} {num : Int} (hn : nm = nmM ∧ num = 1 ∨ nm = nmI ∧ num = 2)
    (hQ : ∀ a σ', σ a = none → σ' a = some (.lst (modeCells x num w)) → Ext σ σ' → Q (.ref a) σ') : WW (n + 4) 12 [.str pB, .ref fa, names, .ref t, .str nm, .int w] σ Q := by
  have hxl : (codesOf x).length ≤ 100 := by rcases hx with rfl | rfl | rfl <;> decide +kernel
  refine W_at rfl rfl ?_
  refine sp_toldCells hx h rfl fun c σ1 hc hc1 x1 => ?_
  refine ex14 (.inl hc1) (by rw [sizeLine_eq]; simp; lia) (by lia) (fun a ha => ?_)
  rw [show (w : Int).toNat = w by simp, ← List.map_take]
  have x2 := Ext.new (o := .lst (((codesOf x).take w).map fun i => .tup [.int i, .tup []])) ha
  have ha2 := upd_self σ1 a (.lst (((codesOf x).take w).map fun i => .tup [.int i, .tup []]))
  generalize upd σ1 a (.lst (((codesOf x).take w).map fun i => .tup [.int i, .tup []])) = σ2 at *
  refine ex13 ha2 (by simp; lia) ?_
  refine comp_pure (fun ρ => ∃ a b c, ρ = [a, b, c, some (.str nm), some (.ref t)]) (onPair fun c => .tup [c, .int num]) _ _ _ _ (fun σ' x' => x' _ _ ha2) (fun y hy ρ hI => ?_) ⟨_, _, _, rfl⟩ fun g σ3 hg3 x3 hg0 => ?_
  · obtain ⟨b1, b2, b3, rfl⟩ := hI
    obtain ⟨i, hi, rfl⟩ := List.mem_map.mp hy
    refine ⟨⟨_, _, _, rfl⟩, fun σ' Q' x' hQ' => ?_⟩
    have ht' := ht.ext ((x1.trans x2).trans x')
    refine l_mth (ht'.t.t.o) rfl rfl ?_
    refine ⟨Nat.le_of_ble_eq_true rfl, ?_⟩
    refine ⟨Nat.le_of_ble_eq_true rfl, ?_⟩
    refine ht'.num hn fun σ'' x'' => ?_
    exact ⟨Nat.le_of_ble_eq_true rfl, hQ' _ x''⟩
  · have X3 := (x1.trans x2).trans x3
    have ht3 := ht.ext X3
    rw [List.nil_append, List.map_map] at hg3
    change σ3 g = some (.lst (((codesOf x).take w).map (cell · num))) at hg3
    refine l_mth (ht3.t.t.o) rfl rfl ?_
    refine ⟨Nat.le_of_ble_eq_true rfl, ?_⟩
    refine ht3.num hn fun σ4 x4 => ?_
    refine ⟨Nat.le_of_ble_eq_true rfl, Nat.le_of_ble_eq_true rfl, fun b hb => ?_⟩
    have x5 : Ext σ4 (upd σ4 b (.lst [cell 32 num])) := Ext.new hb
    have hb5 : (upd σ4 b (.lst [.tup [.int 32, .int num]])) b = some (.lst [cell 32 num]) := upd_self σ4 b (.lst [cell 32 num])
    change Ext σ4 (upd σ4 b (.lst [.tup [.int 32, .int num]])) at x5
    generalize upd σ4 b (.lst [.tup [.int 32, .int num]]) = σ5 at *
    refine ex13 (x5 _ _ (x4 _ _ hg3)) (by simp; lia) ?_
    conv => whnf
    rw [List.length_map, show ((w : Int) - (((codesOf x).take w).length : Nat)) = ((w - ((codesOf x).take w).length : Nat) : Int) by simp; lia]
    refine ex13 hb5 ⟨by lia, by lia, by simp; lia⟩ (fun e he => ?_)
    rw [show (List.replicate ((w - ((codesOf x).take w).length : Nat) : Int).toNat [cell 32 num]).flatten = List.replicate (w - ((codesOf x).take w).length) (cell 32 num) by rw [flat_rep]; simp]
    have x6 := Ext.new (o := .lst (List.replicate (w - ((codesOf x).take w).length) (cell 32 num))) he
    have he6 := upd_self σ5 e (.lst (List.replicate (w - ((codesOf x).take w).length) (cell 32 num)))
    generalize upd σ5 e (.lst (List.replicate (w - ((codesOf x).take w).length) (cell 32 num))) = σ6 at *
    refine ex24 (x6 _ _ (x5 _ _ (x4 _ _ hg3))) he6 (by rw [sizeLine_eq]; simp; lia) (fun q hq => ?_)
    have X6 := ((X3.trans x4).trans x5).trans x6
    exact hQ q _ (X6.none hq) (upd_self _ _ _) (X6.trans (Ext.new hq))

noncomputable def modeO (fa : Addr) (names : AV) : AO := .inst 574 [(18, .str pB), (44, .ref fa), (45, names)]
-- the mode line of a window: none, or a text
noncomputable def MlOk (σ : ASt) (ml : AV) (nmx : Option Str) : Prop := match nmx with
  | none => ml = .non
  | some x => NmOk x ∧ ∃ (a fa : Addr) (names : AV), ml = .ref a ∧ names.isVal = false ∧ σ a = some (modeO fa names) ∧ σ fa = some (factsO x)
theorem MlOk.ext {σ σ' ml nmx} (h : MlOk σ ml nmx) (x : Ext σ σ') : MlOk σ' ml nmx := by
  unfold MlOk at h ⊢
  induction nmx using Option.casesOn with
  | none => exact h
  | some x' => obtain ⟨h1, a, fa, names, h2, h3, h4, h5⟩ := h; exact ⟨h1, a, fa, names, h2, h3, x _ _ h4, x _ _ h5⟩
theorem MlOk.extB {S σ σ' ml nmx} (h : MlOk σ ml nmx) (x : ExtB S σ σ') (hS : ∀ a ∈ S, ∀ C at_, σ a ≠ some (.inst C at_)) : MlOk σ' ml nmx := by
  unfold MlOk at h ⊢
  induction nmx using Option.casesOn with
  | none => exact h
  | some x' => obtain ⟨h1, a, fa, names, h2, h3, h4, h5⟩ := h; exact ⟨h1, a, fa, names, h2, h3, x _ _ (fun q => hS _ q _ _ h4) h4, x _ _ (fun q => hS _ q _ _ h5) h5⟩
theorem MlOk.kind {σ ml nmx} (h : MlOk σ ml nmx) : ml = .non ∨ ∃ a, ml = .ref a := by
  unfold MlOk at h
  induction nmx using Option.casesOn with
  | none => exact .inl h
  | some x' => obtain ⟨h1, a, fa, names, h2, _⟩ := h; exact .inr ⟨a, h2⟩
theorem MlOk.isNon {σ ml nmx} (h : MlOk σ ml nmx) : ml.isNon = nmx.isNone := by
  unfold MlOk at h
  induction nmx using Option.casesOn with
  | none => subst h; rfl
  | some x' => obtain ⟨h1, a, fa, names, h2, _⟩ := h; subst h2; rfl
end
end Np

namespace Np
noncomputable def barsF (F : Nat → Nat → AV) (t l w lines : Nat) (bar : Bool) : Nat → Nat → AV := if bar = true then blk F t (l + w - 1) lines 1 (fun _ _ => cell 124 0) else F
noncomputable def modeF (F : Nat → Nat → AV) (t l w h : Nat) (nmx : Option Str) (num : Int) : Nat → Nat → AV := match nmx with
  | none => F
  | some x => blk F (t + h - 1) l 1 w fun _ j => (modeCells x num w).getD j .non
noncomputable def numOf (sel : Bool) : Int := if sel = true then 1 else 2
noncomputable def nmOf (sel : Bool) : Str := if sel = true then nmM else nmI

section
variable {n : Nat} {Q : Post} {σ : ASt} {s m rl R : Addr} {l t w h W H : Nat} {sel : Bool} {ml : AV} {rs : List Addr} {rowsD : List (List Int × Int)} {F : Nat → Nat → AV} {tb d lo mm f0 f1 f2 : Addr}

theorem TF.extB {σ σ' t d l m f0 f1 f2} {S : List Addr} (h : TF σ t d l m f0 f1 f2) (x : ExtB S σ σ') (hS : ∀ a ∈ S, ∀ C at_, σ a ≠ some (.inst C at_)) (h1 : d ∉ S) (h2 : l ∉ S) (h3 : m ∉ S) : TF σ' t d l m f0 f1 f2 := by
  obtain ⟨⟨⟨a1, a2, a3, a4⟩, a5, a6, a7⟩⟩ := h
  exact ⟨⟨⟨x _ _ (fun q => hS _ q _ _ a1) a1, x _ _ h1 a2, x _ _ h2 a3, x _ _ h3 a4⟩, x _ _ (fun q => hS _ q _ _ a5) a5, x _ _ (fun q => hS _ q _ _ a6) a6, x _ _ (fun q => hS _ q _ _ a7) a7⟩⟩

-- the part behind the bars
theorem edges_mode (z : Sh σ s l t w h R sel ml rs rowsD [rl]) (M : Mat σ m rl F W H) {nmx : Option Str} (hml : MlOk σ ml nmx) (ht : TF σ tb d lo mm f0 f1 f2) (hh : 1 ≤ h) (hW : W ≤ 100) (hH : H ≤ 100) (hlw : l + w ≤ W) (hth : t + h ≤ H) {x3 : Option AV}
    {K : PostS} (hK : ∀ ρ σ', Mat σ' m rl (modeF F t l w h nmx (numOf sel)) W H → ExtB [rl] σ σ' → K .next ρ σ') :
    vss TT (WW (n + 4)) (tailS fn24.body) [some (.ref m), some (.ref s), some (.ref tb), x3, none, none, none, none, none, none, none, none] σ K := by
  unfold MlOk at hml
  induction nmx using Option.casesOn with
  | none =>
    subst hml
    refine l_att (z.o) rfl rfl rfl ?_
    refine ⟨fun q => absurd (show false = true from q) (by decide), fun _ => ?_⟩
    exact hK _ σ M (ExtB.refl _ _)
  | some x =>
    obtain ⟨hx, a, fa, names, rfl, hnv, ha, hfa⟩ := hml
    refine l_att (z.o) rfl rfl rfl ?_
    refine ⟨fun _ => ?_, fun q => absurd (show true = false from q) (by decide)⟩
    refine l_att (z.o) rfl rfl rfl ?_
    refine l_att (z.o) rfl rfl rfl ?_
    have rest : ∀ x3 : Option AV, vss TT (WW (n + 4)) (tailS (thenS (nthS fn24.body 1))) [some (.ref m), some (.ref s), some (.ref tb), x3, some (.ref a), some (.str (nmOf sel)), none, none, none, none, none, none] σ fun o ρ σ => match o with
      | .next => K .next ρ σ
      | o => K o ρ σ := fun x3 => by
      refine l_att (ha) rfl rfl rfl ?_
      refine l_att (ha) rfl rfl rfl ?_
      refine ex35 ha rfl rfl hnv ?_
      refine l_att (z.o) rfl rfl rfl ?_
      refine sp_modeCells hx hfa (by lia) ht (num := numOf sel) (by cases sel; exact .inr ⟨rfl, rfl⟩; exact .inl ⟨rfl, rfl⟩) fun c σ1 hc hc1 x1 => ?_
      refine l_mth ((x1 _ _ M.1)) rfl rfl ?_
      refine l_att ((x1 _ _ z.o)) rfl rfl rfl ?_
      refine l_att ((x1 _ _ z.o)) rfl rfl rfl ?_
      refine l_att ((x1 _ _ z.o)) rfl rfl rfl ?_
      rw [show (t : Int) + (h : Int) - 1 = ((t + h - 1 : Nat) : Int) by lia]
      have hl2 := modeCells_len x (numOf sel) w
      refine sp_put (M.ext x1) (by lia) hc1 (by lia) (by lia) (by lia) fun σ2 M2 y2 => ?_
      refine ⟨trivial, ?_⟩
      refine hK _ σ2 ?_ (x1.toB.trans y2)
      have e := blk_put (F := F) (t := t + h - 1) (l := l) (k := 0) (cw := w) (con := fun _ j => (modeCells x (numOf sel) w).getD j .non) hl2 (fun _ _ => rfl)
      rw [blk_zero] at e
      change Mat σ2 m rl (blk F (t + h - 1) l (0 + 1) w fun _ j => (modeCells x (numOf sel) w).getD j .non) W H
      rw [← e]
      exact M2
    induction sel using Bool.casesOn with
    | true =>
      refine ⟨fun _ => ?_, fun q => absurd q (by decide)⟩
      exact ⟨Nat.le_of_ble_eq_true rfl, rest x3⟩
    | false =>
      refine ⟨fun q => absurd q (by decide), fun _ => ?_⟩
      exact ⟨Nat.le_of_ble_eq_true rfl, rest x3⟩

theorem sp_putEdges (z : Sh σ s l t w h R sel ml rs rowsD [rl]) (M : Mat σ m rl F W H) {nmx : Option Str} (hml : MlOk σ ml nmx) (ht : TF σ tb d lo mm f0 f1 f2) (hd : d ≠ rl) (hlo : lo ≠ rl) (hmm : mm ≠ rl) (hw1 : 1 ≤ w) (hh : 1 ≤ h) (hW : W ≤ 100) (hH : H ≤ 100) (hlw : l + w ≤ W) (hth : t + h ≤ H)
    {lines : Nat} (hlines : (if ml.isNon = true then h else h - 1) = lines)
    (hQ : ∀ σ', Mat σ' m rl (modeF (barsF F t l w lines (decide (l + w < W))) t l w h nmx (numOf sel)) W H → ExtB [rl] σ σ' → Q .non σ') : WW (n + 5) 24 [.ref m, .ref s, .ref tb] σ Q := by
  have hlh : lines ≤ h := by split at hlines <;> lia
  refine W_at rfl rfl ?_
  refine l_mth (z.o) rfl rfl ?_
  refine sp_hasBar z M ?_
  refine ⟨fun q => ?_, fun q => ?_⟩
  · have hb := of_decide_eq_true q
    refine l_mth (z.o) rfl rfl ?_
    refine sp_textHeight z hml.kind hh ?_
    rw [hlines]
    refine ⟨⟨by lia, by lia⟩, ?_⟩
    refine for_items (rangeA ((lines : Nat) : Int).toNat) (fun k ρ σ' => (∃ a, ρ = [some (.ref m), some (.ref s), some (.ref tb), a, none, none, none, none, none, none, none, none]) ∧ Mat σ' m rl (blk F t (l + w - 1) k 1 fun _ _ => cell 124 0) W H ∧ ExtB [rl] σ σ')
      (fun _ _ _ _ => trivial) (fun k hk ρ σ1 hP K' hK' => ?_) (fun ρ σ1 hP => ?_) _ _ ⟨⟨_, rfl⟩, by rw [blk_zero]; exact M, ExtB.refl _ _⟩
    · obtain ⟨⟨a, rfl⟩, M1, x1⟩ := hP
      have hk : k < lines := by simpa [rangeA] using hk
      have z1 := z.extB x1 M.rlst
      rw [show (rangeA ((lines : Nat) : Int).toNat)[k] = .int k by simp [rangeA]]
      refine l_mth (M1.1) rfl rfl ?_
      refine l_att (z1.o) rfl rfl rfl ?_
      refine l_att (z1.o) rfl rfl rfl ?_
      refine l_att (z1.o) rfl rfl rfl ?_
      refine ⟨Nat.le_of_ble_eq_true rfl, Nat.le_of_ble_eq_true rfl, fun c hc => ?_⟩
      have x2 : Ext σ1 (upd σ1 c (.lst [.tup [.int 124, .int 0]])) := Ext.new hc
      have hc2 := upd_self σ1 c (.lst [.tup [.int 124, .int 0]])
      generalize upd σ1 c (.lst [.tup [.int 124, .int 0]]) = σ2 at *
      rw [show (t : Int) + (k : Int) = ((t + k : Nat) : Int) by lia, show (l : Int) + (w : Int) - 1 = ((l + w - 1 : Nat) : Int) by lia]
      refine sp_put (M1.ext x2) (by lia) hc2 (by simp; lia) (by lia) (by lia) fun σ3 M3 x3 => ?_
      refine ⟨trivial, ?_⟩
      refine hK' _ _ ⟨⟨_, rfl⟩, ?_, (x1.trans x2.toB).trans x3⟩
      have e := blk_put (F := F) (t := t) (l := l + w - 1) (k := k) (cw := 1) (con := fun _ _ => cell 124 0) (cells := [.tup [.int 124, .int 0]]) rfl (fun j hj => by
        obtain rfl : j = 0 := by lia
        rfl)
      rw [← e]
      exact M3
    · obtain ⟨⟨a, rfl⟩, M1, x1⟩ := hP
      rw [show (rangeA ((lines : Nat) : Int).toNat).length = lines by simp [rangeA]] at M1
      refine edges_mode (n := n) (z.extB x1 M.rlst) M1 (hml.extB x1 M.rlst) (ht.extB x1 M.rlst (by simpa using hd) (by simpa using hlo) (by simpa using hmm)) hh hW hH hlw hth fun ρ σ' M' x' => hQ σ' ?_ (x1.trans x')
      unfold barsF
      rw [if_pos q]
      exact M'
  · refine vss_nil ?_
    refine edges_mode (n := n) z M hml ht hh hW hH hlw hth fun ρ σ' M' x' => hQ σ' ?_ x'
    unfold barsF
    rw [if_neg (by rw [q]; decide)]
    exact M'
end
end Np

namespace Np

-- a window, as the law makes it
structure Win where
  l : Nat
  t : Nat
  w : Nat
  h : Nat
  sel : Bool
  nmx : Option Str
  codes : List Int
noncomputable def Win.bar (v : Win) (W : Nat) : Bool := decide (v.l + v.w < W)
noncomputable def Win.room (v : Win) (W : Nat) : Nat := (if v.l + v.w < W then v.w - 1 else v.w) - 1
noncomputable def Win.lines (v : Win) : Nat := if v.nmx.isNone = true then v.h else v.h - 1
noncomputable def Win.rows (v : Win) (W : Nat) : List (List Int × Int) := (lay (v.room W) [] v.codes).take v.lines
structure Win.Ok (v : Win) (W H : Nat) : Prop where
  lw : v.l + v.w ≤ W
  th : v.t + v.h ≤ H
  w : 3 ≤ v.w
  h : 2 ≤ v.h
  codes : ∀ c ∈ v.codes, c = 10 ∨ 32 ≤ c ∧ c < 127
  len : v.codes.length ≤ 11
  nm : ∀ x, v.nmx = some x → NmOk x
noncomputable def Win.paint (W : Nat) (F : Nat → Nat → AV) (v : Win) : Nat → Nat → AV :=
  modeF (barsF (blk F v.t v.l v.lines (v.room W + 1) fun k j => (txtRow (v.room W) (v.rows W) k).getD j .non) v.t v.l v.w v.lines (v.bar W)) v.t v.l v.w v.h v.nmx (numOf v.sel)

theorem lay_len {room : Nat} (hr : 1 ≤ room) : ∀ {cs line : List Int}, line.length ≤ room → ∀ p ∈ lay room line cs, p.1.length ≤ room
  | [], line, h, p, hp => by rw [lay_nil] at hp; rw [List.mem_singleton.mp hp]; exact h
  | c :: r, line, h, p, hp => by
    by_cases c10 : c = 10
    · subst c10
      rw [lay_nl] at hp
      rcases List.mem_cons.mp hp with rfl | hp
      · exact h
      · exact lay_len hr (Nat.zero_le _) p hp
    · by_cases e : line.length = room
      · rw [lay_full r c10 e] at hp
        rcases List.mem_cons.mp hp with rfl | hp
        · exact h
        · exact lay_len hr (by simpa using hr) p hp
      · rw [lay_more r c10 e] at hp
        exact lay_len hr (by simp; lia) p hp
theorem lay_many {room : Nat} : ∀ {cs line : List Int}, (lay room line cs).length ≤ cs.length + 1
  | [], line => by rw [lay_nil]; simp
  | c :: r, line => by
    by_cases c10 : c = 10
    · subst c10; rw [lay_nl]; have := lay_many (room := room) (cs := r) (line := []); simp; lia
    · by_cases e : line.length = room
      · rw [lay_full r c10 e]; have := lay_many (room := room) (cs := r) (line := [c]); simp; lia
      · rw [lay_more r c10 e]; have := lay_many (room := room) (cs := r) (line := line ++ [c]); simp; lia

inductive WinAt (σ : ASt) (s : Addr) (v : Win) (W : Nat) (S : List Addr) : Prop
  | mk (R : Addr) (ml : AV) (rs : List Addr) (h1 : Sh σ s v.l v.t v.w v.h R v.sel ml rs (v.rows W) S) (h5 : MlOk σ ml v.nmx) : WinAt σ s v W S
noncomputable def WinsAt (σ : ASt) (W : Nat) (S : List Addr) : List Addr → List Win → Prop := Fa2 fun s v => WinAt σ s v W S
theorem WinsAt.len {σ W S ss vs} (h : WinsAt σ W S ss vs) : ss.length = vs.length := Fa2.len h
theorem WinsAt.get {σ W S} {ss : List Addr} {vs : List Win} (h : WinsAt σ W S ss vs) {i : Nat} (h1 : i < ss.length) (h2 : i < vs.length) : WinAt σ ss[i] vs[i] W S := by
  obtain ⟨b, e, w⟩ := Fa2.get h (List.getElem?_eq_getElem h1)
  rw [List.getElem?_eq_getElem h2] at e
  cases e
  exact w
theorem RowsOk.fresh {σ S a} (ha : σ a = none) {rs ps} (h : RowsOk σ S rs ps) : RowsOk σ (a :: S) rs ps :=
  Fa2.map (fun _ _ q => q.sub fun g gl hg n z => by
    rcases List.mem_cons.mp z with rfl | z
    · rw [ha] at hg; cases hg
    · exact n z) h
theorem WinAt.fresh {σ S a s v W} (ha : σ a = none) (h : WinAt σ s v W S) : WinAt σ s v W (a :: S) := by
  obtain ⟨R, ml, rs, ⟨h1, h2, h3, h4⟩, h5⟩ := h
  exact ⟨R, ml, rs, ⟨h1, h2, h3.fresh ha, by simp only [List.mem_cons, not_or]; exact ⟨ne_of ha h2, h4⟩⟩, h5⟩
theorem WinAt.ext {σ σ' S s v W} (h : WinAt σ s v W S) (x : Ext σ σ') : WinAt σ' s v W S := by
  obtain ⟨R, ml, rs, h1, h5⟩ := h
  exact ⟨R, ml, rs, h1.ext x, h5.ext x⟩
theorem WinAt.extB {σ σ' S s v W} (h : WinAt σ s v W S) (x : ExtB S σ σ') (hS : ∀ a ∈ S, ∀ C at_, σ a ≠ some (.inst C at_)) : WinAt σ' s v W S := by
  obtain ⟨R, ml, rs, h1, h5⟩ := h
  exact ⟨R, ml, rs, h1.extB x hS, h5.extB x hS⟩
theorem WinsAt.fresh {σ W S a} (ha : σ a = none) {ss vs} (h : WinsAt σ W S ss vs) : WinsAt σ W (a :: S) ss vs := Fa2.map (fun _ _ q => q.fresh ha) h
theorem WinsAt.ext {σ σ' W S} (x : Ext σ σ') {ss vs} (h : WinsAt σ W S ss vs) : WinsAt σ' W S ss vs := Fa2.map (fun _ _ q => q.ext x) h
theorem WinsAt.extB {σ σ' W S} (x : ExtB S σ σ') (hS : ∀ a ∈ S, ∀ C at_, σ a ≠ some (.inst C at_)) {ss vs} (h : WinsAt σ W S ss vs) : WinsAt σ' W S ss vs := Fa2.map (fun _ _ q => q.extB x hS) h
theorem WinsAt.snoc {σ W S s v} (q : WinAt σ s v W S) {ss vs} (h : WinsAt σ W S ss vs) : WinsAt σ W S (ss ++ [s]) (vs ++ [v]) := Fa2.snoc (R := fun s v => WinAt σ s v W S) q h

section
variable {n : Nat} {Q : Post} {σ : ASt} {tb d lo mm f0 f1 f2 wl : Addr} {ss : List Addr} {vs : List Win} {W H : Nat}

theorem sp_whole (hW : W ≤ 100) (hH : H ≤ 100) (hwl : σ wl = some (.lst (ss.map .ref))) (hss : ss.length ≤ 100) (hv : WinsAt σ W [] ss vs) (hok : ∀ v ∈ vs, v.Ok W H) (ht : TF σ tb d lo mm f0 f1 f2)
    (hQ : ∀ m rl σ', Mat σ' m rl (vs.foldl (Win.paint W) fun _ _ => cell 32 0) W H → Ext σ σ' → Q (.ref m) σ') : WW (n + 6) 25 [.int W, .int H, .ref wl, .ref tb] σ Q := by
  refine W_at rfl rfl ?_
  refine mk_Matrix (by lia) (by lia) fun m rl σ1 hm hrl M1 x1 => ?_
  have hwl1 := x1 _ _ hwl
  have hv1 := (hv.fresh hrl).ext x1
  have ht1 := ht.ext x1
  have hdr : d ≠ rl := ne_of hrl ht.t.t.d
  have hlr : lo ≠ rl := ne_of hrl ht.t.t.l
  have hmr : mm ≠ rl := ne_of hrl ht.t.t.m
  have hwr : wl ≠ rl := ne_of hrl hwl
  refine ex13 hwl1 (by simp; lia) ?_
  have hlen := hv.len
  refine for_items (ss.map .ref) (fun k ρ σ' => (∃ a, ρ = [some (.int W), some (.int H), some (.ref wl), some (.ref tb), some (.ref m), a, none, none, none]) ∧ Mat σ' m rl ((vs.take k).foldl (Win.paint W) fun _ _ => cell 32 0) W H ∧ ExtB [rl] σ1 σ')
    (fun k ρ σ' hP => hP.2.2 _ _ (by simpa using hwr) hwl1) (fun k hk ρ σ2 hP K' hK' => ?_) (fun ρ σ2 hP => ?_) _ _ ⟨⟨_, rfl⟩, by simpa using M1, ExtB.refl _ _⟩
  · obtain ⟨⟨a, rfl⟩, M2, x2⟩ := hP
    have hk : k < ss.length := by simpa using hk
    have hkv : k < vs.length := by lia
    have o := hok vs[k] (List.getElem_mem hkv)
    obtain ⟨R, ml, rs, z, hml⟩ := (hv1.extB x2 M1.rlst).get hk hkv
    have ht2 := ht1.extB x2 M1.rlst (by simpa using hdr) (by simpa using hlr) (by simpa using hmr)
    rw [show (ss.map AV.ref)[k] = .ref ss[k] by simp]
    have htake : (vs.take (k + 1)).foldl (Win.paint W) (fun _ _ => cell 32 0) = Win.paint W ((vs.take k).foldl (Win.paint W) fun _ _ => cell 32 0) vs[k] := by
      rw [List.take_add_one, List.getElem?_eq_getElem hkv, List.foldl_append]; rfl
    generalize hF : (vs.take k).foldl (Win.paint W) (fun _ _ => cell 32 0) = F at *
    generalize vs[k] = v at *
    have o1 := o.lw
    have o2 := o.th
    have o3 := o.w
    have o4 := o.h
    have o5 := o.len
    have hroom : (if v.l + v.w < W then v.w - 1 else v.w) = v.room W + 1 := by unfold Win.room; split <;> lia
    have hroom1 : 1 ≤ v.room W := by unfold Win.room; split <;> lia
    have hlines : (if ml.isNon = true then v.h else v.h - 1) = v.lines := by rw [hml.isNon]; rfl
    refine sp_putText (n := n + 2) z M2 hml.kind hroom (by lia) (by lia) hlines (fun p hp => lay_len hroom1 (Nat.zero_le _) p (List.mem_of_mem_take hp)) (by have := lay_many (room := v.room W) (cs := v.codes) (line := []); unfold Win.rows; simp; lia) hW hH o1 o2 fun σ3 M3 x3 => ?_
    have z3 := z.extB x3 M2.rlst
    have hml3 := hml.extB x3 M2.rlst
    have ht3 := ht2.extB x3 M2.rlst (by simpa using hdr) (by simpa using hlr) (by simpa using hmr)
    refine ⟨trivial, ?_⟩
    refine sp_putEdges (n := n) z3 M3 hml3 ht3 hdr hlr hmr (by lia) (by lia) hW hH o1 o2 hlines fun σ4 M4 x4 => ?_
    refine ⟨trivial, ?_⟩
    refine hK' _ _ ⟨⟨_, rfl⟩, ?_, (x2.trans x3).trans x4⟩
    rw [htake]
    exact M4
  · obtain ⟨⟨a, rfl⟩, M2, x2⟩ := hP
    rw [show (ss.map AV.ref).length = vs.length by simp [hlen], List.take_length] at M2
    exact hQ m rl σ2 M2 fun b o e => x2 _ _ (by simpa using ne_of hrl e) (x1 _ _ e)

noncomputable def rowOf (σ : ASt) : AV → AV
  | .ref a => match σ a with
    | some (.lst l) => .tup l
    | _ => .non
  | y => y
theorem rowOf_at {σ : ASt} {a : Addr} {l : List AV} (h : σ a = some (.lst l)) : rowOf σ (.ref a) = .tup l := by
  unfold rowOf; dsimp only; rw [h]
theorem sp_told {m rl : Addr} {F : Nat → Nat → AV} (M : Mat σ m rl F W H) (hW : W ≤ 100) (hH : H ≤ 100) (hQ : ∀ σ', Ext σ σ' → Q (.tup ((List.range H).map fun i => .tup ((List.range W).map (F i)))) σ') : WW (n + 1) 54 [.ref m] σ Q := by
  obtain ⟨h1, refs, h2, h3, h4⟩ := M
  refine W_at rfl rfl ?_
  refine l_att (h1) rfl rfl rfl ?_
  refine ex13 h3 (by simp; lia) ?_
  refine comp_pure (fun ρ => ∃ a, ρ = [none, a, none]) (rowOf σ) _ _ _ _ (fun σ' x => x _ _ h3) (fun y hy ρ hI => ?_) ⟨_, rfl⟩ fun f σ1 hf1 x1 hf0 => ?_
  · obtain ⟨a, rfl⟩ := hI
    obtain ⟨r, hr, rfl⟩ := List.mem_map.mp hy
    obtain ⟨i, hi⟩ := List.getElem?_of_mem hr
    obtain ⟨q1, q2⟩ := h4 i r hi
    refine ⟨⟨_, rfl⟩, fun σ' Q' x hQ' => ?_⟩
    rw [rowOf_at q1] at hQ'
    exact ⟨_, x _ _ q1, by rw [sizeLine_eq]; simp; lia, hQ' σ' (Ext.refl _)⟩
  · skip
    refine ex13 hf1 (by rw [sizeLine_eq]; simp; lia) ?_
    have e : List.map (rowOf σ) (refs.map AV.ref) = (List.range H).map fun i => .tup ((List.range W).map (F i)) := by
      apply List.ext_getElem
      · simp [h2]
      · intro i hi1 hi2
        have hi : i < refs.length := by simpa using hi1
        simp only [List.getElem_map, List.getElem_range]
        exact rowOf_at (h4 i refs[i] (List.getElem?_eq_getElem hi)).1
    rw [List.nil_append, e]
    exact hQ σ1 x1
end
end Np

namespace Np

theorem dgt_dpt {K : Type} [DecidableEq K] (kv : List (K × AV)) (k : K) (v : AV) (k' : K) : dgt (dpt kv k v) k' = if k' = k then some v else dgt kv k' := by
  unfold dpt
  split
  · rename_i h
    unfold dgt at h ⊢
    induction kv with
    | nil => simp at h
    | cons p r ih =>
      rw [List.map_cons, List.find?_cons, List.find?_cons]
      by_cases e : p.1 = k
      · rw [if_pos e]
        by_cases e2 : k' = k
        · subst e2; simp [e]
        · have : ¬ p.1 = k' := fun z => e2 (z.symm.trans e)
          simp only [this, e2, decide_false, if_false]
          by_cases h2 : ((r.find? fun x => decide (x.1 = k)).map (·.2)).isSome = true
          · have := ih h2
            rw [if_neg e2] at this
            exact this
          · clear ih h
            have h3 : ∀ x ∈ r, x.1 ≠ k := by
              intro x hx hk
              apply h2
              have := (List.find?_isSome (xs := r) (p := fun x : K × AV => decide (x.1 = k))).mpr ⟨x, hx, decide_eq_true hk⟩
              rw [Option.isSome_map]; exact this
            have : r.map (fun x => if x.1 = k then (x.1, v) else x) = r := by
              conv => rhs; rw [← List.map_id r]
              apply List.map_congr_left
              intro x hx
              rw [if_neg (h3 x hx)]; rfl
            rw [this]
      · rw [if_neg e]
        have h2 : ((r.find? fun x => decide (x.1 = k)).map (·.2)).isSome = true := by
          rw [List.find?_cons] at h
          simpa [e] using h
        have := ih h2
        by_cases e3 : p.1 = k'
        · have e4 : ¬ k' = k := fun z => e (e3.trans z)
          simp [e3, e4]
        · simp only [e3, decide_false]
          exact this
  · rename_i h
    unfold dgt at h ⊢
    rw [List.find?_append]
    by_cases e2 : k' = k
    · subst e2
      have : List.find? (fun x => decide (x.1 = k')) kv = none := by
        cases e : List.find? (fun x => decide (x.1 = k')) kv with
        | none => rfl
        | some p => rw [e] at h; simp at h
      rw [this]; simp
    · rw [if_neg e2]
      have : ¬ k = k' := fun z => e2 z.symm
      simp [this]
theorem dpt_len {K : Type} [DecidableEq K] (kv : List (K × AV)) (k : K) (v : AV) : (dpt kv k v).length ≤ kv.length + 1 := by
  unfold dpt; split <;> simp

noncomputable def DG (kv : List (List Int × AV)) : Nat → Nat → Option AV := fun i j => dgt kv [(i : Int), (j : Int)]
noncomputable def blkD (G : Nat → Nat → Option AV) (t l lines cw : Nat) (con : Nat → Nat → AV) : Nat → Nat → Option AV := fun i j => if t ≤ i ∧ i < t + lines ∧ l ≤ j ∧ j < l + cw then some (con (i - t) (j - l)) else G i j
theorem blkD_zero (G t l cw con) : blkD G t l 0 cw con = G := by
  funext i j; unfold blkD; rw [if_neg (by lia)]
theorem blkD_zero' (G t l lines con) : blkD G t l lines 0 con = G := by
  funext i j; unfold blkD; rw [if_neg (by lia)]
theorem DG_put (kv : List (List Int × AV)) (r c : Nat) (v : AV) (i j : Nat) : DG (dpt kv [(r : Int), (c : Int)] v) i j = if i = r ∧ j = c then some v else DG kv i j := by
  unfold DG
  rw [dgt_dpt]
  by_cases h : i = r ∧ j = c
  · rw [if_pos h, if_pos (by rw [h.1, h.2])]
  · rw [if_neg h, if_neg (fun z => h (by
      injection z with z1 z2
      injection z2 with z2 _
      lia))]
theorem blkD_cell {kv : List (List Int × AV)} {G : Nat → Nat → Option AV} {t l j : Nat} {con : Nat → Nat → AV} {v : AV} (h : DG kv = blkD G t l 1 j con) (hv : v = con 0 j) : DG (dpt kv [(t : Int), ((l + j : Nat) : Int)] v) = blkD G t l 1 (j + 1) con := by
  funext i c
  rw [DG_put, h]
  unfold blkD
  by_cases c1 : i = t ∧ c = l + j
  · rw [if_pos c1, if_pos (by lia), hv, show i - t = 0 by lia, show c - l = j by lia]
  · rw [if_neg c1]
    by_cases c2 : t ≤ i ∧ i < t + 1 ∧ l ≤ c ∧ c < l + j
    · rw [if_pos c2, if_pos (by lia)]
    · rw [if_neg c2, if_neg (by lia)]
theorem blkD_row (G : Nat → Nat → Option AV) (t l k cw : Nat) (con : Nat → Nat → AV) : blkD (blkD G t l k cw con) (t + k) l 1 cw (fun _ j => con k j) = blkD G t l (k + 1) cw con := by
  funext i c
  unfold blkD
  by_cases c1 : t + k ≤ i ∧ i < t + k + 1 ∧ l ≤ c ∧ c < l + cw
  · rw [if_pos c1, if_pos (by lia), show i - t = k by lia]
  · rw [if_neg c1]
    by_cases c2 : t ≤ i ∧ i < t + k ∧ l ≤ c ∧ c < l + cw
    · rw [if_pos c2, if_pos (by lia)]
    · rw [if_neg c2, if_neg (by lia)]

noncomputable def letter (c : Int) : AV := .str ⟨#[c.toNat]⟩
noncomputable def lineT (a : Addr) (m : Int) : AV := .tup [.ref a, letter m]
-- the lines as the law keeps them
noncomputable def LinesAt (σ : ASt) (S : List Addr) : List AV → List (List Int × Int) → Prop
  | [], [] => True
  | x :: xs, p :: ps => (∃ a, x = lineT a p.2 ∧ σ a = some (.lst (p.1.map letter)) ∧ a ∉ S) ∧ LinesAt σ S xs ps
  | _, _ => False
theorem LinesAt.len {σ S} : ∀ {xs ps}, LinesAt σ S xs ps → xs.length = ps.length
  | [], [], _ => rfl
  | _ :: _, _ :: _, h => by simp [h.2.len]
  | [], _ :: _, h => h.elim
  | _ :: _, [], h => h.elim
theorem LinesAt.snoc {σ S a} {p : List Int × Int} (h1 : σ a = some (.lst (p.1.map letter))) (h2 : a ∉ S) : ∀ {xs ps}, LinesAt σ S xs ps → LinesAt σ S (xs ++ [lineT a p.2]) (ps ++ [p])
  | [], [], _ => ⟨⟨a, rfl, h1, h2⟩, trivial⟩
  | _ :: _, _ :: _, h => ⟨h.1, h.2.snoc h1 h2⟩
  | [], _ :: _, h => h.elim
  | _ :: _, [], h => h.elim
theorem LinesAt.extB {σ σ' S} (x : ExtB S σ σ') : ∀ {xs ps}, LinesAt σ S xs ps → LinesAt σ' S xs ps
  | [], [], _ => trivial
  | _ :: _, _ :: _, ⟨⟨a, h1, h2, h3⟩, h⟩ => ⟨⟨a, h1, x _ _ h3 h2, h3⟩, h.extB x⟩
  | [], _ :: _, h => h.elim
  | _ :: _, [], h => h.elim
theorem LinesAt.get {σ S} : ∀ {xs : List AV} {ps : List (List Int × Int)}, LinesAt σ S xs ps → ∀ {i : Nat} {p}, ps[i]? = some p → ∃ a, xs[i]? = some (lineT a p.2) ∧ σ a = some (.lst (p.1.map letter)) ∧ a ∉ S
  | [], [], _, i, p, e => by simp at e
  | _ :: _, _ :: _, ⟨⟨a, h1, h2, h3⟩, h⟩, 0, p, e => by cases e; exact ⟨a, by rw [h1]; rfl, h2, h3⟩
  | _ :: _, _ :: _, h, i + 1, p, e => by simpa using h.2.get (i := i) (by simpa using e)
  | [], _ :: _, h, _, _, _ => h.elim
  | _ :: _, [], h, _, _, _ => h.elim

-- the content of a window
noncomputable def Win.rowL (v : Win) (W : Nat) (k : Nat) : List Int :=
  ((v.rows W).getD k ([], 32)).1 ++ List.replicate (v.room W - ((v.rows W).getD k ([], 32)).1.length) 32 ++ [((v.rows W).getD k ([], 32)).2] ++ (if v.bar W = true then [124] else [])
noncomputable def Win.con (v : Win) (W : Nat) : Nat → Nat → AV := fun k j => if k < v.lines then ((v.rowL W k).map (cell · 0)).getD j .non else match v.nmx with
  | some x => (modeCells x (numOf v.sel) v.w).getD j .non
  | none => .non
end Np

namespace Np
structure DueC where
  d : Addr
  box : AV
  W : Nat
  cl : Addr
  name : AV
  num : Int
  l : Nat
  t : Nat
  w : Nat
  h : Nat
  bar : Bool
  room : Nat
  lines : Nat
  LL : Addr
noncomputable def dueEnv (c : DueC) (x14 x15 x16 x17 x18 x19 x20 : Option AV) : LE :=
  [some (.ref c.d), some c.box, some (.int c.W), some (.ref c.cl), some c.name, some (.int c.num), some (.int c.l), some (.int c.t), some (.int c.w), some (.int c.h), some (.bool c.bar), some (.int c.room), some (.int c.lines), some (.ref c.LL),
    x14, x15, x16, x17, x18, x19, x20, none, none, none, none, none]
noncomputable def forBody : IS → ISs
  | .for _ _ _ _ _ b => b
  | _ => .nil
theorem letter_sp : AV.str (Str.ofString " ") = letter 32 := rfl
theorem letter_map (line : List Int) (c : Int) : line.map letter ++ [letter c] = (line ++ [c]).map letter := by simp

section
variable {n : Nat} {K : PostS} {c : DueC} {codes : List Int} {room : Nat}

inductive LinesInv (c : DueC) (room : Nat) (codes : List Int) (σ : ASt) (x16 x17 x18 x19 x20 : Option AV) (k : Nat) (ρ : LE) (σ' : ASt) : Prop
  | mk (ln : Addr) (acc : List (List Int × Int)) (line : List Int) (xs : List AV) (x15 : Option AV) (hρ : ρ = dueEnv c (some (.ref ln)) x15 x16 x17 x18 x19 x20) (h1 : σ' c.LL = some (.lst xs)) (h2 : LinesAt σ' [c.LL] xs acc) (h3 : σ' ln = some (.lst (line.map letter)))
    (h4 : ln ≠ c.LL) (h5 : line.length ≤ room) (h6 : ExtB [c.LL] σ σ') (h7 : k ≤ codes.length → acc ++ lay room line (codes.drop k) = lay room [] codes) (h8 : k = codes.length + 1 → acc = lay room [] codes) (h9 : acc.length ≤ k) : LinesInv c room codes σ x16 x17 x18 x19 x20 k ρ σ'
theorem due_lines {σ : ASt} {cl2 ln : Addr} (hc : c.room = room) (hro : 1 ≤ room) (hro2 : room ≤ 100) (hcs : ∀ x ∈ codes, x = 10 ∨ 32 ≤ x ∧ x < 127) (hlen : codes.length ≤ 50) (hcl : σ cl2 = some (.lst (codes.map .int ++ [.int 10]))) (hLL : σ c.LL = some (.lst [])) (hln : σ ln = some (.lst [])) (hne : c.LL ≠ cl2) (hnl : ln ≠ c.LL)
    {x16 x17 x18 x19 x20 : Option AV}
    (hK : ∀ xs x14 x15 σ', σ' c.LL = some (.lst xs) → LinesAt σ' [c.LL] xs (lay room [] codes) → ExtB [c.LL] σ σ' → K .next (dueEnv c x14 x15 x16 x17 x18 x19 x20) σ') :
    vfor [15] false (fun ρ σ K => vss TT (WW n) (forBody (nthS fn4.body 4)) ρ σ K) (fun σ => σ cl2 = some (.lst (codes.map .int ++ [.int 10]))) (codes.map .int ++ [.int 10]) (dueEnv c (some (.ref ln)) none x16 x17 x18 x19 x20) σ K := by
  refine for_items _ (LinesInv c room codes σ x16 x17 x18 x19 x20)
    (fun k ρ σ' hP => by obtain ⟨_, _, _, _, _, _, _, _, _, _, _, x, _⟩ := hP; exact x _ _ (by simpa using hne.symm) hcl) (fun k hk ρ σ1 hP K' hK' => ?_) (fun ρ σ1 hP => ?_) _ _
    ⟨ln, [], [], [], none, rfl, hLL, trivial, hln, hnl, Nat.zero_le _, ExtB.refl _ _, fun _ => rfl, fun h => by lia, Nat.le_refl _⟩
  · obtain ⟨ln1, acc, line, xs, x15, rfl, h1, h2, h3, h4, h5, h6, h7, h8, h9⟩ := hP
    have hk : k < codes.length + 1 := by simpa using hk
    have hxs := h2.len
    -- what appending a line does
    have app : ∀ (mark : Int), ∃ σ2 : ASt, σ2 = upd σ1 c.LL (.lst (xs ++ [lineT ln1 mark])) ∧ σ2 c.LL = some (.lst (xs ++ [lineT ln1 mark])) ∧ LinesAt σ2 [c.LL] (xs ++ [lineT ln1 mark]) (acc ++ [(line, mark)]) ∧ ExtB [c.LL] σ σ2 := fun mark => by
      have y : ExtB [c.LL] σ1 (upd σ1 c.LL (.lst (xs ++ [lineT ln1 mark]))) := ExtB.upd
      exact ⟨_, rfl, upd_self _ _ _, LinesAt.snoc (p := (line, mark)) ((upd_ne h4).trans h3) (by simpa using h4) (h2.extB y), h6.trans y⟩
    by_cases hlast : k = codes.length
    · subst hlast
      have h7 := h7 (Nat.le_refl _)
      rw [List.drop_length, lay_nil] at h7
      rw [show (codes.map AV.int ++ [.int 10])[codes.length] = .int 10 by simp]
      refine ⟨fun _ => ?_, fun q => absurd q (by decide)⟩
      refine ⟨⟨_, h1⟩, ?_⟩
      refine ⟨Nat.le_of_ble_eq_true rfl, _, h1, by rw [sizeLine_eq]; lia, ?_⟩
      obtain ⟨σ2, e, q1, q2, q3⟩ := app 32
      rw [show upd σ1 c.LL (.lst (xs ++ [AV.tup [AV.ref ln1, AV.str (Str.ofString " ")]])) = σ2 from e.symm]
      refine ⟨trivial, ?_⟩
      refine ⟨by decide, fun nl hnl => ?_⟩
      have x3 : Ext σ2 (upd σ2 nl (.lst [])) := Ext.new hnl
      refine hK' _ _ ⟨nl, acc ++ [(line, 32)], [], _, _, rfl, x3 _ _ q1, q2.extB x3.toB, upd_self _ _ _, fun z => (by subst z; rw [q1] at hnl; cases hnl), Nat.zero_le _, q3.trans x3.toB, fun z => by lia, fun _ => h7, by simp; lia⟩
    · have hlt : k < codes.length := by lia
      have h7 := h7 (Nat.le_of_lt hlt)
      rw [List.drop_eq_getElem_cons hlt] at h7
      have hcc := hcs codes[k] (List.getElem_mem hlt)
      rw [show (codes.map AV.int ++ [.int 10])[k] = .int codes[k] by rw [List.getElem_append_left (by simpa using hlt)]; simp]
      generalize codes[k] = x at *
      refine ⟨fun q => ?_, fun q => ?_⟩
      · obtain rfl := beq_iff_eq.mp q
        rw [lay_nl] at h7
        refine ⟨⟨_, h1⟩, ?_⟩
        refine ⟨Nat.le_of_ble_eq_true rfl, _, h1, by rw [sizeLine_eq]; lia, ?_⟩
        obtain ⟨σ2, e, q1, q2, q3⟩ := app 32
        rw [show upd σ1 c.LL (.lst (xs ++ [AV.tup [AV.ref ln1, AV.str (Str.ofString " ")]])) = σ2 from e.symm]
        refine ⟨trivial, ?_⟩
        refine ⟨by decide, fun nl hnl => ?_⟩
        have x3 : Ext σ2 (upd σ2 nl (.lst [])) := Ext.new hnl
        exact hK' _ _ ⟨nl, acc ++ [(line, 32)], [], _, _, rfl, x3 _ _ q1, q2.extB x3.toB, upd_self _ _ _, fun z => (by subst z; rw [q1] at hnl; cases hnl), Nat.zero_le _, q3.trans x3.toB, fun _ => by rw [← h7]; simp, fun z => by lia, by simp; lia⟩
      · have hx10 : x ≠ 10 := by simpa using q
        obtain ⟨c1, c2⟩ := hcc.resolve_left hx10
        refine ex13 h3 (by simp; lia) ?_
        -- the letter is put at the line's end
        have putc : ∀ (ln2 : Addr) (line2 : List Int) (acc2 : List (List Int × Int)) (xs2 : List AV) (σ2 : ASt) (K2 : PostS), (∀ ρ σ, K' .next ρ σ → K2 .next ρ σ) → σ2 c.LL = some (.lst xs2) → LinesAt σ2 [c.LL] xs2 acc2 → σ2 ln2 = some (.lst (line2.map letter)) → (line2 ++ [x]).length ≤ room → ExtB [c.LL] σ σ2 →
            acc2 ++ lay room (line2 ++ [x]) (codes.drop (k + 1)) = lay room [] codes → acc2.length ≤ k + 1 →
            vss TT (WW n) (.cons (.asg 14 (.bin .Add (.loc 14) (.lst (.cons (.bi .chr (.cons (.loc 15) .nil)) .nil)))) .nil) (dueEnv c (some (.ref ln2)) (some (.int x)) x16 x17 x18 x19 x20) σ2 K2 := by
          intro ln2 line2 acc2 xs2 σ2 K2 hK2 p1 p2 p3 p4 p5 p6 p7
          refine ⟨by lia, by lia, Nat.le_of_ble_eq_true rfl, fun e he => ?_⟩
          have x3 : Ext σ2 (upd σ2 e (.lst [letter x])) := Ext.new he
          have he3 : (upd σ2 e (.lst [.str ⟨#[x.toNat]⟩])) e = some (.lst [letter x]) := upd_self σ2 e (.lst [letter x])
          change Ext σ2 (upd σ2 e (.lst [.str ⟨#[x.toNat]⟩])) at x3
          generalize upd σ2 e (.lst [.str ⟨#[x.toNat]⟩]) = σ3 at *
          refine ex24 (x3 _ _ p3) he3 (by rw [sizeLine_eq]; simp at p4 ⊢; lia) (fun g hg => ?_)
          rw [letter_map]
          have x4 : Ext σ3 (upd σ3 g (.lst ((line2 ++ [x]).map letter))) := Ext.new hg
          have hg4 := upd_self σ3 g (.lst ((line2 ++ [x]).map letter))
          generalize upd σ3 g (.lst ((line2 ++ [x]).map letter)) = σ4 at *
          refine hK2 _ _ (hK' _ _ ⟨g, acc2, line2 ++ [x], xs2, _, rfl, x4 _ _ (x3 _ _ p1), p2.extB (x3.trans x4).toB, hg4, fun z => (by subst z; rw [x3 _ _ p1] at hg; cases hg), p4, p5.trans (x3.trans x4).toB, fun _ => p6, fun z => by lia, p7⟩)
        refine ⟨fun q2 => ?_, fun q2 => ?_⟩
        · have hfull : line.length = room := by have := beq_iff_eq.mp q2; rw [hc] at this; simp at this; lia
          rw [lay_full _ hx10 hfull] at h7
          refine ⟨⟨_, h1⟩, ?_⟩
          refine ⟨by decide, by decide, ?_⟩
          refine ⟨Nat.le_of_ble_eq_true rfl, _, h1, by rw [sizeLine_eq]; lia, ?_⟩
          obtain ⟨σ2, e, q1, q2, q3⟩ := app 92
          rw [show upd σ1 c.LL (.lst (xs ++ [AV.tup [AV.ref ln1, AV.str ⟨#[Int.toNat 92]⟩]])) = σ2 from e.symm]
          refine ⟨trivial, ?_⟩
          refine ⟨by decide, fun nl hnl => ?_⟩
          have x3 : Ext σ2 (upd σ2 nl (.lst [])) := Ext.new hnl
          exact putc nl [] (acc ++ [(line, 92)]) _ _ _ (fun _ _ z => z) (x3 _ _ q1) (q2.extB x3.toB) (upd_self _ _ _) (by simpa using hro) (q3.trans x3.toB) (by rw [← h7]; simp) (by simp; lia)
        · have hnf : line.length ≠ room := fun z => by
            have q2 : ((((line.map letter).length : Nat) : Int) == c.room) = false := q2
            rw [hc, List.length_map, z] at q2
            simp at q2
          rw [lay_more _ hx10 hnf] at h7
          exact putc ln1 line acc xs σ1 _ (fun _ _ z => z) h1 h2 h3 (by simp; lia) h6 h7 (by lia)
  · obtain ⟨ln1, acc, line, xs, x15, rfl, h1, h2, h3, h4, h5, h6, h7, h8, h9⟩ := hP
    have := h8 (by simp)
    subst this
    exact hK xs _ _ σ1 h1 h2 h6

theorem LinesAt.toD {σ : ASt} {S : List Addr} {d : Addr} {kv : List (List Int × AV)} (hd : σ d = some (.dct kv)) : ∀ {xs ps}, LinesAt σ S xs ps → LinesAt σ [d] xs ps
  | [], [], _ => trivial
  | _ :: _, _ :: _, ⟨⟨a, h1, h2, h3⟩, h⟩ => ⟨⟨a, h1, h2, by simpa using ne_ot h2 hd rfl⟩, h.toD hd⟩
  | [], _ :: _, h => h.elim
  | _ :: _, [], h => h.elim
theorem enumA_get : ∀ (l : List AV) (a j : Nat), (enumA a l)[j]? = (l[j]?).map fun x => .tup [.int ((a + j : Nat) : Int), x]
  | [], _, _ => by simp [enumA]
  | x :: r, a, 0 => by simp [enumA]
  | x :: r, a, j + 1 => by
    simp only [enumA, List.getElem?_cons_succ]
    rw [enumA_get r (a + 1) j, show a + 1 + j = a + (j + 1) by lia]
theorem enumA_ln : ∀ (l : List AV) (a : Nat), (enumA a l).length = l.length
  | [], _ => rfl
  | _ :: r, a => by simp [enumA, enumA_ln r]

noncomputable def rowLL (L : List (List Int × Int)) (room : Nat) (bar : Bool) (k : Nat) : List Int :=
  (L.getD k ([], 32)).1 ++ List.replicate (room - (L.getD k ([], 32)).1.length) 32 ++ [(L.getD k ([], 32)).2] ++ (if bar = true then [124] else [])
inductive CellsInv (c : DueC) (xs : List Int) (kv : List (List Int × AV)) (k : Nat) (σ : ASt) (x14 x15 x17 : Option AV) (x18 : Option AV) (j : Nat) (ρ : LE) (σ' : ASt) : Prop
  | mk (kv' : List (List Int × AV)) (x19 x20 : Option AV) (hρ : ρ = dueEnv c x14 x15 (some (.int k)) x17 x18 x19 x20) (h1 : σ' c.d = some (.dct kv')) (h2 : DG kv' = blkD (DG kv) (c.t + k) c.l 1 j (fun _ j => (xs.map (cell · 0)).getD j .non)) (h3 : kv'.length ≤ kv.length + j) (h4 : ExtB [c.d] σ σ') : CellsInv c xs kv k σ x14 x15 x17 x18 j ρ σ'
theorem due_cells {σ : ASt} {q : Addr} {xs : List Int} {kv : List (List Int × AV)} {k : Nat} (hxs : ∀ x ∈ xs, 0 ≤ x) (hxl : xs.length ≤ 200) (hq : σ q = some (.lst (xs.map letter))) (hd : σ c.d = some (.dct kv)) (hkl : kv.length ≤ 10000) {x14 x15 x17 x18 x19 x20 : Option AV}
    (hK : ∀ kv' x19 x20 σ', σ' c.d = some (.dct kv') → DG kv' = blkD (DG kv) (c.t + k) c.l 1 xs.length (fun _ j => (xs.map (cell · 0)).getD j .non) → kv'.length ≤ kv.length + xs.length → ExtB [c.d] σ σ' → K .next (dueEnv c x14 x15 (some (.int k)) x17 x18 x19 x20) σ') :
    vfor [19, 20] true (fun ρ σ K => vss TT (WW n) (forBody (nthS (forBody (nthS fn4.body 5)) 2)) ρ σ K) (fun σ => σ q = some (.lst (xs.map letter))) (enumA 0 (xs.map letter)) (dueEnv c x14 x15 (some (.int k)) x17 x18 x19 x20) σ K := by
  have hqd : q ≠ c.d := ne_ot hq hd rfl
  refine for_items _ (CellsInv c xs kv k σ x14 x15 x17 x18)
    (fun j ρ σ' hP => by obtain ⟨_, _, _, _, _, _, _, x⟩ := hP; exact x _ _ (by simpa using hqd) hq) (fun j hj ρ σ1 hP K' hK' => ?_) (fun ρ σ1 hP => ?_) _ _
    ⟨kv, _, _, rfl, hd, by rw [blkD_zero'], by lia, ExtB.refl _ _⟩
  · obtain ⟨kv1, x19, x20, rfl, h1, h2, h3, h4⟩ := hP
    have hj : j < xs.length := by simpa [enumA_ln] using hj
    have e : (enumA 0 (xs.map letter))[j] = .tup [.int (j : Int), letter xs[j]] := by
      have := enumA_get (xs.map letter) 0 j
      rw [List.getElem?_eq_getElem (by simpa [enumA_ln] using hj)] at this
      simp [hj] at this
      exact this
    rw [e]
    have hx0 := hxs xs[j] (List.getElem_mem hj)
    have hcon : cell xs[j] 0 = (fun (_ j : Nat) => (xs.map (cell · 0)).getD j .non) 0 j := by
      show _ = (xs.map (cell · 0)).getD j .non
      rw [List.getD_eq_getElem?_getD]; simp [hj]
    generalize xs[j] = x at *
    refine ⟨x.toNat, rfl, ?_⟩
    refine ⟨Nat.le_of_ble_eq_true rfl, ?_⟩
    refine ⟨Nat.le_of_ble_eq_true rfl, ?_⟩
    refine ⟨_, [(c.t : Int) + (k : Int), (c.l : Int) + (j : Int)], rfl, h1, by rw [sizeLine_eq]; lia, ?_⟩
    rw [show (c.t : Int) + (k : Int) = ((c.t + k : Nat) : Int) by lia, show (c.l : Int) + (j : Int) = ((c.l + j : Nat) : Int) by lia]
    rw [show AV.tup [AV.int (x.toNat : Nat), .int 0] = cell x 0 by unfold cell; rw [Int.toNat_of_nonneg hx0]]
    refine hK' _ _ ⟨_, _, _, rfl, upd_self _ _ _, blkD_cell h2 hcon, ?_, h4.trans ExtB.upd⟩
    have := dpt_len kv1 [((c.t + k : Nat) : Int), ((c.l + j : Nat) : Int)] (cell x 0)
    lia
  · obtain ⟨kv1, x19, x20, rfl, h1, h2, h3, h4⟩ := hP
    rw [enumA_ln, List.length_map] at h2 h3
    exact hK kv1 _ _ σ1 h1 h2 h3 h4
end
end Np

namespace Np
section
variable {n : Nat} {K : PostS} {c : DueC}

theorem getD_len {L : List (List Int × Int)} {room : Nat} (h : ∀ p ∈ L, p.1.length ≤ room) (k : Nat) : (L.getD k ([], 32)).1.length ≤ room := by
  rw [List.getD_eq_getElem?_getD]
  cases e : L[k]? with
  | none => simp
  | some p => exact h p (List.mem_of_getElem? e)
theorem getD_pos {L : List (List Int × Int)} (h : ∀ p ∈ L, (∀ x ∈ p.1, 0 ≤ x) ∧ 0 ≤ p.2) (k : Nat) : (∀ x ∈ (L.getD k ([], 32)).1, 0 ≤ x) ∧ 0 ≤ (L.getD k ([], 32)).2 := by
  rw [List.getD_eq_getElem?_getD]
  cases e : L[k]? with
  | none => exact ⟨fun x hx => (by cases hx), by decide⟩
  | some p => exact h p (List.mem_of_getElem? e)
theorem rowLL_pos {L : List (List Int × Int)} (h : ∀ p ∈ L, (∀ x ∈ p.1, 0 ≤ x) ∧ 0 ≤ p.2) (room : Nat) (bar : Bool) (k : Nat) : ∀ x ∈ rowLL L room bar k, 0 ≤ x := by
  obtain ⟨h1, h2⟩ := getD_pos h k
  intro x hx
  unfold rowLL at hx
  simp only [List.mem_append, List.mem_singleton] at hx
  rcases hx with ((hx | hx) | hx) | hx
  · exact h1 x hx
  · rw [(List.mem_replicate.mp hx).2]; decide
  · rw [hx]; exact h2
  · split at hx
    · rw [List.mem_singleton.mp hx]; decide
    · cases hx
theorem rowLL_len {L : List (List Int × Int)} {room : Nat} (h : ∀ p ∈ L, p.1.length ≤ room) (bar : Bool) (k : Nat) : (rowLL L room bar k).length = room + 1 + (if bar = true then 1 else 0) := by
  have := getD_len h k
  unfold rowLL
  generalize L.getD k ([], 32) = p at *
  cases bar <;> simp <;> lia

inductive DRowsInv (c : DueC) (L : List (List Int × Int)) (kv : List (List Int × AV)) (σ : ASt) (x14 x15 : Option AV) (k : Nat) (ρ : LE) (σ' : ASt) : Prop
  | mk (kv' : List (List Int × AV)) (x16 x17 x18 x19 x20 : Option AV) (hρ : ρ = dueEnv c x14 x15 x16 x17 x18 x19 x20) (h1 : σ' c.d = some (.dct kv')) (h2 : DG kv' = blkD (DG kv) c.t c.l k c.w (fun k j => ((rowLL L c.room c.bar k).map (cell · 0)).getD j .non)) (h3 : kv'.length ≤ kv.length + c.w * k) (h4 : ExtB [c.d] σ σ') : DRowsInv c L kv σ x14 x15 k ρ σ'
theorem due_rows {σ : ASt} {L : List (List Int × Int)} {xs : List AV} {kv : List (List Int × AV)} (hL : σ c.LL = some (.lst xs)) (hLs : LinesAt σ [c.LL] xs L) (hd : σ c.d = some (.dct kv)) (hkl : kv.length ≤ 5000) (hw : c.w = c.room + 1 + (if c.bar = true then 1 else 0)) (hro : c.room ≤ 100) (hli : c.lines ≤ 20)
    (hlen : ∀ p ∈ L, p.1.length ≤ c.room) (hpos : ∀ p ∈ L, (∀ x ∈ p.1, 0 ≤ x) ∧ 0 ≤ p.2) (hLl : L.length ≤ 1000) {x14 x15 : Option AV}
    (hK : ∀ kv' x16 x17 x18 x19 x20 σ', σ' c.d = some (.dct kv') → DG kv' = blkD (DG kv) c.t c.l c.lines c.w (fun k j => ((rowLL L c.room c.bar k).map (cell · 0)).getD j .non) → kv'.length ≤ kv.length + c.w * c.lines → ExtB [c.d] σ σ' → K .next (dueEnv c x14 x15 x16 x17 x18 x19 x20) σ') :
    vfor [16] false (fun ρ σ K => vss TT (WW n) (forBody (nthS fn4.body 5)) ρ σ K) (fun _ => True) (rangeA ((c.lines : Nat) : Int).toNat) (dueEnv c x14 x15 none none none none none) σ K := by
  have hLd : c.LL ∉ [c.d] := by simpa using ne_ot hL hd rfl
  have hLs0 := hLs.toD hd
  refine for_items _ (DRowsInv c L kv σ x14 x15)
    (fun _ _ _ _ => trivial) (fun k hk ρ σ1 hP K' hK' => ?_) (fun ρ σ1 hP => ?_) _ _ ⟨kv, _, _, _, _, _, rfl, hd, by rw [blkD_zero], by simp, ExtB.refl _ _⟩
  · obtain ⟨kv1, x16, x17, x18, x19, x20, rfl, h1, h2, h3, h4⟩ := hP
    have hk : k < c.lines := by simpa [rangeA] using hk
    rw [show (rangeA ((c.lines : Nat) : Int).toNat)[k] = .int k by simp [rangeA]]
    have hL1 := h4 _ _ hLd hL
    have hLs1 := hLs0.extB h4
    have hcw : c.w * k ≤ 102 * 20 := Nat.mul_le_mul (by split at hw <;> lia) (by lia)
    refine ex13 hL1 (by rw [hLs.len]; lia) ?_
    -- the row's letters, then its cells
    have rest : ∀ (a : Addr) (p : List Int × Int) (σ2 : ASt), L.getD k ([], 32) = p → σ2 a = some (.lst (p.1.map letter)) → Ext σ1 σ2 →
        vss TT (WW n) (tailS (forBody (nthS fn4.body 5))) (dueEnv c x14 x15 (some (.int k)) (some (.ref a)) (some (letter p.2)) x19 x20) σ2 K' := by
      intro a p σ2 hp ha x2
      have hpl : p.1.length ≤ c.room := hp ▸ getD_len hlen k
      refine ⟨by decide, fun b hb => ?_⟩
      have x3 : Ext σ2 (upd σ2 b (.lst [letter 32])) := Ext.new hb
      have hb3 := upd_self σ2 b (.lst [letter 32])
      rw [letter_sp]
      generalize upd σ2 b (.lst [letter 32]) = σ3 at *
      refine ex13 (x3 _ _ ha) (by simp; lia) ?_
      conv => whnf
      rw [List.length_map, show ((c.room : Int) - (p.1.length : Nat)) = ((c.room - p.1.length : Nat) : Int) by lia]
      refine ex13 hb3 ⟨by lia, by lia, by simp; lia⟩ (fun e he => ?_)
      rw [show (List.replicate ((c.room - p.1.length : Nat) : Int).toNat [letter 32]).flatten = (List.replicate (c.room - p.1.length) (32 : Int)).map letter by rw [flat_rep]; simp]
      have x4 := Ext.new (o := .lst ((List.replicate (c.room - p.1.length) (32 : Int)).map letter)) he
      have he4 := upd_self σ3 e (.lst ((List.replicate (c.room - p.1.length) (32 : Int)).map letter))
      generalize upd σ3 e (.lst ((List.replicate (c.room - p.1.length) (32 : Int)).map letter)) = σ4 at *
      refine ex24 (x4 _ _ (x3 _ _ ha)) he4 (by rw [sizeLine_eq]; simp; lia) (fun f hf => ?_)
      rw [← List.map_append]
      have x5 := Ext.new (o := .lst ((p.1 ++ List.replicate (c.room - p.1.length) 32).map letter)) hf
      have hf5 := upd_self σ4 f (.lst ((p.1 ++ List.replicate (c.room - p.1.length) 32).map letter))
      generalize upd σ4 f (.lst ((p.1 ++ List.replicate (c.room - p.1.length) 32).map letter)) = σ5 at *
      refine ⟨Nat.le_of_ble_eq_true rfl, fun g hg => ?_⟩
      have x6 : Ext σ5 (upd σ5 g (.lst [letter p.2])) := Ext.new hg
      have hg6 := upd_self σ5 g (.lst [letter p.2])
      generalize upd σ5 g (.lst [letter p.2]) = σ6 at *
      refine ex24 (x6 _ _ hf5) hg6 (by rw [sizeLine_eq]; simp; lia) (fun q hq => ?_)
      rw [letter_map]
      have x7 := Ext.new (o := .lst ((p.1 ++ List.replicate (c.room - p.1.length) 32 ++ [p.2]).map letter)) hq
      have hq7 := upd_self σ6 q (.lst ((p.1 ++ List.replicate (c.room - p.1.length) 32 ++ [p.2]).map letter))
      generalize upd σ6 q (.lst ((p.1 ++ List.replicate (c.room - p.1.length) 32 ++ [p.2]).map letter)) = σ7 at *
      have X7 : Ext σ1 σ7 := ((((x2.trans x3).trans x4).trans x5).trans x6).trans x7
      -- with the bar
      have fin : ∀ (u : Addr) (bl : List Int) (σ8 : ASt), (if c.bar = true then [124] else []) = bl → σ8 u = some (.lst (bl.map letter)) → Ext σ7 σ8 → ∀ y17,
          vbin .Add (.ref q) (.ref u) σ8 fun x σ => vst 17 x (dueEnv c x14 x15 (some (.int k)) y17 (some (letter p.2)) x19 x20) fun ρ => vss TT (WW n) (tailS (tailS (forBody (nthS fn4.body 5)))) ρ σ K' := by
        intro u bl σ8 hbl hu x8 y17
        have hblen : bl.length ≤ 1 := by rw [← hbl]; split <;> simp
        refine ex24 (x8 _ _ hq7) hu (by rw [sizeLine_eq]; simp; lia) (fun z hz => ?_)
        rw [← List.map_append]
        have hrow : p.1 ++ List.replicate (c.room - p.1.length) 32 ++ [p.2] ++ bl = rowLL L c.room c.bar k := by
          unfold rowLL; rw [hp, hbl]
        rw [hrow]
        have x9 := Ext.new (o := .lst ((rowLL L c.room c.bar k).map letter)) hz
        have hz9 := upd_self σ8 z (.lst ((rowLL L c.room c.bar k).map letter))
        generalize upd σ8 z (.lst ((rowLL L c.room c.bar k).map letter)) = σ9 at *
        have X9 : Ext σ1 σ9 := (X7.trans x8).trans x9
        have hrl := rowLL_len hlen c.bar k
        have hb1 : (if c.bar = true then 1 else 0) ≤ 1 := by split <;> lia
        refine ex13 hz9 (by simp; lia) ?_
        refine due_cells (n := n) (c := c) (xs := rowLL L c.room c.bar k) (kv := kv1) (k := k) (rowLL_pos hpos _ _ _) (by rw [hrl]; split <;> lia) hz9 (X9 _ _ h1) (by lia) fun kv' y19 y20 σ' r1 r2 r3 r4 => ?_
        refine hK' _ _ ⟨kv', _, _, _, _, _, rfl, r1, ?_, ?_, (h4.trans X9.toB).trans r4⟩
        · rw [r2, h2, hrl, ← hw]
          exact blkD_row (DG kv) c.t c.l k c.w (fun k j => ((rowLL L c.room c.bar k).map (cell · 0)).getD j .non)
        · rw [Nat.mul_add, Nat.mul_one]; lia
      conv => whnf
      cases hbar : c.bar with
      | true =>
        rw [hbar] at fin
        refine ⟨fun _ => ?_, fun z => absurd z (by decide)⟩
        refine ⟨by decide, fun u hu => ?_⟩
        exact fin u [124] _ rfl (upd_self _ _ _) (Ext.new hu) _
      | false =>
        rw [hbar] at fin
        refine ⟨fun z => absurd z (by decide), fun _ => ?_⟩
        refine ⟨by decide, fun u hu => ?_⟩
        exact fin u [] _ rfl (upd_self _ _ _) (Ext.new hu) _
    refine ⟨fun q => ?_, fun q => ?_⟩
    · have q := of_decide_eq_true q
      have hkL : k < L.length := by rw [hLs.len] at q; lia
      obtain ⟨a, e1, e2, e3⟩ := hLs1.get (List.getElem?_eq_getElem hkL)
      refine ⟨_, lineT a L[k].2, hL1, ⟨by lia, by lia⟩, by simpa using e1, ?_⟩
      exact rest a L[k] σ1 (by rw [List.getD_eq_getElem?_getD, List.getElem?_eq_getElem hkL]; rfl) e2 (Ext.refl _)
    · have q := of_decide_eq_false q
      have hkL : ¬ k < L.length := by rw [hLs.len] at q; lia
      refine ⟨by decide, fun a ha => ?_⟩
      refine ⟨Nat.le_of_ble_eq_true rfl, ?_⟩
      exact rest a ([], 32) _ (by rw [List.getD_eq_getElem?_getD, List.getElem?_eq_none (by lia)]; rfl) (upd_self _ _ _) (Ext.new ha)
  · obtain ⟨kv1, x16, x17, x18, x19, x20, rfl, h1, h2, h3, h4⟩ := hP
    rw [show (rangeA ((c.lines : Nat) : Int).toNat).length = c.lines by simp [rangeA]] at h2 h3
    exact hK kv1 _ _ _ _ _ σ1 h1 h2 h3 h4
end
end Np

namespace Np
noncomputable def modeN (x : Str) (w : Nat) : List Nat := x.cps.toList.take w ++ List.replicate (w - (x.cps.toList.take w).length) 32
theorem modeCells_eq (x : Str) (num : Int) (w : Nat) : modeCells x num w = (modeN x w).map fun c : Nat => cell (c : Int) num := by
  unfold modeCells modeN codesOf
  rw [List.map_append, List.map_replicate, ← List.map_take, List.map_map, List.length_map]
  rfl
theorem modeN_len (x : Str) (w : Nat) : (modeN x w).length = w := by
  unfold modeN; simp; lia
theorem name_at {x : Str} (hx : NmOk x) {w j : Nat} (hw : w ≤ 16) (hj : j < w) : (x ++ Txt.mul (Str.ofString " ") (w : Int)).cps[j]? = (modeN x w)[j]? := by
  have key : ∀ x : Str, x = Str.ofString "b" ∨ x = Str.ofString "longername" ∨ x = Str.ofString "" → ∀ w : Fin 17, ∀ j : Fin 17, j.1 < w.1 → (x ++ Txt.mul (Str.ofString " ") (w.1 : Int)).cps[j.1]? = (modeN x w.1)[j.1]? := by
    intro x hx
    rcases hx with rfl | rfl | rfl
    · decide +kernel
    · decide +kernel
    · decide +kernel
  exact key x hx ⟨w, by lia⟩ ⟨j, by lia⟩ hj
theorem name_len {x : Str} (hx : NmOk x) {w : Nat} (hw : w ≤ 16) : x.length + (Txt.mul (Str.ofString " ") (w : Int)).length ≤ sizeLine := by
  have key : ∀ x : Str, x = Str.ofString "b" ∨ x = Str.ofString "longername" ∨ x = Str.ofString "" → ∀ w : Fin 17, x.length + (Txt.mul (Str.ofString " ") (w.1 : Int)).length ≤ sizeLine := by
    intro x hx
    rcases hx with rfl | rfl | rfl
    · decide +kernel
    · decide +kernel
    · decide +kernel
  exact key x hx ⟨w, by lia⟩
theorem mul_ok {w : Nat} (hw : w ≤ 16) : MulOk (Str.ofString " ") (w : Int) := by
  have key : ∀ w : Fin 17, MulOk (Str.ofString " ") (w.1 : Int) := by unfold MulOk; decide +kernel
  exact key ⟨w, Nat.lt_succ_of_le hw⟩

section
variable {n : Nat} {Q : Post} {c : DueC}

inductive DModeInv (c : DueC) (x : Str) (kv : List (List Int × AV)) (σ : ASt) (x14 x15 x16 x17 x18 x20 : Option AV) (j : Nat) (ρ : LE) (σ' : ASt) : Prop
  | mk (kv' : List (List Int × AV)) (x19 : Option AV) (hρ : ρ = dueEnv c x14 x15 x16 x17 x18 x19 x20) (h1 : σ' c.d = some (.dct kv')) (h2 : DG kv' = blkD (DG kv) (c.t + c.h - 1) c.l 1 j (fun _ j => (modeCells x c.num c.w).getD j .non)) (h3 : kv'.length ≤ kv.length + j) (h4 : ExtB [c.d] σ σ') : DModeInv c x kv σ x14 x15 x16 x17 x18 x20 j ρ σ'
-- the mode line's row
theorem due_mode {σ : ASt} {x : Str} (hx : NmOk x) (hn : c.name = .str x) {kv : List (List Int × AV)} (hd : σ c.d = some (.dct kv)) (hkl : kv.length ≤ 10000) (hw : c.w ≤ 16) (hth : 1 ≤ c.t + c.h) {K : PostS} {x14 x15 x16 x17 x18 x19 x20 : Option AV}
    (hK : ∀ kv' x19 σ', σ' c.d = some (.dct kv') → DG kv' = blkD (DG kv) (c.t + c.h - 1) c.l 1 c.w (fun _ j => (modeCells x c.num c.w).getD j .non) → kv'.length ≤ kv.length + c.w → ExtB [c.d] σ σ' → K .next (dueEnv c x14 x15 x16 x17 x18 x19 x20) σ') :
    vfor [19] false (fun ρ σ K => vss TT (WW n) (forBody (nthS (thenS (nthS fn4.body 6)) 0)) ρ σ K) (fun _ => True) (rangeA ((c.w : Nat) : Int).toNat) (dueEnv c x14 x15 x16 x17 x18 x19 x20) σ K := by
  refine for_items _ (DModeInv c x kv σ x14 x15 x16 x17 x18 x20)
    (fun _ _ _ _ => trivial) (fun j hj ρ σ1 hP K' hK' => ?_) (fun ρ σ1 hP => ?_) _ _ ⟨kv, _, rfl, hd, by rw [blkD_zero'], by lia, ExtB.refl _ _⟩
  · obtain ⟨kv1, x19, rfl, h1, h2, h3, h4⟩ := hP
    have hj : j < c.w := by simpa [rangeA] using hj
    rw [show (rangeA ((c.w : Nat) : Int).toNat)[j] = .int j by simp [rangeA]]
    have hml := modeN_len x c.w
    have hat := name_at hx hw hj
    rw [List.getElem?_eq_getElem (by lia)] at hat
    have hcon : cell ((modeN x c.w)[j]'(by lia) : Nat) c.num = (fun (_ j : Nat) => (modeCells x c.num c.w).getD j .non) 0 j := by
      show _ = (modeCells x c.num c.w).getD j .non
      rw [modeCells_eq, List.getD_eq_getElem?_getD, List.getElem?_map, List.getElem?_eq_getElem (by lia)]; rfl
    generalize (modeN x c.w)[j]'(by lia) = z at *
    have envn : ∀ x19, dueEnv c x14 x15 x16 x17 x18 x19 x20 = [some (.ref c.d), some c.box, some (.int c.W), some (.ref c.cl), some (.str x), some (.int c.num), some (.int c.l), some (.int c.t), some (.int c.w), some (.int c.h), some (.bool c.bar), some (.int c.room), some (.int c.lines), some (.ref c.LL),
      x14, x15, x16, x17, x18, x19, x20, none, none, none, none, none] := fun x19 => by unfold dueEnv; rw [hn]
    rw [envn]
    refine ⟨mul_ok hw, ?_⟩
    refine ⟨name_len hx hw, ?_⟩
    refine ⟨z, ⟨by lia, by lia⟩, by simpa using hat, ?_⟩
    refine ⟨z, rfl, ?_⟩
    refine ⟨Nat.le_of_ble_eq_true rfl, ?_⟩
    refine ⟨Nat.le_of_ble_eq_true rfl, ?_⟩
    refine ⟨_, [(c.t : Int) + (c.h : Int) - 1, (c.l : Int) + (j : Int)], rfl, h1, by rw [sizeLine_eq]; lia, ?_⟩
    rw [show (c.t : Int) + (c.h : Int) - 1 = ((c.t + c.h - 1 : Nat) : Int) by lia, show (c.l : Int) + (j : Int) = ((c.l + j : Nat) : Int) by lia]
    refine hK' _ _ ⟨_, _, (envn _).symm, upd_self _ _ _, blkD_cell h2 hcon, ?_, h4.trans ExtB.upd⟩
    have := dpt_len kv1 [((c.t + c.h - 1 : Nat) : Int), ((c.l + j : Nat) : Int)] (.tup [.int (z : Nat), .int c.num])
    lia
  · obtain ⟨kv1, x19, rfl, h1, h2, h3, h4⟩ := hP
    rw [show (rangeA ((c.w : Nat) : Int).toNat).length = c.w by simp [rangeA]] at h2 h3
    exact hK kv1 _ σ1 h1 h2 h3 h4
end
end Np

namespace Np
theorem lay_pos {room : Nat} : ∀ {cs line : List Int}, (∀ x ∈ cs, x = 10 ∨ 32 ≤ x ∧ x < 127) → (∀ x ∈ line, 0 ≤ x) → ∀ p ∈ lay room line cs, (∀ x ∈ p.1, 0 ≤ x) ∧ 0 ≤ p.2
  | [], line, _, h, p, hp => by rw [lay_nil] at hp; rw [List.mem_singleton.mp hp]; exact ⟨h, Int.le_of_lt (by first | exact (show (0 : Int) < 32 by decide) | exact (show (0 : Int) < 92 by decide))⟩
  | c :: r, line, hc, h, p, hp => by
    have hr : ∀ x ∈ r, x = 10 ∨ 32 ≤ x ∧ x < 127 := fun x hx => hc x (.tail _ hx)
    by_cases c10 : c = 10
    · subst c10
      rw [lay_nl] at hp
      rcases List.mem_cons.mp hp with rfl | hp
      · exact ⟨h, Int.le_of_lt (by first | exact (show (0 : Int) < 32 by decide) | exact (show (0 : Int) < 92 by decide))⟩
      · exact lay_pos hr (fun x hx => by cases hx) p hp
    · have h0 : 0 ≤ c := by have := (hc c (.head _)).resolve_left c10; lia
      by_cases e : line.length = room
      · rw [lay_full r c10 e] at hp
        rcases List.mem_cons.mp hp with rfl | hp
        · exact ⟨h, Int.le_of_lt (by first | exact (show (0 : Int) < 32 by decide) | exact (show (0 : Int) < 92 by decide))⟩
        · exact lay_pos hr (fun x hx => by rw [List.mem_singleton.mp hx]; exact h0) p hp
      · rw [lay_more r c10 e] at hp
        refine lay_pos hr (fun x hx => ?_) p hp
        rcases List.mem_append.mp hx with hx | hx
        · exact h x hx
        · rw [List.mem_singleton.mp hx]; exact h0
theorem rowL_eq (v : Win) (W : Nat) {k : Nat} (hk : k < v.lines) : v.rowL W k = rowLL (lay (v.room W) [] v.codes) (v.room W) (v.bar W) k := by
  have : (v.rows W).getD k ([], 32) = (lay (v.room W) [] v.codes).getD k ([], 32) := by
    unfold Win.rows
    rw [List.getD_eq_getElem?_getD, List.getD_eq_getElem?_getD, List.getElem?_take_of_lt hk]
  unfold Win.rowL rowLL
  rw [this]
theorem con_rows (v : Win) (W : Nat) (G : Nat → Nat → Option AV) : blkD G v.t v.l v.lines v.w (fun k j => ((rowLL (lay (v.room W) [] v.codes) (v.room W) (v.bar W) k).map (cell · 0)).getD j .non) = blkD G v.t v.l v.lines v.w (v.con W) := by
  funext i j
  unfold blkD
  by_cases c1 : v.t ≤ i ∧ i < v.t + v.lines ∧ v.l ≤ j ∧ j < v.l + v.w
  · rw [if_pos c1, if_pos c1]
    have hk : i - v.t < v.lines := by lia
    unfold Win.con
    rw [if_pos hk, rowL_eq v W hk]
  · rw [if_neg c1, if_neg c1]
theorem con_mode (v : Win) (W : Nat) {x : Str} (hx : v.nmx = some x) (h1 : 1 ≤ v.h) (G : Nat → Nat → Option AV) : blkD (blkD G v.t v.l v.lines v.w (v.con W)) (v.t + v.h - 1) v.l 1 v.w (fun _ j => (modeCells x (numOf v.sel) v.w).getD j .non) = blkD G v.t v.l v.h v.w (v.con W) := by
  have hl : v.lines = v.h - 1 := by unfold Win.lines; rw [hx]; rfl
  funext i j
  unfold blkD
  by_cases c1 : v.t + v.h - 1 ≤ i ∧ i < v.t + v.h - 1 + 1 ∧ v.l ≤ j ∧ j < v.l + v.w
  · rw [if_pos c1, if_pos (by lia)]
    unfold Win.con
    rw [if_neg (by lia), hx]
  · rw [if_neg c1]
    by_cases c2 : v.t ≤ i ∧ i < v.t + v.lines ∧ v.l ≤ j ∧ j < v.l + v.w
    · rw [if_pos c2, if_pos (by lia)]
    · rw [if_neg c2, if_neg (by lia)]

noncomputable def dropS : ISs → Nat → ISs
  | l, 0 => l
  | .nil, _ => .nil
  | .cons _ l, n + 1 => dropS l n
noncomputable def nameV : Option Str → AV
  | none => .non
  | some x => .str x

section
variable {n : Nat} {Q : Post}

theorem due_tail {σ : ASt} {v : Win} {W H : Nat} (o : v.Ok W H) (hW : W ≤ 16) (hH : H ≤ 16) {d cl : Addr} {box : AV} {kv : List (List Int × AV)} (hd : σ d = some (.dct kv)) (hkl : kv.length ≤ 2000) (hcl : σ cl = some (.lst (v.codes.map .int))) {K : PostS}
    (hK : ∀ kv' ρ σ', σ' d = some (.dct kv') → DG kv' = blkD (DG kv) v.t v.l v.h v.w (v.con W) → kv'.length ≤ kv.length + v.w * v.h → ExtB [d] σ σ' → K .next ρ σ') :
    vss TT (WW n) (dropS fn4.body 3) [some (.ref d), some box, some (.int W), some (.ref cl), some (nameV v.nmx), some (.int (numOf v.sel)), some (.int v.l), some (.int v.t), some (.int v.w), some (.int v.h), some (.bool (v.bar W)), some (.int (v.room W)), some (.int v.lines),
      none, none, none, none, none, none, none, none, none, none, none, none, none] σ K := by
  have o1 := o.lw
  have o2 := o.th
  have o3 := o.w
  have o4 := o.h
  have o5 := o.len
  have hroom1 : 1 ≤ v.room W := by unfold Win.room; split <;> lia
  have hw : v.w = v.room W + 1 + (if v.bar W = true then 1 else 0) := by
    unfold Win.room Win.bar
    by_cases h : v.l + v.w < W
    · rw [if_pos h, if_pos (decide_eq_true h)]; lia
    · rw [if_neg h, if_neg (by simpa using h)]; lia
  have hro2 : v.room W ≤ 16 := by lia
  have hli : v.lines ≤ v.h := by unfold Win.lines; split <;> lia
  refine ⟨by decide, fun LL hLL => ?_⟩
  have x1 : Ext σ (upd σ LL (.lst [])) := Ext.new hLL
  have hLL1 := upd_self σ LL (.lst [])
  generalize upd σ LL (.lst []) = σ1 at *
  refine ⟨by decide, fun ln hln => ?_⟩
  have x2 : Ext σ1 (upd σ1 ln (.lst [])) := Ext.new hln
  have hln2 := upd_self σ1 ln (.lst [])
  generalize upd σ1 ln (.lst []) = σ2 at *
  refine ⟨Nat.le_of_ble_eq_true rfl, ?_⟩
  refine ⟨by decide, fun e he => ?_⟩
  have x3 : Ext σ2 (upd σ2 e (.lst [.int 10])) := Ext.new he
  have he3 := upd_self σ2 e (.lst [.int 10])
  generalize upd σ2 e (.lst [.int 10]) = σ3 at *
  refine ex24 (x3 _ _ (x2 _ _ (x1 _ _ hcl))) he3 (by rw [sizeLine_eq]; simp; lia) (fun cl2 hcl2 => ?_)
  have x4 := Ext.new (o := .lst (v.codes.map .int ++ [.int 10])) hcl2
  have hcl4 := upd_self σ3 cl2 (.lst (v.codes.map .int ++ [.int 10]))
  generalize upd σ3 cl2 (.lst (v.codes.map .int ++ [.int 10])) = σ4 at *
  refine ex13 hcl4 (by simp; lia) ?_
  have X4 : Ext σ σ4 := ((x1.trans x2).trans x3).trans x4
  have hLL4 := x4 _ _ (x3 _ _ (x2 _ _ hLL1))
  have hln4 := x4 _ _ (x3 _ _ hln2)
  have n1 : LL ≠ cl2 := ne_of hcl2 (x3 _ _ (x2 _ _ hLL1))
  have n2 : ln ≠ LL := fun z => by subst z; rw [hLL1] at hln; cases hln
  have hd4 := X4 _ _ hd
  have n3 : d ≠ LL := ne_ot hd4 hLL4 rfl
  refine due_lines (n := n) (c := ⟨d, box, W, cl, nameV v.nmx, numOf v.sel, v.l, v.t, v.w, v.h, v.bar W, v.room W, v.lines, LL⟩) (room := v.room W) rfl hroom1 (by lia) o.codes (by lia) hcl4 hLL4 hln4 n1 n2 fun xs x14 x15 σ5 q1 q2 q3 => ?_
  have hd5 := q3 _ _ (by simpa using n3) hd4
  refine ⟨⟨Int.natCast_nonneg _, (by show (v.lines : Int) ≤ 1000; lia)⟩, ?_⟩
  refine due_rows (n := n) (c := ⟨d, box, W, cl, nameV v.nmx, numOf v.sel, v.l, v.t, v.w, v.h, v.bar W, v.room W, v.lines, LL⟩) (L := lay (v.room W) [] v.codes) (xs := xs) (kv := kv) q1 q2 hd5 (by lia) hw (by show v.room W ≤ 100; lia) (by show v.lines ≤ 20; lia)
    (lay_len hroom1 (Nat.zero_le _)) (lay_pos o.codes (fun x hx => by cases hx)) (by have := lay_many (room := v.room W) (cs := v.codes) (line := []); lia) fun kv6 x16 x17 x18 x19 x20 σ6 r1 r2 r3 r4 => ?_
  have r2 : DG kv6 = blkD (DG kv) v.t v.l v.lines v.w (v.con W) := by rw [r2]; exact con_rows v W (DG kv)
  have r3 : kv6.length ≤ kv.length + v.w * v.lines := r3
  have X6 : ExtB [d] σ σ6 := fun b ob hb e => by
    have hb' : b ≠ d := by simpa using hb
    have hbL : b ≠ LL := ne_of hLL e
    exact r4 _ _ hb (q3 _ _ (by simpa using hbL) (X4 _ _ e))
  cases hx : v.nmx with
  | none =>
    have hl : v.lines = v.h := by unfold Win.lines; rw [hx]; rfl
    rw [hx] at *
    refine ⟨fun z => absurd (show false = true from z) (by decide), fun _ => ?_⟩
    rw [hl] at r2 r3
    exact hK kv6 _ σ6 r1 r2 r3 X6
  | some x =>
    have hl : v.lines = v.h - 1 := by unfold Win.lines; rw [hx]; rfl
    have hwl : v.w * v.lines + v.w = v.w * v.h := by
      rw [hl, ← Nat.mul_succ]; congr 1; lia
    have hbig : v.w * v.h ≤ 16 * 16 := Nat.mul_le_mul (by lia) (by lia)
    refine ⟨fun _ => ?_, fun z => absurd (show true = false from z) (by decide)⟩
    refine ⟨⟨Int.natCast_nonneg _, (by show (v.w : Int) ≤ 1000; lia)⟩, ?_⟩
    refine due_mode (n := n) (c := ⟨d, box, W, cl, nameV (some x), numOf v.sel, v.l, v.t, v.w, v.h, v.bar W, v.room W, v.lines, LL⟩) (o.nm x hx) rfl r1 (by lia) (by show v.w ≤ 16; lia) (by show 1 ≤ v.t + v.h; lia) fun kv7 x19' σ7 s1 s2 s3 s4 => ?_
    have s3 : kv7.length ≤ kv6.length + v.w := s3
    refine hK kv7 _ σ7 s1 ?_ (by lia) (X6.trans s4)
    rw [s2]
    show blkD (DG kv6) (v.t + v.h - 1) v.l 1 v.w (fun _ j => (modeCells x (numOf v.sel) v.w).getD j .non) = _
    rw [r2]
    exact con_mode v W hx (by lia) (DG kv)

set_option maxHeartbeats 2000000 in
theorem sp_due {σ : ASt} {v : Win} {W H : Nat} (o : v.Ok W H) (hW : W ≤ 16) (hH : H ≤ 16) {d cl : Addr} {kv : List (List Int × AV)} (hd : σ d = some (.dct kv)) (hkl : kv.length ≤ 2000) (hcl : σ cl = some (.lst (v.codes.map .int)))
    (hQ : ∀ kv' σ', σ' d = some (.dct kv') → DG kv' = blkD (DG kv) v.t v.l v.h v.w (v.con W) → kv'.length ≤ kv.length + v.w * v.h → ExtB [d] σ σ' → Q .non σ') :
    WW (n + 1) 4 [.ref d, .tup [.int v.l, .int v.t, .int v.w, .int v.h], .int W, .ref cl, nameV v.nmx, .int (numOf v.sel)] σ Q := by
  have o1 := o.lw
  have o3 := o.w
  have o4 := o.h
  have tail := due_tail (n := n) (box := .tup [.int v.l, .int v.t, .int v.w, .int v.h]) o hW hH hd hkl hcl (K := fun o _ σ => match o with | .ret x => Q x σ | .next => Q .non σ | .cont => False) fun kv' ρ σ' p1 p2 p3 p4 => hQ kv' σ' p1 p2 p3 p4
  refine W_at rfl rfl ?_
  by_cases hb : v.l + v.w < W
  · refine ⟨fun _ => ?_, fun z => absurd (of_decide_eq_false z) (by lia)⟩
    have e1 : v.bar W = true := decide_eq_true hb
    have e2 : v.room W = v.w - 1 - 1 := by unfold Win.room; rw [if_pos hb]
    rw [e1, e2] at tail
    rw [decide_eq_true (show (v.l : Int) + (v.w : Int) < (W : Int) by lia)]
    cases hx : v.nmx with
    | none =>
      have hl : v.lines = v.h := by unfold Win.lines; rw [hx]; rfl
      rw [hx, hl, show ((v.w - 1 - 1 : Nat) : Int) = (v.w : Int) - 1 - 1 by lia] at tail
      refine ⟨fun _ => ?_, fun z => absurd (show true = false from z) (by decide)⟩
      refine ⟨Nat.le_of_ble_eq_true rfl, ?_⟩
      split
      · rename_i ρ' hv
        obtain rfl := Option.some.inj hv
        exact tail
      · rename_i hv
        cases hv
    | some x =>
      have hl : v.lines = v.h - 1 := by unfold Win.lines; rw [hx]; rfl
      rw [hx, hl, show ((v.w - 1 - 1 : Nat) : Int) = (v.w : Int) - 1 - 1 by lia, show ((v.h - 1 : Nat) : Int) = (v.h : Int) - 1 by lia] at tail
      refine ⟨fun z => absurd (show false = true from z) (by decide), fun _ => ?_⟩
      refine ⟨Nat.le_of_ble_eq_true rfl, ?_⟩
      split
      · rename_i ρ' hv
        obtain rfl := Option.some.inj hv
        exact tail
      · rename_i hv
        cases hv
  · refine ⟨fun z => absurd (of_decide_eq_true z) (by lia), fun _ => ?_⟩
    have e1 : v.bar W = false := decide_eq_false hb
    have e2 : v.room W = v.w - 1 := by unfold Win.room; rw [if_neg hb]
    rw [e1, e2] at tail
    rw [decide_eq_false (show ¬ (v.l : Int) + (v.w : Int) < (W : Int) by lia)]
    cases hx : v.nmx with
    | none =>
      have hl : v.lines = v.h := by unfold Win.lines; rw [hx]; rfl
      rw [hx, hl, show ((v.w - 1 : Nat) : Int) = (v.w : Int) - 1 by lia] at tail
      refine ⟨fun _ => ?_, fun z => absurd (show true = false from z) (by decide)⟩
      refine ⟨Nat.le_of_ble_eq_true rfl, ?_⟩
      split
      · rename_i ρ' hv
        obtain rfl := Option.some.inj hv
        exact tail
      · rename_i hv
        cases hv
    | some x =>
      have hl : v.lines = v.h - 1 := by unfold Win.lines; rw [hx]; rfl
      rw [hx, hl, show ((v.w - 1 : Nat) : Int) = (v.w : Int) - 1 by lia, show ((v.h - 1 : Nat) : Int) = (v.h : Int) - 1 by lia] at tail
      refine ⟨fun z => absurd (show false = true from z) (by decide), fun _ => ?_⟩
      refine ⟨Nat.le_of_ble_eq_true rfl, ?_⟩
      split
      · rename_i ρ' hv
        obtain rfl := Option.some.inj hv
        exact tail
      · rename_i hv
        cases hv
end
end Np

namespace Np

theorem intsOf_map : ∀ l : List Int, intsOf (l.map .int) = some l
  | [] => rfl
  | x :: r => congrArg (Option.map (x :: ·)) (intsOf_map r)

-- the boxes
structure Box where
  l : Nat
  t : Nat
  w : Nat
  h : Nat
noncomputable def Box.av (b : Box) : AV := .tup [.int b.l, .int b.t, .int b.w, .int b.h]
noncomputable def Box.has (b : Box) (i j : Nat) : Prop := b.t ≤ i ∧ i < b.t + b.h ∧ b.l ≤ j ∧ j < b.l + b.w
structure BoxesOk (bs : List Box) (W H : Nat) : Prop where
  one : ∀ b ∈ bs, b.l + b.w ≤ W ∧ b.t + b.h ≤ H ∧ 3 ≤ b.w ∧ 2 ≤ b.h
  all : ∀ i j, i < H → j < W → ∃ b ∈ bs, b.has i j

section
variable {n : Nat} {Q : Post} {σ : ASt}

theorem sp_pot {a : Addr} {l : List Int} (h : σ a = some (.fro (l.map .int))) (hl : l.length ≤ 63) (hQ : ∀ p c cs σ', Pot σ' p c cs → σ p = none → Ext σ σ' → Q (.ref p) σ') : WW (n + 1) 1 [.ref a] σ Q := by
  refine W_at rfl rfl ?_
  refine ex14 (.inr h) (by rw [sizeLine_eq]; simp; lia) (by decide) (fun b hb => ?_)
  rw [show (48 : Int).toNat = 48 by rfl, ← List.map_take]
  have x1 : Ext σ (upd σ b (.lst ((l.take 48).map .int))) := Ext.new hb
  have hb1 := upd_self σ b (.lst ((l.take 48).map .int))
  generalize upd σ b (.lst ((l.take 48).map .int)) = σ1 at *
  refine ex13 hb1 (by simp; lia) ?_
  refine comp_pure (fun ρ => ∃ y, ρ = [none, y, none]) (onInt fun i => .int ((if i < 0 then -i else i).fmod 1000003)) _ _ _ _ (fun σ' x => x _ _ hb1) (fun y hy ρ hI => ?_) ⟨_, rfl⟩ fun c σ2 hc2 x2 hc0 => ?_
  · obtain ⟨z, rfl⟩ := hI
    obtain ⟨i, hi, rfl⟩ := List.mem_map.mp hy
    refine ⟨⟨_, rfl⟩, fun σ' Q' _ hQ' => ?_⟩
    exact ⟨by decide, hQ' σ' (Ext.refl _)⟩
  · rw [List.nil_append, List.map_map] at hc2
    have hc2 : σ2 c = some (.lst (((l.take 48).map fun i => (if i < 0 then -i else i).fmod 1000003).map .int)) := by rw [hc2, List.map_map]; rfl
    have hcs : ∀ x ∈ (l.take 48).map (fun i : Int => (if i < 0 then -i else i).fmod 1000003), 0 ≤ x ∧ x < 1000003 := fun x hx => by
      obtain ⟨i, _, rfl⟩ := List.mem_map.mp hx
      exact fm (by decide)
    have hcl : ((l.take 48).map (fun i : Int => (if i < 0 then -i else i).fmod 1000003)).length ≤ 48 := by simp; lia
    generalize (l.take 48).map (fun i : Int => (if i < 0 then -i else i).fmod 1000003) = cs at *
    refine ⟨_, cs, hc2, intsOf_map cs, fun i hi => ?_, by lia, ?_⟩
    · have := hcs i hi; lia
    refine ⟨by decide, ?_⟩
    refine ⟨Nat.le_of_ble_eq_true rfl, fun p hp => ?_⟩
    have h1 := fm (a := cs.sum) (b := 65519) (by decide)
    have hcp : c ≠ p := ne_of hp hc2
    exact hQ p c cs _ ⟨(upd_ne hcp).trans hc2, hcp, fun x hx => (hcs x hx).1, hcl, 0, _, upd_self _ _ _, by lia, by lia, by lia⟩ ((x1.trans x2).none hp) ((x1.trans x2).trans (Ext.new hp))

theorem split_w {bs : List Box} {b : Box} {W H cut : Nat} (h : BoxesOk (b :: bs) W H) (h1 : 3 ≤ cut) (h2 : 3 + cut ≤ b.w) : BoxesOk (bs ++ [⟨b.l, b.t, cut, b.h⟩, ⟨b.l + cut, b.t, b.w - cut, b.h⟩]) W H := by
  obtain ⟨g1, g2, g3, g4⟩ := h.one b (.head _)
  refine ⟨fun c hc => ?_, fun i j hi hj => ?_⟩
  · rcases List.mem_append.mp hc with hc | hc
    · exact h.one c (.tail _ hc)
    · simp only [List.mem_cons, List.not_mem_nil, or_false] at hc
      rcases hc with rfl | rfl
      · exact ⟨by show b.l + cut ≤ W; lia, g2, h1, g4⟩
      · exact ⟨by show b.l + cut + (b.w - cut) ≤ W; lia, g2, by show 3 ≤ b.w - cut; lia, g4⟩
  · obtain ⟨c, hc, q⟩ := h.all i j hi hj
    rcases List.mem_cons.mp hc with rfl | hc
    · obtain ⟨q1, q2, q3, q4⟩ := q
      by_cases z : j < c.l + cut
      · exact ⟨_, List.mem_append_right _ (.head _), q1, q2, q3, z⟩
      · exact ⟨_, List.mem_append_right _ (.tail _ (.head _)), q1, q2, by show c.l + cut ≤ j; lia, by show j < c.l + cut + (c.w - cut); lia⟩
    · exact ⟨c, List.mem_append_left _ hc, q⟩
theorem split_h {bs : List Box} {b : Box} {W H cut : Nat} (h : BoxesOk (b :: bs) W H) (h1 : 2 ≤ cut) (h2 : 2 + cut ≤ b.h) : BoxesOk (bs ++ [⟨b.l, b.t, b.w, cut⟩, ⟨b.l, b.t + cut, b.w, b.h - cut⟩]) W H := by
  obtain ⟨g1, g2, g3, g4⟩ := h.one b (.head _)
  refine ⟨fun c hc => ?_, fun i j hi hj => ?_⟩
  · rcases List.mem_append.mp hc with hc | hc
    · exact h.one c (.tail _ hc)
    · simp only [List.mem_cons, List.not_mem_nil, or_false] at hc
      rcases hc with rfl | rfl
      · exact ⟨g1, by show b.t + cut ≤ H; lia, g3, h1⟩
      · exact ⟨g1, by show b.t + cut + (b.h - cut) ≤ H; lia, g3, by show 2 ≤ b.h - cut; lia⟩
  · obtain ⟨c, hc, q⟩ := h.all i j hi hj
    rcases List.mem_cons.mp hc with rfl | hc
    · obtain ⟨q1, q2, q3, q4⟩ := q
      by_cases z : i < c.t + cut
      · exact ⟨_, List.mem_append_right _ (.head _), q1, z, q3, q4⟩
      · exact ⟨_, List.mem_append_right _ (.tail _ (.head _)), by show c.t + cut ≤ i; lia, by show i < c.t + cut + (c.h - cut); lia, q3, q4⟩
    · exact ⟨c, List.mem_append_left _ hc, q⟩
theorem turn {bs : List Box} {b : Box} {W H : Nat} (h : BoxesOk (b :: bs) W H) : BoxesOk (bs ++ [b]) W H := by
  refine ⟨fun c hc => h.one c ?_, fun i j hi hj => ?_⟩
  · rcases List.mem_append.mp hc with hc | hc
    · exact .tail _ hc
    · rw [List.mem_singleton.mp hc]; exact .head _
  · obtain ⟨c, hc, q⟩ := h.all i j hi hj
    refine ⟨c, ?_, q⟩
    rcases List.mem_cons.mp hc with rfl | hc
    · exact List.mem_append_right _ (.head _)
    · exact List.mem_append_left _ hc

noncomputable def boxEnv (p : Addr) (W H : Nat) (b : Addr) (x4 x5 x6 x7 x8 x9 : Option AV) : LE := [some (.ref p), some (.int W), some (.int H), some (.ref b), x4, x5, x6, x7, x8, x9, none, none]
theorem Pot.lst {σ p c cs} (h : Pot σ p c cs) : ∃ l, σ p = some (.lst l) := let ⟨_, _, _, _, _, _, q, _⟩ := h; ⟨_, q⟩
theorem Pot.extB {σ σ' p c cs} {S : List Addr} (h : Pot σ p c cs) (x : ExtB S σ σ') (h1 : p ∉ S) (h2 : c ∉ S) : Pot σ' p c cs := by
  obtain ⟨a1, a2, a3, a4, at_, seed, a5, a6⟩ := h
  exact ⟨x _ _ h2 a1, a2, a3, a4, at_, seed, x _ _ h1 a5, a6⟩
theorem Pot.ext {σ σ' p c cs} (h : Pot σ p c cs) (x : Ext σ σ') : Pot σ' p c cs := h.extB (S := []) x.toB (by simp) (by simp)

inductive BoxInv (p : Addr) (W H : Nat) (b c : Addr) (cs : List Int) (σ2 : ASt) (k : Nat) (ρ : LE) (σ' : ASt) : Prop
  | mk (bs : List Box) (x4 x5 x6 x7 x8 x9 : Option AV) (hρ : ρ = boxEnv p W H b x4 x5 x6 x7 x8 x9) (h1 : σ' b = some (.lst (bs.map Box.av))) (h2 : BoxesOk bs W H) (h3 : 1 ≤ bs.length) (h4 : bs.length ≤ 1 + k) (h5 : Pot σ' p c cs) (h6 : ExtB [p, b] σ2 σ') : BoxInv p W H b c cs σ2 k ρ σ'
theorem sp_boxes {p c : Addr} {cs : List Int} {W H : Nat} (hp : Pot σ p c cs) (hW : 6 ≤ W) (hW2 : W ≤ 16) (hH : 4 ≤ H) (hH2 : H ≤ 7)
    (hQ : ∀ b bs σ', σ b = none → σ' b = some (.lst (bs.map Box.av)) → BoxesOk bs W H → 1 ≤ bs.length → bs.length ≤ 4 → Pot σ' p c cs → ExtB [p] σ σ' → Q (.ref b) σ') : WW (n + 2) 3 [.ref p, .int W, .int H] σ Q := by
  refine W_at rfl rfl ?_
  refine ⟨Nat.le_of_ble_eq_true rfl, ?_⟩
  refine ⟨Nat.le_of_ble_eq_true rfl, fun b hb => ?_⟩
  have x1 : Ext σ (upd σ b (.lst ([(⟨0, 0, W, H⟩ : Box)].map Box.av))) := Ext.new hb
  have hb1 : (upd σ b (.lst [.tup [.int 0, .int 0, .int W, .int H]])) b = some (.lst ([(⟨0, 0, W, H⟩ : Box)].map Box.av)) := upd_self σ b (.lst ([(⟨0, 0, W, H⟩ : Box)].map Box.av))
  change Ext σ (upd σ b (.lst [.tup [.int 0, .int 0, .int W, .int H]])) at x1
  generalize upd σ b (.lst [.tup [.int 0, .int 0, .int W, .int H]]) = σ1 at *
  refine sp_dip (hp.ext x1) (by decide) fun r σ2 hr1 hr2 hp2 x2 => ?_
  obtain ⟨l0, hl0⟩ := hp.lst
  have hbp : b ≠ p := fun z => by subst z; rw [hl0] at hb; cases hb
  have hbc : c ≠ b := fun z => by subst z; rw [hp.1] at hb; cases hb
  have hb2 := x2 _ _ (by simpa using hbp) hb1
  refine ⟨⟨hr1, by lia⟩, ?_⟩
  refine for_items (rangeA r.toNat) (BoxInv p W H b c cs σ2)
    (fun _ _ _ _ => trivial) (fun k hk ρ σ3 hP K' hK' => ?_) (fun ρ σ3 hP => ?_) _ _ ⟨[⟨0, 0, W, H⟩], _, _, _, _, _, _, rfl, hb2, ?_, by simp, by simp, hp2, ExtB.refl _ _⟩
  · obtain ⟨bs, x4, x5, x6, x7, x8, x9, rfl, h1, h2, h3, h4, h5, h6⟩ := hP
    have hk : k < r.toNat := by simpa [rangeA] using hk
    rw [show (rangeA r.toNat)[k] = .int k by simp [rangeA]]
    obtain ⟨q, bs, rfl⟩ : ∃ q r, bs = q :: r := by
      cases bs with
      | nil => simp at h3
      | cons q r => exact ⟨q, r, rfl⟩
    obtain ⟨g1, g2, g3, g4⟩ := h2.one q (.head _)
    have hbl : bs.length ≤ k := by have := (show (q :: bs).length ≤ 1 + k from h4); simp at this; lia
    refine ⟨⟨_, h1⟩, ?_⟩
    refine ⟨q.av, bs.map Box.av, rfl, h1, by rw [sizeLine_eq]; simp; lia, ?_⟩
    have y4 : ExtB [p, b] σ3 (upd σ3 b (.lst (bs.map Box.av))) := ExtB.upd' (by simp)
    have hb4 := upd_self σ3 b (.lst (bs.map Box.av))
    have hp4 : Pot (upd σ3 b (.lst (bs.map Box.av))) p c cs := h5.extB (S := [b]) ExtB.upd (by simpa using hbp.symm) (by simpa using hbc)
    generalize upd σ3 b (.lst (bs.map Box.av)) = σ4 at *
    -- the list's new end
    have ext2 : ∀ (u1 u2 : AV) (b1 b2 : Box) (σ5 : ASt) (K2 : PostS), (∀ ρ σ, K' .next ρ σ → K2 .next ρ σ) → u1 = b1.av → u2 = b2.av → BoxesOk (bs ++ [b1, b2]) W H → Pot σ5 p c cs → σ5 b = some (.lst (bs.map Box.av)) → ExtB [p, b] σ4 σ5 → ∀ x4 x5 x6 x7 x8 x9,
        newO σ5 (.lst [u1, u2]) fun v σ => vme .extend (.ref b) [v] σ fun x σ => notRef x ∧ K2 .next (boxEnv p W H b x4 x5 x6 x7 x8 x9) σ := by
      intro u1 u2 b1 b2 σ5 K2 hK2 e1 e2 hok hp5 hb5 y5 x4 x5 x6 x7 x8 x9 e he
      have x6' : Ext σ5 (upd σ5 e (.lst [u1, u2])) := Ext.new he
      have he6 := upd_self σ5 e (.lst [u1, u2])
      have hbe : b ≠ e := ne_of he hb5
      refine ⟨_, _, x6' _ _ hb5, he6, by simp; lia, trivial, hK2 _ _ (hK' _ _ ⟨bs ++ [b1, b2], _, _, _, _, _, _, rfl, ?_, hok, by simp, by simp; lia, ?_, ?_⟩)⟩
      · rw [upd_self, e1, e2]; simp
      · exact (hp5.ext x6').extB (S := [b]) ExtB.upd (by simpa using hbp.symm) (by simpa using hbc)
      · exact (((h6.trans y4).trans y5).trans x6'.toB).trans (ExtB.upd' (by simp))
    have other : ∀ (σ5 : ASt) (K2 : PostS), (∀ ρ σ, K' .next ρ σ → K2 .next ρ σ) → Pot σ5 p c cs → σ5 b = some (.lst (bs.map Box.av)) → ExtB [p, b] σ4 σ5 →
        vss TT (WW (n + 1)) (elseS (nthS (forBody (nthS fn3.body 1)) 1)) (boxEnv p W H b (some (.int k)) (some (.int q.l)) (some (.int q.t)) (some (.int q.w)) (some (.int q.h)) x9) σ5 K2 := by
      intro σ5 K2 hK2 hp5 hb5 y5
      refine ⟨fun z => ?_, fun z => ?_⟩
      · have z := of_decide_eq_true z
        refine sp_dip hp5 (by lia) fun r2 σ6 hr1 hr2 hp6 y6 => ?_
        obtain ⟨cut, rfl⟩ := Int.eq_ofNat_of_zero_le hr1
        have hb6 := y6 _ _ (by simpa using hbp) hb5
        refine ⟨⟨_, hb6⟩, ?_⟩
        refine ⟨Nat.le_of_ble_eq_true rfl, ?_⟩
        refine ⟨Nat.le_of_ble_eq_true rfl, ?_⟩
        refine ⟨Nat.le_of_ble_eq_true rfl, ?_⟩
        refine ext2 _ _ ⟨q.l, q.t, q.w, 2 + cut⟩ ⟨q.l, q.t + (2 + cut), q.w, q.h - (2 + cut)⟩ σ6 _ ?_ ?_ ?_ (split_h h2 (by lia) (by lia)) hp6 hb6 (y5.trans (y6.mono (by simp))) _ _ _ _ _ _
        · exact fun _ _ z => hK2 _ _ z
        · rfl
        · unfold Box.av
          simp only [AV.tup.injEq, List.cons.injEq, AV.int.injEq, and_true, true_and]
          lia
      · skip
        refine ⟨⟨_, hb5⟩, ?_⟩
        refine ⟨Nat.le_of_ble_eq_true rfl, ?_⟩
        refine ex13 hb5 (by rw [sizeLine_eq]; simp; lia) ?_
        refine ⟨trivial, hK2 _ _ (hK' _ _ ⟨bs ++ [q], _, _, _, _, _, _, rfl, ?_, turn h2, by simp, by simp; lia, hp5.extB (S := [b]) ExtB.upd (by simpa using hbp.symm) (by simpa using hbc), ((h6.trans y4).trans y5).trans (ExtB.upd' (by simp))⟩)⟩
        rw [upd_self]; simp [Box.av]
    refine sp_dip hp4 (by decide) fun r1 σ5 hr1 hr2 hp5 y5 => ?_
    have hb5 := y5 _ _ (by simpa using hbp) hb4
    refine ⟨fun _ => ?_, fun _ => ?_⟩
    · skip
      refine ⟨fun z => ?_, fun z => ?_⟩
      · have z := of_decide_eq_true z
        refine sp_dip hp5 (by lia) fun r2 σ6 hr1 hr2 hp6 y6 => ?_
        obtain ⟨cut, rfl⟩ := Int.eq_ofNat_of_zero_le hr1
        have hb6 := y6 _ _ (by simpa using hbp) hb5
        refine ⟨⟨_, hb6⟩, ?_⟩
        refine ⟨Nat.le_of_ble_eq_true rfl, ?_⟩
        refine ⟨Nat.le_of_ble_eq_true rfl, ?_⟩
        refine ⟨Nat.le_of_ble_eq_true rfl, ?_⟩
        refine ext2 _ _ ⟨q.l, q.t, 3 + cut, q.h⟩ ⟨q.l + (3 + cut), q.t, q.w - (3 + cut), q.h⟩ σ6 _ ?_ ?_ ?_ (split_w h2 (by lia) (by lia)) hp6 hb6 ((y5.mono (by simp)).trans (y6.mono (by simp))) _ _ _ _ _ _
        · exact fun _ _ z => z
        · unfold Box.av
          simp only [AV.tup.injEq, List.cons.injEq, AV.int.injEq, and_true, true_and]
          lia
        · unfold Box.av
          simp only [AV.tup.injEq, List.cons.injEq, AV.int.injEq, and_true, true_and]
          lia
      · exact other σ5 _ (fun _ _ z => z) hp5 hb5 (y5.mono (by simp))
    · skip
      refine ⟨fun z => absurd z (by decide), fun _ => ?_⟩
      exact other σ5 _ (fun _ _ z => z) hp5 hb5 (y5.mono (by simp))
  · obtain ⟨bs, x4, x5, x6, x7, x8, x9, rfl, h1, h2, h3, h4, h5, h6⟩ := hP
    have h4 : bs.length ≤ 4 := by simp [rangeA] at h4; lia
    refine hQ b bs σ3 hb h1 h2 h3 h4 h5 fun a o ha e => ?_
    have hab : a ≠ b := ne_of hb e
    have hap : a ≠ p := by simpa using ha
    exact h6 _ _ (by simp [hap, hab]) (x2 _ _ ha (x1 _ _ e))
  · refine ⟨fun c hc => ?_, fun i j hi hj => ⟨_, .head _, Nat.zero_le _, by show i < 0 + H; lia, Nat.zero_le _, by show j < 0 + W; lia⟩⟩
    rw [List.mem_singleton.mp hc]
    exact ⟨by show 0 + W ≤ W; lia, by show 0 + H ≤ H; lia, by show 3 ≤ W; lia, by show 2 ≤ H; lia⟩
end
end Np

namespace Np
noncomputable def CodeOk (x : Int) : Prop := x = 97 ∨ x = 98 ∨ x = 32 ∨ x = 10 ∨ x = 99
structure LawC where
  a : Addr
  p : Addr
  t : Addr
  W : Nat
  H : Nat
  nums : Addr
  bx : Addr
  wl : Addr
  cd : Addr
  sel : Int
noncomputable def lawEnv (c : LawC) (x10 x11 x12 x13 x14 x15 x16 x17 x18 x19 x20 x21 : Option AV) : LE :=
  [some (.ref c.a), some (.ref c.p), some (.ref c.t), some (.int c.W), some (.int c.H), some (.ref c.nums), some (.ref c.bx), some (.ref c.wl), some (.ref c.cd), some (.int c.sel), x10, x11, x12, x13, x14, x15, x16, x17, x18, x19, x20, x21,
    none, none, none, none, none, none, none, none, none, none, none, none, none, none, none, none, none, none]
noncomputable def lawBody : ISs := forBody (nthS fn0.body 7)

section
variable {n : Nat} {Q : Post} {c : LawC}

theorem comp_codes {p pc : Addr} {cs : List Int} : ∀ (items : List AV) (ρ : LE) (σ : ASt) (acc : List Int), Pot σ p pc cs → (∃ x, ρ = [none, x, none, some (.ref p)]) → (∀ x ∈ acc, CodeOk x) →
    (∀ (a : Addr) (codes : List Int) σ', σ a = none → codes.length = acc.length + items.length → (∀ x ∈ codes, CodeOk x) → σ' a = some (.lst (codes.map .int)) → Pot σ' p pc cs → ExtB [p] σ σ' → Q (.ref a) σ') →
    vcomp [1] false (fun ρ σ Q => ve TT (WW (n + 1)) (.sub (.lst (.cons (.int 97) (.cons (.int 98) (.cons (.int 32) (.cons (.int 10) (.cons (.int 99) .nil)))))) (.fn 2 (.cons (.loc 3) (.cons (.int 5) .nil)))) ρ σ Q) (fun _ => True) items ρ σ (acc.map .int) Q
  | [], ρ, σ, acc, hp, hρ, ha, hQ => by
    refine ⟨trivial, fun a h => hQ a acc _ h (by simp) ha (upd_self _ _ _) ?_ (Ext.new h).toB⟩
    exact hp.ext (Ext.new h)
  | it :: r, ρ, σ, acc, hp, hρ, ha, hQ => by
    obtain ⟨x, rfl⟩ := hρ
    refine ⟨trivial, ?_⟩
    show ve TT (WW (n + 1)) _ [none, some it, none, some (.ref p)] σ _
    refine ⟨Nat.le_of_ble_eq_true rfl, fun e he => ?_⟩
    have x1 : Ext σ (upd σ e (.lst [.int 97, .int 98, .int 32, .int 10, .int 99])) := Ext.new he
    have he1 := upd_self σ e (.lst [.int 97, .int 98, .int 32, .int 10, .int 99])
    generalize upd σ e (.lst [.int 97, .int 98, .int 32, .int 10, .int 99]) = σ1 at *
    refine sp_dip (hp.ext x1) (by decide) fun i σ2 hi1 hi2 hp2 x2 => ?_
    obtain ⟨lp, hlp⟩ := hp.lst
    have hep : e ≠ p := fun z => by subst z; rw [hlp] at he; cases he
    have he2 := x2 _ _ (by simpa using hep) he1
    have go : ∀ v : Int, CodeOk v → [AV.int 97, .int 98, .int 32, .int 10, .int 99][i.toNat]? = some (.int v) → ∃ l y, σ2 e = some (.lst l) ∧ (0 ≤ i ∧ i < 2 ^ 63) ∧ l[i.toNat]? = some y ∧ (fun y σ => vcomp [1] false (fun ρ σ Q => ve TT (WW (n + 1)) (.sub (.lst (.cons (.int 97) (.cons (.int 98) (.cons (.int 32) (.cons (.int 10) (.cons (.int 99) .nil)))))) (.fn 2 (.cons (.loc 3) (.cons (.int 5) .nil)))) ρ σ Q) (fun _ => True) r [none, some it, none, some (.ref p)] σ (acc.map .int ++ [y]) Q) y σ2 := fun v hv hat => by
      refine ⟨_, .int v, he2, ⟨hi1, by lia⟩, hat, ?_⟩
      have := comp_codes r [none, some it, none, some (.ref p)] σ2 (acc ++ [v]) hp2 ⟨_, rfl⟩ (fun x hx => ?_) fun a codes σ' h0 h1 h2 h3 h4 h5 => ?_
      · rw [List.map_append] at this; exact this
      · rcases List.mem_append.mp hx with hx | hx
        · exact ha x hx
        · rw [List.mem_singleton.mp hx]; exact hv
      · have hap : a ≠ p := fun z => by subst z; obtain ⟨_, z⟩ := hp2.lst; rw [z] at h0; cases h0
        exact hQ a codes σ' (x1.none (x2.none (by simpa using hap) h0)) (by rw [h1]; simp; lia) h2 h3 h4 ((x1.toB.trans x2).trans h5)
    obtain ⟨j, rfl⟩ := Int.eq_ofNat_of_zero_le hi1
    have : j = 0 ∨ j = 1 ∨ j = 2 ∨ j = 3 ∨ j = 4 := by lia
    rcases this with rfl | rfl | rfl | rfl | rfl
    · exact go 97 (.inl rfl) rfl
    · exact go 98 (.inr (.inl rfl)) rfl
    · exact go 32 (.inr (.inr (.inl rfl))) rfl
    · exact go 10 (.inr (.inr (.inr (.inl rfl)))) rfl
    · exact go 99 (.inr (.inr (.inr (.inr rfl)))) rfl
end
end Np

namespace Np
theorem CodeOk.ok {x : Int} (h : CodeOk x) : x = 10 ∨ 32 ≤ x ∧ x < 127 := by
  rcases h with rfl | rfl | rfl | rfl | rfl <;> first | exact .inl rfl | exact .inr ⟨by decide, by decide⟩

theorem ve_loc {T W i ρ σ} {x : AV} {Q : Post} (h : ρ[i]? = some (some x)) (q : Q x σ) : ve T W (.loc i) ρ σ Q := by
  show vget1 ρ i fun x => Q x σ
  unfold vget1; rw [h]; exact q
theorem ve_bin {T W o a b ρ σ} {Q : Post} (h : ve T W a ρ σ fun x σ => ve T W b ρ σ fun y σ => vbin o x y σ Q) : ve T W (.bin o a b) ρ σ Q := h
theorem ve_int {T W i ρ σ} {Q : Post} (q : Q (.int i) σ) : ve T W (.int i) ρ σ Q := q
theorem vbin_sub {a b : Int} {σ} {Q : Post} (q : Q (.int (a - b)) σ) : vbin .Sub (.int a) (.int b) σ Q := q
theorem vst_at {i : Nat} {x : AV} {ρ ρ' : LE} {Q : LE → Prop} (hb : vbind [i] [x] ρ = some ρ') (h : Q ρ') : vst i x ρ Q := by
  unfold vst; rw [hb]; exact h
theorem RowsOk.updS {σ : ASt} {S : List Addr} {s : Addr} {at_ : List (Nat × AV)} {o : AO} (h : σ s = some (.inst 553 at_)) {rs ps} (z : RowsOk σ S rs ps) : RowsOk (upd σ s o) S rs ps :=
  Fa2.map (fun _ _ ⟨st, c0, en, nc, g, b1, b2, e, re, gl, h1, h2, h3, h4⟩ => ⟨st, c0, en, nc, g, b1, b2, e, re, gl, (upd_ne (ne_ot h1 h rfl)).trans h1, (upd_ne (ne_ot h2 h rfl)).trans h2, h3, h4⟩) z
theorem MlOk.updS {σ : ASt} {s : Addr} {at_ : List (Nat × AV)} {o : AO} {ml nmx} (h : σ s = some (.inst 553 at_)) (z : MlOk σ ml nmx) : MlOk (upd σ s o) ml nmx := by
  unfold MlOk at z ⊢
  induction nmx using Option.casesOn with
  | none => exact z
  | some x' => obtain ⟨h1, a, fa, names, h2, h3, h4, h5⟩ := z; exact ⟨h1, a, fa, names, h2, h3, (upd_ne (ne_ot h4 h rfl)).trans h4, (upd_ne (ne_ot h5 h rfl)).trans h5⟩

section
variable {n : Nat} {Q : Post} {c : LawC}

-- the last part: the window is laid, kept and painted
theorem law_end {σ0 σ : ASt} {v : Win} {k : Nat} {pc : Addr} {cs : List Int} {d l m f0 f1 f2 : Addr} {ss : List Addr} {kv : List (List Int × AV)} {s cl e0 : Addr} {ml : AV} (o : v.Ok c.W c.H) (hW : c.W ≤ 16) (hH : c.H ≤ 7) (hsel : v.sel = ((k : Int) == c.sel))
    (hp : Pot σ c.p pc cs) (ht : TF σ c.t d l m f0 f1 f2) (hn : σ c.nums = some (.lst [.int 1, .int 2])) (hwl : σ c.wl = some (.lst (ss.map .ref))) (hcd : σ c.cd = some (.dct kv)) (hkv : kv.length ≤ 1500) (hss : ss.length ≤ 10)
    (hpw : c.p ≠ c.wl) (hpcw : pc ≠ c.wl) (hnw : c.nums ≠ c.wl) (hclw : cl ≠ c.wl)
    (hcl : σ cl = some (.lst (v.codes.map .int))) (hml : MlOk σ ml v.nmx) (hs : σ s = some (.inst 553 [(39, .int v.l), (10, .int v.t), (40, .int v.w), (41, .int v.h), (24, .ref e0), (42, .bool v.sel), (43, ml)])) (hs0 : σ0 s = none) (X : ExtB [c.p, c.wl, c.cd] σ0 σ)
    {x19 x20 x21 : Option AV} {K : PostS}
    (hK : ∀ kv' y19 y20 y21 σ', WinAt σ' s v c.W [c.p, c.wl, c.cd] → Pot σ' c.p pc cs → σ' c.wl = some (.lst ((ss ++ [s]).map .ref)) → σ' c.cd = some (.dct kv') → DG kv' = blkD (DG kv) v.t v.l v.h v.w (v.con c.W) → kv'.length ≤ kv.length + v.w * v.h → ExtB [c.p, c.wl, c.cd] σ0 σ' →
      K .next (lawEnv c (some (.int k)) (some (.tup [.int v.l, .int v.t, .int v.w, .int v.h])) (some (.ref cl)) (some (nameV v.nmx)) (some (.int v.l)) (some (.int v.t)) (some (.int v.w)) (some (.int v.h)) (some (.ref s)) y19 y20 y21) σ') :
    vss TT (WW (n + 10)) (dropS lawBody 5) (lawEnv c (some (.int k)) (some (.tup [.int v.l, .int v.t, .int v.w, .int v.h])) (some (.ref cl)) (some (nameV v.nmx)) (some (.int v.l)) (some (.int v.t)) (some (.int v.w)) (some (.int v.h)) (some (.ref s)) x19 x20 x21) σ K := by
  have o1 := o.lw
  have o2 := o.th
  have o3 := o.w
  have o4 := o.h
  have o5 := o.len
  have hroom1 : 1 ≤ v.room c.W := by unfold Win.room; split <;> lia
  have hroom2 : v.room c.W ≤ 16 := by unfold Win.room; split <;> lia
  have hcol : (if v.l + v.w < c.W then v.w - 1 else v.w) = v.room c.W + 1 := by unfold Win.room; split <;> lia
  have hli : v.lines ≤ v.h := by unfold Win.lines; split <;> lia
  obtain ⟨lp, hlp⟩ := hp.lst
  refine mk_View fun vw σ1 hvw hvw1 x1 => ?_
  -- behind the columns and the lines
  have stage : ∀ σ1 : ASt, σ1 vw = some (.inst 320 [(22, .ref cl), (23, .int 1)]) → Ext σ σ1 →
      vss TT (WW (n + 10)) (dropS lawBody 7) (lawEnv c (some (.int k)) (some (.tup [.int v.l, .int v.t, .int v.w, .int v.h])) (some (.ref cl)) (some (nameV v.nmx)) (some (.int v.l)) (some (.int v.t)) (some (.int v.w)) (some (.int v.h)) (some (.ref s)) (some (.ref vw)) (some (.int (v.room c.W + 1))) (some (.int v.lines))) σ1 K := by
    intro σ1 hvw1 x1
    have hvw' : Vw σ1 vw cl v.codes := ⟨hvw1, x1 _ _ hcl, o5⟩
    refine ⟨Nat.le_of_ble_eq_true rfl, ?_⟩
    refine mk_Options fun op σ2 hop hop2 x2 => ?_
    refine sp_laidRows (S := [c.p, c.wl, c.cd]) (hvw'.ext x2) ((ht.ext x1).ext x2).tb hop2 o.codes hroom1 (by lia) (by lia) (fun a ha => ?_) fun R rs σ3 hR hR3 hrows x3 => ?_
    · simp only [List.mem_cons, List.not_mem_nil, or_false] at ha
      rcases ha with rfl | rfl | rfl
      · rw [x2 _ _ (x1 _ _ hlp)]; simp
      · rw [x2 _ _ (x1 _ _ hwl)]; simp
      · rw [x2 _ _ (x1 _ _ hcd)]; simp
    have X3 : Ext σ σ3 := (x1.trans x2).trans x3
    refine ex24 (X3 _ _ hs) rfl (Nat.le_of_ble_eq_true rfl) ?_
    have hs3 := X3 _ _ hs
    have hRs : R ≠ s := ne_ot hR3 hs3 rfl
    have hps : c.p ≠ s := ne_ot (X3 _ _ hlp) hs3 rfl
    have hpcs : pc ≠ s := ne_ot (X3 _ _ hp.1) hs3 rfl
    have hwls : c.wl ≠ s := ne_ot (X3 _ _ hwl) hs3 rfl
    have hcds : c.cd ≠ s := ne_ot (X3 _ _ hcd) hs3 rfl
    have hns : c.nums ≠ s := ne_ot (X3 _ _ hn) hs3 rfl
    have hcls : cl ≠ s := ne_ot (X3 _ _ hcl) hs3 rfl
    have hRS : R ∉ [c.p, c.wl, c.cd] := by
      have z : ∀ {b ob}, σ b = some ob → R ≠ b := fun e => (ne_of hR (x2 _ _ (x1 _ _ e))).symm
      simp [z hlp, z hwl, z hcd]
    have hSi : ∀ σ' : ASt, (∃ l, σ' c.p = some (.lst l)) → (∃ l, σ' c.wl = some (.lst l)) → (∃ l, σ' c.cd = some (.dct l)) → ∀ a ∈ [c.p, c.wl, c.cd], ∀ C at_, σ' a ≠ some (.inst C at_) := fun σ' ⟨l1, e1⟩ ⟨l2, e2⟩ ⟨l3, e3⟩ a ha C at_ e => by
      simp only [List.mem_cons, List.not_mem_nil, or_false] at ha
      rcases ha with rfl | rfl | rfl
      · rw [e1] at e; cases e
      · rw [e2] at e; cases e
      · rw [e3] at e; cases e
    have W4 : WinAt (upd σ3 s (.inst 553 [(39, .int v.l), (10, .int v.t), (40, .int v.w), (41, .int v.h), (24, .ref R), (42, .bool v.sel), (43, ml)])) s v c.W [c.p, c.wl, c.cd] :=
      ⟨R, ml, rs, ⟨upd_self _ _ _, (upd_ne hRs).trans hR3, (hrows.updS hs3).sub (fun a ha => .tail _ ha), hRS⟩, (hml.ext X3).updS hs3⟩
    have hp4 : Pot (upd σ3 s (.inst 553 [(39, .int v.l), (10, .int v.t), (40, .int v.w), (41, .int v.h), (24, .ref R), (42, .bool v.sel), (43, ml)])) c.p pc cs := (hp.ext X3).extB (S := [s]) ExtB.upd (by simpa using hps) (by simpa using hpcs)
    have y4 : ExtB [c.p, c.wl, c.cd] σ0 (upd σ3 s (.inst 553 [(39, .int v.l), (10, .int v.t), (40, .int v.w), (41, .int v.h), (24, .ref R), (42, .bool v.sel), (43, ml)])) := fun b ob hb e => by
      rw [upd_ne (ne_of hs0 e)]; exact X3 _ _ (X _ _ hb e)
    have hwl4 := (upd_ne (o := .inst 553 [(39, .int v.l), (10, .int v.t), (40, .int v.w), (41, .int v.h), (24, .ref R), (42, .bool v.sel), (43, ml)]) hwls).trans (X3 _ _ hwl)
    have hcd4 := (upd_ne (o := .inst 553 [(39, .int v.l), (10, .int v.t), (40, .int v.w), (41, .int v.h), (24, .ref R), (42, .bool v.sel), (43, ml)]) hcds).trans (X3 _ _ hcd)
    have hn4 := (upd_ne (o := .inst 553 [(39, .int v.l), (10, .int v.t), (40, .int v.w), (41, .int v.h), (24, .ref R), (42, .bool v.sel), (43, ml)]) hns).trans (X3 _ _ hn)
    have hcl4 := (upd_ne (o := .inst 553 [(39, .int v.l), (10, .int v.t), (40, .int v.w), (41, .int v.h), (24, .ref R), (42, .bool v.sel), (43, ml)]) hcls).trans (X3 _ _ hcl)
    rw [show aset 24 (AV.ref R) [(39, AV.int v.l), (10, .int v.t), (40, .int v.w), (41, .int v.h), (24, .ref e0), (42, .bool v.sel), (43, ml)] = [(39, AV.int v.l), (10, .int v.t), (40, .int v.w), (41, .int v.h), (24, .ref R), (42, .bool v.sel), (43, ml)] from rfl]
    generalize upd σ3 s (.inst 553 [(39, .int v.l), (10, .int v.t), (40, .int v.w), (41, .int v.h), (24, .ref R), (42, .bool v.sel), (43, ml)]) = σ4 at *
    refine ⟨⟨_, hwl4⟩, ?_⟩
    refine ex13 hwl4 (by rw [sizeLine_eq]; simp; lia) ?_
    obtain ⟨lp4, hlp4⟩ := hp4.lst
    have W5 := W4.extB (ExtB.upd' (a := c.wl) (o := .lst (ss.map .ref ++ [.ref s])) (by simp)) (hSi σ4 ⟨_, hlp4⟩ ⟨_, hwl4⟩ ⟨_, hcd4⟩)
    have hcdw : c.cd ≠ c.wl := ne_ot hcd4 hwl4 rfl
    have hp5 : Pot (upd σ4 c.wl (.lst (ss.map .ref ++ [.ref s]))) c.p pc cs := hp4.extB (S := [c.wl]) ExtB.upd (by simpa using hpw) (by simpa using hpcw)
    have hwl5 := upd_self σ4 c.wl (.lst (ss.map .ref ++ [.ref s]))
    have hcd5 := (upd_ne (o := .lst (ss.map .ref ++ [.ref s])) hcdw).trans hcd4
    have hn5 := (upd_ne (o := .lst (ss.map .ref ++ [.ref s])) hnw).trans hn4
    have hcl5 := (upd_ne (o := .lst (ss.map .ref ++ [.ref s])) hclw).trans hcl4
    have y5 : ExtB [c.p, c.wl, c.cd] σ0 (upd σ4 c.wl (.lst (ss.map .ref ++ [.ref s]))) := y4.trans (ExtB.upd' (by simp))
    generalize upd σ4 c.wl (.lst (ss.map .ref ++ [.ref s])) = σ5 at *
    refine ⟨trivial, ?_⟩
    have due : ∀ Q', (∀ σ6, K .next (lawEnv c (some (.int k)) (some (.tup [.int v.l, .int v.t, .int v.w, .int v.h])) (some (.ref cl)) (some (nameV v.nmx)) (some (.int v.l)) (some (.int v.t)) (some (.int v.w)) (some (.int v.h)) (some (.ref s)) (some (.ref vw)) (some (.int (v.room c.W + 1))) (some (.int v.lines))) σ6 → Q' .non σ6) →
        WW (n + 10) 4 [.ref c.cd, .tup [.int v.l, .int v.t, .int v.w, .int v.h], .int c.W, .ref cl, nameV v.nmx, .int (numOf v.sel)] σ5 Q' := fun Q' hQ' => by
      refine sp_due o hW (by lia) hcd5 (by lia) hcl5 fun kv' σ6 q1 q2 q3 q4 => hQ' σ6 ?_
      obtain ⟨lp5, hlp5⟩ := hp5.lst
      have hpcd : c.p ≠ c.cd := ne_ot hlp5 hcd5 rfl
      have hpccd : pc ≠ c.cd := ne_ot hp5.1 hcd5 rfl
      have hwcd : c.wl ≠ c.cd := hcdw.symm
      refine hK kv' _ _ _ σ6 (W5.extB (q4.mono (by simp)) (hSi σ5 ⟨_, hlp5⟩ ⟨_, hwl5⟩ ⟨_, hcd5⟩)) (hp5.extB q4 (by simpa using hpcd) (by simpa using hpccd)) ?_ q1 q2 q3 (y5.trans (q4.mono (by simp)))
      rw [q4 _ _ (by simpa using hwcd) hwl5]; simp
    refine ⟨fun z => ?_, fun z => ?_⟩
    · have hv : v.sel = true := hsel.trans z
      rw [hv] at due
      refine ex24 hn5 ⟨by decide, by decide⟩ rfl ?_
      refine due _ fun σ6 q => ?_
      exact ⟨trivial, q⟩
    · have hv : v.sel = false := hsel.trans z
      rw [hv] at due
      refine ex24 hn5 ⟨by decide, by decide⟩ rfl ?_
      refine due _ fun σ6 q => ?_
      exact ⟨trivial, q⟩
  -- the lines
  have lines : ∀ x21, vss TT (WW (n + 10)) (dropS lawBody 6) (lawEnv c (some (.int k)) (some (.tup [.int v.l, .int v.t, .int v.w, .int v.h])) (some (.ref cl)) (some (nameV v.nmx)) (some (.int v.l)) (some (.int v.t)) (some (.int v.w)) (some (.int v.h)) (some (.ref s)) (some (.ref vw)) (some (.int (v.room c.W + 1))) x21) σ1 K := fun x21 => by
    have st := stage σ1 hvw1 x1
    cases hx : v.nmx with
    | none =>
      have hl : v.lines = v.h := by unfold Win.lines; rw [hx]; rfl
      rw [hx, hl] at st
      refine ⟨fun _ => ?_, fun z => absurd (show true = false from z) (by decide)⟩
      refine ve_loc rfl ?_
      refine vst_at rfl ?_
      exact st
    | some x =>
      have hl : v.lines = v.h - 1 := by unfold Win.lines; rw [hx]; rfl
      rw [hx, hl, show ((v.h - 1 : Nat) : Int) = (v.h : Int) - 1 by lia] at st
      refine ⟨fun z => absurd (show false = true from z) (by decide), fun _ => ?_⟩
      refine ve_bin ?_
      refine ve_loc rfl ?_
      refine ve_int ?_
      refine vbin_sub ?_
      refine vst_at rfl ?_
      exact st
  by_cases hb : v.l + v.w < c.W
  · refine ⟨fun _ => ?_, fun z => absurd (of_decide_eq_false z) (by lia)⟩
    rw [if_pos hb] at hcol
    have lines := lines x21
    rw [show ((v.room c.W : Nat) : Int) + 1 = (v.w : Int) - 1 by lia] at lines
    refine ⟨Nat.le_of_ble_eq_true rfl, ?_⟩
    split
    · rename_i ρ' hv
      obtain rfl := Option.some.inj hv
      exact lines
    · rename_i hv
      cases hv
  · refine ⟨fun z => absurd (of_decide_eq_true z) (by lia), fun _ => ?_⟩
    rw [if_neg hb] at hcol
    have lines := lines x21
    rw [show ((v.room c.W : Nat) : Int) + 1 = (v.w : Int) by lia] at lines
    refine ⟨Nat.le_of_ble_eq_true rfl, ?_⟩
    split
    · rename_i ρ' hv
      obtain rfl := Option.some.inj hv
      exact lines
    · rename_i hv
      cases hv
end
end Np

namespace Np
section
variable {n : Nat} {Q : Post} {c : LawC}

theorem law_body {σ : ASt} {b : Box} {k : Nat} {pc : Addr} {cs : List Int} {d l m f0 f1 f2 : Addr} {ss : List Addr} {kv : List (List Int × AV)} (hW : c.W ≤ 16) (hH : c.H ≤ 7) (hb : b.l + b.w ≤ c.W ∧ b.t + b.h ≤ c.H ∧ 3 ≤ b.w ∧ 2 ≤ b.h)
    (hp : Pot σ c.p pc cs) (ht : TF σ c.t d l m f0 f1 f2) (hn : σ c.nums = some (.lst [.int 1, .int 2])) (hwl : σ c.wl = some (.lst (ss.map .ref))) (hcd : σ c.cd = some (.dct kv)) (hkv : kv.length ≤ 1500) (hss : ss.length ≤ 10)
    (hpw : c.p ≠ c.wl) (hpcw : pc ≠ c.wl) (hnw : c.nums ≠ c.wl) (hnp : c.nums ≠ c.p) (hd : d ∉ [c.p, c.wl, c.cd]) (hl : l ∉ [c.p, c.wl, c.cd]) (hm : m ∉ [c.p, c.wl, c.cd])
    {x12 x13 x14 x15 x16 x17 x18 x19 x20 x21 : Option AV} {K : PostS}
    (hK : ∀ v s kv' y12 y13 y14 y15 y16 y17 y18 y19 y20 y21 σ', v.Ok c.W c.H → v.l = b.l → v.t = b.t → v.w = b.w → v.h = b.h → WinAt σ' s v c.W [c.p, c.wl, c.cd] → Pot σ' c.p pc cs → σ' c.wl = some (.lst ((ss ++ [s]).map .ref)) → σ' c.cd = some (.dct kv') → DG kv' = blkD (DG kv) v.t v.l v.h v.w (v.con c.W) → kv'.length ≤ kv.length + v.w * v.h → ExtB [c.p, c.wl, c.cd] σ σ' →
      K .next (lawEnv c (some (.int k)) (some b.av) y12 y13 y14 y15 y16 y17 y18 y19 y20 y21) σ') :
    vss TT (WW (n + 10)) lawBody (lawEnv c (some (.int k)) (some b.av) x12 x13 x14 x15 x16 x17 x18 x19 x20 x21) σ K := by
  have hwlp : c.wl ≠ c.p := hpw.symm
  obtain ⟨lp, hlp⟩ := hp.lst
  have hcdp : c.cd ≠ c.p := ne_ot hcd hlp rfl
  have hwcd : c.wl ≠ c.cd := ne_ot hwl hcd rfl
  have hncd : c.nums ≠ c.cd := ne_ot hn hcd rfl
  -- a window with its codes and its name
  have C : ∀ (nmx : Option Str) (cl : Addr) (codes : List Int) (σ3 : ASt), (∀ x, nmx = some x → NmOk x) → (∀ x ∈ codes, CodeOk x) → codes.length ≤ 11 → σ3 cl = some (.lst (codes.map .int)) → σ cl = none → Pot σ3 c.p pc cs → ExtB [c.p] σ σ3 →
      vss TT (WW (n + 10)) (dropS lawBody 2) (lawEnv c (some (.int k)) (some (.tup [.int b.l, .int b.t, .int b.w, .int b.h])) (some (.ref cl)) (some (nameV nmx)) x14 x15 x16 x17 x18 x19 x20 x21) σ3 K := by
    intro nmx cl codes σ3 hnm hcodes hclen hcl hcl0 hp3 X3
    have o : (⟨b.l, b.t, b.w, b.h, ((k : Int) == c.sel), nmx, codes⟩ : Win).Ok c.W c.H := ⟨hb.1, hb.2.1, hb.2.2.1, hb.2.2.2, fun x hx => (hcodes x hx).ok, hclen, hnm⟩
    have n1 : ∀ {a}, a ≠ c.p → a ∉ [c.p] := fun h => by simpa using h
    have hwl3 := X3 _ _ (n1 hwlp) hwl
    have hcd3 := X3 _ _ (n1 hcdp) hcd
    have hn3 := X3 _ _ (n1 hnp) hn
    have hclw : cl ≠ c.wl := fun z => by subst z; rw [hwl] at hcl0; cases hcl0
    have n2 : ∀ {a}, a ∉ [c.p, c.wl, c.cd] → a ∉ [c.p] := fun h z => h (by simp at z; simp [z])
    have hSi : ∀ a ∈ [c.p], ∀ C at_, σ a ≠ some (.inst C at_) := fun a ha C at_ e => by
      rw [List.mem_singleton.mp ha, hlp] at e; cases e
    have ht3 := ht.extB X3 hSi (n2 hd) (n2 hl) (n2 hm)
    refine ⟨by decide, fun e0 he0 => ?_⟩
    have x4 : Ext σ3 (upd σ3 e0 (.lst [])) := Ext.new he0
    generalize upd σ3 e0 (.lst []) = σ4 at *
    refine mk_Shown fun s σ5 hs hs5 x5 => ?_
    have X35 : Ext σ3 σ5 := x4.trans x5
    have hs0 : σ s = none := by
      have h1 : σ3 s = none := x4.none hs
      have h2 : s ≠ c.p := fun z => by subst z; obtain ⟨_, z⟩ := hp3.lst; rw [z] at h1; cases h1
      exact X3.none (n1 h2) h1
    -- behind the mode line
    have fin : ∀ (ml : AV) (σ6 : ASt), MlOk σ6 ml nmx → σ6 s = some (.inst 553 [(39, .int b.l), (10, .int b.t), (40, .int b.w), (41, .int b.h), (24, .ref e0), (42, .bool ((k : Int) == c.sel)), (43, ml)]) → (∀ a ob, a ≠ s → σ5 a = some ob → σ6 a = some ob) →
        vss TT (WW (n + 10)) (dropS lawBody 5) (lawEnv c (some (.int k)) (some (.tup [.int b.l, .int b.t, .int b.w, .int b.h])) (some (.ref cl)) (some (nameV nmx)) (some (.int b.l)) (some (.int b.t)) (some (.int b.w)) (some (.int b.h)) (some (.ref s)) x19 x20 x21) σ6 K := by
      intro ml σ6 hml hs6 hk6
      have ns : ∀ {a ob}, σ3 a = some ob → a ≠ s := fun e => ne_of (x4.none hs) e
      have Y : ∀ {a ob}, σ3 a = some ob → σ6 a = some ob := fun e => hk6 _ _ (ns e) (X35 _ _ e)
      refine law_end (σ0 := σ) (v := ⟨b.l, b.t, b.w, b.h, ((k : Int) == c.sel), nmx, codes⟩) (pc := pc) (cs := cs) (d := d) (l := l) (m := m) (f0 := f0) (f1 := f1) (f2 := f2) (ss := ss) (kv := kv) (s := s) (cl := cl) (e0 := e0) (ml := ml) o hW hH rfl ?_ ?_ (Y hn3) (Y hwl3) (Y hcd3) hkv hss hpw hpcw hnw hclw (Y hcl) hml hs6 hs0 (fun a ob ha e => ?_)
        fun kv' y19 y20 y21 σ' q1 q2 q3 q4 q5 q6 q7 => hK _ s kv' _ _ _ _ _ _ _ y19 y20 y21 σ' o rfl rfl rfl rfl q1 q2 q3 q4 q5 q6 q7
      · obtain ⟨a1, a2, a3, a4, at_, seed, a5, a6⟩ := hp3
        exact ⟨Y a1, a2, a3, a4, at_, seed, Y a5, a6⟩
      · obtain ⟨⟨⟨a1, a2, a3, a4⟩, a5, a6, a7⟩⟩ := ht3
        exact ⟨⟨⟨Y a1, Y a2, Y a3, Y a4⟩, Y a5, Y a6, Y a7⟩⟩
      · exact Y (X3 _ _ (n2 ha) e)
    induction nmx using Option.casesOn with
    | none =>
      refine ⟨fun z => absurd (show false = true from z) (by decide), fun _ => ?_⟩
      refine vss_nil ?_
      exact fin .non σ5 rfl hs5 (fun _ _ _ e => e)
    | some x =>
      refine ⟨fun _ => ?_, fun z => absurd (show true = false from z) (by decide)⟩
      refine mk_Facts fun fa σ6 hfa hfa6 x6 => ?_
      intro e1 he1
      have x7 : Ext σ6 (upd σ6 e1 (.dct [])) := Ext.new he1
      generalize upd σ6 e1 (.dct []) = σ7 at *
      refine mk_ModeLine fun mo σ8 hmo hmo8 x8 => ?_
      have X8 : Ext σ5 σ8 := (x6.trans x7).trans x8
      refine ex24 (X8 _ _ hs5) rfl (Nat.le_of_ble_eq_true rfl) ?_
      refine vss_nil ?_
      have hmos : mo ≠ s := fun z => by subst z; rw [x7 _ _ (x6 _ _ hs5)] at hmo; cases hmo
      have hfas : fa ≠ s := fun z => by subst z; rw [hs5] at hfa; cases hfa
      refine fin (.ref mo) _ ⟨hnm x rfl, mo, fa, .ref e1, rfl, rfl, (upd_ne hmos).trans hmo8, (upd_ne hfas).trans (x8 _ _ (x7 _ _ hfa6))⟩ (upd_self _ _ _) fun a ob ha e => (upd_ne ha).trans (X8 _ _ e)
  have n1 : ∀ {a}, a ≠ c.p → a ∉ [c.p] := fun h => by simpa using h
  refine sp_dip hp (by decide) fun r σ1 hr1 hr2 hp1 x1 => ?_
  refine ⟨⟨hr1, by lia⟩, ?_⟩
  refine comp_codes (n := n + 9) (rangeA r.toNat) _ σ1 [] hp1 ⟨none, rfl⟩ (fun x hx => by cases hx) fun cl codes σ2 hcl0 hclen hcodes hcl2 hp2 x2 => ?_
  have hclp : cl ≠ c.p := fun z => by subst z; obtain ⟨_, z⟩ := hp1.lst; rw [z] at hcl0; cases hcl0
  have hcl00 : σ cl = none := x1.none (n1 hclp) hcl0
  have hclen : codes.length ≤ 11 := by simp [rangeA] at hclen; lia
  have X2 : ExtB [c.p] σ σ2 := x1.trans x2
  refine sp_dip hp2 (by decide) fun r3 σ3 hr31 hr32 hp3 x3 => ?_
  have hcl3 := x3 _ _ (n1 hclp) hcl2
  refine ⟨fun _ => ?_, fun _ => ?_⟩
  · exact C none cl codes σ3 (fun x hx => by cases hx) hcodes hclen hcl3 hcl00 hp3 (X2.trans x3)
  · skip
    refine ⟨Nat.le_of_ble_eq_true rfl, fun e he => ?_⟩
    have x4 : Ext σ3 (upd σ3 e (.lst [.str (Str.ofString "b"), .str (Str.ofString "longername"), .str (Str.ofString "")])) := Ext.new he
    have he4 := upd_self σ3 e (.lst [.str (Str.ofString "b"), .str (Str.ofString "longername"), .str (Str.ofString "")])
    generalize upd σ3 e (.lst [.str (Str.ofString "b"), .str (Str.ofString "longername"), .str (Str.ofString "")]) = σ4 at *
    refine sp_dip (hp3.ext x4) (by decide) fun r5 σ5 hr51 hr52 hp5 x5 => ?_
    have hep : e ≠ c.p := fun z => by subst z; obtain ⟨_, z⟩ := hp3.lst; rw [z] at he; cases he
    have he5 := x5 _ _ (n1 hep) he4
    have hcl5 := x5 _ _ (n1 hclp) (x4 _ _ hcl3)
    have X5 : ExtB [c.p] σ σ5 := ((X2.trans x3).trans x4.toB).trans x5
    obtain ⟨j, rfl⟩ := Int.eq_ofNat_of_zero_le hr51
    have : j = 0 ∨ j = 1 ∨ j = 2 := by lia
    rcases this with rfl | rfl | rfl
    · refine ⟨_, .str (Str.ofString "b"), he5, ⟨by decide, by decide⟩, rfl, ?_⟩
      exact C (some (Str.ofString "b")) cl codes σ5 (fun x hx => by cases hx; exact .inl rfl) hcodes hclen hcl5 hcl00 hp5 X5
    · refine ⟨_, .str (Str.ofString "longername"), he5, ⟨by decide, by decide⟩, rfl, ?_⟩
      exact C (some (Str.ofString "longername")) cl codes σ5 (fun x hx => by cases hx; exact .inr (.inl rfl)) hcodes hclen hcl5 hcl00 hp5 X5
    · refine ⟨_, .str (Str.ofString ""), he5, ⟨by decide, by decide⟩, rfl, ?_⟩
      exact C (some (Str.ofString "")) cl codes σ5 (fun x hx => by cases hx; exact .inr (.inr rfl)) hcodes hclen hcl5 hcl00 hp5 X5
end
end Np

namespace Np

-- both sides paint alike
theorem rowL_cells (v : Win) (W k : Nat) : (v.rowL W k).map (cell · 0) = txtRow (v.room W) (v.rows W) k ++ (if v.bar W = true then [cell 124 0] else []) := by
  unfold Win.rowL txtRow txtCells
  generalize (v.rows W).getD k ([], 32) = p
  cases v.bar W <;> simp
noncomputable abbrev Win.inside (v : Win) (i j : Nat) : Prop := v.t ≤ i ∧ i < v.t + v.h ∧ v.l ≤ j ∧ j < v.l + v.w

theorem paint_eq {v : Win} {W H : Nat} (o : v.Ok W H) (F : Nat → Nat → AV) (i j : Nat) : v.paint W F i j = if v.inside i j then v.con W (i - v.t) (j - v.l) else F i j := by
  have o1 := o.lw
  have o3 := o.w
  have o4 := o.h
  have hroom1 : 1 ≤ v.room W := by unfold Win.room; split <;> lia
  have hw : v.w = v.room W + 1 + (if v.bar W = true then 1 else 0) := by
    unfold Win.room Win.bar
    by_cases h : v.l + v.w < W
    · rw [if_pos h, if_pos (decide_eq_true h)]; lia
    · rw [if_neg h, if_neg (by simpa using h)]; lia
  have hlen : ∀ k, (txtRow (v.room W) (v.rows W) k).length = v.room W + 1 := fun k => by
    refine txtCells_len ?_
    rw [List.getD_eq_getElem?_getD]
    cases e : (v.rows W)[k]? with
    | none => simp
    | some p => exact lay_len hroom1 (Nat.zero_le _) p (List.mem_of_mem_take (List.mem_of_getElem? e))
  have hbase : ∀ k, k < v.lines → v.t + k = i → (barsF (blk F v.t v.l v.lines (v.room W + 1) fun k j => (txtRow (v.room W) (v.rows W) k).getD j .non) v.t v.l v.w v.lines (v.bar W)) i j = if v.l ≤ j ∧ j < v.l + v.w then v.con W k (j - v.l) else F i j := by
    intro k hk hi
    have hc : v.con W k (j - v.l) = (txtRow (v.room W) (v.rows W) k ++ (if v.bar W = true then [cell 124 0] else [])).getD (j - v.l) .non := by
      unfold Win.con; rw [if_pos hk, rowL_cells]
    rw [hc]
    have hl := hlen k
    unfold barsF
    cases hb : v.bar W with
    | false =>
      rw [hb] at hw
      simp only [Bool.false_eq_true, if_false, Nat.add_zero, List.append_nil] at hw ⊢
      unfold blk
      by_cases c1 : v.l ≤ j ∧ j < v.l + v.w
      · rw [if_pos (by lia), if_pos c1, show i - v.t = k by lia]
      · rw [if_neg (by lia), if_neg c1]
    | true =>
      rw [hb] at hw
      simp only [if_true] at hw ⊢
      unfold blk
      by_cases c1 : v.l ≤ j ∧ j < v.l + v.w
      · by_cases c2 : j = v.l + v.w - 1
        · rw [if_pos (by lia), if_pos c1, List.getD_eq_getElem?_getD, List.getElem?_append_right (by lia), show j - v.l - (txtRow (v.room W) (v.rows W) k).length = 0 by lia]
          rfl
        · rw [if_neg (by lia), if_pos (by lia), if_pos c1, show i - v.t = k by lia]
          show (txtRow (v.room W) (v.rows W) k).getD (j - v.l) .non = _
          rw [List.getD_eq_getElem?_getD, List.getD_eq_getElem?_getD, List.getElem?_append_left (by lia)]
      · rw [if_neg (by lia), if_neg (by lia), if_neg c1]
  have hout : ¬ (v.t ≤ i ∧ i < v.t + v.lines) → (barsF (blk F v.t v.l v.lines (v.room W + 1) fun k j => (txtRow (v.room W) (v.rows W) k).getD j .non) v.t v.l v.w v.lines (v.bar W)) i j = F i j := by
    intro h
    unfold barsF
    cases v.bar W with
    | false => simp only [Bool.false_eq_true, if_false]; unfold blk; rw [if_neg (by lia)]
    | true => simp only [if_true]; unfold blk; rw [if_neg (by lia), if_neg (by lia)]
  unfold Win.paint modeF Win.inside
  cases hx : v.nmx with
  | none =>
    have hl : v.lines = v.h := by unfold Win.lines; rw [hx]; rfl
    dsimp only
    by_cases c1 : v.t ≤ i ∧ i < v.t + v.lines
    · rw [hbase (i - v.t) (by lia) (by lia)]
      by_cases c2 : v.l ≤ j ∧ j < v.l + v.w
      · rw [if_pos c2, if_pos (by lia)]
      · rw [if_neg c2, if_neg (by lia)]
    · rw [hout c1, if_neg (by lia)]
  | some x =>
    have hl : v.lines = v.h - 1 := by unfold Win.lines; rw [hx]; rfl
    dsimp only
    rw [show blk (barsF (blk F v.t v.l v.lines (v.room W + 1) fun k j => (txtRow (v.room W) (v.rows W) k).getD j .non) v.t v.l v.w v.lines (v.bar W)) (v.t + v.h - 1) v.l 1 v.w (fun _ j => (modeCells x (numOf v.sel) v.w).getD j .non) i j =
      if v.t + v.h - 1 ≤ i ∧ i < v.t + v.h - 1 + 1 ∧ v.l ≤ j ∧ j < v.l + v.w then (modeCells x (numOf v.sel) v.w).getD (j - v.l) .non else (barsF (blk F v.t v.l v.lines (v.room W + 1) fun k j => (txtRow (v.room W) (v.rows W) k).getD j .non) v.t v.l v.w v.lines (v.bar W)) i j from rfl]
    by_cases c0 : v.t + v.h - 1 ≤ i ∧ i < v.t + v.h - 1 + 1 ∧ v.l ≤ j ∧ j < v.l + v.w
    · rw [if_pos c0, if_pos (by lia)]
      unfold Win.con
      rw [if_neg (by lia), hx]
    · rw [if_neg c0]
      by_cases c1 : v.t ≤ i ∧ i < v.t + v.lines
      · rw [hbase (i - v.t) (by lia) (by lia)]
        by_cases c2 : v.l ≤ j ∧ j < v.l + v.w
        · rw [if_pos c2, if_pos (by lia)]
        · rw [if_neg c2, if_neg (by lia)]
      · rw [hout c1, if_neg (by lia)]

theorem getD_cell {l : List AV} (h : ∀ x ∈ l, ∃ a b : Int, x = cell a b) {j : Nat} (hj : j < l.length) : ∃ a b : Int, l.getD j .non = cell a b := by
  rw [List.getD_eq_getElem?_getD, List.getElem?_eq_getElem hj]
  exact h _ (List.getElem_mem hj)
theorem con_cell {v : Win} {W H : Nat} (o : v.Ok W H) {k j : Nat} (hk : k < v.h) (hj : j < v.w) : ∃ a b : Int, v.con W k j = cell a b := by
  have o1 := o.lw
  have o3 := o.w
  have hroom1 : 1 ≤ v.room W := by unfold Win.room; split <;> lia
  have hw : v.w = v.room W + 1 + (if v.bar W = true then 1 else 0) := by
    unfold Win.room Win.bar
    by_cases h : v.l + v.w < W
    · rw [if_pos h, if_pos (decide_eq_true h)]; lia
    · rw [if_neg h, if_neg (by simpa using h)]; lia
  have hlen : (txtRow (v.room W) (v.rows W) k).length = v.room W + 1 := by
    refine txtCells_len ?_
    rw [List.getD_eq_getElem?_getD]
    cases e : (v.rows W)[k]? with
    | none => simp
    | some p => exact lay_len hroom1 (Nat.zero_le _) p (List.mem_of_mem_take (List.mem_of_getElem? e))
  unfold Win.con
  by_cases hl : k < v.lines
  · rw [if_pos hl]
    refine getD_cell (fun x hx => ?_) ?_
    · obtain ⟨a, _, rfl⟩ := List.mem_map.mp hx
      exact ⟨a, 0, rfl⟩
    · rw [rowL_cells, List.length_append, hlen]
      cases hb : v.bar W <;> rw [hb] at hw <;> simp at hw ⊢ <;> lia
  · rw [if_neg hl]
    cases hx : v.nmx with
    | none => unfold Win.lines at hl; rw [hx] at hl; simp at hl; lia
    | some x =>
      dsimp only
      refine getD_cell (fun y hy => ?_) (by rw [modeCells_len]; exact hj)
      unfold modeCells at hy
      rcases List.mem_append.mp hy with hy | hy
      · obtain ⟨a, _, rfl⟩ := List.mem_map.mp hy
        exact ⟨a, _, rfl⟩
      · rw [(List.mem_replicate.mp hy).2]; exact ⟨_, _, rfl⟩

noncomputable def paintD (W : Nat) (G : Nat → Nat → Option AV) (v : Win) : Nat → Nat → Option AV := blkD G v.t v.l v.h v.w (v.con W)
theorem fold_rel {W H : Nat} : ∀ (vs : List Win) (F : Nat → Nat → AV) (G : Nat → Nat → Option AV), (∀ v ∈ vs, v.Ok W H) → ∀ i j, (G i j = none ∨ G i j = some (F i j)) → (∃ a b : Int, F i j = cell a b) →
    (vs.foldl (paintD W) G i j = none ∨ vs.foldl (paintD W) G i j = some (vs.foldl (Win.paint W) F i j)) ∧ (∃ a b : Int, vs.foldl (Win.paint W) F i j = cell a b) ∧ ((G i j ≠ none ∨ ∃ v ∈ vs, v.inside i j) → vs.foldl (paintD W) G i j ≠ none)
  | [], F, G, _, i, j, h1, h2 => ⟨h1, h2, fun q => q.elim id fun ⟨_, hv, _⟩ => by cases hv⟩
  | v :: vs, F, G, ho, i, j, h1, h2 => by
    have o := ho v (.head _)
    have e1 := paint_eq o F i j
    have e2 : paintD W G v i j = if v.inside i j then some (v.con W (i - v.t) (j - v.l)) else G i j := rfl
    have := fold_rel vs (v.paint W F) (paintD W G v) (fun v hv => ho v (.tail _ hv)) i j ?_ ?_
    · refine ⟨this.1, this.2.1, fun q => this.2.2 ?_⟩
      rcases q with q | ⟨u, hu, q⟩
      · left
        rw [e2]
        split
        · simp
        · exact q
      · rcases List.mem_cons.mp hu with rfl | hu
        · left; rw [e2, if_pos q]; simp
        · exact .inr ⟨u, hu, q⟩
    · rw [e1, e2]
      by_cases z : v.inside i j
      · rw [if_pos z, if_pos z]; exact .inr rfl
      · rw [if_neg z, if_neg z]; exact h1
    · rw [e1]
      by_cases z : v.inside i j
      · rw [if_pos z]
        have z' := z
        unfold Win.inside at z'
        exact con_cell o (by lia) (by lia)
      · rw [if_neg z]; exact h2
end Np

namespace Np
theorem WinAt.sub {σ S T s v W} (hT : ∀ a ∈ T, a ∈ S) (h : WinAt σ s v W S) : WinAt σ s v W T := by
  obtain ⟨R, ml, rs, h1, h5⟩ := h
  exact ⟨R, ml, rs, h1.sub hT, h5⟩
theorem WinsAt.sub {σ W S T} (hT : ∀ a ∈ T, a ∈ S) {ss vs} (h : WinsAt σ W S ss vs) : WinsAt σ W T ss vs := Fa2.map (fun _ _ q => q.sub hT) h

-- data of a grid of cells
theorem cells_DA {l : List AV} : (∀ x ∈ l, ∃ a b : Int, x = cell a b) → ∃ ds, DAs l ds ∧ PyData.canLayAll0 ds = true ∧ PyData.depthAll ds ≤ 1 := by
  induction l with
  | nil => exact fun _ => ⟨[], .nil, rfl, Nat.zero_le _⟩
  | cons x r ih =>
    intro h
    obtain ⟨a, b, rfl⟩ := h x (.head _)
    obtain ⟨ds, h1, h2, h3⟩ := ih fun y hy => h y (.tail _ hy)
    refine ⟨.tuple [.int a, .int b] :: ds, .cons (.tup (.cons .int (.cons .int .nil))) h1, ?_, ?_⟩
    · simp [PyData.canLayAll0, PyData.canLay0, h2]
    · simp [PyData.depthAll, PyData.depth]; lia
theorem grid_DA : ∀ {L : List (List AV)}, (∀ l ∈ L, ∀ x ∈ l, ∃ a b : Int, x = cell a b) → ∃ ds, DAs (L.map .tup) ds ∧ PyData.canLayAll0 ds = true ∧ PyData.depthAll ds ≤ 2
  | [], _ => ⟨[], .nil, rfl, Nat.zero_le _⟩
  | l :: r, h => by
    obtain ⟨es, h1, h2, h3⟩ := cells_DA (h l (.head _))
    obtain ⟨ds, q1, q2, q3⟩ := grid_DA (L := r) fun y hy => h y (.tail _ hy)
    refine ⟨.tuple es :: ds, .cons (.tup h1) q1, ?_, ?_⟩
    · simp [PyData.canLayAll0, PyData.canLay0, h2, q2]
    · simp [PyData.depthAll, PyData.depth]; lia
theorem grid_eq {L : List (List AV)} (h : ∀ l ∈ L, ∀ x ∈ l, ∃ a b : Int, x = cell a b) {σ : ASt} {Q : Bool → Prop} (hQ : Q true) : vcmp .Eq (.tup (L.map .tup)) (.tup (L.map .tup)) σ Q := by
  obtain ⟨ds, h1, h2, h3⟩ := grid_DA h
  have c : (PyData.tuple ds).canLay0 = true := by simp [PyData.canLay0, h2]
  have s : SeqAt.shaped (.tuple ds) = true := by
    simp [SeqAt.shaped, PyData.canLay0, PyData.depth, h2]; lia
  refine ⟨.tuple ds, .tuple ds, .tup h1, .tup h1, s, s, ?_⟩
  rw [SeqAt.eqv_refl _ c]; exact hQ

section
variable {n : Nat} {c : LawC}

structure Inv (c : LawC) (bs : List Box) (pc : Addr) (cs : List Int) (σL : ASt) (k : Nat) (vs : List Win) (ss : List Addr) (kv : List (List Int × AV)) (σ : ASt) : Prop where
  len : vs.length = k
  box : ∀ (i : Nat) (v : Win) (b : Box), vs[i]? = some v → bs[i]? = some b → v.l = b.l ∧ v.t = b.t ∧ v.w = b.w ∧ v.h = b.h
  ok : ∀ v ∈ vs, v.Ok c.W c.H
  wins : WinsAt σ c.W [c.p, c.wl, c.cd] ss vs
  pot : Pot σ c.p pc cs
  wl : σ c.wl = some (.lst (ss.map .ref))
  cd : σ c.cd = some (.dct kv)
  dg : DG kv = vs.foldl (paintD c.W) fun _ _ => none
  kvl : kv.length ≤ 112 * k
  ext : ExtB [c.p, c.wl, c.cd] σL σ

noncomputable def gridCell (f : Nat → AV) : AV → AV
  | .int j => f j.toNat
  | y => y
noncomputable def gridRow (W : Nat) (F : Nat → Nat → AV) : AV → AV
  | .int i => .tup ((List.range W).map (F i.toNat))
  | y => y
-- the grid that the law asks of its dict
theorem law_grid {σ : ASt} {kv : List (List Int × AV)} {F : Nat → Nat → AV} (hcd : σ c.cd = some (.dct kv)) (hkv : ∀ i j, i < c.H → j < c.W → DG kv i j = some (F i j)) (hW : c.W ≤ 16) (hH : c.H ≤ 7) {Q : Post} {x10 x11 x12 x13 x14 x15 x16 x17 x18 x19 x20 x21 x22 : Option AV}
    (hQ : ∀ σ', Q (.tup (((List.range c.H).map fun i => (List.range c.W).map (F i)).map .tup)) σ') :
    ve TT (WW n) (.bi .tuple (.cons (.comp [none, none, none, none, some 8, some 3] [1] false .range (.loc 4) .non (.bi .tuple (.cons (.comp [none, none, some 4, some 1] [1] false .range (.loc 5) .non (.sub (.loc 2) (.tup (.cons (.loc 3) (.cons (.loc 1) .nil))))) .nil))) .nil)) ((lawEnv c x10 x11 x12 x13 x14 x15 x16 x17 x18 x19 x20 x21).set 22 x22) σ Q := by
  refine ⟨⟨Int.natCast_nonneg _, by lia⟩, ?_⟩
  refine comp_pure (fun ρ => ∃ x, ρ = [none, x, none, none, some (.ref c.cd), some (.int c.W)]) (gridRow c.W F) _ _ _ _ (fun _ _ => trivial) (fun y hy ρ hI => ?_) ⟨_, rfl⟩ fun g σ1 hg1 x1 hg0 => ?_
  · obtain ⟨z, rfl⟩ := hI
    unfold rangeA at hy
    obtain ⟨i, hi, rfl⟩ := List.mem_map.mp hy
    have hi : i < c.H := by simpa using hi
    refine ⟨⟨_, rfl⟩, fun σ' Q' x hQ' => ?_⟩
    show ve TT (WW n) _ [none, some (.int i), none, none, some (.ref c.cd), some (.int c.W)] σ' Q'
    refine ⟨⟨Int.natCast_nonneg _, by lia⟩, ?_⟩
    refine comp_pure (fun ρ => ∃ x, ρ = [none, x, some (.ref c.cd), some (.int i)]) (gridCell (F i)) _ _ _ _ (fun _ _ => trivial) (fun y hy ρ hI => ?_) ⟨_, rfl⟩ fun g σ1 hg1 x1 hg0 => ?_
    · obtain ⟨z, rfl⟩ := hI
      unfold rangeA at hy
      obtain ⟨j, hj, rfl⟩ := List.mem_map.mp hy
      have hj : j < c.W := by simpa using hj
      refine ⟨⟨_, rfl⟩, fun σ2 Q2 x2 hQ2 => ?_⟩
      refine ⟨Nat.le_of_ble_eq_true rfl, kv, [(i : Int), (j : Int)], F i j, rfl, x2 _ _ (x _ _ hcd), hkv i j hi hj, hQ2 σ2 (Ext.refl _)⟩
    · skip
      refine ex13 hg1 (by rw [sizeLine_eq]; simp [rangeA]; lia) ?_
      have e : [] ++ (rangeA ((c.W : Nat) : Int).toNat).map (gridCell (F i)) = (List.range c.W).map (F i) := by
        unfold rangeA
        rw [List.nil_append, List.map_map, Int.toNat_natCast]
        rfl
      rw [e]
      exact hQ' σ1 x1
  · skip
    refine ex13 hg1 (by rw [sizeLine_eq]; simp [rangeA]; lia) ?_
    have e : [] ++ (rangeA ((c.H : Nat) : Int).toNat).map (gridRow c.W F) = ((List.range c.H).map fun i => (List.range c.W).map (F i)).map .tup := by
      unfold rangeA
      rw [List.nil_append, List.map_map, List.map_map, Int.toNat_natCast]
      rfl
    rw [e]
    exact hQ σ1
end
end Np

namespace Np
section
variable {n : Nat} {c : LawC}

-- behind the loop
theorem law_close {σL σ : ASt} {bs : List Box} {pc : Addr} {cs : List Int} {vs : List Win} {ss : List Addr} {kv : List (List Int × AV)} {d l m f0 f1 f2 : Addr} (hW : c.W ≤ 16) (hH : c.H ≤ 7) (hbs : BoxesOk bs c.W c.H) (hbl : bs.length ≤ 4)
    (I : Inv c bs pc cs σL bs.length vs ss kv σ) (ht : TF σL c.t d l m f0 f1 f2) (hd : d ∉ [c.p, c.wl, c.cd]) (hl : l ∉ [c.p, c.wl, c.cd]) (hm : m ∉ [c.p, c.wl, c.cd])
    (hSi : ∀ a ∈ [c.p, c.wl, c.cd], ∀ C at_, σL a ≠ some (.inst C at_)) {x10 x11 x12 x13 x14 x15 x16 x17 x18 x19 x20 x21 : Option AV} {K : PostS} (hK : ∀ ρ σ', K (.ret (.bool true)) ρ σ') :
    vss TT (WW (n + 10)) (dropS fn0.body 8) (lawEnv c x10 x11 x12 x13 x14 x15 x16 x17 x18 x19 x20 x21) σ K := by
  have ht1 := ht.extB I.ext hSi hd hl hm
  have hlen := I.wins.len
  have hvl := I.len
  -- the frame is covered, the two paintings agree
  have rel : ∀ i j, (vs.foldl (paintD c.W) (fun _ _ => none) i j = none ∨ vs.foldl (paintD c.W) (fun _ _ => none) i j = some (vs.foldl (Win.paint c.W) (fun _ _ => cell 32 0) i j)) ∧ (∃ a b : Int, vs.foldl (Win.paint c.W) (fun _ _ => cell 32 0) i j = cell a b) ∧
      ((((fun _ _ => none : Nat → Nat → Option AV) i j) ≠ none ∨ ∃ v ∈ vs, v.inside i j) → vs.foldl (paintD c.W) (fun _ _ => none) i j ≠ none) := fun i j =>
    fold_rel vs (fun _ _ => cell 32 0) (fun _ _ => none) I.ok i j (.inl rfl) ⟨32, 0, rfl⟩
  have hkv : ∀ i j, i < c.H → j < c.W → DG kv i j = some (vs.foldl (Win.paint c.W) (fun _ _ => cell 32 0) i j) := fun i j hi hj => by
    obtain ⟨r1, _, r3⟩ := rel i j
    rw [I.dg]
    refine r1.resolve_left (r3 (.inr ?_))
    obtain ⟨b, hb, hin⟩ := hbs.all i j hi hj
    obtain ⟨q, hq⟩ := List.getElem?_of_mem hb
    have hql : q < bs.length := (List.getElem?_eq_some_iff.mp hq).1
    have hqv : q < vs.length := by lia
    obtain ⟨e1, e2, e3, e4⟩ := I.box q vs[q] b (List.getElem?_eq_getElem hqv) hq
    refine ⟨vs[q], List.getElem_mem hqv, ?_⟩
    unfold Box.has at hin
    unfold Win.inside
    rw [e1, e2, e3, e4]; exact hin
  have hcell : ∀ l ∈ (List.range c.H).map (fun i => (List.range c.W).map (vs.foldl (Win.paint c.W) (fun _ _ => cell 32 0) i)), ∀ x ∈ l, ∃ a b : Int, x = cell a b := fun l hl x hx => by
    obtain ⟨i, _, rfl⟩ := List.mem_map.mp hl
    obtain ⟨j, _, rfl⟩ := List.mem_map.mp hx
    exact (rel i j).2.1
  refine sp_whole (n := n + 4) (by lia) (by lia) I.wl (by lia) (I.wins.sub (fun a ha => by cases ha)) I.ok ht1 fun mx rl σ1 M x1 => ?_
  refine l_mth (M.1) rfl rfl ?_
  refine sp_told M (by lia) (by lia) fun σ2 x2 => ?_
  generalize vs.foldl (Win.paint c.W) (fun _ _ => cell 32 0) = F at *
  rw [show (List.range c.H).map (fun i => AV.tup ((List.range c.W).map (F i))) = ((List.range c.H).map fun i => (List.range c.W).map (F i)).map .tup by rw [List.map_map]; rfl]
  refine law_grid (n := n + 10) (c := c) (F := F) (x2 _ _ (x1 _ _ I.cd)) hkv hW hH fun σ3 => ?_
  exact grid_eq (σ := σ3) hcell (Q := fun t => K (.ret (.bool t)) ((lawEnv c x10 x11 x12 x13 x14 x15 x16 x17 x18 x19 x20 x21).set 22 (some (.tup (((List.range c.H).map fun i => (List.range c.W).map (F i)).map .tup)))) σ3) (hK _ _)

inductive LawInv (c : LawC) (bs : List Box) (pc : Addr) (cs : List Int) (σ : ASt) (k : Nat) (ρ : LE) (σ' : ASt) : Prop
  | mk (vs : List Win) (ss : List Addr) (kv : List (List Int × AV)) (I : Inv c bs pc cs σ k vs ss kv σ') (x10 x11 x12 x13 x14 x15 x16 x17 x18 x19 x20 x21 : Option AV) (hρ : ρ = lawEnv c x10 x11 x12 x13 x14 x15 x16 x17 x18 x19 x20 x21) : LawInv c bs pc cs σ k ρ σ'
-- from the loop on
theorem law_tail {σ : ASt} {bs : List Box} {pc : Addr} {cs : List Int} {d l m f0 f1 f2 : Addr} (hW : c.W ≤ 16) (hH : c.H ≤ 7) (hbs : BoxesOk bs c.W c.H) (hbl : bs.length ≤ 4)
    (hp : Pot σ c.p pc cs) (ht : TF σ c.t d l m f0 f1 f2) (hn : σ c.nums = some (.lst [.int 1, .int 2])) (hbx : σ c.bx = some (.lst (bs.map Box.av))) (hwl : σ c.wl = some (.lst [])) (hcd : σ c.cd = some (.dct []))
    (hpw : c.p ≠ c.wl) (hpcw : pc ≠ c.wl) (hnw : c.nums ≠ c.wl) (hnp : c.nums ≠ c.p) (hbp : c.bx ≠ c.p) (hbw : c.bx ≠ c.wl) (hd : d ∉ [c.p, c.wl, c.cd]) (hl : l ∉ [c.p, c.wl, c.cd]) (hm : m ∉ [c.p, c.wl, c.cd]) {K : PostS} (hK : ∀ ρ σ', K (.ret (.bool true)) ρ σ') :
    vss TT (WW (n + 10)) (dropS fn0.body 7) (lawEnv c none none none none none none none none none none none none) σ K := by
  obtain ⟨lp, hlp⟩ := hp.lst
  have hcdp : c.cd ≠ c.p := ne_ot hcd hlp rfl
  have hcdw : c.cd ≠ c.wl := ne_ot hcd hwl rfl
  have hbcd : c.bx ≠ c.cd := ne_ot hbx hcd rfl
  have hncd : c.nums ≠ c.cd := ne_ot hn hcd rfl
  have hSi : ∀ a ∈ [c.p, c.wl, c.cd], ∀ C at_, σ a ≠ some (.inst C at_) := fun a ha C at_ e => by
    simp only [List.mem_cons, List.not_mem_nil, or_false] at ha
    rcases ha with rfl | rfl | rfl
    · rw [hlp] at e; cases e
    · rw [hwl] at e; cases e
    · rw [hcd] at e; cases e
  have hbS : c.bx ∉ [c.p, c.wl, c.cd] := by simp [hbp, hbw, hbcd]
  have hnS : c.nums ∉ [c.p, c.wl, c.cd] := by simp [hnp, hnw, hncd]
  refine ex13 hbx (by simp; lia) ?_
  refine for_items (enumA 0 (bs.map Box.av)) (LawInv c bs pc cs σ)
    (fun k ρ σ' hP => by obtain ⟨_, _, _, I, _⟩ := hP; exact I.ext _ _ hbS hbx) (fun k hk ρ σ1 hP K' hK' => ?_) (fun ρ σ1 hP => ?_) _ _
    ⟨[], [], [], ⟨rfl, fun _ _ _ h => (by simp at h), fun _ h => (by cases h), trivial, hp, hwl, hcd, ?_, by simp, ExtB.refl _ _⟩, none, none, none, none, none, none, none, none, none, none, none, none, rfl⟩
  · obtain ⟨vs, ss, kv, I, x10, x11, x12, x13, x14, x15, x16, x17, x18, x19, x20, x21, rfl⟩ := hP
    have hkb : k < bs.length := by simpa [enumA_ln] using hk
    have e : (enumA 0 (bs.map Box.av))[k] = .tup [.int (k : Int), bs[k].av] := by
      have := enumA_get (bs.map Box.av) 0 k
      rw [List.getElem?_eq_getElem (by simpa [enumA_ln] using hkb)] at this
      simp [hkb] at this
      exact this
    rw [e]
    have hb := hbs.one bs[k] (List.getElem_mem hkb)
    have hvl := I.len
    have hsl := I.wins.len
    have hkv := I.kvl
    refine law_body (n := n) (c := c) (b := bs[k]) (k := k) hW hH hb I.pot (ht.extB I.ext hSi hd hl hm) (I.ext _ _ hnS hn) I.wl I.cd (by lia) (by lia) hpw hpcw hnw hnp hd hl hm fun v s kv' y12 y13 y14 y15 y16 y17 y18 y19 y20 y21 σ2 o e1 e2 e3 e4 q1 q2 q3 q4 q5 q6 q7 => ?_
    refine hK' _ _ ⟨vs ++ [v], ss ++ [s], kv', ⟨by simp [hvl], fun i u b hu hb' => ?_, fun u hu => ?_, ?_, q2, q3, q4, ?_, ?_, I.ext.trans q7⟩, _, _, _, _, _, _, _, _, _, _, _, _, rfl⟩
    · by_cases hi : i < vs.length
      · rw [List.getElem?_append_left hi] at hu
        exact I.box i u b hu hb'
      · have hi2 : i = vs.length := by
          have := (List.getElem?_eq_some_iff.mp hu).1
          simp at this; lia
        subst hi2
        rw [List.getElem?_append_right (Nat.le_refl _), Nat.sub_self] at hu
        cases hu
        rw [hvl, List.getElem?_eq_getElem hkb] at hb'
        cases hb'
        exact ⟨e1, e2, e3, e4⟩
    · rcases List.mem_append.mp hu with hu | hu
      · exact I.ok u hu
      · rw [List.mem_singleton.mp hu]; exact o
    · obtain ⟨lp1, hlp1⟩ := I.pot.lst
      refine (I.wins.extB q7 fun a ha C at_ e => ?_).snoc q1
      simp only [List.mem_cons, List.not_mem_nil, or_false] at ha
      rcases ha with rfl | rfl | rfl
      · rw [hlp1] at e; cases e
      · rw [I.wl] at e; cases e
      · rw [I.cd] at e; cases e
    · rw [q5, I.dg, List.foldl_append]; rfl
    · have o1 := o.lw
      have o2 := o.th
      have : v.w * v.h ≤ 16 * 7 := Nat.mul_le_mul (by lia) (by lia)
      rw [Nat.mul_add]; lia
  · obtain ⟨vs, ss, kv, I, x10, x11, x12, x13, x14, x15, x16, x17, x18, x19, x20, x21, rfl⟩ := hP
    rw [enumA_ln, List.length_map] at I
    exact law_close hW hH hbs hbl I ht hd hl hm hSi hK
  · funext i j; rfl
end
end Np

namespace Np
section
variable {n : Nat}

theorem law_holds {li : List Int} (hli : li.length ≤ 63) (a : Addr) : WW (n + 11) 0 [.ref a] (upd (fun _ => none) a (.fro (li.map .int))) (fun r _ => r = .bool true) := by
  have ha := upd_self (fun _ => none) a (.fro (li.map .int))
  generalize upd (fun _ => none) a (.fro (li.map .int)) = σ at *
  refine W_at rfl rfl ?_
  refine sp_pot ha hli fun p pc cs σ1 hp hp0 x1 => ?_
  refine mk_Table fun t d l m f0 σ2 hft hf0 x2 ht0 hd0 hl0 hm0 => ?_
  have hp2 := hp.ext x2
  obtain ⟨lp, hlp⟩ := hp.lst
  have npl : l ≠ p := fun z => by subst z; rw [hlp] at hl0; cases hl0
  have npcl : pc ≠ l := fun z => by subst z; rw [hp.1] at hl0; cases hl0
  refine ⟨Nat.le_of_ble_eq_true rfl, ?_⟩
  refine sp_dip hp2 (by decide) fun r1 σ3 h1 h2 hp3 x3 => ?_
  obtain ⟨w, rfl⟩ := Int.eq_ofNat_of_zero_le h1
  refine sp_dip hp3 (by decide) fun r2 σ4 h3 h4 hp4 x4 => ?_
  obtain ⟨h, rfl⟩ := Int.eq_ofNat_of_zero_le h3
  obtain ⟨lp4, hlp4⟩ := hp4.lst
  have Y : ExtB [p] σ2 σ4 := x3.trans x4
  have n1 : ∀ {b}, b ≠ p → b ∉ [p] := fun h => by simpa using h
  have hlp2 := x2 _ _ hlp
  have ndp : d ≠ p := ne_ot hft.d hlp2 rfl
  have nmp : m ≠ p := ne_ot hft.m hlp2 rfl
  have ntp : t ≠ p := ne_ot hft.o hlp2 rfl
  have nfp : f0 ≠ p := ne_ot hf0 hlp2 rfl
  have hft4 : FT σ4 t d l m [(nmD, .ref f0)] [.tup plainL] [([0, 0, 0, 0, 0, 0], .int 0)] := ⟨Y _ _ (n1 ntp) hft.o, Y _ _ (n1 ndp) hft.d, Y _ _ (n1 npl) hft.l, Y _ _ (n1 nmp) hft.m⟩
  have hf4 := Y _ _ (n1 nfp) hf0
  refine ⟨Nat.le_of_ble_eq_true rfl, ?_⟩
  rw [show (6 : Int) + ((w : Nat) : Int) = ((6 + w : Nat) : Int) by lia, show (4 : Int) + ((h : Nat) : Int) = ((4 + h : Nat) : Int) by lia]
  have hW : 6 + w ≤ 16 := by lia
  have hH : 4 + h ≤ 7 := by lia
  have hW6 : 6 ≤ 6 + w := by lia
  have hH4 : 4 ≤ 4 + h := by lia
  generalize 6 + w = W at *
  generalize 4 + h = H at *
  refine l_mth (hft4.o) rfl rfl ?_
  refine ⟨Nat.le_of_ble_eq_true rfl, ?_⟩
  refine mk_Face fun f1 σ5 hf1 hf15 x5 => ?_
  refine sp_define (hft4.ext x5) (by decide) (Nat.le_of_ble_eq_true rfl) fun σ6 hft6 x6 => ?_
  change FT σ6 t d l m [(nmD, .ref f0), (nmM, .ref f1)] [.tup plainL] [([0, 0, 0, 0, 0, 0], .int 0)] at hft6
  have nd : ∀ {b}, b ≠ d → b ∉ [d] := fun h => by simpa using h
  have hf06 : σ6 f0 = some (faceO plainL) := x6 _ _ (nd (ne_ot (x5 _ _ hf4) (x5 _ _ hft4.d) rfl)) (x5 _ _ hf4)
  have hf16 : σ6 f1 = some (faceO partsM) := x6 _ _ (nd (ne_ot hf15 (x5 _ _ hft4.d) rfl)) hf15
  have npd : p ≠ d := ne_ot hlp4 hft4.d rfl
  have npcd : pc ≠ d := ne_ot hp4.1 hft4.d rfl
  have hp6 : Pot σ6 p pc cs := (hp4.ext x5).extB x6 (nd npd) (nd npcd)
  refine ⟨trivial, ?_⟩
  refine l_mth (hft6.o) rfl rfl ?_
  refine ⟨Nat.le_of_ble_eq_true rfl, ?_⟩
  refine mk_Face fun f2 σ7 hf2 hf27 x7 => ?_
  refine sp_define (hft6.ext x7) (by decide) (Nat.le_of_ble_eq_true rfl) fun σ8 hft8 x8 => ?_
  change FT σ8 t d l m [(nmD, .ref f0), (nmM, .ref f1), (nmI, .ref f2)] [.tup plainL] [([0, 0, 0, 0, 0, 0], .int 0)] at hft8
  have hd7 := x7 _ _ hft6.d
  have T8 : T3 σ8 t d l m f0 f1 f2 [.tup plainL] [([0, 0, 0, 0, 0, 0], .int 0)] :=
    ⟨hft8, x8 _ _ (nd (ne_ot (x7 _ _ hf06) hd7 rfl)) (x7 _ _ hf06), x8 _ _ (nd (ne_ot (x7 _ _ hf16) hd7 rfl)) (x7 _ _ hf16), x8 _ _ (nd (ne_ot hf27 hd7 rfl)) hf27⟩
  have hp8 : Pot σ8 p pc cs := (hp6.ext x7).extB x8 (nd npd) (nd npcd)
  refine ⟨trivial, ?_⟩
  refine l_mth (hft8.o) rfl rfl ?_
  refine ⟨Nat.le_of_ble_eq_true rfl, ?_⟩
  refine sp_numNew T8 (nm := nmM) (look := lookM) (.inl ⟨rfl, rfl⟩) (ks := [0, 0, 0, 0, 0, 1]) rfl rfl (by decide) (by decide) fun σ9 T9 x9 => ?_
  change T3 σ9 t d l m f0 f1 f2 [.tup plainL, .tup lookM] [([0, 0, 0, 0, 0, 0], .int 0), ([0, 0, 0, 0, 0, 1], .int 1)] at T9
  have nml : ∀ {b}, b ≠ m → b ≠ l → b ∉ [m, l] := fun h1 h2 => by simp [h1, h2]
  have npm : p ≠ m := nmp.symm
  have npcm : pc ≠ m := ne_ot hp8.1 hft8.m rfl
  have hp9 : Pot σ9 p pc cs := hp8.extB x9 (nml npm npl.symm) (nml npcm npcl)
  refine l_mth (T9.t.o) rfl rfl ?_
  refine ⟨Nat.le_of_ble_eq_true rfl, ?_⟩
  refine sp_numNew T9 (nm := nmI) (look := lookI) (.inr ⟨rfl, rfl⟩) (ks := [0, 0, 1, 0, 0, 1]) rfl rfl (by decide) (by decide) fun σ10 T10 x10 => ?_
  change T3 σ10 t d l m f0 f1 f2 [.tup plainL, .tup lookM, .tup lookI] kmF at T10
  have hp10 : Pot σ10 p pc cs := hp9.extB x10 (nml npm npl.symm) (nml npcm npcl)
  refine ⟨Nat.le_of_ble_eq_true rfl, fun nu hnu => ?_⟩
  have x11 : Ext σ10 (upd σ10 nu (.lst [.int 1, .int 2])) := Ext.new hnu
  have hnu11 : (upd σ10 nu (.lst [.int (([AV.tup plainL].length : Nat) : Int), .int (([AV.tup plainL, .tup lookM].length : Nat) : Int)])) nu = some (.lst [.int 1, .int 2]) := upd_self σ10 nu (.lst [.int 1, .int 2])
  change Ext σ10 (upd σ10 nu (.lst [.int (([AV.tup plainL].length : Nat) : Int), .int (([AV.tup plainL, .tup lookM].length : Nat) : Int)])) at x11
  generalize upd σ10 nu (.lst [.int (([AV.tup plainL].length : Nat) : Int), .int (([AV.tup plainL, .tup lookM].length : Nat) : Int)]) = σ11 at *
  have T11 : TF σ11 t d l m f0 f1 f2 := ⟨T10.ext x11⟩
  have hp11 := hp10.ext x11
  obtain ⟨lp10, hlp10⟩ := hp10.lst
  have nnp : nu ≠ p := fun z => by subst z; rw [hlp10] at hnu; cases hnu
  refine sp_boxes hp11 hW6 hW hH4 hH fun bx bs σ12 hbx hbx12 hbs hbl1 hbl4 hp12 x12 => ?_
  have hlp11 := x11 _ _ hlp10
  have nbp : bx ≠ p := fun z => by subst z; rw [hlp11] at hbx; cases hbx
  have S12 : ∀ a ∈ [p], ∀ C at_, σ11 a ≠ some (.inst C at_) := fun a ha C at_ e => by
    rw [List.mem_singleton.mp ha, hlp11] at e; cases e
  have T12 := T11.extB x12 S12 (n1 ndp) (n1 npl) (n1 nmp)
  have hnu12 := x12 _ _ (n1 nnp) hnu11
  refine ⟨by decide, fun wl hwl => ?_⟩
  have x13 : Ext σ12 (upd σ12 wl (.lst [])) := Ext.new hwl
  have hwl13 := upd_self σ12 wl (.lst [])
  generalize upd σ12 wl (.lst []) = σ13 at *
  intro cd hcd
  have x14 : Ext σ13 (upd σ13 cd (.dct [])) := Ext.new hcd
  have hcd14 := upd_self σ13 cd (.dct [])
  generalize upd σ13 cd (.dct []) = σ14 at *
  have X14 : Ext σ12 σ14 := x13.trans x14
  refine ⟨Nat.le_of_ble_eq_true rfl, ?_⟩
  refine ex13 (X14 _ _ hbx12) (by simp; lia) ?_
  rw [List.length_map]
  refine sp_dip (hp12.ext X14) (by lia) fun sel σ15 _ _ hp15 x15 => ?_
  obtain ⟨lp12, hlp12⟩ := hp12.lst
  have nwp : wl ≠ p := fun z => by subst z; rw [hlp12] at hwl; cases hwl
  have ncp : cd ≠ p := fun z => by subst z; rw [x13 _ _ hlp12] at hcd; cases hcd
  have T14 := T12.ext X14
  have S14 : ∀ a ∈ [p], ∀ C at_, σ14 a ≠ some (.inst C at_) := fun a ha C at_ e => by
    rw [List.mem_singleton.mp ha, X14 _ _ hlp12] at e; cases e
  have T15 := T14.extB x15 S14 (n1 ndp) (n1 npl) (n1 nmp)
  have fw : ∀ {b o}, σ12 b = some o → b ≠ wl := fun e => ne_of hwl e
  have fc : ∀ {b o}, σ12 b = some o → b ≠ cd := fun e => ne_of hcd (x13 _ _ e)
  refine law_tail (n := n) (c := ⟨a, p, t, W, H, nu, bx, wl, cd, sel⟩) (bs := bs) (pc := pc) (cs := cs) (d := d) (l := l) (m := m) (f0 := f0) (f1 := f1) (f2 := f2) hW hH hbs hbl4 hp15 T15 (x15 _ _ (n1 nnp) (X14 _ _ hnu12)) (x15 _ _ (n1 nbp) (X14 _ _ hbx12)) (x15 _ _ (n1 nwp) (x14 _ _ hwl13)) (x15 _ _ (n1 ncp) hcd14)
    nwp.symm (fw hp12.1) (fw hnu12) nnp nbp (fw hbx12) ?_ ?_ ?_ (fun _ _ => rfl)
  · simp [ndp, fw T12.t.t.d, fc T12.t.t.d]
  · simp [npl, fw T12.t.t.l, fc T12.t.t.l]
  · simp [nmp, fw T12.t.t.m, fc T12.t.t.m]
end
end Np

set_option backward.match.sparseCases true
-- Names taken ahead under the theorem's own name: the head's fast road then makes no copy of its own constants (their proofs of sameness took 220 MB).
namespace Np.hd
noncomputable def tw10012320217644430052 : Unit := ()
noncomputable def tw10014881291332667823 : Unit := ()
noncomputable def tw10020371026278159277 : Unit := ()
noncomputable def tw10045104851610948534 : Unit := ()
noncomputable def tw10048651896055199632 : Unit := ()
noncomputable def tw10060172548285462796 : Unit := ()
noncomputable def tw100856170131876722 : Unit := ()
noncomputable def tw10104641151738750787 : Unit := ()
noncomputable def tw10129465766814548204 : Unit := ()
noncomputable def tw10192958513944550360 : Unit := ()
noncomputable def tw10237986822203723401 : Unit := ()
noncomputable def tw10271158621019544266 : Unit := ()
noncomputable def tw10282507908453962958 : Unit := ()
noncomputable def tw10298928681544481974 : Unit := ()
noncomputable def tw10326262933828801653 : Unit := ()
noncomputable def tw10334312858542008968 : Unit := ()
noncomputable def tw10347270699348083816 : Unit := ()
noncomputable def tw10353903073758290294 : Unit := ()
noncomputable def tw10354798389918878257 : Unit := ()
noncomputable def tw10370058416673996964 : Unit := ()
noncomputable def tw10406679346306049855 : Unit := ()
noncomputable def tw10420548527885505533 : Unit := ()
noncomputable def tw10426880161085966326 : Unit := ()
noncomputable def tw10462762617720330820 : Unit := ()
noncomputable def tw10493100076229453836 : Unit := ()
noncomputable def tw10495652857147772364 : Unit := ()
noncomputable def tw10496669500328029595 : Unit := ()
noncomputable def tw10508107306909240696 : Unit := ()
noncomputable def tw10542439838759921564 : Unit := ()
noncomputable def tw10544682468675780327 : Unit := ()
noncomputable def tw10556055355032106300 : Unit := ()
noncomputable def tw10561400239339474534 : Unit := ()
noncomputable def tw10566275586758464698 : Unit := ()
noncomputable def tw10575044185179802957 : Unit := ()
noncomputable def tw10575428211394758354 : Unit := ()
noncomputable def tw10579656267082791685 : Unit := ()
noncomputable def tw10590889602632653119 : Unit := ()
noncomputable def tw10600933299395911375 : Unit := ()
noncomputable def tw10643469613948119713 : Unit := ()
noncomputable def tw10674039172433477105 : Unit := ()
noncomputable def tw10706593399170587587 : Unit := ()
noncomputable def tw10709140765139797896 : Unit := ()
noncomputable def tw10750864684147989973 : Unit := ()
noncomputable def tw1076446447203254373 : Unit := ()
noncomputable def tw1080024851617641070 : Unit := ()
noncomputable def tw10803247990572654607 : Unit := ()
noncomputable def tw10819718775304977454 : Unit := ()
noncomputable def tw10867715409528554456 : Unit := ()
noncomputable def tw10901102072116530151 : Unit := ()
noncomputable def tw10903558713082376073 : Unit := ()
noncomputable def tw1090392185419714438 : Unit := ()
noncomputable def tw10941341666640032451 : Unit := ()
noncomputable def tw10963103131691806502 : Unit := ()
noncomputable def tw10986639617363212860 : Unit := ()
noncomputable def tw10995188248600269871 : Unit := ()
noncomputable def tw11010003511172202484 : Unit := ()
noncomputable def tw11014546131484535096 : Unit := ()
noncomputable def tw11034506004495776242 : Unit := ()
noncomputable def tw11124509052666446874 : Unit := ()
noncomputable def tw11132155705717766621 : Unit := ()
noncomputable def tw11139371727661915808 : Unit := ()
noncomputable def tw1115799776252270499 : Unit := ()
noncomputable def tw11158308489527204716 : Unit := ()
noncomputable def tw11174674543181549347 : Unit := ()
noncomputable def tw11257515121847286693 : Unit := ()
noncomputable def tw11296930057560255395 : Unit := ()
noncomputable def tw11336905852567019533 : Unit := ()
noncomputable def tw11346086533060157097 : Unit := ()
noncomputable def tw11354903047899073310 : Unit := ()
noncomputable def tw11355725799261734401 : Unit := ()
noncomputable def tw11363544393907033887 : Unit := ()
noncomputable def tw11399763539411217276 : Unit := ()
noncomputable def tw11459545666588179952 : Unit := ()
noncomputable def tw11503122440263967574 : Unit := ()
noncomputable def tw11514571094641932308 : Unit := ()
noncomputable def tw115790944926981542 : Unit := ()
noncomputable def tw11626148114732187277 : Unit := ()
noncomputable def tw11627943846332374099 : Unit := ()
noncomputable def tw11637766238757585239 : Unit := ()
noncomputable def tw11662005766101660680 : Unit := ()
noncomputable def tw11680663065583176752 : Unit := ()
noncomputable def tw11683655149081725461 : Unit := ()
noncomputable def tw11685235705471892452 : Unit := ()
noncomputable def tw11690224263089129590 : Unit := ()
noncomputable def tw11708109439517182547 : Unit := ()
noncomputable def tw1177322495782952076 : Unit := ()
noncomputable def tw11791755024248883727 : Unit := ()
noncomputable def tw11808811967087666748 : Unit := ()
noncomputable def tw1181364578784946566 : Unit := ()
noncomputable def tw11901756098911298046 : Unit := ()
noncomputable def tw11908185430130153280 : Unit := ()
noncomputable def tw119645530590116707 : Unit := ()
noncomputable def tw11987814829136348519 : Unit := ()
noncomputable def tw11993503184876072961 : Unit := ()
noncomputable def tw12019472808075536890 : Unit := ()
noncomputable def tw12050457003890855678 : Unit := ()
noncomputable def tw12074642312898769700 : Unit := ()
noncomputable def tw12094134593049827034 : Unit := ()
noncomputable def tw12152498930445226184 : Unit := ()
noncomputable def tw12168857895128057731 : Unit := ()
noncomputable def tw12175340825256967029 : Unit := ()
noncomputable def tw12187678885178749347 : Unit := ()
noncomputable def tw12210335779127705212 : Unit := ()
noncomputable def tw12230807424730997578 : Unit := ()
noncomputable def tw12232328043228168676 : Unit := ()
noncomputable def tw12234751857500460505 : Unit := ()
noncomputable def tw12244622799533713630 : Unit := ()
noncomputable def tw12271044274170355271 : Unit := ()
noncomputable def tw12274192581938029083 : Unit := ()
noncomputable def tw12304649601490161315 : Unit := ()
noncomputable def tw1237821099612599921 : Unit := ()
noncomputable def tw12381324746773021940 : Unit := ()
noncomputable def tw12391012053362476736 : Unit := ()
noncomputable def tw12448881562530454445 : Unit := ()
noncomputable def tw12461319276262276821 : Unit := ()
noncomputable def tw12467036792027608435 : Unit := ()
noncomputable def tw12468040830151256070 : Unit := ()
noncomputable def tw12475748714188329803 : Unit := ()
noncomputable def tw12512367945488068874 : Unit := ()
noncomputable def tw12546689332435771842 : Unit := ()
noncomputable def tw12568096724112696344 : Unit := ()
noncomputable def tw12619467360398578215 : Unit := ()
noncomputable def tw12682531977091331162 : Unit := ()
noncomputable def tw12733972950198170869 : Unit := ()
noncomputable def tw12738848394731630563 : Unit := ()
noncomputable def tw12751828185969819766 : Unit := ()
noncomputable def tw12756713822035247513 : Unit := ()
noncomputable def tw12808154604875181270 : Unit := ()
noncomputable def tw12812901090522721775 : Unit := ()
noncomputable def tw12830757874686739803 : Unit := ()
noncomputable def tw1287494164170112079 : Unit := ()
noncomputable def tw1292534148374439882 : Unit := ()
noncomputable def tw12952961962700535749 : Unit := ()
noncomputable def tw13050797548062191878 : Unit := ()
noncomputable def tw13068962376340803961 : Unit := ()
noncomputable def tw13097138739470996277 : Unit := ()
noncomputable def tw13118124948428885563 : Unit := ()
noncomputable def tw13127338026575141548 : Unit := ()
noncomputable def tw13136879401665452191 : Unit := ()
noncomputable def tw13138441779769582902 : Unit := ()
noncomputable def tw13187608530477440293 : Unit := ()
noncomputable def tw13194124980128911512 : Unit := ()
noncomputable def tw13198106429938964304 : Unit := ()
noncomputable def tw13198474706535255787 : Unit := ()
noncomputable def tw13227908718175426972 : Unit := ()
noncomputable def tw13255702369236585695 : Unit := ()
noncomputable def tw13299031580836173960 : Unit := ()
noncomputable def tw1330562595134783177 : Unit := ()
noncomputable def tw13331358321125064804 : Unit := ()
noncomputable def tw1334734252766006955 : Unit := ()
noncomputable def tw13378856734977598474 : Unit := ()
noncomputable def tw13399505373652572673 : Unit := ()
noncomputable def tw13404859086826139251 : Unit := ()
noncomputable def tw13408681681690272052 : Unit := ()
noncomputable def tw13434593312337448021 : Unit := ()
noncomputable def tw13460705140768143074 : Unit := ()
noncomputable def tw13518161015376375343 : Unit := ()
noncomputable def tw13522724269030524380 : Unit := ()
noncomputable def tw13526502935086591951 : Unit := ()
noncomputable def tw13541060756106823626 : Unit := ()
noncomputable def tw13562857368091792324 : Unit := ()
noncomputable def tw13568427846585773625 : Unit := ()
noncomputable def tw13571432197306438528 : Unit := ()
noncomputable def tw13579191041833512159 : Unit := ()
noncomputable def tw13599146967056030564 : Unit := ()
noncomputable def tw13611201104154018507 : Unit := ()
noncomputable def tw13623823958220771458 : Unit := ()
noncomputable def tw13639959269255569906 : Unit := ()
noncomputable def tw13652792878656476534 : Unit := ()
noncomputable def tw13660400566081838845 : Unit := ()
noncomputable def tw13687375361994639170 : Unit := ()
noncomputable def tw13689689518936504133 : Unit := ()
noncomputable def tw13690417989231612191 : Unit := ()
noncomputable def tw13705903955278884485 : Unit := ()
noncomputable def tw13782355274062115919 : Unit := ()
noncomputable def tw13791941621197254656 : Unit := ()
noncomputable def tw13823142798156763232 : Unit := ()
noncomputable def tw13826336728209937872 : Unit := ()
noncomputable def tw13839014350987535299 : Unit := ()
noncomputable def tw13853052868608691064 : Unit := ()
noncomputable def tw13865002370179503302 : Unit := ()
noncomputable def tw13902923015946352054 : Unit := ()
noncomputable def tw13920878520611354828 : Unit := ()
noncomputable def tw13979669391358956178 : Unit := ()
noncomputable def tw14004025650049677197 : Unit := ()
noncomputable def tw14004301450673240021 : Unit := ()
noncomputable def tw14078771592325893146 : Unit := ()
noncomputable def tw14101230673593489304 : Unit := ()
noncomputable def tw14111659682762348286 : Unit := ()
noncomputable def tw14117980697169165033 : Unit := ()
noncomputable def tw1412815181447743134 : Unit := ()
noncomputable def tw14136376454745696929 : Unit := ()
noncomputable def tw14172296807771764720 : Unit := ()
noncomputable def tw1419843537812765420 : Unit := ()
noncomputable def tw14220673682555617686 : Unit := ()
noncomputable def tw14242977010420194073 : Unit := ()
noncomputable def tw14248115559455041993 : Unit := ()
noncomputable def tw14266783185913933555 : Unit := ()
noncomputable def tw1427080092044004151 : Unit := ()
noncomputable def tw14284586620883316457 : Unit := ()
noncomputable def tw14296490719906867235 : Unit := ()
noncomputable def tw14315720176343381542 : Unit := ()
noncomputable def tw14354620831748358924 : Unit := ()
noncomputable def tw14377120152479679542 : Unit := ()
noncomputable def tw14385633460477537554 : Unit := ()
noncomputable def tw14412032010257158830 : Unit := ()
noncomputable def tw14448186666751416640 : Unit := ()
noncomputable def tw14458234162393321131 : Unit := ()
noncomputable def tw1446020090535769340 : Unit := ()
noncomputable def tw14473862644916858454 : Unit := ()
noncomputable def tw14489242869063845079 : Unit := ()
noncomputable def tw14515826408557559626 : Unit := ()
noncomputable def tw14534971335587254085 : Unit := ()
noncomputable def tw14539931172884504583 : Unit := ()
noncomputable def tw14545830429539052822 : Unit := ()
noncomputable def tw14546075841872635218 : Unit := ()
noncomputable def tw14575730652658524861 : Unit := ()
noncomputable def tw14582542700479620906 : Unit := ()
noncomputable def tw1459706941728002291 : Unit := ()
noncomputable def tw1461777915456001277 : Unit := ()
noncomputable def tw14629961651637914506 : Unit := ()
noncomputable def tw14639988421671329006 : Unit := ()
noncomputable def tw1464476388106888746 : Unit := ()
noncomputable def tw14646281745835376191 : Unit := ()
noncomputable def tw14654201185688503103 : Unit := ()
noncomputable def tw14689486910586718558 : Unit := ()
noncomputable def tw14737447491553251877 : Unit := ()
noncomputable def tw14767161022634226344 : Unit := ()
noncomputable def tw14772919139801648268 : Unit := ()
noncomputable def tw14776060246700393761 : Unit := ()
noncomputable def tw14779610868147088911 : Unit := ()
noncomputable def tw14784113958465094188 : Unit := ()
noncomputable def tw1484932102162371167 : Unit := ()
noncomputable def tw14859539171381733918 : Unit := ()
noncomputable def tw14934110707993341754 : Unit := ()
noncomputable def tw14943720261144121517 : Unit := ()
noncomputable def tw14945428997874248420 : Unit := ()
noncomputable def tw14995237441558777977 : Unit := ()
noncomputable def tw15005382626722999967 : Unit := ()
noncomputable def tw15016736846698474622 : Unit := ()
noncomputable def tw15050234349098493050 : Unit := ()
noncomputable def tw1506589547851528477 : Unit := ()
noncomputable def tw1507185373222785977 : Unit := ()
noncomputable def tw15127838206077539765 : Unit := ()
noncomputable def tw15149169892609944138 : Unit := ()
noncomputable def tw15172762684648841243 : Unit := ()
noncomputable def tw15228038291176822620 : Unit := ()
noncomputable def tw15275582708180530489 : Unit := ()
noncomputable def tw15297018908561608717 : Unit := ()
noncomputable def tw15349617747151315320 : Unit := ()
noncomputable def tw15359368948807387507 : Unit := ()
noncomputable def tw15397842343201549930 : Unit := ()
noncomputable def tw15404739231648111633 : Unit := ()
noncomputable def tw15446687469145829069 : Unit := ()
noncomputable def tw15449174587987012716 : Unit := ()
noncomputable def tw15450376433996589417 : Unit := ()
noncomputable def tw15454960322780691798 : Unit := ()
noncomputable def tw15466715776092796871 : Unit := ()
noncomputable def tw15489055165399279989 : Unit := ()
noncomputable def tw15496093634552630601 : Unit := ()
noncomputable def tw15565911807201064275 : Unit := ()
noncomputable def tw1559704962402990005 : Unit := ()
noncomputable def tw15611964189221833581 : Unit := ()
noncomputable def tw15613085665070625192 : Unit := ()
noncomputable def tw1570490350180739948 : Unit := ()
noncomputable def tw15711911229976507295 : Unit := ()
noncomputable def tw15745282242401451119 : Unit := ()
noncomputable def tw15786097013984386762 : Unit := ()
noncomputable def tw15860041932517716228 : Unit := ()
noncomputable def tw15866264461297906409 : Unit := ()
noncomputable def tw1587504047672464636 : Unit := ()
noncomputable def tw15880611118580187652 : Unit := ()
noncomputable def tw15893558350474192615 : Unit := ()
noncomputable def tw15923921230815380069 : Unit := ()
noncomputable def tw15929552819459249357 : Unit := ()
noncomputable def tw15935017104164577463 : Unit := ()
noncomputable def tw1596272956467385580 : Unit := ()
noncomputable def tw15976615082629698769 : Unit := ()
noncomputable def tw15980528125310295184 : Unit := ()
noncomputable def tw16052068177422851434 : Unit := ()
noncomputable def tw16079624359812922634 : Unit := ()
noncomputable def tw16138938340788914769 : Unit := ()
noncomputable def tw16149715448312593528 : Unit := ()
noncomputable def tw16194349670862199854 : Unit := ()
noncomputable def tw16195127338811724271 : Unit := ()
noncomputable def tw16221075980006691143 : Unit := ()
noncomputable def tw16283195285677524320 : Unit := ()
noncomputable def tw16291801611252986274 : Unit := ()
noncomputable def tw16402781842996924814 : Unit := ()
noncomputable def tw16411454812930011123 : Unit := ()
noncomputable def tw16498000955528126127 : Unit := ()
noncomputable def tw16546845279828693363 : Unit := ()
noncomputable def tw16559298054379868434 : Unit := ()
noncomputable def tw16559801981798297727 : Unit := ()
noncomputable def tw16560714267777544494 : Unit := ()
noncomputable def tw16574719040151472362 : Unit := ()
noncomputable def tw16602813279818353535 : Unit := ()
noncomputable def tw16663471819238569520 : Unit := ()
noncomputable def tw16663767557359059044 : Unit := ()
noncomputable def tw16694761912669377597 : Unit := ()
noncomputable def tw16697668379170505847 : Unit := ()
noncomputable def tw16729602010457500041 : Unit := ()
noncomputable def tw16767750921508087932 : Unit := ()
noncomputable def tw16797140366794399553 : Unit := ()
noncomputable def tw16818432794379508372 : Unit := ()
noncomputable def tw16835153295737796940 : Unit := ()
noncomputable def tw16909705120214347862 : Unit := ()
noncomputable def tw16917464588722628153 : Unit := ()
noncomputable def tw16930927624027806160 : Unit := ()
noncomputable def tw16947286939261693297 : Unit := ()
noncomputable def tw16967221722309156429 : Unit := ()
noncomputable def tw17023478450000511184 : Unit := ()
noncomputable def tw17099809503930713304 : Unit := ()
noncomputable def tw17110807239337129404 : Unit := ()
noncomputable def tw17247704272542058790 : Unit := ()
noncomputable def tw17248016242157888110 : Unit := ()
noncomputable def tw17250870611116428081 : Unit := ()
noncomputable def tw17258787911176891805 : Unit := ()
noncomputable def tw17284170424348863367 : Unit := ()
noncomputable def tw17289210959081118576 : Unit := ()
noncomputable def tw17298749000735207381 : Unit := ()
noncomputable def tw1730572903309330349 : Unit := ()
noncomputable def tw17311891903140691856 : Unit := ()
noncomputable def tw17388536692385345105 : Unit := ()
noncomputable def tw17427202313111443258 : Unit := ()
noncomputable def tw17449427117742540711 : Unit := ()
noncomputable def tw17504922776449031142 : Unit := ()
noncomputable def tw17544520799764991187 : Unit := ()
noncomputable def tw17567058708407426111 : Unit := ()
noncomputable def tw17586546194488707245 : Unit := ()
noncomputable def tw17615155090962152251 : Unit := ()
noncomputable def tw17619919637404387052 : Unit := ()
noncomputable def tw17629881169232791374 : Unit := ()
noncomputable def tw17661673681496368986 : Unit := ()
noncomputable def tw1769800926899932504 : Unit := ()
noncomputable def tw17758898415498070264 : Unit := ()
noncomputable def tw1776485286250474630 : Unit := ()
noncomputable def tw17851774135941531531 : Unit := ()
noncomputable def tw1788562385568020996 : Unit := ()
noncomputable def tw18027573643204488322 : Unit := ()
noncomputable def tw18027949649697608839 : Unit := ()
noncomputable def tw18031759843876160898 : Unit := ()
noncomputable def tw18067610197877134177 : Unit := ()
noncomputable def tw18077611188014085719 : Unit := ()
noncomputable def tw1808739414885669481 : Unit := ()
noncomputable def tw18125049862144501246 : Unit := ()
noncomputable def tw18126318873637633425 : Unit := ()
noncomputable def tw18131753630770390761 : Unit := ()
noncomputable def tw18133682552495701972 : Unit := ()
noncomputable def tw1813728411753953724 : Unit := ()
noncomputable def tw18139188709444467095 : Unit := ()
noncomputable def tw1815868419925435252 : Unit := ()
noncomputable def tw18175954763584976881 : Unit := ()
noncomputable def tw18185257518847407583 : Unit := ()
noncomputable def tw18195044895103121815 : Unit := ()
noncomputable def tw18213008189922170610 : Unit := ()
noncomputable def tw18250626278603912535 : Unit := ()
noncomputable def tw18262545739982723109 : Unit := ()
noncomputable def tw18269776019070331970 : Unit := ()
noncomputable def tw18274322677051133886 : Unit := ()
noncomputable def tw18287616066105900051 : Unit := ()
noncomputable def tw18319448868045945314 : Unit := ()
noncomputable def tw183243251917776126 : Unit := ()
noncomputable def tw18329757552621331034 : Unit := ()
noncomputable def tw1833138932642717830 : Unit := ()
noncomputable def tw18436647510296846308 : Unit := ()
noncomputable def tw1885044421088055774 : Unit := ()
noncomputable def tw1914721402834474098 : Unit := ()
noncomputable def tw192044458007232153 : Unit := ()
noncomputable def tw1937477996827804061 : Unit := ()
noncomputable def tw1938608873277486375 : Unit := ()
noncomputable def tw1950592219323730121 : Unit := ()
noncomputable def tw1984710846735181655 : Unit := ()
noncomputable def tw1999111007003543266 : Unit := ()
noncomputable def tw204333414680569839 : Unit := ()
noncomputable def tw2070778550991135423 : Unit := ()
noncomputable def tw2114090421972922268 : Unit := ()
noncomputable def tw2137288078124540560 : Unit := ()
noncomputable def tw2138299322960749419 : Unit := ()
noncomputable def tw2152647521090622753 : Unit := ()
noncomputable def tw2157736970892146814 : Unit := ()
noncomputable def tw2173721726120280235 : Unit := ()
noncomputable def tw2174318393547627978 : Unit := ()
noncomputable def tw2202391398383173418 : Unit := ()
noncomputable def tw2210169913038343323 : Unit := ()
noncomputable def tw2233329873845032608 : Unit := ()
noncomputable def tw2238338366507234895 : Unit := ()
noncomputable def tw2254100669805433711 : Unit := ()
noncomputable def tw2272031803808053772 : Unit := ()
noncomputable def tw2273284682504433242 : Unit := ()
noncomputable def tw2284923320026611591 : Unit := ()
noncomputable def tw2293699353084196772 : Unit := ()
noncomputable def tw2304265805208733763 : Unit := ()
noncomputable def tw2307805310648976018 : Unit := ()
noncomputable def tw2324284720619060727 : Unit := ()
noncomputable def tw2333417224864818736 : Unit := ()
noncomputable def tw235226977478796480 : Unit := ()
noncomputable def tw2358815052759146741 : Unit := ()
noncomputable def tw2367053733687659012 : Unit := ()
noncomputable def tw2387466681012631887 : Unit := ()
noncomputable def tw2397478983527221523 : Unit := ()
noncomputable def tw2433471554744542834 : Unit := ()
noncomputable def tw2487481187836084610 : Unit := ()
noncomputable def tw2508641097699237701 : Unit := ()
noncomputable def tw2562654124727046247 : Unit := ()
noncomputable def tw2586274152594432929 : Unit := ()
noncomputable def tw262854501422602672 : Unit := ()
noncomputable def tw264052664789223935 : Unit := ()
noncomputable def tw2691605736868128945 : Unit := ()
noncomputable def tw275058673834164048 : Unit := ()
noncomputable def tw2752815512256825711 : Unit := ()
noncomputable def tw2789146293964412090 : Unit := ()
noncomputable def tw280654365102362328 : Unit := ()
noncomputable def tw2821382740911692134 : Unit := ()
noncomputable def tw2826140461058357201 : Unit := ()
noncomputable def tw29106055642678239 : Unit := ()
noncomputable def tw2938711207606278419 : Unit := ()
noncomputable def tw2974540167262042344 : Unit := ()
noncomputable def tw2983524452614621623 : Unit := ()
noncomputable def tw2999603811462103268 : Unit := ()
noncomputable def tw3000976622188904459 : Unit := ()
noncomputable def tw3016577430898871134 : Unit := ()
noncomputable def tw3048491441510590406 : Unit := ()
noncomputable def tw3053809666018475497 : Unit := ()
noncomputable def tw3056014106275343356 : Unit := ()
noncomputable def tw3057945481501579990 : Unit := ()
noncomputable def tw3069053670934576833 : Unit := ()
noncomputable def tw3071118226137482552 : Unit := ()
noncomputable def tw3114031734385363388 : Unit := ()
noncomputable def tw3121984389183934404 : Unit := ()
noncomputable def tw3173734212364230197 : Unit := ()
noncomputable def tw3204504843280801774 : Unit := ()
noncomputable def tw3221132327122657630 : Unit := ()
noncomputable def tw3224323276392503731 : Unit := ()
noncomputable def tw3269416292283471966 : Unit := ()
noncomputable def tw33709158890254509 : Unit := ()
noncomputable def tw3391813032257505970 : Unit := ()
noncomputable def tw3403523023812940026 : Unit := ()
noncomputable def tw3412341643403344877 : Unit := ()
noncomputable def tw3414361885916412256 : Unit := ()
noncomputable def tw3448211809925775599 : Unit := ()
noncomputable def tw3518897960629501267 : Unit := ()
noncomputable def tw353731212727506871 : Unit := ()
noncomputable def tw354780253706428042 : Unit := ()
noncomputable def tw355068795358703473 : Unit := ()
noncomputable def tw3563733063871988594 : Unit := ()
noncomputable def tw3579447249208837917 : Unit := ()
noncomputable def tw3585209837684345183 : Unit := ()
noncomputable def tw3625272235680348428 : Unit := ()
noncomputable def tw3672818619305965615 : Unit := ()
noncomputable def tw3685417574740650055 : Unit := ()
noncomputable def tw369459983633202242 : Unit := ()
noncomputable def tw369600846550437331 : Unit := ()
noncomputable def tw3699661176713993299 : Unit := ()
noncomputable def tw3719827397691690121 : Unit := ()
noncomputable def tw3738568553688840116 : Unit := ()
noncomputable def tw3741920669686924692 : Unit := ()
noncomputable def tw3763819314250180388 : Unit := ()
noncomputable def tw381597395497706460 : Unit := ()
noncomputable def tw3845712075043572099 : Unit := ()
noncomputable def tw3858833005041456970 : Unit := ()
noncomputable def tw3863755200125124328 : Unit := ()
noncomputable def tw386435406368724379 : Unit := ()
noncomputable def tw3864904122808001678 : Unit := ()
noncomputable def tw3897000987956858126 : Unit := ()
noncomputable def tw3934979384914340323 : Unit := ()
noncomputable def tw3941656056198315384 : Unit := ()
noncomputable def tw3944607175517155309 : Unit := ()
noncomputable def tw3951681056221946303 : Unit := ()
noncomputable def tw3957183293655479828 : Unit := ()
noncomputable def tw3974012426117431846 : Unit := ()
noncomputable def tw3989121130653154749 : Unit := ()
noncomputable def tw3992614403876353371 : Unit := ()
noncomputable def tw4010947753135883791 : Unit := ()
noncomputable def tw4045320608096125879 : Unit := ()
noncomputable def tw4108359705427740612 : Unit := ()
noncomputable def tw4128016356676825153 : Unit := ()
noncomputable def tw4148799617987982729 : Unit := ()
noncomputable def tw4159566015535876041 : Unit := ()
noncomputable def tw4180438719258143253 : Unit := ()
noncomputable def tw4183814039061077721 : Unit := ()
noncomputable def tw4245033536070397902 : Unit := ()
noncomputable def tw4251441706013727282 : Unit := ()
noncomputable def tw4290440119389464866 : Unit := ()
noncomputable def tw4308970312386895009 : Unit := ()
noncomputable def tw4334529189147886520 : Unit := ()
noncomputable def tw4369841977911744544 : Unit := ()
noncomputable def tw4474768890374837675 : Unit := ()
noncomputable def tw4498234481003495666 : Unit := ()
noncomputable def tw4522671185271306993 : Unit := ()
noncomputable def tw452371081635522026 : Unit := ()
noncomputable def tw4571946103397565257 : Unit := ()
noncomputable def tw4578478145568693137 : Unit := ()
noncomputable def tw4617936567225615442 : Unit := ()
noncomputable def tw4625978980261092556 : Unit := ()
noncomputable def tw4676983605491966666 : Unit := ()
noncomputable def tw4682047410003666002 : Unit := ()
noncomputable def tw4682961519036787646 : Unit := ()
noncomputable def tw4708242110861133124 : Unit := ()
noncomputable def tw4736154434943036501 : Unit := ()
noncomputable def tw4746171018553239175 : Unit := ()
noncomputable def tw4769800585756864456 : Unit := ()
noncomputable def tw4788583053505715204 : Unit := ()
noncomputable def tw4823791151469809079 : Unit := ()
noncomputable def tw4828929870178259719 : Unit := ()
noncomputable def tw4851457186039653722 : Unit := ()
noncomputable def tw4905250329784559662 : Unit := ()
noncomputable def tw4968224103128605883 : Unit := ()
noncomputable def tw5080391633607277038 : Unit := ()
noncomputable def tw5089370358024652900 : Unit := ()
noncomputable def tw5108882918597457211 : Unit := ()
noncomputable def tw5127076902777137120 : Unit := ()
noncomputable def tw5127253324940462027 : Unit := ()
noncomputable def tw515599088068173081 : Unit := ()
noncomputable def tw5233159550335491419 : Unit := ()
noncomputable def tw5248412062889852115 : Unit := ()
noncomputable def tw5314533693207415195 : Unit := ()
noncomputable def tw5391936003931125780 : Unit := ()
noncomputable def tw5423414436048171270 : Unit := ()
noncomputable def tw5435500742343669756 : Unit := ()
noncomputable def tw545007333590110407 : Unit := ()
noncomputable def tw5453286506785066200 : Unit := ()
noncomputable def tw5494841720610507421 : Unit := ()
noncomputable def tw5499751072230346224 : Unit := ()
noncomputable def tw555623936932104973 : Unit := ()
noncomputable def tw5563297742363924088 : Unit := ()
noncomputable def tw5572458449679320672 : Unit := ()
noncomputable def tw5620241276774747269 : Unit := ()
noncomputable def tw5625233349434768466 : Unit := ()
noncomputable def tw5632045743339888162 : Unit := ()
noncomputable def tw5632755419246740427 : Unit := ()
noncomputable def tw5634097039393133147 : Unit := ()
noncomputable def tw5640589527084701612 : Unit := ()
noncomputable def tw5662112334372856361 : Unit := ()
noncomputable def tw5675252703324744317 : Unit := ()
noncomputable def tw5687015754572507355 : Unit := ()
noncomputable def tw5718094890219072017 : Unit := ()
noncomputable def tw5927483669393122345 : Unit := ()
noncomputable def tw5945815354860177703 : Unit := ()
noncomputable def tw5951826378480632213 : Unit := ()
noncomputable def tw5953206195286242632 : Unit := ()
noncomputable def tw5983908050004627709 : Unit := ()
noncomputable def tw6034400432837731448 : Unit := ()
noncomputable def tw6054150716525718638 : Unit := ()
noncomputable def tw6073224032479363478 : Unit := ()
noncomputable def tw6097341021326173910 : Unit := ()
noncomputable def tw6121774309567409469 : Unit := ()
noncomputable def tw6127204732888994526 : Unit := ()
noncomputable def tw6203061649464026394 : Unit := ()
noncomputable def tw6210665100545979442 : Unit := ()
noncomputable def tw6217648053911791910 : Unit := ()
noncomputable def tw6221856486051462679 : Unit := ()
noncomputable def tw6263990801058167221 : Unit := ()
noncomputable def tw6270347254897116564 : Unit := ()
noncomputable def tw6276684051782810698 : Unit := ()
noncomputable def tw628268354336307953 : Unit := ()
noncomputable def tw6341852221041774918 : Unit := ()
noncomputable def tw6409559213200668015 : Unit := ()
noncomputable def tw6414411555828834317 : Unit := ()
noncomputable def tw6421075197941022154 : Unit := ()
noncomputable def tw6426173933138939771 : Unit := ()
noncomputable def tw6472734853771202517 : Unit := ()
noncomputable def tw657013994129679897 : Unit := ()
noncomputable def tw6575385191725815474 : Unit := ()
noncomputable def tw6601822389835862022 : Unit := ()
noncomputable def tw6626610059662105998 : Unit := ()
noncomputable def tw6647336326467437538 : Unit := ()
noncomputable def tw6681810182764041745 : Unit := ()
noncomputable def tw6700433913100002235 : Unit := ()
noncomputable def tw6710072879874250536 : Unit := ()
noncomputable def tw6741769577966465924 : Unit := ()
noncomputable def tw6793393550520116408 : Unit := ()
noncomputable def tw684127229147235541 : Unit := ()
noncomputable def tw684404596170299531 : Unit := ()
noncomputable def tw6871556812093314026 : Unit := ()
noncomputable def tw6933682932807259151 : Unit := ()
noncomputable def tw6952318660892432035 : Unit := ()
noncomputable def tw6990558542987466582 : Unit := ()
noncomputable def tw6990841000997214409 : Unit := ()
noncomputable def tw7011033475989882644 : Unit := ()
noncomputable def tw7029455128005754719 : Unit := ()
noncomputable def tw709777665722304254 : Unit := ()
noncomputable def tw7141368112305396166 : Unit := ()
noncomputable def tw7141738541571567989 : Unit := ()
noncomputable def tw7142757900734872111 : Unit := ()
noncomputable def tw7185172714139045290 : Unit := ()
noncomputable def tw7212235646779858261 : Unit := ()
noncomputable def tw7223914609005095353 : Unit := ()
noncomputable def tw7273617710481000263 : Unit := ()
noncomputable def tw7403442579336285708 : Unit := ()
noncomputable def tw7423355411704358182 : Unit := ()
noncomputable def tw7433591320115385687 : Unit := ()
noncomputable def tw7440998219674368455 : Unit := ()
noncomputable def tw7460676092150510621 : Unit := ()
noncomputable def tw7469170275849285887 : Unit := ()
noncomputable def tw7472516475464388011 : Unit := ()
noncomputable def tw7498336548979017837 : Unit := ()
noncomputable def tw7501173692936899865 : Unit := ()
noncomputable def tw7555042537385524041 : Unit := ()
noncomputable def tw7634448043227762623 : Unit := ()
noncomputable def tw7673977520951343730 : Unit := ()
noncomputable def tw7674561517351788928 : Unit := ()
noncomputable def tw7698166231129376974 : Unit := ()
noncomputable def tw7773673635783750709 : Unit := ()
noncomputable def tw7787632730990324515 : Unit := ()
noncomputable def tw7832279339455107039 : Unit := ()
noncomputable def tw7863134382700994109 : Unit := ()
noncomputable def tw790168003563692310 : Unit := ()
noncomputable def tw7903513922912483650 : Unit := ()
noncomputable def tw8018188390579028377 : Unit := ()
noncomputable def tw8024384595341963439 : Unit := ()
noncomputable def tw8066612628880069103 : Unit := ()
noncomputable def tw8067451348311564926 : Unit := ()
noncomputable def tw8069718530534307132 : Unit := ()
noncomputable def tw8083175096010511234 : Unit := ()
noncomputable def tw8095657279343242582 : Unit := ()
noncomputable def tw8102530912843271104 : Unit := ()
noncomputable def tw8104937210509955495 : Unit := ()
noncomputable def tw8138249483259190053 : Unit := ()
noncomputable def tw8143863392103169646 : Unit := ()
noncomputable def tw8152543670935874480 : Unit := ()
noncomputable def tw818652420446628832 : Unit := ()
noncomputable def tw8289660926849101112 : Unit := ()
noncomputable def tw8331260196544914776 : Unit := ()
noncomputable def tw8349008321472051720 : Unit := ()
noncomputable def tw8377759622171901368 : Unit := ()
noncomputable def tw8421384859467331088 : Unit := ()
noncomputable def tw8471333662142022127 : Unit := ()
noncomputable def tw8478259382529510335 : Unit := ()
noncomputable def tw8481561750028100265 : Unit := ()
noncomputable def tw8492650964259193667 : Unit := ()
noncomputable def tw8522541739403032200 : Unit := ()
noncomputable def tw8538090275694073768 : Unit := ()
noncomputable def tw8549979876437320203 : Unit := ()
noncomputable def tw8552434974812799110 : Unit := ()
noncomputable def tw8583808404319977439 : Unit := ()
noncomputable def tw8598783901998744081 : Unit := ()
noncomputable def tw8608682517809584066 : Unit := ()
noncomputable def tw8627021046185723109 : Unit := ()
noncomputable def tw8650745180991115595 : Unit := ()
noncomputable def tw8671546526477629951 : Unit := ()
noncomputable def tw8680934035170586584 : Unit := ()
noncomputable def tw8697974104342958432 : Unit := ()
noncomputable def tw8703501141161416344 : Unit := ()
noncomputable def tw8719446263731143972 : Unit := ()
noncomputable def tw8741205492530326598 : Unit := ()
noncomputable def tw8765037371920115761 : Unit := ()
noncomputable def tw8794186879210318516 : Unit := ()
noncomputable def tw8803649387933534974 : Unit := ()
noncomputable def tw8837160300850949608 : Unit := ()
noncomputable def tw8845939087074072246 : Unit := ()
noncomputable def tw8900205604265822539 : Unit := ()
noncomputable def tw8902196089119714716 : Unit := ()
noncomputable def tw8905015499759277027 : Unit := ()
noncomputable def tw8912780001923740644 : Unit := ()
noncomputable def tw8932464749339988714 : Unit := ()
noncomputable def tw8934914557312919 : Unit := ()
noncomputable def tw9002316270712365726 : Unit := ()
noncomputable def tw9012485573945283351 : Unit := ()
noncomputable def tw9016721518954678265 : Unit := ()
noncomputable def tw9022155869765086422 : Unit := ()
noncomputable def tw9030123803920343080 : Unit := ()
noncomputable def tw9054923326819134841 : Unit := ()
noncomputable def tw9061462584507031050 : Unit := ()
noncomputable def tw9064733150511763200 : Unit := ()
noncomputable def tw921074548733487113 : Unit := ()
noncomputable def tw9221626776890435856 : Unit := ()
noncomputable def tw9222595776499367535 : Unit := ()
noncomputable def tw9259652978633811776 : Unit := ()
noncomputable def tw9274824070132934246 : Unit := ()
noncomputable def tw9299102282547391063 : Unit := ()
noncomputable def tw9422554124625620846 : Unit := ()
noncomputable def tw942554780079768321 : Unit := ()
noncomputable def tw9427867843304888502 : Unit := ()
noncomputable def tw9431524449643492356 : Unit := ()
noncomputable def tw943875514175688845 : Unit := ()
noncomputable def tw9454963750499825131 : Unit := ()
noncomputable def tw9460104630087014538 : Unit := ()
noncomputable def tw9461167070331120988 : Unit := ()
noncomputable def tw9475456942500322955 : Unit := ()
noncomputable def tw9626907513097523856 : Unit := ()
noncomputable def tw9761085328892768232 : Unit := ()
noncomputable def tw976451857640633123 : Unit := ()
noncomputable def tw9792689877644537704 : Unit := ()
noncomputable def tw9808404909475331079 : Unit := ()
noncomputable def tw9827576795514493370 : Unit := ()
noncomputable def tw9832351440838290305 : Unit := ()
noncomputable def tw9851051670582386453 : Unit := ()
noncomputable def tw985398067134902488 : Unit := ()
noncomputable def tw9923933640222942155 : Unit := ()
noncomputable def tw9946886158088699109 : Unit := ()
end Np.hd

namespace Np
set_option Elab.async true
set_option maxHeartbeats 8000000 in
theorem hd : PySem.Challenge.rw_np0096_01.Holds := by
  w_on; o_law; k_head
  case hw => w_witness2
  exact walked 11 (by decide) (fun l hl a => by rw [← WW_eq]; exact law_holds (n := 0) hl a) (by kernel_rfl) (by kernel_rfl) (fun P => ⟨by kernel_rfl, by kernel_rfl, by kernel_rfl, by kernel_rfl, by kernel_rfl, by kernel_rfl⟩)
    (fun P => ⟨binds_of (k := 1) (by kernel_rfl) (len1 fun v0 S => by kernel_rfl),
      binds_of (k := 1) (by kernel_rfl) (len1 fun v0 S => by kernel_rfl),
      binds_of (k := 2) (by kernel_rfl) (len2 fun v0 v1 S => by kernel_rfl),
      binds_of (k := 3) (by kernel_rfl) (len3 fun v0 v1 v2 S => by kernel_rfl),
      binds_of (k := 6) (by kernel_rfl) (len6 fun v0 v1 v2 v3 v4 v5 S => by kernel_rfl),
      binds_of (k := 1) (by kernel_rfl) (len1 fun v0 S => by kernel_rfl),
      binds_of (k := 1) (by kernel_rfl) (len1 fun v0 S => by kernel_rfl),
      binds_of (k := 3) (by kernel_rfl) (len3 fun v0 v1 v2 S => by kernel_rfl),
      binds_of (k := 2) (by kernel_rfl) (len2 fun v0 v1 S => by kernel_rfl),
      binds_of (k := 2) (by kernel_rfl) (len2 fun v0 v1 S => by kernel_rfl),
      binds_of (k := 3) (by kernel_rfl) (len3 fun v0 v1 v2 S => by kernel_rfl),
      binds_of (k := 4) (by kernel_rfl) (len4 fun v0 v1 v2 v3 S => by kernel_rfl),
      binds_of (k := 6) (by kernel_rfl) (len6 fun v0 v1 v2 v3 v4 v5 S => by kernel_rfl),
      binds_of (k := 2) (by kernel_rfl) (len2 fun v0 v1 S => by kernel_rfl),
      binds_of (k := 3) (by kernel_rfl) (len3 fun v0 v1 v2 S => by kernel_rfl),
      binds_of (k := 3) (by kernel_rfl) (len3 fun v0 v1 v2 S => by kernel_rfl),
      binds_of (k := 3) (by kernel_rfl) (len3 fun v0 v1 v2 S => by kernel_rfl),
      binds_of (k := 4) (by kernel_rfl) (len4 fun v0 v1 v2 v3 S => by kernel_rfl),
      binds_of (k := 7) (by kernel_rfl) (len7 fun v0 v1 v2 v3 v4 v5 v6 S => by kernel_rfl),
      binds_of (k := 6) (by kernel_rfl) (len6 fun v0 v1 v2 v3 v4 v5 S => by kernel_rfl),
      binds_of (k := 6) (by kernel_rfl) (len6 fun v0 v1 v2 v3 v4 v5 S => by kernel_rfl),
      binds_of (k := 7) (by kernel_rfl) (len7 fun v0 v1 v2 v3 v4 v5 v6 S => by kernel_rfl),
      binds_of (k := 2) (by kernel_rfl) (len2 fun v0 v1 S => by kernel_rfl),
      binds_of (k := 2) (by kernel_rfl) (len2 fun v0 v1 S => by kernel_rfl),
      binds_of (k := 3) (by kernel_rfl) (len3 fun v0 v1 v2 S => by kernel_rfl),
      binds_of (k := 4) (by kernel_rfl) (len4 fun v0 v1 v2 v3 S => by kernel_rfl),
      binds_of (k := 1) (by kernel_rfl) (len1 fun v0 S => by kernel_rfl),
      binds_of (k := 8) (by kernel_rfl) (len8 fun v0 v1 v2 v3 v4 v5 v6 v7 S => by kernel_rfl),
      binds_of (k := 4) (by kernel_rfl) (len4 fun v0 v1 v2 v3 S => by kernel_rfl),
      binds_of (k := 1) (by kernel_rfl) (len1 fun v0 S => by kernel_rfl),
      binds_of (k := 3) (by kernel_rfl) (len3 fun v0 v1 v2 S => by kernel_rfl),
      binds_of (k := 2) (by kernel_rfl) (len2 fun v0 v1 S => by kernel_rfl),
      binds_of (k := 1) (by kernel_rfl) (len1 fun v0 S => by kernel_rfl),
      binds_of (k := 1) (by kernel_rfl) (len1 fun v0 S => by kernel_rfl),
      binds_of (k := 2) (by kernel_rfl) (len2 fun v0 v1 S => by kernel_rfl),
      binds_of (k := 2) (by kernel_rfl) (len2 fun v0 v1 S => by kernel_rfl),
      binds_of (k := 2) (by kernel_rfl) (len2 fun v0 v1 S => by kernel_rfl),
      binds_of (k := 2) (by kernel_rfl) (len2 fun v0 v1 S => by kernel_rfl),
      binds_of (k := 2) (by kernel_rfl) (len2 fun v0 v1 S => by kernel_rfl),
      binds_of (k := 4) (by kernel_rfl) (len4 fun v0 v1 v2 v3 S => by kernel_rfl),
      binds_of (k := 4) (by kernel_rfl) (len4 fun v0 v1 v2 v3 S => by kernel_rfl),
      binds_of (k := 1) (by kernel_rfl) (len1 fun v0 S => by kernel_rfl),
      binds_of (k := 1) (by kernel_rfl) (len1 fun v0 S => by kernel_rfl),
      binds_of (k := 1) (by kernel_rfl) (len1 fun v0 S => by kernel_rfl),
      binds_of (k := 1) (by kernel_rfl) (len1 fun v0 S => by kernel_rfl),
      binds_of (k := 3) (by kernel_rfl) (len3 fun v0 v1 v2 S => by kernel_rfl),
      binds_of (k := 3) (by kernel_rfl) (len3 fun v0 v1 v2 S => by kernel_rfl),
      binds_of (k := 7) (by kernel_rfl) (len7 fun v0 v1 v2 v3 v4 v5 v6 S => by kernel_rfl),
      binds_of (k := 2) (by kernel_rfl) (len2 fun v0 v1 S => by kernel_rfl),
      binds_of (k := 2) (by kernel_rfl) (len2 fun v0 v1 S => by kernel_rfl),
      binds_of (k := 1) (by kernel_rfl) (len1 fun v0 S => by kernel_rfl),
      binds_of (k := 4) (by kernel_rfl) (len4 fun v0 v1 v2 v3 S => by kernel_rfl),
      binds_of (k := 3) (by kernel_rfl) (len3 fun v0 v1 v2 S => by kernel_rfl),
      binds_of (k := 4) (by kernel_rfl) (len4 fun v0 v1 v2 v3 S => by kernel_rfl),
      binds_of (k := 1) (by kernel_rfl) (len1 fun v0 S => by kernel_rfl),
      binds_of (k := 2) (by kernel_rfl) (len2 fun v0 v1 S => by kernel_rfl),
      binds_of (k := 1) (by kernel_rfl) (len1 fun v0 S => by kernel_rfl),
      binds_of (k := 3) (by kernel_rfl) (len3 fun v0 v1 v2 S => by kernel_rfl),
      binds_of (k := 2) (by kernel_rfl) (len2 fun v0 v1 S => by kernel_rfl),
      binds_of (k := 2) (by kernel_rfl) (len2 fun v0 v1 S => by kernel_rfl), trivial⟩)
    (fun P => by show fnsB _ _ _ _ = true; kernel_rfl)
set_option Elab.async false
end Np

theorem PySem.Challenge.cw_np0096_01_holds : PySem.Challenge.rw_np0096_01.Holds :=
  Np.hd
