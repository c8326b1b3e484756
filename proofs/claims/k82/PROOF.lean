import PyProof.Rows.All
import Wide.All
import OpenK.AllK
import Wide.FinOn
import PyProof.EqAt
import PyProof.EqKinds
import PyProof.TupleCall
import HandS.ForMost
import HandS.ForExc
import KE.DataMinMax
import KE.SortData
import HandS.Text
import HandS.More
import HandS.Wide
import HandS.IsInst
import HandS.TupMul
import HandS.Zip
import HandS.SetFor
import HandS.HeadHook1
import HandS.HotCalls
import HandS.TupAny
import HandS.Style
import HandS.Conv
import HandS.Dict
import KE.KDictPairs
import PyProof.NeKinds
import HandS.Deep
import PyProof.P3In
import PyProof.ReprRoads
import KE.KTupSum
import KE.DataFind
import HandS.SortInts
import HandS.SortKw
import HandS.SortRule
import PyProof.Claim2Refuses
import PyProof.ZipIter
import PyProof.EnumMake
import PyProof.Draws
import KE.KDictZip
import HandS.TupSets
import PyProof.ListRange
import PyProof.LongRange
import HandS.RaiseMore
import PyProof.ExcBaseAll.ValueError
import HandS.ReplaceLit
import HandS.ExcIs
import HandS.Ends
import HandS.Defaults
import HandS.Head0
import HandS.Head1
import HandS.Head2
import HandS.HeadEnd
import HandS.HeadHook2
import HandS.Words
import HandS.Codes
import PyProof.ReprLen
import PyProof.FitsInt
import HandS.Replace
import PyProof.StrLaws
import PySem.Challenge.RW_puffline_k82_texts_bent_anywhere
set_option Elab.async false
set_option linter.all false
set_option maxRecDepth 100000
set_option maxHeartbeats 2000000
/-! Pf: values as data, memory as a list of cells, readings that are functions. -/
namespace Pf
open PySem PySem.Spec PyProof.Rows L2

/-- a value: tuples are data, lists and dicts stand in the memory -/
inductive D where
  | non | bl (b : Bool) | int (i : Int) | str (x : Str) | tup (xs : List D) | ref (n : Nat) | frz (xs : List D) | fn (x : Str)
/-- a cell of the memory -/
inductive Cell where
  | lst (xs : List D) | dct (kvs : List (Key × D)) | fdc (kvs : List (Key × D)) | obj (c : Str) (fs : List (Str × D))
abbrev Mem := List Cell
inductive Res (α : Type) where
  | ok (a : α) (M : Mem) | ex (c : Str) (M : Mem) | no
abbrev Ev (α : Type) := Mem → Res α
abbrev Env := List (Option D)
inductive Out where
  | nx (e : Env) | rt (d : D) | bk (e : Env) | ct (e : Env)

section
variable (K : PySem.W.Frag) (ga : Str → Addr) (rho : List Addr) (H : Hp)
def stL (a : Addr) (xs : List V) : Prop := ∃ (o : Obj) (its : Array Value) (n : Nat), K.lookup a = some o ∧ o.cls = .type "list" ∧ o.dict = none ∧ o.data = .seq its n ∧ its.size ≤ sizeLine ∧ Vals xs its.toList
def isIP : D → Bool
  | .tup [.int _, .int _] => true
  | _ => false
/-- nothing but pairs of whole numbers -/
def prsD (ds : List D) : Bool := ds.all isIP
/-- a tuple that has no dict of its own -/
def PlT (a : Addr) : Prop := ∃ (o : Obj) (xs : List V), H a = some (.frz o (.tup xs)) ∧ o.dict = none
mutual
def VR : D → V → Prop
  | .non, v => v = .non
  | .bl b, v => v = .bl b
  | .int i, v => v = .int i
  | .str x, v => v = .str x
  | .tup ds, v => ∃ a xs, v = .ref a ∧ SqT K H a xs ∧ VRs ds xs ∧ (prsD ds = true → PlT H a)
  | .ref n, v => ∃ a, v = .ref a ∧ rho[n]? = some a
  | .frz ds, v => ∃ a xs, v = .ref a ∧ (stL K a xs ∨ ∃ o, H a = some (.frz o (.lst xs))) ∧ VRs ds xs
  | .fn x, v => v = .ref (ga x)
def VRs : List D → List V → Prop
  | [], vs => vs = []
  | d :: ds, vs => ∃ v r, vs = v :: r ∧ VR d v ∧ VRs ds r
end
def KVR : List (Key × D) → List (Key × V) → Prop
  | [], vs => vs = []
  | d :: ds, vs => ∃ v r, vs = v :: r ∧ d.1 = v.1 ∧ VR K ga rho H d.2 v.2 ∧ KVR ds r
def FVR : List (Str × D) → List (Str × V) → Prop
  | [], vs => vs = []
  | d :: ds, vs => ∃ v r, vs = v :: r ∧ d.1 = v.1 ∧ VR K ga rho H d.2 v.2 ∧ FVR ds r
def CR (a : Addr) : Cell → Prop
  | .obj c fs => ∃ dx xs, H a = some (.ins (ga c) dx xs) ∧ FVR K ga rho H fs xs
  | .lst ds => ∃ xs, H a = some (.lst xs) ∧ VRs K ga rho H ds xs
  | .dct ds => ∃ xs, H a = some (.dK xs) ∧ KVR K ga rho H ds xs
  | .fdc ds => ∃ o xs, H a = some (.frz o (.dK xs)) ∧ KVR K ga rho H ds xs
structure MR (M : Mem) : Prop where
  len : rho.length = M.length
  nd : rho.Nodup
  cell : ∀ (n : Nat) (c : Cell), M[n]? = some c → ∃ a, rho[n]? = some a ∧ CR K ga rho H a c
def imm : HO → Bool
  | .tup _ => true
  | .frz _ (.dK _) => false
  | .frz _ _ => true
  | _ => false
end
/-- a field is stored -/
def putO (f : Str) (d : D) : List (Str × D) → List (Str × D)
  | [] => [(f, d)]
  | (g, x) :: r => if g = f then (g, d) :: r else (g, x) :: putO f d r
structure Ext (rho : List Addr) (H : Hp) (rho' : List Addr) (H' : Hp) : Prop where
  pre : rho <+: rho'
  keep : ∀ a o, H a = some o → a ∉ rho → H' a = some o
  new : ∀ a, a ∈ rho' → a ∈ rho ∨ H a = none
  im : ∀ a o, H a = some o → imm o = true → H' a = some o
  fz : ∀ a o u, H a = some (.frz o (.dK u)) → H' a = some (.frz o (.dK u))
structure NR (K : PySem.W.Frag) (ga : Str → Addr) (rho : List Addr) (H : Hp) (e : Env) (sg : L2.St) : Prop where
  len : sg.length = e.length
  at_ : ∀ (i : Nat) (d : D), e[i]? = some (some d) → ∃ v, sg[i]? = some (some v) ∧ VR K ga rho H d v

section
variable {K : PySem.W.Frag} {ga : Str → Addr} {rho rho' rho2 : List Addr} {H H' H2 : Hp}
theorem Ext.refl : Ext rho H rho H := ⟨List.prefix_refl _, fun _ _ e _ => e, fun _ h => .inl h, fun _ _ e _ => e, fun _ _ _ e => e⟩
theorem Ext.trans (a : Ext rho H rho' H') (b : Ext rho' H' rho2 H2) : Ext rho H rho2 H2 :=
  ⟨a.pre.trans b.pre, fun x o e n => b.keep x o (a.keep x o e n) (fun h => (a.new x h).elim n fun z => by rw [e] at z; cases z),
   fun x h => (b.new x h).elim (fun z => a.new x z) (fun z => by
    cases q : H x with
    | none => exact .inr rfl
    | some o =>
      by_cases m : x ∈ rho
      · exact .inl m
      · rw [a.keep x o q m] at z; cases z),
   fun x o e i => b.im x o (a.im x o e i) i, fun x o u e => b.fz x o u (a.fz x o u e)⟩
theorem Ext.get (x : Ext rho H rho' H') {n : Nat} {a : Addr} (e : rho[n]? = some a) : rho'[n]? = some a := by
  obtain ⟨t, rfl⟩ := x.pre
  rw [List.getElem?_append_left (List.getElem?_eq_some_iff.mp e).1]; exact e
/-- what data lean on -/
structure Mono (rho : List Addr) (H : Hp) (rho' : List Addr) (H' : Hp) : Prop where
  pre : rho <+: rho'
  im : ∀ a o, H a = some o → imm o = true → H' a = some o
theorem Ext.mo (x : Ext rho H rho' H') : Mono rho H rho' H' := ⟨x.pre, x.im⟩
theorem Mono.get (x : Mono rho H rho' H') {n : Nat} {a : Addr} (e : rho[n]? = some a) : rho'[n]? = some a := by
  obtain ⟨t, rfl⟩ := x.pre
  rw [List.getElem?_append_left (List.getElem?_eq_some_iff.mp e).1]; exact e
theorem SqT_mono (x : Mono rho H rho' H') {a : Addr} {xs : List V} (h : SqT K H a xs) : SqT K H' a xs := by
  rcases h with (h | ⟨o, h⟩) | h
  · exact .inl (.inl (x.im a _ h rfl))
  · exact .inl (.inr ⟨o, x.im a _ h rfl⟩)
  · exact .inr h
mutual
theorem VR.mono (x : Mono rho H rho' H') : ∀ {d : D} {v : V}, VR K ga rho H d v → VR K ga rho' H' d v
  | .non, _, h => by simpa only [VR] using h
  | .bl _, _, h => by simpa only [VR] using h
  | .int _, _, h => by simpa only [VR] using h
  | .str _, _, h => by simpa only [VR] using h
  | .tup ds, v, h => by
    simp only [VR] at h ⊢
    obtain ⟨a, xs, e, q, r, pl⟩ := h
    exact ⟨a, xs, e, SqT_mono x q, VRs.mono x r, fun z => let ⟨o, ys, h1, h2⟩ := pl z; ⟨o, ys, x.im a _ h1 rfl, h2⟩⟩
  | .ref n, v, h => by
    simp only [VR] at h ⊢
    obtain ⟨a, e, q⟩ := h
    exact ⟨a, e, x.get q⟩
  | .frz ds, v, h => by
    simp only [VR] at h ⊢
    obtain ⟨a, xs, e, q, r⟩ := h
    exact ⟨a, xs, e, q.imp (fun z => z) (fun ⟨o, z⟩ => ⟨o, x.im a _ z rfl⟩), VRs.mono x r⟩
  | .fn _, _, h => by simpa only [VR] using h
theorem VRs.mono (x : Mono rho H rho' H') : ∀ {d : List D} {v : List V}, VRs K ga rho H d v → VRs K ga rho' H' d v
  | [], _, h => by simpa only [VRs] using h
  | d :: ds, vs, h => by
    simp only [VRs] at h ⊢
    obtain ⟨v, r, e, h1, h2⟩ := h
    exact ⟨v, r, e, VR.mono x h1, VRs.mono x h2⟩
end
theorem KVR.mono (x : Mono rho H rho' H') : ∀ {d : List (Key × D)} {v : List (Key × V)}, KVR K ga rho H d v → KVR K ga rho' H' d v
  | [], _, h => h
  | d :: ds, vs, h => by
    obtain ⟨v, r, e, k, h1, h2⟩ := h
    exact ⟨v, r, e, k, VR.mono x h1, KVR.mono x h2⟩
theorem FVR.mono (x : Mono rho H rho' H') : ∀ {d : List (Str × D)} {v : List (Str × V)}, FVR K ga rho H d v → FVR K ga rho' H' d v
  | [], _, h => h
  | d :: ds, vs, h => by
    obtain ⟨v, r, e, k, h1, h2⟩ := h
    exact ⟨v, r, e, k, VR.mono x h1, FVR.mono x h2⟩
theorem FVR.ext (x : Ext rho H rho' H') {d : List (Str × D)} {v : List (Str × V)} (h : FVR K ga rho H d v) : FVR K ga rho' H' d v := FVR.mono x.mo h
theorem VR.ext (x : Ext rho H rho' H') {d : D} {v : V} (h : VR K ga rho H d v) : VR K ga rho' H' d v := h.mono x.mo
theorem VRs.ext (x : Ext rho H rho' H') {d : List D} {v : List V} (h : VRs K ga rho H d v) : VRs K ga rho' H' d v := VRs.mono x.mo h
theorem KVR.ext (x : Ext rho H rho' H') {d : List (Key × D)} {v : List (Key × V)} (h : KVR K ga rho H d v) : KVR K ga rho' H' d v := KVR.mono x.mo h
theorem NR.mono (x : Mono rho H rho' H') {e : Env} {sg : L2.St} (n : NR K ga rho H e sg) : NR K ga rho' H' e sg :=
  ⟨n.len, fun i d h => let ⟨v, a, b⟩ := n.at_ i d h; ⟨v, a, b.mono x⟩⟩
theorem NR.ext (x : Ext rho H rho' H') {e : Env} {sg : L2.St} (n : NR K ga rho H e sg) : NR K ga rho' H' e sg :=
  ⟨n.len, fun i d h => let ⟨v, a, b⟩ := n.at_ i d h; ⟨v, a, b.ext x⟩⟩
theorem VRs.length : ∀ {ds : List D} {vs : List V}, VRs K ga rho H ds vs → vs.length = ds.length
  | [], _, h => by simp only [VRs] at h; subst h; rfl
  | d :: ds, vs, h => by
    simp only [VRs] at h
    obtain ⟨v, r, e, h1, h2⟩ := h
    subst e
    simp [VRs.length h2]
theorem VRs.get : ∀ {ds : List D} {vs : List V} {i : Nat} {d : D}, VRs K ga rho H ds vs → ds[i]? = some d → ∃ v, vs[i]? = some v ∧ VR K ga rho H d v
  | [], _, _, _, h, e => by simp at e
  | d :: ds, vs, i, d', h, e => by
    simp only [VRs] at h
    obtain ⟨v, r, rfl, h1, h2⟩ := h
    cases i with
    | zero => simp at e; subst e; exact ⟨v, rfl, h1⟩
    | succ i => exact VRs.get (i := i) h2 (by simpa using e)
theorem VRs.get' : ∀ {ds : List D} {vs : List V} {i : Nat} {v : V}, VRs K ga rho H ds vs → vs[i]? = some v → ∃ d, ds[i]? = some d ∧ VR K ga rho H d v
  | [], _, _, _, h, e => by simp only [VRs] at h; subst h; simp at e
  | d :: ds, vs, i, d', h, e => by
    simp only [VRs] at h
    obtain ⟨v, r, rfl, h1, h2⟩ := h
    cases i with
    | zero => simp at e; subst e; exact ⟨d, rfl, h1⟩
    | succ i => exact VRs.get' (i := i) h2 (by simpa using e)
theorem VRs.app : ∀ {ds es : List D} {vs us : List V}, VRs K ga rho H ds vs → VRs K ga rho H es us → VRs K ga rho H (ds ++ es) (vs ++ us)
  | [], _, _, _, h, k => by simp only [VRs] at h; subst h; exact k
  | d :: ds, es, vs, us, h, k => by
    simp only [VRs] at h
    obtain ⟨v, r, rfl, h1, h2⟩ := h
    simp only [List.cons_append, VRs]
    exact ⟨v, r ++ us, rfl, h1, VRs.app h2 k⟩
theorem VRs.one {d : D} {v : V} (h : VR K ga rho H d v) : VRs K ga rho H [d] [v] := by
  simp only [VRs]; exact ⟨v, [], rfl, h, rfl⟩
theorem VRs.rev : ∀ {ds : List D} {vs : List V}, VRs K ga rho H ds vs → VRs K ga rho H ds.reverse vs.reverse
  | [], _, h => by simp only [VRs] at h; subst h; simp [VRs]
  | d :: ds, vs, h => by
    simp only [VRs] at h
    obtain ⟨v, r, rfl, h1, h2⟩ := h
    rw [List.reverse_cons, List.reverse_cons]
    exact VRs.app (VRs.rev h2) (VRs.one h1)
theorem VRs.drop : ∀ {ds : List D} {vs : List V} (n : Nat), VRs K ga rho H ds vs → VRs K ga rho H (ds.drop n) (vs.drop n)
  | _, _, 0, h => h
  | [], _, n + 1, h => by simp only [VRs] at h; subst h; simp [VRs]
  | d :: ds, vs, n + 1, h => by
    simp only [VRs] at h
    obtain ⟨v, r, rfl, h1, h2⟩ := h
    exact VRs.drop n h2
theorem VRs.take : ∀ {ds : List D} {vs : List V} (n : Nat), VRs K ga rho H ds vs → VRs K ga rho H (ds.take n) (vs.take n)
  | _, _, 0, h => by simp [VRs]
  | [], _, n + 1, h => by simp only [VRs] at h; subst h; simp [VRs]
  | d :: ds, vs, n + 1, h => by
    simp only [VRs] at h
    obtain ⟨v, r, rfl, h1, h2⟩ := h
    simp only [List.take_succ_cons, VRs]
    exact ⟨v, _, rfl, h1, VRs.take n h2⟩
theorem VRs.set : ∀ {ds : List D} {vs : List V} {d : D} {v : V} (n : Nat), VRs K ga rho H ds vs → VR K ga rho H d v → VRs K ga rho H (ds.set n d) (vs.set n v)
  | [], _, _, _, n, h, _ => by simp only [VRs] at h; subst h; simp [VRs]
  | d :: ds, vs, d', v', 0, h, k => by
    simp only [VRs] at h
    obtain ⟨v, r, rfl, h1, h2⟩ := h
    simp only [List.set_cons_zero, VRs]
    exact ⟨v', r, rfl, k, h2⟩
  | d :: ds, vs, d', v', n + 1, h, k => by
    simp only [VRs] at h
    obtain ⟨v, r, rfl, h1, h2⟩ := h
    simp only [List.set_cons_succ, VRs]
    exact ⟨v, _, rfl, h1, VRs.set n h2 k⟩
theorem VRs.erase : ∀ {ds : List D} {vs : List V} (n : Nat), VRs K ga rho H ds vs → VRs K ga rho H (ds.eraseIdx n) (vs.eraseIdx n)
  | [], _, n, h => by simp only [VRs] at h; subst h; simp [VRs]
  | d :: ds, vs, 0, h => by
    simp only [VRs] at h
    obtain ⟨v, r, rfl, h1, h2⟩ := h
    exact h2
  | d :: ds, vs, n + 1, h => by
    simp only [VRs] at h
    obtain ⟨v, r, rfl, h1, h2⟩ := h
    simp only [List.eraseIdx_cons_succ, VRs]
    exact ⟨v, _, rfl, h1, VRs.erase n h2⟩

/-! ### memory -/
theorem MR.mem (m : MR K ga rho H M) {a : Addr} (h : a ∈ rho) : ∃ o, H a = some o ∧ imm o = false := by
  obtain ⟨n, hn, e⟩ := List.getElem_of_mem h
  have hM : n < M.length := by rw [← m.len]; exact hn
  obtain ⟨a', e', c⟩ := m.cell n M[n] (by simp [hM])
  have ea : a' = a := by rw [List.getElem?_eq_getElem hn, e] at e'; exact (Option.some.inj e').symm
  subst ea
  cases q : M[n] with
  | lst ds => rw [q] at c; obtain ⟨xs, h1, _⟩ := c; exact ⟨_, h1, rfl⟩
  | dct ds => rw [q] at c; obtain ⟨xs, h1, _⟩ := c; exact ⟨_, h1, rfl⟩
  | fdc ds => rw [q] at c; obtain ⟨o, xs, h1, _⟩ := c; exact ⟨_, h1, rfl⟩
  | obj c' ds => rw [q] at c; obtain ⟨o, xs, h1, _⟩ := c; exact ⟨_, h1, rfl⟩
theorem CR.ext (x : Ext rho H rho' H') {a : Addr} {c : Cell} (h : CR K ga rho H a c) (e : H' a = H a) : CR K ga rho' H' a c := by
  cases c with
  | lst ds => obtain ⟨xs, h1, h2⟩ := h; exact ⟨xs, e.trans h1, h2.ext x⟩
  | dct ds => obtain ⟨xs, h1, h2⟩ := h; exact ⟨xs, e.trans h1, h2.ext x⟩
  | fdc ds => obtain ⟨o, xs, h1, h2⟩ := h; exact ⟨o, xs, e.trans h1, h2.ext x⟩
  | obj c ds => obtain ⟨o, xs, h1, h2⟩ := h; exact ⟨o, xs, e.trans h1, h2.ext x⟩
/-- something not in the memory is laid -/
theorem Ext.laid {p : Addr} {o : HO} (hp : H p = none) : Ext rho H rho (upd H p o) :=
  ⟨List.prefix_refl _, fun a u e _ => by rw [upd_ne (ne_of_none e hp)]; exact e, fun _ h => .inl h, fun a u e _ => by rw [upd_ne (ne_of_none e hp)]; exact e, fun a o u e => by rw [upd_ne (ne_of_none e hp)]; exact e⟩
theorem MR.laid (m : MR K ga rho H M) {p : Addr} {o : HO} (hp : H p = none) : MR K ga rho (upd H p o) M := by
  refine ⟨m.len, m.nd, fun n c e => ?_⟩
  obtain ⟨a, h1, h2⟩ := m.cell n c e
  refine ⟨a, h1, h2.ext (Ext.laid hp) (upd_ne ?_)⟩
  rintro rfl
  obtain ⟨o, h, _⟩ := m.mem (List.mem_of_getElem? h1)
  rw [hp] at h; cases h
/-- a new cell -/
theorem Ext.alloc {p : Addr} {o : HO} (hp : H p = none) : Ext rho H (rho ++ [p]) (upd H p o) :=
  ⟨List.prefix_append _ _, fun a u e _ => by rw [upd_ne (ne_of_none e hp)]; exact e, fun a h => (List.mem_append.mp h).elim .inl fun z => .inr (by rw [List.mem_singleton.mp z]; exact hp), fun a u e _ => by rw [upd_ne (ne_of_none e hp)]; exact e, fun a o u e => by rw [upd_ne (ne_of_none e hp)]; exact e⟩
theorem MR.alloc (m : MR K ga rho H M) {p : Addr} {o : HO} {c : Cell} (hp : H p = none) (hc : CR K ga (rho ++ [p]) (upd H p o) p c) : MR K ga (rho ++ [p]) (upd H p o) (M ++ [c]) := by
  have np : p ∉ rho := fun h => by obtain ⟨o, h, _⟩ := m.mem h; rw [hp] at h; cases h
  refine ⟨by simp [m.len], ?_, fun n c' e => ?_⟩
  · rw [List.nodup_append]
    refine ⟨m.nd, by simp, fun a ha b hb z => np ?_⟩
    rw [List.mem_singleton] at hb
    subst hb; subst z; exact ha
  · by_cases hn : n < M.length
    · rw [List.getElem?_append_left hn] at e
      obtain ⟨a, h1, h2⟩ := m.cell n c' e
      refine ⟨a, by rw [List.getElem?_append_left (by rw [m.len]; exact hn)]; exact h1, h2.ext (Ext.alloc hp) (upd_ne ?_)⟩
      rintro rfl
      exact np (List.mem_of_getElem? h1)
    · have hlt := (List.getElem?_eq_some_iff.mp e).1
      have hn' : n = M.length := by simp at hlt; omega
      subst hn'
      simp at e
      subst e
      exact ⟨p, by rw [← m.len]; simp, hc⟩
theorem CR.mono (x : Mono rho H rho' H') {a : Addr} {c : Cell} (h : CR K ga rho H a c) (e : H' a = H a) : CR K ga rho' H' a c := by
  cases c with
  | lst ds => obtain ⟨xs, h1, h2⟩ := h; exact ⟨xs, e.trans h1, VRs.mono x h2⟩
  | dct ds => obtain ⟨xs, h1, h2⟩ := h; exact ⟨xs, e.trans h1, KVR.mono x h2⟩
  | fdc ds => obtain ⟨o, xs, h1, h2⟩ := h; exact ⟨o, xs, e.trans h1, KVR.mono x h2⟩
  | obj c ds => obtain ⟨o, xs, h1, h2⟩ := h; exact ⟨o, xs, e.trans h1, FVR.mono x h2⟩
/-- something beside the memory is changed -/
theorem Mono.side {p : Addr} {o : HO} (hi : ∀ u, H p = some u → imm u = false) : Mono rho H rho (upd H p o) :=
  ⟨List.prefix_refl _, fun a u e i => by
    rw [upd_ne (fun z => ?_)]; exact e
    subst z; rw [hi u e] at i; cases i⟩
/-- a cell is written -/
theorem Ext.write {p : Addr} {o : HO} {n : Nat} (m : MR K ga rho H M) (hn : rho[n]? = some p) (hz : ∀ o u, H p ≠ some (.frz o (.dK u))) : Ext rho H rho (upd H p o) := by
  have hp := List.mem_of_getElem? hn
  refine ⟨List.prefix_refl _, fun a u e na => ?_, fun _ h => .inl h, fun a u e i => ?_, fun a o' u e => ?_⟩
  · rw [upd_ne (fun z => na (by rw [z]; exact hp))]; exact e
  · rw [upd_ne (fun z => ?_)]; exact e
    subst z
    obtain ⟨u', h, i'⟩ := m.mem hp
    rw [e] at h; cases h; rw [i] at i'; cases i'
  · rw [upd_ne (fun z => ?_)]; exact e
    subst z
    exact hz _ _ e
theorem MR.write (m : MR K ga rho H M) {p : Addr} {o : HO} {c : Cell} {n : Nat} (hn : rho[n]? = some p) (hc : CR K ga rho (upd H p o) p c) : MR K ga rho (upd H p o) (M.set n c) := by
  have x : Mono rho H rho (upd H p o) := Mono.side fun u hu => by
    obtain ⟨u', h, i'⟩ := m.mem (List.mem_of_getElem? hn)
    rw [hu] at h; cases h; exact i'
  refine ⟨by simp [m.len], m.nd, fun k c' e => ?_⟩
  by_cases hk : k = n
  · subst hk
    have hlt : k < M.length := by have := (List.getElem?_eq_some_iff.mp e).1; simpa using this
    rw [List.getElem?_set_self hlt] at e
    cases e
    exact ⟨p, hn, hc⟩
  · rw [List.getElem?_set_ne (Ne.symm hk)] at e
    obtain ⟨a, h1, h2⟩ := m.cell k c' e
    refine ⟨a, h1, h2.mono x (upd_ne ?_)⟩
    rintro rfl
    have h3 := (List.getElem?_eq_some_iff.mp h1).2
    have h4 := (List.getElem?_eq_some_iff.mp hn).2
    exact hk ((List.getElem_inj m.nd).mp (h3.trans h4.symm))
theorem MR.side (m : MR K ga rho H M) {p : Addr} {o : HO} (hp : p ∉ rho) (hi : ∀ u, H p = some u → imm u = false) : MR K ga rho (upd H p o) M := by
  refine ⟨m.len, m.nd, fun n c e => ?_⟩
  obtain ⟨a, h1, h2⟩ := m.cell n c e
  refine ⟨a, h1, h2.mono (Mono.side hi) (upd_ne ?_)⟩
  rintro rfl
  exact hp (List.mem_of_getElem? h1)
theorem Ext.side {p : Addr} {o : HO} (x : Ext rho H rho' H') (hp : H p = none) : Ext rho H rho' (upd H' p o) :=
  ⟨x.pre, fun a u e n => by rw [upd_ne (ne_of_none e hp)]; exact x.keep a u e n, x.new, fun a u e i => by rw [upd_ne (ne_of_none e hp)]; exact x.im a u e i, fun a o u e => by rw [upd_ne (ne_of_none e hp)]; exact x.fz a o u e⟩
/-- a list beside the memory comes into it -/
theorem Mono.more {p : Addr} : Mono rho H (rho ++ [p]) H := ⟨List.prefix_append _ _, fun _ _ e _ => e⟩
theorem MR.adopt (m : MR K ga rho H M) {p : Addr} {ds : List D} {xs : List V} (hp : p ∉ rho) (h : H p = some (.lst xs)) (r : VRs K ga rho H ds xs) : MR K ga (rho ++ [p]) H (M ++ [.lst ds]) := by
  refine ⟨by simp [m.len], ?_, fun n c' e => ?_⟩
  · rw [List.nodup_append]
    refine ⟨m.nd, by simp, fun a ha b hb z => hp ?_⟩
    rw [List.mem_singleton] at hb
    subst hb; subst z; exact ha
  · by_cases hn : n < M.length
    · rw [List.getElem?_append_left hn] at e
      obtain ⟨a, h1, h2⟩ := m.cell n c' e
      exact ⟨a, by rw [List.getElem?_append_left (by rw [m.len]; exact hn)]; exact h1, h2.mono Mono.more rfl⟩
    · have hlt := (List.getElem?_eq_some_iff.mp e).1
      have hn' : n = M.length := by simp at hlt; omega
      subst hn'
      simp at e
      subst e
      exact ⟨p, by rw [← m.len]; simp, xs, h, VRs.mono Mono.more r⟩
theorem Ext.adopt {p : Addr} (x : Ext rho H rho' H') (hp : H p = none) : Ext rho H (rho' ++ [p]) H' :=
  ⟨x.pre.trans (List.prefix_append _ _), x.keep, fun a h => (List.mem_append.mp h).elim (x.new a) fun z => .inr (by rw [List.mem_singleton.mp z]; exact hp), x.im, x.fz⟩
theorem MR.lst (m : MR K ga rho H M) {n : Nat} {ds : List D} (h : M[n]? = some (.lst ds)) : ∃ a xs, rho[n]? = some a ∧ H a = some (.lst xs) ∧ VRs K ga rho H ds xs := by
  obtain ⟨a, h1, xs, h2, h3⟩ := m.cell n _ h
  exact ⟨a, xs, h1, h2, h3⟩
theorem MR.fdc (m : MR K ga rho H M) {n : Nat} {ds : List (Key × D)} (h : M[n]? = some (.fdc ds)) : ∃ a o xs, rho[n]? = some a ∧ H a = some (.frz o (.dK xs)) ∧ KVR K ga rho H ds xs := by
  obtain ⟨a, h1, o, xs, h2, h3⟩ := m.cell n _ h
  exact ⟨a, o, xs, h1, h2, h3⟩
theorem MR.obj (m : MR K ga rho H M) {n : Nat} {c : Str} {ds : List (Str × D)} (h : M[n]? = some (.obj c ds)) : ∃ a dx xs, rho[n]? = some a ∧ H a = some (.ins (ga c) dx xs) ∧ FVR K ga rho H ds xs := by
  obtain ⟨a, h1, o, xs, h2, h3⟩ := m.cell n _ h
  exact ⟨a, o, xs, h1, h2, h3⟩
theorem FVR.look {f : Str} : ∀ {ds : List (Str × D)} {vs : List (Str × V)}, FVR K ga rho H ds vs → (ds.lookup f = none → vs.lookup f = none) ∧ ∀ d, ds.lookup f = some d → ∃ v, vs.lookup f = some v ∧ VR K ga rho H d v
  | [], vs, h => by
    have e : vs = [] := h
    subst e
    exact ⟨fun _ => rfl, fun d z => (by cases z)⟩
  | (g, d) :: ds, vs, h => by
    obtain ⟨⟨g', v⟩, r, rfl, e, h1, h2⟩ := h
    have e' : g = g' := e
    subst e'
    have ih := FVR.look (f := f) h2
    by_cases q : (f == g) = true
    · simp only [List.lookup, q]
      exact ⟨fun z => (by cases z), fun d' z => (by cases z; exact ⟨v, rfl, h1⟩)⟩
    · simp only [List.lookup, Bool.eq_false_iff.mpr q]
      exact ih
theorem FVR.put {f : Str} {d : D} {v : V} (k : VR K ga rho H d v) : ∀ {ds : List (Str × D)} {vs : List (Str × V)}, FVR K ga rho H ds vs → FVR K ga rho H (putO f d ds) (putF f v vs)
  | [], vs, h => by
    have e : vs = [] := h
    subst e
    exact ⟨(f, v), [], rfl, rfl, k, rfl⟩
  | (g, x) :: ds, vs, h => by
    obtain ⟨⟨g', v'⟩, r, rfl, e, h1, h2⟩ := h
    have e' : g = g' := e
    subst e'
    unfold putO putF
    by_cases q : g = f
    · rw [if_pos q, if_pos q]
      exact ⟨_, _, rfl, rfl, k, h2⟩
    · rw [if_neg q, if_neg q]
      exact ⟨_, _, rfl, rfl, h1, FVR.put k h2⟩
theorem FVR.length : ∀ {ds : List (Str × D)} {vs : List (Str × V)}, FVR K ga rho H ds vs → vs.length = ds.length
  | [], vs, h => by
    have e : vs = [] := h
    subst e; rfl
  | d :: ds, vs, h => by
    obtain ⟨v, r, rfl, _, _, h2⟩ := h
    simp [FVR.length h2]
theorem MR.dct (m : MR K ga rho H M) {n : Nat} {ds : List (Key × D)} (h : M[n]? = some (.dct ds)) : ∃ a xs, rho[n]? = some a ∧ H a = some (.dK xs) ∧ KVR K ga rho H ds xs := by
  obtain ⟨a, h1, xs, h2, h3⟩ := m.cell n _ h
  exact ⟨a, xs, h1, h2, h3⟩
theorem NR.set {e : Env} {sg : L2.St} (n : NR K ga rho H e sg) {d : D} {v : V} (r : VR K ga rho H d v) (i : Nat) : NR K ga rho H (e.set i (some d)) (sg.set i (some v)) := by
  refine ⟨by simp [n.len], fun j d' h => ?_⟩
  by_cases hj : j = i
  · subst hj
    have hlt : j < e.length := by have := (List.getElem?_eq_some_iff.mp h).1; simpa using this
    rw [List.getElem?_set_self hlt] at h
    cases h
    exact ⟨v, by rw [List.getElem?_set_self (by rw [n.len]; exact hlt)], r⟩
  · rw [List.getElem?_set_ne (Ne.symm hj)] at h
    obtain ⟨v', a, b⟩ := n.at_ j d' h
    exact ⟨v', by rw [List.getElem?_set_ne (Ne.symm hj)]; exact a, b⟩
end

/-! ### readings -/
/-- what is wanted of a result -/
def RG (K : PySem.W.Frag) (ga : Str → Addr) (W : WX) (l : Nat) {α β : Type} (R : List Addr → Hp → α → β → Prop) (rho : List Addr) (H : Hp) (r : Res α) (Q : β → Hp → Prop) : Prop :=
  match r with
  | .ok a M => ∀ rho' H' b, Ext rho H rho' H' → MR K ga rho' H' M → R rho' H' a b → Q b H'
  | .ex c M => ∀ rho' H' (sg' : L2.St), Ext rho H rho' H' → MR K ga rho' H' M → sg'.length = l → W (.ref (ga c)) none sg' H'
  | .no => False
def tG (K : PySem.W.Frag) (ga : Str → Addr) (W : WX) {α β : Type} (R : List Addr → Hp → α → β → Prop) (r : Env → Ev α) : L2.St → Hp → (β → Hp → Prop) → Prop :=
  fun sg H Q => ∃ rho M e, MR K ga rho H M ∧ NR K ga rho H e sg ∧ RG K ga W e.length R rho H (r e M) Q
abbrev REq (α : Type) : List Addr → Hp → α → α → Prop := fun _ _ a b => a = b
abbrev tI (K : PySem.W.Frag) (ga : Str → Addr) (W : WX) (r : Env → Ev D) : TE := tG K ga W (VR K ga) r
abbrev tT (K : PySem.W.Frag) (ga : Str → Addr) (W : WX) (r : Env → Ev Bool) : TT := tG K ga W (REq Bool) r
abbrev tL (K : PySem.W.Frag) (ga : Str → Addr) (W : WX) (r : Env → Ev (List D)) : TA := tG K ga W (VRs K ga) r
def RS (K : PySem.W.Frag) (ga : Str → Addr) (W : WX) (l : Nat) (rho : List Addr) (H : Hp) (r : Res Out) (E : Ends) : Prop :=
  match r with
  | .ok (.nx e) M => ∀ rho' H' sg', Ext rho H rho' H' → MR K ga rho' H' M → NR K ga rho' H' e sg' → E.nx sg' H'
  | .ok (.bk e) M => ∀ rho' H' sg', Ext rho H rho' H' → MR K ga rho' H' M → NR K ga rho' H' e sg' → E.bk sg' H'
  | .ok (.ct e) M => ∀ rho' H' sg', Ext rho H rho' H' → MR K ga rho' H' M → NR K ga rho' H' e sg' → E.ct sg' H'
  | .ok (.rt d) M => ∀ rho' H' v, Ext rho H rho' H' → MR K ga rho' H' M → VR K ga rho' H' d v → E.rt v H'
  | .ex c M => ∀ rho' H' (sg' : L2.St), Ext rho H rho' H' → MR K ga rho' H' M → sg'.length = l → W (.ref (ga c)) none sg' H'
  | .no => False
def tS (K : PySem.W.Frag) (ga : Str → Addr) (W : WX) (r : Env → Ev Out) : TS := fun E sg H => ∃ rho M e, MR K ga rho H M ∧ NR K ga rho H e sg ∧ RS K ga W e.length rho H (r e M) E
section
variable {K : PySem.W.Frag} {ga : Str → Addr} {W : WX} {l : Nat} {α β γ δ : Type} {R : List Addr → Hp → α → β → Prop} {rho rho1 : List Addr} {H H1 : Hp}
theorem RG.re {r : Res α} {Q : β → Hp → Prop} (h : RG K ga W l R rho H r Q) (x : Ext rho H rho1 H1) : RG K ga W l R rho1 H1 r Q := by
  cases r with
  | ok a M => exact fun rho' H' b y m q => h rho' H' b (x.trans y) m q
  | ex c M => exact fun rho' H' sg' y m q => h rho' H' sg' (x.trans y) m q
  | no => exact h
theorem RS.re {r : Res Out} {E : Ends} (h : RS K ga W l rho H r E) (x : Ext rho H rho1 H1) : RS K ga W l rho1 H1 r E := by
  cases r with
  | ok a M =>
    cases a with
    | nx e => exact fun rho' H' b y m q => h rho' H' b (x.trans y) m q
    | bk e => exact fun rho' H' b y m q => h rho' H' b (x.trans y) m q
    | ct e => exact fun rho' H' b y m q => h rho' H' b (x.trans y) m q
    | rt e => exact fun rho' H' b y m q => h rho' H' b (x.trans y) m q
  | ex c M => exact fun rho' H' sg' y m q => h rho' H' sg' (x.trans y) m q
  | no => exact h
theorem RG.mono {r : Res α} {Q Q' : β → Hp → Prop} (h : RG K ga W l R rho H r Q) (k : ∀ b H', Q b H' → Q' b H') : RG K ga W l R rho H r Q' := by
  cases r with
  | ok a M => exact fun rho' H' b y m q => k _ _ (h rho' H' b y m q)
  | ex c M => exact h
  | no => exact h
end
end Pf
set_option maxHeartbeats 2000000
/-! Pf: the meaning of expressions and statements as functions of the memory. -/
namespace Pf
open PySem PySem.Spec PyProof.Rows L2

def bnd {α β : Type} (m : Ev α) (f : α → Ev β) : Ev β := fun M => match m M with
  | .ok a M' => f a M'
  | .ex c M' => .ex c M'
  | .no => .no
def ret {α : Type} (a : α) : Ev α := fun M => .ok a M
def stop {α : Type} : Ev α := fun _ => .no
def opt {α β : Type} (o : Option α) (f : α → Ev β) : Ev β := match o with
  | some a => f a
  | none => stop

/-- what a module's name stands for -/
inductive GV where
  | unk | fn | blt | int (i : Int) | cls | wrd | txt (z : Str) | kls
structure SI where
  N : List Str
  sc : List (Str × NameKind)
  fc : Str → Bool
  G : Str → GV
  Wd : Str → Option Str
  mth : Str → Str → Option Str
  fld : Str → Str → Bool
abbrev Tab := Str → List D → Ev D

/-! ### operations on values -/
def alloc (ds : List D) : Ev D := fun M => .ok (.ref M.length) (M ++ [.lst ds])
def newl (ds : List D) : Ev D := fun M => if ds.length ≤ 16777216 then .ok (.ref M.length) (M ++ [.lst ds]) else .no
def newt (ds : List D) : Ev D := fun M => if ds.length ≤ 16777216 then .ok (.tup ds) M else .no
/-- the items of a list -/
def items (d : D) (M : Mem) : Option (List D) := match d with
  | .ref n => (match M[n]? with
    | some (.lst xs) => some xs
    | _ => none)
  | .frz xs => some xs
  | _ => none
def dAdd (x y : D) : Ev D := fun M => match x, y with
  | .int i, .int j => .ok (.int (i + j)) M
  | .str i, .str j => if i.length + j.length ≤ 16777216 then .ok (.str (i ++ j)) M else .no
  | .tup xs, .tup ys => if xs.length + ys.length ≤ 16777216 then .ok (.tup (xs ++ ys)) M else .no
  | .ref n, .ref m => (match M[n]?, M[m]? with
    | some (.lst xs), some (.lst ys) => newl (xs ++ ys) M
    | _, _ => .no)
  | _, _ => .no
def dSub (x y : D) : Ev D := fun M => match x, y with
  | .int i, .int j => .ok (.int (i - j)) M
  | _, _ => .no
def mulOk (i j : Int) : Bool := decide (i.natAbs < 18446744073709551616) || decide (j.natAbs < 18446744073709551616)
def dMul (x y : D) : Ev D := fun M => match x, y with
  | .int i, .int j => if mulOk i j = true then .ok (.int (i * j)) M else .no
  | .ref n, .int k => (match M[n]? with
    | some (.lst xs) => if k.natAbs < 16777216 then newl (List.replicate k.toNat xs).flatten M else .no
    | _ => .no)
  | .tup xs, .int k => if xs ≠ [] ∧ 2 ≤ k ∧ k ≤ 1000 ∧ xs.length ≤ 1000 ∧ prsD (List.replicate k.toNat xs).flatten = false then newt (List.replicate k.toNat xs).flatten M else .no
  | .str z, .int k => if 2 ≤ k ∧ k ≤ 1000 ∧ z.length ≤ 1000 then .ok (.str (Txt.mul z k)) M else .no
  | _, _ => .no
def divOk (j : Int) : Bool := decide (0 < j) && decide (j.natAbs.log2 < 9000)
def dDiv (x y : D) : Ev D := fun M => match x, y with
  | .int i, .int j => if divOk j = true then .ok (.int (i / j)) M else .no
  | _, _ => .no
def dMod (x y : D) : Ev D := fun M => match x, y with
  | .int i, .int j => if 0 < j then .ok (.int (i % j)) M else .no
  | _, _ => .no
def powOk (i j : Int) : Bool := decide (0 ≤ j) && decide (j ≤ 1000000) && decide (i.natAbs < 18446744073709551616)
def dPow (x y : D) : Ev D := fun M => match x, y with
  | .int i, .int j => if powOk i j = true then .ok (.int (i ^ j.toNat)) M else .no
  | _, _ => .no
def dBin : Operator → D → D → Ev D
  | .Add => dAdd
  | .Sub => dSub
  | .Mult => dMul
  | .FloorDiv => dDiv
  | .Mod => dMod
  | .Pow => dPow
  | _ => fun _ _ => stop
def dNeg (x : D) : Ev D := fun M => match x with
  | .int i => .ok (.int (-i)) M
  | _ => .no

/-! ### data as a whole -/
mutual
def toPyF (R : Nat → Option PyData) : D → Option PyData
  | .non => some .none
  | .bl b => some (.bool b)
  | .int i => some (.int i)
  | .str x => some (.str x)
  | .tup ds => (toPyFs R ds).map .tuple
  | .frz _ => none
  | .ref k => R k
  | .fn _ => none
def toPyFs (R : Nat → Option PyData) : List D → Option (List PyData)
  | [] => some []
  | d :: ds => (toPyF R d).bind fun a => (toPyFs R ds).map fun as => a :: as
end
def keyPy : Key → PyData
  | .inl i => .int i
  | .inr x => .str x
def toPyFk (R : Nat → Option PyData) : List (Key × D) → Option (List (PyData × PyData))
  | [] => some []
  | d :: ds => (toPyF R d.2).bind fun a => (toPyFk R ds).map fun as => (keyPy d.1, a) :: as
/-- what the cell k holds, lists nested at most n deep -/
def toPyN (M : Mem) : Nat → Nat → Option PyData
  | 0, _ => none
  | n + 1, k => match M[k]? with
    | some (.lst ds) => (toPyFs (toPyN M n) ds).map .list
    | some (.dct kvs) => (toPyFk (toPyN M n) kvs).map .dict
    | _ => none
def toPy (M : Mem) (d : D) : Option PyData := toPyF (toPyN M 100) d
def dShown (d : D) (M : Mem) : Option Str := match toPy M d with
  | some p => if p.showable && decide (p.shown.length ≤ 16777216) && decide (p.depth ≤ 100) then some p.shown else none
  | none => none
def dRepr (d : D) : Ev D := fun M => match dShown d M with
  | some x => .ok (.str x) M
  | none => .no
/-- == of two scalars -/
def scQ : D → D → Option Bool
  | .non, .non => some true
  | .int i, .int j => some (i == j)
  | .bl i, .bl j => some (i == j)
  | .str i, .str j => some (i == j)
  | .non, .int _ | .int _, .non | .non, .bl _ | .bl _, .non | .non, .str _ | .str _, .non | .int _, .str _ | .str _, .int _ | .bl _, .str _ | .str _, .bl _ => some false
  | _, _ => none
/-- == of two tuples one of which is empty, of two lists of two lengths -/
def emQ (x y : D) (M : Mem) : Option Bool := match x, y with
  | .tup xs, .tup ys => if xs.isEmpty || ys.isEmpty then some (xs.length == ys.length) else none
  | .ref n, .ref m => (match M[n]?, M[m]? with
    | some (.lst xs), some (.lst ys) => if xs.length == ys.length then none else some false
    | _, _ => none)
  | _, _ => none
/-- == -/
def dEq (x y : D) (M : Mem) : Option Bool := match (scQ x y).or (emQ x y M) with
  | some b => some b
  | none => (match toPy M x, toPy M y with
    | some a, some b => if SeqAt.shaped a && SeqAt.shaped b then some (PyData.eqv a b) else none
    | _, _ => none)

/-! ### dicts -/
def keyD : D → Option L2.Key
  | .int i => some (.inl i)
  | .str x => some (.inr x)
  | _ => none
def kD : Key → D
  | .inl i => .int i
  | .inr x => .str x
def valD (kvs : List (Key × D)) (k : Key) : Option D := (kvs.find? fun kv => decide (kv.1 = k)).map (·.2)
def putD (kvs : List (Key × D)) (k : Key) (d : D) : List (Key × D) := if (kvs.any fun kv => decide (kv.1 = k)) = true then kvs.map (fun kv => if kv.1 = k then (kv.1, d) else kv) else kvs ++ [(k, d)]
def dctOf (x : D) (M : Mem) : Option (List (Key × D)) := match x with
  | .ref n => (match M[n]? with
    | some (.dct kvs) => some kvs
    | _ => none)
  | _ => none
/-- x in y -/
def dIn (x y : D) (M : Mem) : Option Bool := match dctOf y M with
  | some kvs => (keyD x).map fun k => (valD kvs k).isSome
  | none => (match toPy M x, toPy M y with
    | some d, some (.list ds) => if SeqAt.shaped d && SeqAt.shaped (.list ds) then some (ds.any fun z => PyData.eqv z d) else none
    | some d, some (.tuple ds) => if SeqAt.shaped d && SeqAt.shaped (.tuple ds) then some (ds.any fun z => PyData.eqv z d) else none
    | some (.str c), some (.str z) => (match c.cps.toList with
      | [k] => some (decide (k ∈ z.cps.toList))
      | _ => none)
    | _, _ => none)
/-! ### comparisons -/
def dCmp (op : CmpOp) (x y : D) : Ev D := fun M => match op with
  | .Lt => (match x, y with
    | .int i, .int j => .ok (.bl (decide (i < j))) M
    | .tup xs, .tup ys => (match toPyFs (fun _ => none) xs, toPyFs (fun _ => none) ys with
      | some a, some b => if (PySem.W.alikeAll a b && decide (PyData.depthAll a ≤ 50)) = true then .ok (.bl (PySem.W.dataLt (.tuple a) (.tuple b))) M else .no
      | _, _ => .no)
    | _, _ => .no)
  | .LtE => (match x, y with | .int i, .int j => .ok (.bl (decide (i ≤ j))) M | _, _ => .no)
  | .Gt => (match x, y with | .int i, .int j => .ok (.bl (decide (j < i))) M | _, _ => .no)
  | .GtE => (match x, y with | .int i, .int j => .ok (.bl (decide (j ≤ i))) M | _, _ => .no)
  | .Eq => (match dEq x y M with | some b => .ok (.bl b) M | none => .no)
  | .NotEq => (match dEq x y M with | some b => .ok (.bl (!b)) M | none => .no)
  | .In => (match dIn x y M with | some b => .ok (.bl b) M | none => .no)
  | .NotIn => (match dIn x y M with | some b => .ok (.bl (!b)) M | none => .no)
  | _ => .no
/-- is None, is True, is False: the right side a constant -/
def dIs (x : D) (c : Const) : Option Bool := match x, c with
  | .non, .none => some true
  | .bl _, .none | .int _, .none | .str _, .none | .tup _, .none | .ref _, .none => some false
  | .bl a, .bool b => some (a == b)
  | _, _ => none
def toB (x : D) : Ev Bool := fun M => match x with
  | .bl b => .ok b M
  | _ => .no

/-- the truth of a truth or a text -/
def toS (x : D) : Ev Bool := fun M => match x with
  | .bl b => .ok b M
  | .str s => if s.length ≤ 16777216 then .ok ((s.length : Int) != 0) M else .no
  | _ => .no
/-! ### parts -/
def dIdxS (x y : D) : Ev D := fun M => match y with
  | .int i => (match x with
    | .tup xs => (match atI xs i with | some v => .ok v M | none => .no)
    | .str z => (match atI z.cps.toList i with | some c => if z.length ≤ 16777216 then .ok (.str ⟨#[c]⟩) M else .no | none => .no)
    | x => (match items x M with
      | some xs => (match atI xs i with | some v => .ok v M | none => .no)
      | none => .no))
  | _ => .no
/-- a dict that is walked -/
def fdcOf (x : D) (M : Mem) : Option (List (Key × D)) := match x with
  | .ref n => (match M[n]? with
    | some (.fdc kvs) => some kvs
    | _ => none)
  | _ => none
def dIdx (x y : D) : Ev D := fun M => match dctOf x M with
  | some kvs => (match (keyD y).bind (valD kvs) with
    | some v => .ok v M
    | none => .no)
  | none => (match fdcOf x M with
    | some kvs => (match (keyD y).bind (valD kvs) with
      | some v => .ok v M
      | none => .no)
    | none => dIdxS x y M)
def cutD (xs : List D) (lo hi : Option Int) : List D := (xs.drop (HT.sIx xs.length 0 lo)).take (HT.sIx xs.length xs.length hi - HT.sIx xs.length 0 lo)
def dSlice (x : D) (lo hi : Option Int) : Ev D := fun M => match x with
  | .tup xs => .ok (.tup (cutD xs lo hi)) M
  | .str z => if z.length ≤ 16777216 then .ok (.str (cutS z lo hi)) M else .no
  | x => (match items x M with
    | some xs => newl (cutD xs lo hi) M
    | none => .no)
/-- x[::-1] -/
def dRev (x : D) : Ev D := fun M => match x with
  | .tup xs => .ok (.tup xs.reverse) M
  | x => (match items x M with
    | some xs => newl xs.reverse M
    | none => .no)
def dLen (x : D) : Ev D := fun M => match x with
  | .str z => if z.length ≤ 16777216 then .ok (.int z.length) M else .no
  | .tup xs => .ok (.int xs.length) M
  | .ref n => (match M[n]? with
    | some (.lst xs) => .ok (.int xs.length) M
    | some (.dct kvs) => .ok (.int kvs.length) M
    | _ => .no)
  | .frz xs => .ok (.int xs.length) M
  | _ => .no
def allB : List D → Option Bool
  | [] => some true
  | .bl b :: r => (allB r).map (b && ·)
  | _ :: _ => none
def anyB : List D → Option Bool
  | [] => some false
  | .bl b :: r => (anyB r).map (b || ·)
  | _ :: _ => none
def sumI : List D → Option Int
  | [] => some 0
  | .int i :: r => (sumI r).map (i + ·)
  | _ :: _ => none
def dAll (x : D) : Ev D := fun M => match items x M with
  | some xs => (match allB xs with | some b => .ok (.bl b) M | none => .no)
  | none => .no
def dAny (x : D) : Ev D := fun M => match items x M with
  | some xs => (match anyB xs with | some b => .ok (.bl b) M | none => .no)
  | none => .no
def dSumL (x : D) : Ev D := fun M => match items x M with
  | some xs => (match sumI xs with | some b => .ok (.int b) M | none => .no)
  | none => .no
def dSum (x : D) : Ev D := fun M => match x with
  | .tup xs => (match sumI xs with | some b => .ok (.int b) M | none => .no)
  | x => dSumL x M
def dMax2 (x y : D) : Ev D := fun M => match x, y with
  | .int i, .int j => .ok (.int (if j > i then j else i)) M
  | _, _ => .no
def dMin2 (x y : D) : Ev D := fun M => match x, y with
  | .int i, .int j => .ok (.int (if j < i then j else i)) M
  | _, _ => .no
def dList (x : D) : Ev D := fun M => match x with
  | .tup xs => newl xs M
  | x => (match items x M with
    | some xs => newl xs M
    | none => (match dctOf x M with
      | some kvs => newl (kvs.map fun kv => kD kv.1) M
      | none => .no))
def dTuple (x : D) : Ev D := fun M => match x with
  | .tup xs => .ok (.tup xs) M
  | x => (match items x M with
    | some xs => newt xs M
    | none => .no)
def dInt (x : D) : Ev D := fun M => match x with
  | .int i => .ok (.int i) M
  | .bl b => .ok (.int (if b then 1 else 0)) M
  | .str z => (match PySem.intText? z with
    | some i => if z.length ≤ 640 then .ok (.int i) M else .no
    | none => .no)
  | _ => .no
/-- str(x) of a number -/
def dStr (x : D) : Ev D := fun M => match x with
  | .int i => if i.natAbs.log2 < 1920 then .ok (.str (toString i)) M else .no
  | _ => .no
def chkS (x : D) : Ev Unit := fun M => match x with
  | .str _ => .ok () M
  | _ => .no
/-- x.split(y) -/
def dSplit (x y : D) : Ev D := fun M => match x, y with
  | .str a, .str b => if (b.length == 0) = false ∧ a.length + 2 ≤ 16777216 then newl ((Txt.split a b).map D.str) M else .no
  | _, _ => .no
/-- a value's type, by name -/
def dTy (x : D) (M : Mem) : Option String := match x with
  | .non => some "NoneType"
  | .bl _ => some "bool"
  | .int _ => some "int"
  | .str _ => some "str"
  | .tup _ => some "tuple"
  | .ref n => (match M[n]? with
    | some (.lst _) => some "list"
    | some (.dct _) => some "dict"
    | _ => none)
  | _ => none
def isiT (t : String) (T : Str) : Option Bool := if T == "int" then some (t == "int" || t == "bool") else if T == "bool" then some (t == "bool") else if T == "str" then some (t == "str")
  else if T == "tuple" then some (t == "tuple") else if T == "list" then some (t == "list") else none
def dIsi (x : D) (T : Str) (M : Mem) : Option Bool := (dTy x M).bind fun t => isiT t T
/-- isinstance of some classes -/
def isiTs (t : String) : List Str → Option Bool
  | [] => some false
  | T :: r => (match isiT t T with
    | some true => some true
    | some false => isiTs t r
    | none => none)
def dIsA (x : D) (Ts : List Str) (M : Mem) : Option Bool := (dTy x M).bind fun t => isiTs t Ts
/-- a list -/
def chkL (x : D) : Ev Unit := fun M => match x with
  | .ref n => (match M[n]? with
    | some (.lst _) => .ok () M
    | _ => .no)
  | _ => .no

/-! ### methods -/
def mAppend (x y : D) : Ev D := fun M => match x with
  | .ref n => (match M[n]? with
    | some (.lst xs) => if xs.length < 16777216 then .ok .non (M.set n (.lst (xs ++ [y]))) else .no
    | _ => .no)
  | _ => .no
def mExtend (x y : D) : Ev D := fun M => match x, y with
  | .ref n, .ref m => (match M[n]?, M[m]? with
    | some (.lst xs), some (.lst ys) => if xs.length + ys.length ≤ 16777216 then .ok .non (M.set n (.lst (xs ++ ys))) else .no
    | _, _ => .no)
  | _, _ => .no
def mPopAt (x y : D) : Ev D := fun M => match x, y with
  | .ref n, .int i => (match M[n]? with
    | some (.lst xs) => (match ixN xs.length i with
      | some k => (match xs[k]? with
        | some v => if i.natAbs < 16777216 then .ok v (M.set n (.lst (xs.eraseIdx k))) else .no
        | none => .no)
      | none => .no)
    | _ => .no)
  | _, _ => .no
/-- x.pop() -/
def mPop (x : D) : Ev D := fun M => match x with
  | .ref n => (match M[n]? with
    | some (.lst xs) => (match xs[xs.length - 1]? with
      | some v => .ok v (M.set n (.lst xs.dropLast))
      | none => .no)
    | _ => .no)
  | _ => .no
def mInsert (x i y : D) : Ev D := fun M => match x, i with
  | .ref n, .int i => (match M[n]? with
    | some (.lst xs) => if xs.length < 16777216 ∧ 0 ≤ i ∧ i < 16777216 then .ok .non (M.set n (.lst (xs.take i.toNat ++ [y] ++ xs.drop i.toNat))) else .no
    | _ => .no)
  | _, _ => .no
def mIndex (x y : D) : Ev D := fun M => match toPy M x, toPy M y with
  | some (.list ds), some d => if SeqAt.shaped (.list ds) && SeqAt.shaped d then (match ds.findIdx? fun z => PyData.eqv z d with
    | some j => .ok (.int (j : Nat)) M
    | none => .no) else .no
  | _, _ => .no
def mCount (x y : D) : Ev D := fun M => match toPy M x, toPy M y with
  | some (.list ds), some d => if SeqAt.shaped (.list ds) && SeqAt.shaped d then .ok (.int (ds.countP fun z => PyData.eqv z d : Nat)) M else .no
  | _, _ => .no
def setIxS (x i v : D) : Ev Unit := fun M => match x, i with
  | .ref n, .int k => (match M[n]? with
    | some (.lst xs) => (match ixN xs.length k with
      | some j => .ok () (M.set n (.lst (xs.set j v)))
      | none => .no)
    | _ => .no)
  | _, _ => .no
def setD (x v : D) (kvs : List (Key × D)) (k : Key) : Ev Unit := fun M => match x with
  | .ref n => if kvs.length < 16777216 then .ok () (M.set n (.dct (putD kvs k v))) else .no
  | _ => .no
def setIx (x i v : D) : Ev Unit := fun M => match dctOf x M with
  | some kvs => (match keyD i with
    | some k => setD x v kvs k M
    | none => .no)
  | none => setIxS x i v M

/-! ### instances -/
def objOf (x : D) (M : Mem) : Option (Str × List (Str × D)) := match x with
  | .ref n => (match M[n]? with
    | some (.obj c fs) => some (c, fs)
    | _ => none)
  | _ => none
/-- x.f -/
def dFld (fl : Str → Str → Bool) (f : Str) (x : D) : Ev D := fun M => match objOf x M with
  | some (c, fs) => if fl c f = true then (match fs.lookup f with
    | some v => .ok v M
    | none => .no) else .no
  | none => .no
/-- x.f = v -/
def setF (fl : Str → Str → Bool) (f : Str) (x v : D) : Ev Unit := fun M => match x with
  | .ref n => (match M[n]? with
    | some (.obj c fs) => if fl c f = true ∧ fs.length < 1000 then .ok () (M.set n (.obj c (putO f v fs))) else .no
    | _ => .no)
  | _ => .no
/-- the def that the method x.m is -/
def chkM (mt : Str → Str → Option Str) (m : Str) (x : D) : Ev Str := fun M => match objOf x M with
  | some (c, fs) => (match mt c m, fs.lookup m with
    | some k, none => .ok k M
    | _, _ => .no)
  | none => .no
/-- C(..): an instance, then its __init__ -/
def mkObj (Phi : Tab) (C k : Str) (vs : List D) : Ev D := fun M => match Phi k (.ref M.length :: vs) (M ++ [.obj C []]) with
  | .ok .non M2 => .ok (.ref M.length) M2
  | .ok _ _ => .no
  | .ex c M2 => .ex c M2
  | .no => .no
/-! ### what is walked -/
inductive Src where
  | lst (n : Nat) | tup (ds : List D) | frz (ds : List D) | rng (lo c : Int) (n : Nat) | enl (n : Nat) | ent (ds : List D) | zpl (n m : Nat) | zpt (xs ys : List D) | zpm (n : Nat) (ys : List D) | dck (n : Nat) | txt (z : Str) | enz (n m : Nat)
def Src.len (M : Mem) : Src → Option Nat
  | .lst n => (match M[n]? with | some (.lst xs) => some xs.length | _ => none)
  | .tup ds => some ds.length
  | .frz ds => some ds.length
  | .rng _ _ n => some n
  | .enl n => (match M[n]? with | some (.lst xs) => some xs.length | _ => none)
  | .ent ds => some ds.length
  | .zpl n m => (match M[n]?, M[m]? with | some (.lst xs), some (.lst ys) => some (min xs.length ys.length) | _, _ => none)
  | .zpt xs ys => some (min xs.length ys.length)
  | .zpm n ys => (match M[n]? with | some (.lst xs) => some (min xs.length ys.length) | _ => none)
  | .dck n => (match M[n]? with | some (.fdc kvs) => some kvs.length | _ => none)
  | .txt z => some z.cps.size
  | .enz n m => (match M[n]?, M[m]? with | some (.lst xs), some (.lst ys) => some (min xs.length ys.length) | _, _ => none)
def Src.at_ (M : Mem) (i : Nat) : Src → Option D
  | .lst n => (match M[n]? with | some (.lst xs) => xs[i]? | _ => none)
  | .tup ds => ds[i]?
  | .frz ds => ds[i]?
  | .rng lo c n => if i < n then some (.int (lo + (i : Nat) * c)) else none
  | .enl n => (match M[n]? with | some (.lst xs) => xs[i]?.map fun x => .tup [.int (i : Nat), x] | _ => none)
  | .ent ds => ds[i]?.map fun x => .tup [.int (i : Nat), x]
  | .zpl n m => (match M[n]?, M[m]? with
    | some (.lst xs), some (.lst ys) => (match xs[i]?, ys[i]? with | some x, some y => some (.tup [x, y]) | _, _ => none)
    | _, _ => none)
  | .zpt xs ys => (match xs[i]?, ys[i]? with | some x, some y => if prsD [x, y] = true then none else some (.tup [x, y]) | _, _ => none)
  | .dck n => (match M[n]? with | some (.fdc kvs) => kvs[i]?.map fun kv => kD kv.1 | _ => none)
  | .txt z => z.cps[i]?.map fun c => .str ⟨#[c]⟩
  | .zpm n ys => (match M[n]? with | some (.lst xs) => (match xs[i]?, ys[i]? with | some x, some y => if prsD [x, y] = true then none else some (.tup [x, y]) | _, _ => none) | _ => none)
  | .enz n m => (match M[n]?, M[m]? with
    | some (.lst xs), some (.lst ys) => (match xs[i]?, ys[i]? with | some x, some y => if prsD [x, y] = true then none else some (.tup [.int (i : Nat), .tup [x, y]]) | _, _ => none)
    | _, _ => none)
def srcOf (d : D) : Ev Src := fun M => match d with
  | .ref n => (match M[n]? with | some (.lst _) => .ok (.lst n) M | _ => .no)
  | .tup ds => .ok (.tup ds) M
  | .frz ds => .ok (.frz ds) M
  | .str z => .ok (.txt z) M
  | _ => .no
/-- the bound of a range's ends (not to be looked at by the kernel) -/
theorem RB_ex : ∃ n : Int, n = 4611686018427387904 := ⟨_, rfl⟩
noncomputable def RB : Int := Classical.choose RB_ex
theorem RB_eq : RB = 4611686018427387904 := Classical.choose_spec RB_ex
noncomputable def inR (i : Int) : Bool := decide (-RB ≤ i) && decide (i < RB)
noncomputable def srcR : List D → Ev Src
  | [.int j] => fun M => if inR j = true then .ok (.rng 0 1 j.toNat) M else .no
  | [.int i, .int j] => fun M => if inR i = true ∧ inR j = true then .ok (.rng i 1 (j - i).toNat) M else .no
  | [.int i, .int j, .int c] => fun M => if inR i = true ∧ inR j = true ∧ c = -1 then .ok (.rng i (-1) (i - j).toNat) M else .no
  | _ => stop
/-- range walked by a for: of two ends of any size -/
noncomputable def srcW (ds : List D) : Ev Src := match ds with
  | [.int i, .int j] => ret (.rng i 1 (j - i).toNat)
  | ds => srcR ds
def srcE : List D → Ev Src
  | [.ref n] => fun M => (match M[n]? with | some (.lst _) => .ok (.enl n) M | _ => .no)
  | [.tup ds] => fun M => .ok (.ent ds) M
  | _ => stop
def srcZ : List D → Ev Src
  | [.ref n, .ref m] => fun M => (match M[n]?, M[m]? with | some (.lst _), some (.lst _) => .ok (.zpl n m) M | _, _ => .no)
  | [.tup xs, .tup ys] => fun M => .ok (.zpt xs ys) M
  | [.ref n, .tup ys] => fun M => (match M[n]? with | some (.lst _) => .ok (.zpm n ys) M | _ => .no)
  | _ => stop
def srcEZ : List D → Ev Src
  | [.ref n, .ref m] => fun M => (match M[n]?, M[m]? with | some (.lst _), some (.lst _) => .ok (.enz n m) M | _, _ => .no)
  | _ => stop
/-- a for loop: k turns are left, i are done -/
def forGo (s : Src) (tg : D → Env → Option Env) (body : Env → Ev Out) : Nat → Nat → Env → Ev Out
  | 0, i, e => fun M => if s.len M = some i then .ok (.nx e) M else .no
  | k + 1, i, e => fun M => match s.at_ M i with
    | some d => (match tg d e with
      | some e1 => (match body e1 M with
        | .ok (.nx e2) M2 => forGo s tg body k (i + 1) e2 M2
        | .ok (.ct e2) M2 => forGo s tg body k (i + 1) e2 M2
        | .ok (.bk e2) M2 => .ok (.nx e2) M2
        | .ok (.rt v) M2 => .ok (.rt v) M2
        | .ex c M2 => .ex c M2
        | .no => .no)
      | none => .no)
    | none => .no
def forS (s : Src) (tg : D → Env → Option Env) (body : Env → Ev Out) (e : Env) : Ev Out := fun M => match s.len M with
  | some n => forGo s tg body n 0 e M
  | none => .no
/-- a comprehension: the items made -/
def lcGo (s : Src) (tg : D → Env → Option Env) (tst : Env → Ev Bool) (elt : Env → Ev D) (e : Env) : Nat → Nat → List D → Ev (List D)
  | 0, i, acc => fun M => if s.len M = some i then .ok acc M else .no
  | k + 1, i, acc => fun M => match s.at_ M i with
    | some d => (match tg d e with
      | some e1 => (match tst e1 M with
        | .ok true M1 => (match elt e1 M1 with
          | .ok v M2 => lcGo s tg tst elt e k (i + 1) (acc ++ [v]) M2
          | _ => .no)
        | .ok false M1 => lcGo s tg tst elt e k (i + 1) acc M1
        | _ => .no)
      | none => .no)
    | none => .no
def lcS (s : Src) (tg : D → Env → Option Env) (tst : Env → Ev Bool) (elt : Env → Ev D) (e : Env) : Ev D := fun M => match s.len M with
  | some n => if n ≤ 16777216 then bnd (lcGo s tg tst elt e n 0 []) alloc M else .no
  | none => .no
def whileGo (t : Env → Ev Bool) (body : Env → Ev Out) : Nat → Env → Ev Out
  | 0, _ => stop
  | k + 1, e => fun M => match t e M with
    | .ok false M1 => .ok (.nx e) M1
    | .ok true M1 => (match body e M1 with
      | .ok (.nx e2) M2 => whileGo t body k e2 M2
      | .ok (.ct e2) M2 => whileGo t body k e2 M2
      | .ok (.bk e2) M2 => .ok (.nx e2) M2
      | .ok (.rt v) M2 => .ok (.rt v) M2
      | .ex c M2 => .ex c M2
      | .no => .no)
    | .ex c M1 => .ex c M1
    | .no => .no

/-! ### names -/
def SI.ix (S : SI) (x : Str) : Option Nat := S.N.findIdx? (· == x)
def SI.vis (S : SI) (x : Str) : Bool := match S.sc.lookup x with
  | some .local => true
  | some .cell => true
  | some .free => true
  | _ => false
def SI.loc (S : SI) (x : Str) : Bool := match S.sc.lookup x with
  | some .local => true
  | some .cell => S.fc x
  | _ => false
def SI.glb (S : SI) (x : Str) : Bool := match S.sc.lookup x with
  | some .globalImplicit => true
  | _ => false
def getS (i : Nat) (e : Env) : Ev D := fun M => match e[i]? with
  | some (some d) => .ok d M
  | _ => .no
/-- the targets: names, tuples of names, tuples of these -/
def tgA (S : SI) : Expr → D → Env → Option Env
  | .Name x _, d, e => if S.loc x = true then (S.ix x).map fun i => e.set i (some d) else none
  | _, _, _ => none
def tgAs (S : SI) : List Expr → List D → Env → Option Env
  | [], [], e => some e
  | t :: ts, d :: ds, e => (tgA S t d e).bind fun e1 => tgAs S ts ds e1
  | _, _, _ => none
def tgN (S : SI) : Expr → D → Env → Option Env
  | .Tuple ts _ _, .tup ds, e => tgAs S ts ds e
  | t, d, e => tgA S t d e
def tgNs (S : SI) : List Expr → List D → Env → Option Env
  | [], [], e => some e
  | t :: ts, d :: ds, e => (tgN S t d e).bind fun e1 => tgNs S ts ds e1
  | _, _, _ => none
def tgO (S : SI) : Expr → D → Env → Option Env
  | .Tuple ts _ _, .tup ds, e => tgNs S ts ds e
  | t, d, e => tgA S t d e
/-- a comprehension's own names -/
def ownOf (S : SI) (sc : List (Str × NameKind)) : List (Str × Nat) := sc.filterMap fun y => match y.2 with
  | .local => (S.ix y.1).map fun i => (y.1, i)
  | .cell => (S.ix y.1).map fun i => (y.1, i)
  | _ => none
def relab (S : SI) (sc : List (Str × NameKind)) : List (Str × NameKind) := sc.map fun (n, k) => if (k == .free && S.sc.lookup n == some .cell) then (n, .cell) else (n, k)
def SI.blk (S : SI) (sc : List (Str × NameKind)) : SI := { S with sc := relab S sc, fc := fun x => sc.lookup x == some .cell }
def ownName (own : List (Str × Nat)) : Expr → Bool
  | .Name x _ => own.any fun p => p.1 == x
  | _ => false
def tgOwn (own : List (Str × Nat)) : Expr → Bool
  | .Tuple ts _ _ => ts.all (ownName own)
  | t => ownName own t
def wipeE (e : Env) : List Nat → Env
  | [] => e
  | v :: vs => (wipeE e vs).set v none
end Pf
namespace Pf
open PySem PySem.Spec PyProof.Rows L2
/-! ### the least, the greatest, in order: of items that hold no cells -/
def pyO (d : D) : Option PyData := toPyF (fun _ => none) d
def pyX (d : D) : PyData := (pyO d).getD .none
def isNonP : PyData → Bool
  | .none => true
  | _ => false
def tupP : PyData → Bool
  | .tuple (_ :: _) => true
  | _ => false
def plnP : PyData → Bool
  | .none => false
  | .tuple _ => false
  | _ => true
def alikeB (ps : List PyData) : Bool := ps.all fun x => ps.all fun y => PySem.W.alike x y
def ltD (x y : D) : Bool := PySem.W.dataLt (pyX x) (pyX y)
def leD : D → D → Bool := PySem.W.dataLe false pyX
def bestD (mx : Bool) (d : D) (ds : List D) : D := if mx = true then ds.foldl (fun a y => if ltD a y = true then y else a) d else ds.foldl (fun a y => if ltD y a = true then y else a) d
/-- min(x), max(x), default=df -/
def dBest (mx : Bool) (df : Option D) (x : D) : Ev D := fun M => match items x M with
  | some ds => (match toPyFs (fun _ => none) ds with
    | some ps => if (alikeB ps && ps.all (fun p => !isNonP p) && decide (PyData.depthAll ps ≤ 50)) = true then (match ds with
        | [] => (match df with | some d => .ok d M | none => .no)
        | d :: r => .ok (bestD mx d r) M) else .no
    | none => .no)
  | none => .no
def dMin1 : D → Ev D := dBest false none
def dMax1 : D → Ev D := dBest true none
def dMinK (x d : D) : Ev D := dBest false (some d) x
def dMaxK (x d : D) : Ev D := dBest true (some d) x
def inlsOf : List (Key × D) → Option (List Int)
  | [] => some []
  | (.inl i, _) :: r => (inlsOf r).map (i :: ·)
  | _ :: _ => none
/-- sorted(x): a list, a dict's keys -/
def dSort (x : D) : Ev D := fun M => match dctOf x M with
  | some kvs => (match inlsOf kvs with
    | some ks => if ks.length ≤ 100000 then newl ((ks.mergeSort fun a b => decide (a ≤ b)).map .int) M else .no
    | none => .no)
  | none => (match items x M with
    | some ds => (match toPyFs (fun _ => none) ds with
      | some ps => if (alikeB ps && (ps.all tupP || ps.all plnP) && decide (PyData.depthAll ps ≤ 50)) = true then newl (ds.mergeSort leD) M else .no
      | none => .no)
    | none => .no)
/-- d.get(k), d.get(k, z) -/
def chkD (x : D) : Ev Unit := fun M => match dctOf x M with
  | some _ => .ok () M
  | none => .no
def dGet (x y z : D) : Ev D := fun M => match dctOf x M with
  | some kvs => (match keyD y with
    | some k => .ok ((valD kvs k).getD z) M
    | none => .no)
  | none => .no
/-- dict(x): of pairs, of a dict -/
def pairsK : List D → Option (List (Key × D))
  | [] => some []
  | .tup [k, v] :: r => (match keyD k with
    | some k => (pairsK r).map ((k, v) :: ·)
    | none => none)
  | _ :: _ => none
def mergeD (kvs more : List (Key × D)) : List (Key × D) := more.foldl (fun acc kv => putD acc kv.1 kv.2) kvs
def newD (kvs : List (Key × D)) : Ev D := fun M => .ok (.ref M.length) (M ++ [.dct kvs])
def dDict (x : D) : Ev D := fun M => match x with
  | .ref n => (match M[n]? with
    | some (.lst ds) => (match pairsK ds with
      | some kvs => newD (mergeD [] kvs) M
      | none => .no)
    | some (.dct kvs) => newD kvs M
    | _ => .no)
  | .tup ds => if prsD ds = true then (match pairsK ds with
      | some kvs => newD (mergeD [] kvs) M
      | none => .no) else .no
  | _ => .no
/-- list(dict(x)): the keys that are tuples of ints and texts, like ones once -/
def keysD : List D → Option (List Key)
  | [] => some []
  | x :: r => (match keyD x with
    | some k => (keysD r).map (k :: ·)
    | none => none)
def pairsT : List D → Option (List (List Key × D))
  | [] => some []
  | .tup [.tup ks, _] :: r => (match keysD ks with
    | some k => (pairsT r).map ((k, .tup ks) :: ·)
    | none => none)
  | _ :: _ => none
def firstK (acc : List (List Key × D)) (p : List Key × D) : List (List Key × D) := if (acc.any fun q => decide (q.1 = p.1)) = true then acc else acc ++ [p]
def dDedup (x : D) : Ev D := fun M => match x with
  | .ref n => (match M[n]? with
    | some (.lst ds) => (match pairsT ds with
      | some ps => newl ((ps.foldl firstK []).map (·.2)) M
      | none => .no)
    | _ => .no)
  | _ => .no
/-! ### the meaning -/
def builtin1a (f : Str) : Option (D → Ev D) :=
  if f == "len" then some dLen else if f == "all" then some dAll else if f == "any" then some dAny else if f == "sum" then some dSum
  else if f == "tuple" then some dTuple else if f == "int" then some dInt else if f == "repr" then some dRepr
  else if f == "sorted" then some dSort else if f == "min" then some dMin1 else if f == "max" then some dMax1 else if f == "dict" then some dDict else none
def builtin1 (f : Str) : Option (D → Ev D) := if f == "str" then some dStr else builtin1a f
def builtinK (f : Str) : Option (D → D → Ev D) := if f == "max" then some dMaxK else if f == "min" then some dMinK else none
def builtin2 (f : Str) : Option (D → D → Ev D) := if f == "max" then some dMax2 else if f == "min" then some dMin2 else none
def meth1 (m : Str) : Option (D → D → Ev D) := if m == "append" then some mAppend else if m == "extend" then some mExtend else if m == "pop" then some mPopAt else if m == "index" then some mIndex else if m == "count" then some mCount else none
def meth2 (m : Str) : Option (D → D → D → Ev D) := if m == "insert" then some mInsert else none
def isBlt : GV → Bool
  | .blt => true
  | _ => false
def isFn : GV → Bool
  | .fn => true
  | _ => false
def isCls : GV → Bool
  | .cls => true
  | _ => false
/-- a part of a slice -/
def toPart (d : D) : Ev (Option Int) := fun M => match d with
  | .int i => .ok (some i) M
  | _ => .no
/-! ### shapes -/
def isStar : Expr → Bool
  | .Starred .. => true
  | _ => false
def isCall0 : Expr → Bool
  | .Call _ [] _ _ => true
  | _ => false
def isSlice : Expr → Bool
  | .Slice .. => true
  | _ => false
def isSetD : Expr → Bool
  | .Set .. => true
  | _ => false
def isComp : Expr → Bool
  | .ListComp .. => true
  | .SetComp .. => true
  | .DictComp .. => true
  | _ => false
def isTupE : Expr → Bool
  | .Tuple .. => true
  | _ => false
def plainT : Expr → Bool
  | .UnaryOp .Not _ _ => false
  | .BoolOp .. => false
  | .IfExp .. => false
  | .Compare .. => false
  | _ => true
inductive CmS where
  | isC (neg : Bool) (c : Const) | one (op : CmpOp) (b : Expr) | two (op op2 : CmpOp) (b c : Expr) | three (op op2 op3 : CmpOp) (b c d : Expr) | bad
def isIs : CmpOp → Bool
  | .Is => true
  | .IsNot => true
  | _ => false
def cmpSh : List CmpOp → List Expr → CmS
  | [op], [b] => (match op with
    | .Is => (match b with | .Constant .none _ _ => .isC false .none | .Constant (.bool k) _ _ => .isC false (.bool k) | _ => .bad)
    | .IsNot => (match b with | .Constant .none _ _ => .isC true .none | .Constant (.bool k) _ _ => .isC true (.bool k) | _ => .bad)
    | op => if isSetD b = true then .bad else .one op b)
  | [op, op2], [b, c] => if isIs op || isIs op2 || isSetD b || isSetD c then .bad else .two op op2 b c
  | [op, op2, op3], [b, c, d] => if isIs op || isIs op2 || isIs op3 || isSetD b || isSetD c || isSetD d then .bad else .three op op2 op3 b c d
  | _, _ => .bad
inductive CS where
  | fn (f : Str) (a : Expr) (r : List Expr) | lrg (p : Pos) (bs : List Expr) | trg (p : Pos) (bs : List Expr) | lset (p : Pos) (a : Expr) | ldic (p : Pos) (a : Expr) | jn (s : Str) (a : Expr) | sp (o a : Expr) | b1 (f : Str) (h : D → Ev D) (a : Expr) | isi (a : Expr) (T : Str) (p : Pos) | isT (a : Expr) (Ts : List Str) | b2 (f : Str) (h : D → D → Ev D) (a b : Expr)
  | m1 (o : Expr) (m : Str) (h : D → D → Ev D) (a : Expr) | m2 (o : Expr) (m : Str) (h : D → D → D → Ev D) (a b : Expr) | p0 (o : Expr) | g1 (o a : Expr) | g2 (o a b : Expr) | kc (C : Str) (as : List Expr) | mo (o : Expr) (m : Str) (as : List Expr) | lv (x : Str) (p : Pos) (a : Expr) (r : List Expr) | cv (o i : Expr) (p : Pos) (a : Expr) (r : List Expr) | bk (f : Str) (h : D → D → Ev D) (a c : Expr) (kp : Pos) | bad
def rngArg (S : SI) : Expr → Option (Pos × List Expr)
  | .Call (.Name g p) (b :: r) [] _ => if g == "range" && S.glb g && isBlt (S.G g) && !((b :: r).any isStar) then some (p, b :: r) else none
  | _ => none
def setArg (S : SI) : Expr → Option (Pos × Expr)
  | .Call (.Name g p) [b] [] _ => if g == "set" && S.glb g && isBlt (S.G g) && !isStar b then some (p, b) else none
  | _ => none
def dicArg (S : SI) : Expr → Option (Pos × Expr)
  | .Call (.Name g p) [b] [] _ => if g == "dict" && S.glb g && isBlt (S.G g) && !isStar b then some (p, b) else none
  | _ => none
def tyArg (S : SI) : Expr → Option (Str × Pos)
  | .Name T p => if S.glb T && isBlt (S.G T) && (isiT "int" T).isSome then some (T, p) else none
  | _ => none
def tyArgs (S : SI) : List Expr → Option (List Str)
  | [] => some []
  | b :: r => (match tyArg S b with
    | some (T, _) => (tyArgs S r).map (T :: ·)
    | none => none)
def tysArg (S : SI) : Expr → Option (List Str)
  | .Tuple es _ _ => if es.length ≤ 16 then tyArgs S es else none
  | _ => none
def bltSh (S : SI) (f : Str) : List Expr → CS
  | [a] => if isStar a = true then .bad else if f == "list" then (match rngArg S a with
      | some (p, bs) => .lrg p bs
      | none => (match dicArg S a with
        | some (p, b) => .ldic p b
        | none => .b1 f dList a))
    else if f == "tuple" then (match rngArg S a with
      | some (p, bs) => .trg p bs
      | none => .b1 f dTuple a)
    else if f == "len" then (match setArg S a with
      | some (p, b) => .lset p b
      | none => .b1 f dLen a)
    else (match builtin1 f with
      | some h => .b1 f h a
      | none => .bad)
  | [a, b] => if isStar a || isStar b then .bad else if f == "isinstance" then (match tyArg S b with
      | some (T, p) => .isi a T p
      | none => (match tysArg S b with
        | some Ts => .isT a Ts
        | none => .bad))
    else (match builtin2 f with
      | some h => .b2 f h a b
      | none => .bad)
  | _ => .bad
def callSh (S : SI) (g : Expr) (as : List Expr) (ks : List Keyword) (cp : Pos) : CS := match ks with
  | [] => (match g with
    | .Name f p => if S.glb f = true then (match S.G f with
        | .fn => (match as with
          | a :: r => if (a :: r).any isStar = true then .bad else .fn f a r
          | [] => .bad)
        | .blt => bltSh S f as
        | .kls => if as.any isStar = true then .bad else .kc f as
        | _ => .bad) else (match as with
          | a :: r => if (a :: r).any isStar = true then .bad else .lv f p a r
          | [] => .bad)
    | .Subscript o i p => if isSlice i = true then .bad else (match as with
      | a :: r => if (a :: r).any isStar = true then .bad else .cv o i p a r
      | [] => .bad)
    | .Attribute o m ap => if (ap.endLine == cp.line) = true then (match as with
      | [] => if isCall0 o = true then .bad else if m == "pop" then .p0 o else .mo o m []
      | [a] => if isStar a || isCall0 o then .bad else if m == "get" then .g1 o a else if m == "join" then (match o with
        | .Constant (.str s) _ _ => .jn s a
        | _ => .bad) else if m == "split" then .sp o a else (match meth1 m with
        | some h => .m1 o m h a
        | none => .mo o m [a])
      | [a, b] => if isStar a || isStar b || isCall0 o then .bad else if m == "get" then .g2 o a b else (match meth2 m with
        | some h => .m2 o m h a b
        | none => .mo o m [a, b])
      | _ => .bad) else .bad
    | _ => .bad)
  | [⟨some kn, c, kp⟩] => (match g with
    | .Name f _ => if S.glb f && isBlt (S.G f) && kn == "default" then (match as with
      | [a] => if isStar a = true then .bad else (match builtinK f with
        | some h => .bk f h a c kp
        | none => .bad)
      | _ => .bad) else .bad
    | _ => .bad)
  | _ => .bad
inductive BoS where
  | one (a : Expr) | more (a b : Expr) (r : List Expr) | bad
def boSh : List Expr → BoS
  | [a] => .one a
  | a :: b :: r => .more a b r
  | [] => .bad
inductive DiS where
  | nil | one (k : Int) (v : Expr) | gen (ps : List (Expr × Expr)) | bad
def zipKV : List (Option Expr) → List Expr → Option (List (Expr × Expr))
  | [], [] => some []
  | some k :: ks, v :: vs => (zipKV ks vs).map ((k, v) :: ·)
  | _, _ => none
def dicSh (ks : List (Option Expr)) (vs : List Expr) : DiS := match ks, vs with
  | [], [] => .nil
  | [some (.Constant (.int k) _ _)], [v] => .one k v
  | k :: ks, vs => if ks.length ≤ 14 then (match zipKV (k :: ks) vs with
    | some ps => .gen ps
    | none => .bad) else .bad
  | _, _ => .bad
/-- the pairs of a display, from the left -/
def kvGo (f : Expr → Ev D) : List (Expr × Expr) → Ev (List (D × D))
  | [] => ret []
  | p :: r => bnd (f p.1) fun x => bnd (f p.2) fun y => bnd (kvGo f r) fun ps => ret ((x, y) :: ps)
def keysP : List (D × D) → Option (List (Key × D))
  | [] => some []
  | p :: r => (match keyD p.1 with
    | some k => (keysP r).map ((k, p.2) :: ·)
    | none => none)
def mkDict (ps : List (D × D)) : Ev D := match keysP ps with
  | some kvs => newD (mergeD [] kvs)
  | none => stop
inductive LcS where
  | one (tg it : Expr) (ifs : Option Expr) | bad
def lcSh : List Comprehension → LcS
  | [⟨tg, it, [], 0⟩] => if isSetD it = true then .bad else .one tg it none
  | [⟨tg, it, [c], 0⟩] => if isSetD it = true then .bad else .one tg it (some c)
  | _ => .bad
def slSh : Expr → Option (Option Expr × Option Expr)
  | .Slice lo hi none _ => some (lo, hi)
  | _ => none
/-- is a step of -1 alone -/
def rvSh : Expr → Bool
  | .Slice none none (some (.UnaryOp .USub (.Constant (.int i) _ _) _)) _ => i == 1
  | _ => false
inductive ItS where
  | rng (as : List Expr) | enm (a : Expr) | zip (a b : Expr) | val | enz (a b : Expr)
/-- zip(a, b) -/
def zipSh (S : SI) : Expr → Option (Expr × Expr)
  | .Call (.Name f _) [a, b] [] _ => if f == "zip" && S.glb f && isBlt (S.G f) && !isStar a && !isStar b then some (a, b) else none
  | _ => none
def itSh (S : SI) (it : Expr) (pr : Bool) : ItS := match it with
  | .Call (.Name f _) as [] _ => if S.glb f && isBlt (S.G f) then
      (if f == "range" then (if as.any isStar = true then .val else .rng as)
      else if f == "enumerate" && pr then (match as with | [a] => if isStar a = true then .val else (match zipSh S a with | some (x, y) => .enz x y | none => .enm a) | _ => .val)
      else if f == "zip" && pr then (match as with | [a, b] => if isStar a || isStar b then .val else .zip a b | _ => .val) else .val) else .val
  | _ => .val
def strsOf : List D → Option (List Str)
  | [] => some []
  | .str i :: r => (strsOf r).map (i :: ·)
  | _ :: _ => none
/-- a.join(x) -/
def dJoin (a : Str) (x : D) : Ev D := fun M => match items x M with
  | some ds => (match strsOf ds with
    | some ys => if (ys.map (·.length)).sum + ys.length * a.length ≤ 16777216 then .ok (.str (Txt.join a ys)) M else .no
    | none => .no)
  | none => .no
/-- how many there are of a list, like ones once -/
def dset {α : Type} [DecidableEq α] : List α → Nat
  | [] => 0
  | x :: r => (if x ∈ r then 0 else 1) + dset r
def intsOf : List D → Option (List Int)
  | [] => some []
  | .int i :: r => (intsOf r).map (i :: ·)
  | _ :: _ => none
def rowsI : List D → Option (List (List Int))
  | [] => some []
  | .tup ds :: r => (match intsOf ds with
    | some k => (rowsI r).map (k :: ·)
    | none => none)
  | _ :: _ => none
/-- len(set(x)) -/
def dLSet (x : D) : Ev D := fun M => match x with
  | .tup ds => (match intsOf ds with
    | some ns => if ns.length ≤ 1000 then .ok (.int (dset ns : Nat)) M else .no
    | none => .no)
  | .ref n => (match M[n]? with
    | some (.lst ds) => (match rowsI ds with
      | some rs => if rs.length < 64 then .ok (.int (dset rs : Nat)) M else .no
      | none => .no)
    | _ => .no)
  | _ => .no
def unRng : Src → Ev D
  | .rng lo c k => newl ((List.range k).map fun (i : Nat) => .int (lo + (i : Int) * c))
  | _ => stop
def unTup : Src → Ev D
  | .rng lo c k => newt ((List.range k).map fun (i : Nat) => .int (lo + (i : Int) * c))
  | _ => stop
def isiA (Ts : List Str) (x : D) : Ev D := fun M => match dIsA x Ts M with
  | some b => .ok (.bl b) M
  | none => .no
def isiE (T : Str) (x : D) : Ev D := fun M => match dIsi x T M with
  | some b => .ok (.bl b) M
  | none => .no
def isE (neg : Bool) (c : Const) (x : D) : Ev D := opt (dIs x c) fun b => ret (.bl (if neg then !b else b))
/-- the def that a value is -/
def chkF (G : Str → GV) (x : D) : Ev Str := fun M => match x with
  | .fn f => if isFn (G f) = true then .ok f M else .no
  | _ => .no
/-- [f(x[y]) for y in x], [(x[y], ..) for y in x]: x -/
def subOf (x y : Str) : Expr → Bool
  | .Subscript (.Name a _) (.Name b _) _ => a == x && b == y
  | _ => false
def dkSh (S : SI) (tg it elt : Expr) : Option (Str × Nat) := match it, tg with
  | .Name x _, .Name y _ => if (match elt with
      | .Call (.Name _ _) [a] [] _ => subOf x y a
      | .Tuple (a :: _) _ _ => subOf x y a
      | _ => false) && S.vis x then (S.ix x).map fun i => (x, i) else none
  | _, _ => none
/-- what is walked: the dict that stands at i, locked -/
def dckI (i : Nat) (e : Env) : Ev Src := fun M => match e[i]? with
  | some (some (.ref n)) => (match M[n]? with
    | some (.fdc _) => .ok (.dck n) M
    | _ => .no)
  | _ => .no
/-- the dict that stands at i is locked the while -/
def lckE (i : Nat) (r : Env → Ev D) (e : Env) : Ev D := fun M => match e[i]? with
  | some (some (.ref n)) => (match M[n]? with
    | some (.dct kvs) => (match r e (M.set n (.fdc kvs)) with
      | .ok v M2 => (match M2[n]? with
        | some (.fdc kvs2) => .ok v (M2.set n (.dct kvs2))
        | _ => .no)
      | _ => .no)
    | _ => .no)
  | _ => .no
/-- x["text"], walked by a for: a dict -/
def dkF : Expr → Bool
  | .Subscript (.Name _ _) (.Constant (.str _) _ _) _ => true
  | _ => false
def dckD (d : D) : Ev Src := fun M => match d with
  | .ref k => (match M[k]? with
    | some (.fdc _) => .ok (.dck k) M
    | _ => .no)
  | _ => .no
/-- the dict that an expression tells is locked the while -/
def lckS (rit : Env → Ev D) (r : Env → Ev Out) (e : Env) : Ev Out := fun M => match rit e M with
  | .ok (.ref n) _ => (match M[n]? with
    | some (.dct kvs) => (match r e (M.set n (.fdc kvs)) with
      | .ok o M2 => (match M2[n]? with
        | some (.fdc kvs2) => .ok o (M2.set n (.dct kvs2))
        | _ => .no)
      | _ => .no)
    | _ => .no)
  | _ => .no
noncomputable section
mutual
def denE (Phi : Tab) : Nat → SI → Expr → Env → Ev D
  | 0, _, _, _ => stop
  | n + 1, S, ex, e => match ex with
    | .Name x _ => if S.vis x = true then (match S.ix x with
        | some i => getS i e
        | none => stop)
      else if S.glb x = true then (match S.G x with
        | .int i => ret (.int i)
        | .fn => ret (.fn x)
        | .txt z => ret (.str z)
        | _ => stop)
      else stop
    | .Constant c _ _ => (match c with
      | .none => ret .non
      | .bool b => ret (.bl b)
      | .int i => ret (.int i)
      | .str x => ret (.str x)
      | _ => stop)
    | .BinOp a op b _ => bnd (denE Phi n S a e) fun x => bnd (denE Phi n S b e) fun y => dBin op x y
    | .UnaryOp op a p => (match op with
      | .USub => bnd (denE Phi n S a e) dNeg
      | .Not => bnd (denE Phi n S a e) fun x => bnd (toB x) fun b => ret (.bl (!b))
      | _ => stop)
    | .BoolOp op as p => (match boSh as with
      | .one a => denE Phi n S a e
      | .more a b r => bnd (denE Phi n S a e) fun x => (match op with
        | .And => bnd (toB x) fun c => if c = true then denE Phi n S (.BoolOp .And (b :: r) p) e else ret (.bl false)
        | .Or => bnd (toS x) fun c => if c = true then ret x else denE Phi n S (.BoolOp .Or (b :: r) p) e)
      | .bad => stop)
    | .IfExp t a b _ => bnd (denT Phi n S t e) fun c => if c = true then denE Phi n S a e else denE Phi n S b e
    | .Compare a ops bs _ => (match cmpSh ops bs with
      | .isC neg c => bnd (denE Phi n S a e) (isE neg c)
      | .one op b => bnd (denE Phi n S a e) fun x => bnd (denE Phi n S b e) fun y => dCmp op x y
      | .two op op2 b c => bnd (denE Phi n S a e) fun x => bnd (denE Phi n S b e) fun y => bnd (dCmp op x y) fun z => bnd (toB z) fun k =>
          if k = true then bnd (denE Phi n S c e) fun w => dCmp op2 y w else ret (.bl false)
      | .three op op2 op3 b c d => bnd (denE Phi n S a e) fun x => bnd (denE Phi n S b e) fun y => bnd (dCmp op x y) fun z => bnd (toB z) fun k =>
          if k = true then bnd (denE Phi n S c e) fun w => bnd (dCmp op2 y w) fun z2 => bnd (toB z2) fun k2 => if k2 = true then bnd (denE Phi n S d e) fun v => dCmp op3 w v else ret (.bl false) else ret (.bl false)
      | .bad => stop)
    | .Call g as ks cp => (match callSh S g as ks cp with
      | .fn f a r => bnd (denA Phi n S (a :: r) e) fun vs => Phi f vs
      | .lrg _ bs => bnd (denA Phi n S bs e) fun vs => bnd (srcW vs) unRng
      | .trg _ bs => bnd (denA Phi n S bs e) fun vs => bnd (srcR vs) unTup
      | .lset _ a => bnd (denE Phi n S a e) dLSet
      | .ldic _ a => bnd (denE Phi n S a e) dDedup
      | .jn s a => bnd (denE Phi n S a e) (dJoin s)
      | .sp o a => bnd (denE Phi n S o e) fun x => bnd (chkS x) fun _ => bnd (denE Phi n S a e) fun y => dSplit x y
      | .b1 _ h a => bnd (denE Phi n S a e) h
      | .isi a T _ => bnd (denE Phi n S a e) (isiE T)
      | .isT a Ts => bnd (denE Phi n S a e) (isiA Ts)
      | .b2 _ h a b => bnd (denE Phi n S a e) fun x => bnd (denE Phi n S b e) fun y => h x y
      | .m1 o _ h a => bnd (denE Phi n S o e) fun x => bnd (chkL x) fun _ => bnd (denE Phi n S a e) fun y => h x y
      | .m2 o _ h a b => bnd (denE Phi n S o e) fun x => bnd (chkL x) fun _ => bnd (denE Phi n S a e) fun y => bnd (denE Phi n S b e) fun z => h x y z
      | .p0 o => bnd (denE Phi n S o e) fun x => bnd (chkL x) fun _ => mPop x
      | .g1 o a => bnd (denE Phi n S o e) fun x => bnd (chkD x) fun _ => bnd (denE Phi n S a e) fun y => dGet x y .non
      | .g2 o a b => bnd (denE Phi n S o e) fun x => bnd (chkD x) fun _ => bnd (denE Phi n S a e) fun y => bnd (denE Phi n S b e) fun z => dGet x y z
      | .kc C as => opt (S.mth C "__init__") fun k => bnd (denA Phi n S as e) fun vs => mkObj Phi C k vs
      | .mo o m as => bnd (denE Phi n S o e) fun x => bnd (chkM S.mth m x) fun k => bnd (denA Phi n S as e) fun vs => Phi k (x :: vs)
      | .lv x p a r => bnd (denE Phi n S (.Name x p) e) fun x => bnd (chkF S.G x) fun f => bnd (denA Phi n S (a :: r) e) fun vs => Phi f vs
      | .cv o i p a r => bnd (denE Phi n S (.Subscript o i p) e) fun x => bnd (chkF S.G x) fun f => bnd (denA Phi n S (a :: r) e) fun vs => Phi f vs
      | .bk _ h a c _ => bnd (denE Phi n S a e) fun x => bnd (denE Phi n S c e) fun y => h x y
      | .bad => stop)
    | .Attribute o f _ => if isCall0 o = true then stop else bnd (denE Phi n S o e) (dFld S.fld f)
    | .Subscript o i _ => (match slSh i with
      | some (lo, hi) => bnd (denE Phi n S o e) fun x => bnd (denP Phi n S lo e) fun l => bnd (denP Phi n S hi e) fun h => dSlice x l h
      | none => if rvSh i = true then bnd (denE Phi n S o e) dRev else if isSlice i = true then stop else bnd (denE Phi n S o e) fun x => bnd (denE Phi n S i e) fun y => dIdx x y)
    | .List es _ => if es.any isStar = true then stop else bnd (denA Phi n S es e) newl
    | .Tuple es _ _ => if es.any isStar = true then stop else bnd (denA Phi n S es e) newt
    | .Dict ks vs _ => (match dicSh ks vs with
      | .nil => newD []
      | .one k v => bnd (denE Phi n S v e) fun x => newD [(.inl k, x)]
      | .gen ps => bnd (kvGo (fun x => denE Phi n S x e) ps) mkDict
      | .bad => stop)
    | .ListComp elt gs sc _ => (match lcSh gs with
      | .one tg it ifs => if blkC S.N { kind := .function, names := S.sc, isGenerator := false, isCoroutine := false, more := [] } sc (ownOf S sc.names) = true ∧ tgOwn (ownOf S sc.names) tg = true then
          (match dkSh S tg it elt with
          | some (_, i) => lckE i (fun e => bnd (dckI i e) fun s =>
            lcS s (tgO (S.blk sc.names) tg) (fun e1 => match ifs with | none => ret true | some c => denT Phi n (S.blk sc.names) c e1) (fun e1 => denE Phi n (S.blk sc.names) elt e1) (wipeE e ((ownOf S sc.names).map (·.2)))) e
          | none => bnd (denI Phi n S it (isTupE tg) e) fun s =>
            lcS s (tgO (S.blk sc.names) tg) (fun e1 => match ifs with | none => ret true | some c => denT Phi n (S.blk sc.names) c e1) (fun e1 => denE Phi n (S.blk sc.names) elt e1) (wipeE e ((ownOf S sc.names).map (·.2))))
          else stop
      | .bad => stop)
    | _ => stop
def denP (Phi : Tab) : Nat → SI → Option Expr → Env → Ev (Option Int)
  | 0, _, _, _ => stop
  | n + 1, S, o, e => match o with
    | none => ret none
    | some x => bnd (denE Phi n S x e) toPart
def denT (Phi : Tab) : Nat → SI → Expr → Env → Ev Bool
  | 0, _, _, _ => stop
  | n + 1, S, ex, e => if plainT ex = true then bnd (denE Phi n S ex e) toB else match ex with
    | .UnaryOp .Not a _ => bnd (denT Phi n S a e) fun b => ret (!b)
    | .BoolOp op as p => (match boSh as with
      | .one a => denT Phi n S a e
      | .more a b r => bnd (denT Phi n S a e) fun c => (match op with
        | .And => if c = true then denT Phi n S (.BoolOp .And (b :: r) p) e else ret false
        | .Or => if c = true then ret true else denT Phi n S (.BoolOp .Or (b :: r) p) e)
      | .bad => stop)
    | .Compare a ops bs p => (match cmpSh ops bs with
      | .isC neg c => bnd (bnd (denE Phi n S a e) (isE neg c)) toB
      | .one op b => bnd (bnd (denE Phi n S a e) fun x => bnd (denE Phi n S b e) fun y => dCmp op x y) toB
      | .two op op2 b c => bnd (bnd (denE Phi n S a e) fun x => bnd (denE Phi n S b e) fun y => bnd (dCmp op x y) fun z => bnd (toB z) fun k =>
          if k = true then bnd (denE Phi n S c e) fun w => dCmp op2 y w else ret (.bl false)) toB
      | .three op op2 op3 b c d => bnd (bnd (denE Phi n S a e) fun x => bnd (denE Phi n S b e) fun y => bnd (dCmp op x y) fun z => bnd (toB z) fun k =>
          if k = true then bnd (denE Phi n S c e) fun w => bnd (dCmp op2 y w) fun z2 => bnd (toB z2) fun k2 => if k2 = true then bnd (denE Phi n S d e) fun v => dCmp op3 w v else ret (.bl false) else ret (.bl false)) toB
      | .bad => stop)
    | _ => stop
def denA (Phi : Tab) : Nat → SI → List Expr → Env → Ev (List D)
  | 0, _, _, _ => stop
  | n + 1, S, as, e => match as with
    | [] => ret []
    | x :: r => if isStar x = true then stop else bnd (denE Phi n S x e) fun d => bnd (denA Phi n S r e) fun ds => ret (d :: ds)
/-- what a for walks: pr: its target is a written tuple -/
def denI (Phi : Tab) : Nat → SI → Expr → Bool → Env → Ev Src
  | 0, _, _, _, _ => stop
  | n + 1, S, it, pr, e => match itSh S it pr with
    | .rng as => bnd (denA Phi n S as e) srcW
    | .enm a => bnd (denA Phi n S [a] e) srcE
    | .zip a b => bnd (denA Phi n S [a, b] e) srcZ
    | .enz a b => bnd (denA Phi n S [a, b] e) srcEZ
    | .val => if isSetD it = true then stop else bnd (denE Phi n S it e) srcOf
end
end
/-- how often a while may turn (not to be looked at by the kernel) -/
theorem WF_ex : ∃ n : Nat, n = 100000 := ⟨_, rfl⟩
noncomputable def WF : Nat := Classical.choose WF_ex
theorem WF_eq : WF = 100000 := Classical.choose_spec WF_ex
/-- x.replace(p, q) of written texts -/
def dRepl (x : D) (p q : Str) : Ev D := fun M => match x with
  | .str z => if z.length + (z.length + 1) * q.length ≤ 16777216 then .ok (.str (Txt.replace z p q)) M else .no
  | _ => .no
/-- z.replace(p, q) of a name -/
def repSh : Expr → Option (Expr × Str × Str)
  | .Call (.Attribute (.Name z zp) a ap) [.Constant (.str p) _ _, .Constant (.str q) _ _] [] cp => if a == "replace" && !(p == q) && (ap.endLine == cp.line) then some (.Name z zp, p, q) else none
  | _ => none
def isSC : Expr → Bool
  | .Constant (.str _) _ _ => true
  | _ => false
/-- the second of two statements: x = y + [.., z.replace(p, q), ..] behind x = [.., a text, ..] -/
def rplSh : Stmt → List Stmt → Option (Expr × Expr × List Expr × List Stmt)
  | .Assign [.Name _ _] (.List es _) _, .Assign [.Name x p2] (.BinOp (.Name y p3) .Add (.List rs _) _) _ :: r2 =>
    if es.any isSC && !es.any isStar && rs.any (fun e => (repSh e).isSome) && !rs.any isStar then some (.Name x p2, .Name y p3, rs, r2) else none
  | _, _ => none
noncomputable def denR (Phi : Tab) (n : Nat) (S : SI) : List Expr → Env → Ev (List D)
  | [], _ => ret []
  | x :: r, e => bnd (match repSh x with
    | some (z, p, q) => bnd (denE Phi n S z e) fun d => dRepl d p q
    | none => denE Phi n S x e) fun d => bnd (denR Phi n S r e) fun ds => ret (d :: ds)
noncomputable def denRS (Phi : Tab) (n : Nat) (S : SI) (t y : Expr) (rs : List Expr) (e : Env) : Ev Out :=
  bnd (bnd (denE Phi n S y e) fun l => bnd (bnd (denR Phi n S rs e) newl) fun k => dAdd l k) fun d => opt (tgO S t d e) fun e' => ret (.nx e')
/-- except PuffError as e: return w(e) -/
def hndl (S : SI) : List ExceptHandler → Option (Str × Str)
  | [.ExceptHandler (some (.Name p _)) (some en) [.Return (some (.Call (.Name w _) [.Name en2 _] [] _)) _] _] =>
    if p == "PuffError" && en == en2 && S.sc.lookup en == some .local && (S.ix en).isSome && S.glb p && isCls (S.G p) && S.glb w && (match S.G w with | .wrd => true | _ => false) then some (en, w) else none
  | _ => none
/-- what a try leads to: an exception is told as its word -/
def tryW (Wd : Str → Option Str) (b : Ev Out) : Ev Out := fun M => match b M with
  | .ex c M1 => (match Wd c with
    | some x => .ok (.rt (.str x)) M1
    | none => .no)
  | r => r
/-- stores from the right: what is known of it -/
def swP (sc : List (Str × NameKind)) (ts vs : List Expr) : Option (Option (List Str)) :=
  if !(ts.length == 2 || ts.length == 3) || vs.length != ts.length then some none
  else if vs.any isStar then some none
  else if (ts.filterMap fun t => match t with | .Name id pos => if sc.lookup id == some .local && pos.line == (ts.head?.map (·.pos.line)).getD 0 then some id else none | _ => none).length != ts.length ||
      (ts.filterMap fun t => match t with | .Name id pos => if sc.lookup id == some .local && pos.line == (ts.head?.map (·.pos.line)).getD 0 then some id else none | _ => none).eraseDups.length != (ts.filterMap fun t => match t with | .Name id pos => if sc.lookup id == some .local && pos.line == (ts.head?.map (·.pos.line)).getD 0 then some id else none | _ => none).length then some none
  else if vs.all (foldedForSure 8) then some none
  else if vs.all (constantsAlone 8) then none
  else some (some (ts.filterMap fun t => match t with | .Name id pos => if sc.lookup id == some .local && pos.line == (ts.head?.map (·.pos.line)).getD 0 then some id else none | _ => none))
inductive AsS where
  | sub (o i : Expr) | sw (o i o2 i2 : Expr) | tg (t : Expr) | fld (o : Expr) (f : Str) | p2 (x y : Str) (a b : Expr) | p3 (x y z : Str) (a b c : Expr) | bad
def isLoc (S : SI) (x : Str) : Bool := S.sc.lookup x == some .local
/-- is it a comprehension over a dict -/
def lckV (S : SI) : Expr → Bool
  | .ListComp elt gs _ _ => (match lcSh gs with
    | .one tg it _ => (dkSh S tg it elt).isSome
    | .bad => false)
  | _ => false
def asSh (S : SI) : List Expr → Expr → AsS
  | [.Subscript o i _], _ => if isSlice i = true then .bad else .sub o i
  | [.Attribute o f _], _ => if isCall0 o = true then .bad else .fld o f
  | [.Name x p], v => if S.loc x && ((S.ix x).isSome && !lckV S v) then .tg (.Name x p) else .bad
  | [.Tuple es k p], v => (match v with
    | .Tuple vs _ _ => (match swP S.sc es vs with
      | some none => (match es with
        | [.Subscript o i _, .Subscript o2 i2 _] => if isSlice i || isSlice i2 then .bad else .sw o i o2 i2
        | _ => .tg (.Tuple es k p))
      | some (some ns) => (match es, vs with
        | [.Name x _, .Name y _], [a, b] => if ns == [x, y] && isLoc S x && isLoc S y && x != y && !isStar a && !isStar b then .p2 x y a b else .bad
        | [.Name x _, .Name y _, .Name z _], [a, b, c] => if ns == [x, y, z] && isLoc S x && isLoc S y && isLoc S z && x != y && x != z && y != z && !isStar a && !isStar b && !isStar c then .p3 x y z a b c else .bad
        | _, _ => .bad)
      | none => .bad)
    | _ => .tg (.Tuple es k p))
  | _, _ => .bad
/-- the two of a pair -/
def dTwo (d : D) : Ev (D × D) := match d with
  | .tup [a, b] => ret (a, b)
  | _ => stop
def set2 (i j : Nat) (e : Env) (vs : List D) : Ev Out := match vs with
  | [u, v] => ret (.nx ((e.set i (some u)).set j (some v)))
  | _ => stop
def set3 (i j k : Nat) (e : Env) (vs : List D) : Ev Out := match vs with
  | [u, v, w] => ret (.nx (((e.set i (some u)).set j (some v)).set k (some w)))
  | _ => stop
def rsSh (S : SI) : Option Expr → Option Expr → Option (Str × Expr)
  | some (.Call (.Name c _) [a] [] _), none => if S.glb c && isCls (S.G c) && !isStar a then some (c, a) else none
  | _, _ => none
noncomputable section
mutual
def denS (Phi : Tab) : Nat → SI → Stmt → Env → Ev Out
  | 0, _, _, _ => stop
  | n + 1, S, st, e => match st with
    | .Return o _ => (match o with
      | some x => bnd (denE Phi n S x e) fun d => ret (.rt d)
      | none => ret (.rt .non))
    | .Expr x _ => if isComp x = true then stop else bnd (denE Phi n S x e) fun _ => ret (.nx e)
    | .Assign ts v _ => (match asSh S ts v with
      | .sub o i => bnd (denE Phi n S v e) fun d => bnd (denE Phi n S o e) fun x => bnd (denE Phi n S i e) fun k => bnd (setIx x k d) fun _ => ret (.nx e)
      | .sw o i o2 i2 => bnd (denE Phi n S v e) fun d => bnd (dTwo d) fun ab => bnd (denE Phi n S o e) fun x => bnd (denE Phi n S i e) fun k => bnd (setIx x k ab.1) fun _ => bnd (denE Phi n S o2 e) fun y => bnd (denE Phi n S i2 e) fun m => bnd (setIx y m ab.2) fun _ => ret (.nx e)
      | .fld o f => bnd (denE Phi n S v e) fun d => bnd (denE Phi n S o e) fun x => bnd (setF S.fld f x d) fun _ => ret (.nx e)
      | .tg tg => bnd (denE Phi n S v e) fun d => opt (tgO S tg d e) fun e' => ret (.nx e')
      | .p2 x y a b => opt (S.ix x) fun i => opt (S.ix y) fun j => bnd (denA Phi n S [a, b] e) (set2 i j e)
      | .p3 x y z a b c => opt (S.ix x) fun i => opt (S.ix y) fun j => opt (S.ix z) fun k => bnd (denA Phi n S [a, b, c] e) (set3 i j k e)
      | .bad => stop)
    | .If t a b _ => bnd (denT Phi n S t e) fun c => if c = true then denB Phi n S a e else denB Phi n S b e
    | .For tg it body els _ => if els.isEmpty then (if dkF it = true then lckS (denE Phi n S it) (fun e => bnd (bnd (denE Phi n S it e) dckD) fun s => forS s (tgO S tg) (denB Phi n S body) e) e
        else bnd (denI Phi n S it (isTupE tg) e) fun s => forS s (tgO S tg) (denB Phi n S body) e) else stop
    | .While t body els _ => if els.isEmpty then whileGo (denT Phi n S t) (denB Phi n S body) WF e else stop
    | .Raise x c _ => opt (rsSh S x c) fun w => bnd (denE Phi n S w.2 e) fun _ => fun M => .ex w.1 M
    | .Try body hs els fin _ => if els.isEmpty && fin.isEmpty then (match hndl S hs with
      | some _ => tryW S.Wd (denB Phi n S body e)
      | none => stop) else stop
    | .Pass _ => ret (.nx e)
    | .Break _ => ret (.bk e)
    | .Continue _ => ret (.ct e)
    | _ => stop
def denB (Phi : Tab) : Nat → SI → List Stmt → Env → Ev Out
  | 0, _, _, _ => stop
  | n + 1, S, sts, e => match sts with
    | [] => ret (.nx e)
    | st :: r => (match rplSh st r with
      | some (t, y, rs, r2) => fun M => (match denS Phi n S st e M with
        | .ok (.nx e1) M1 => (match denRS Phi n S t y rs e1 M1 with
          | .ok (.nx e2) M2 => denB Phi n S r2 e2 M2
          | r => r)
        | r => r)
      | none => fun M => (match denS Phi n S st e M with
        | .ok (.nx e1) M1 => denB Phi n S r e1 M1
        | r => r))
end
/-- a def's body at its arguments -/
def denF (Phi : Tab) (n : Nat) (S : SI) (ar : Nat) (body : List Stmt) (vs : List D) : Ev D := fun M =>
  if vs.length = ar then (match denB Phi n S body (vs.map some ++ List.replicate (S.N.length - vs.length) none) M with
    | .ok (.nx _) M1 => .ok .non M1
    | .ok (.rt d) M1 => .ok d M1
    | .ok _ _ => .no
    | .ex c M1 => .ex c M1
    | .no => .no)
  else .no
end
end Pf
set_option maxHeartbeats 2000000
/-! Pf: a def's promise where no repr is under way. -/
namespace Pf
open PySem PySem.Spec PyProof.Rows L2

structure FnG (P : Program) (w : World) (K : PySem.W.Frag) (mg : Str → Option Value) (base : Heap) (CX : CXT) (k : Nat) (f : Addr) (fd : FuncData) (ps : List Str) (sp : Sp) : Prop where
  len : ∀ vs H Q E, sp vs H Q E → vs.length = ps.length
  run : ∀ (A : Around) (outer : List PySem.Env) (s : Shared) (H : Hp) (args : Args) (us : List Value) (vs : List V) (Q : VK) (E : XK), Room k A → A.guards = some [] →
    Env0 P w K mg base A outer s H → BindsTo s fd args (ps.zip us) → Vals vs us → sp vs H Q E → codeAny (model P w) A (.call (.ref f) args) (L2.CR CX outer P w H s Q E) s

section
variable {P : Program} {w : World} {K : PySem.W.Frag} {mg : Str → Option Value} {base : Heap} {CX : CXT} {k : Nat} {f : Addr} {name qual : Str} {params : Arguments} {body : List Stmt} {scope : Scope} {dV kV doc pm cdv ct oc : Value} {an od : Option Addr}
  {osl : Array (Option Value)} {N ps : List Str} {sp : Sp}
theorem end_of {A : Around} {outer : List PySem.Env} {s s' : Shared} {H : Hp} {Q : VK} {E : XK} {fl : Flow}
    (z : SP (cxOf CX P w K mg base N qual scope f cdv A outer s H E) [] { nx := fun _ H' => Q .non H', rt := Q } fl s') :
    ∃ u, (fl = .ret u ∨ (fl = .next ∧ u = .none)) ∧ CE outer P w H s Q u s' := by
  cases fl with
  | next =>
    obtain ⟨_, Hn, J, q⟩ := z
    exact ⟨.none, .inr ⟨rfl, rfl⟩, .non, Hn, J.os, J.bare, J.base, J.hok, rfl, q⟩
  | ret u =>
    obtain ⟨v, _, Hn, J, rv, q⟩ := z
    exact ⟨u, .inl rfl, v, Hn, J.os, J.bare, J.base, J.hok, rv, q⟩
  | brk => exact z.elim fun _ z => z.elim fun _ z => z.2.elim
  | cont => exact z.elim fun _ z => z.elim fun _ z => z.2.elim
/-- a def by its body, as fn_of, where the guards are told to the body -/
theorem fnG_of (lk : K.lookup f = some ⟨oc, od, .func (PySem.W.fnOf name qual params body scope dV kV doc pm an cdv ct), osl⟩) (hcd : PySem.W.codeIn K cdv qual = true) (S : FnScope N ps scope)
    (len : ∀ vs H Q E, sp vs H Q E → vs.length = ps.length)
    (go : ∀ (A : Around) (outer : List PySem.Env) (s : Shared) (H : Hp) (vs : List V) (Q : VK) (E : XK), Room k (A.deeper (envOfC qual scope s.heap.objs.size f cdv)) → A.guards = some [] → sp vs H Q E →
      ∃ t, PSs (cxOf CX P w K mg base N qual scope f cdv A outer s H E) body t ∧ t { nx := fun _ H' => Q .non H', rt := Q } (L2.start N vs) H) :
    FnG P w K mg base CX (k + 1) f (PySem.W.fnOf name qual params body scope dV kV doc pm an cdv ct) ps sp where
  len := len
  run A outer s H args us vs Q E room hgd ent bd rv hs := by
    have keepB : ∀ b o, base.get? b = some o → s.heap.get? b = some o := fun b o z => (ent.bs b o z).1
    have inK : K.In s.heap := ent.mod.kin.keeps keepB
    have nl : s.heap.NoLimit := ent.mod.nolimit.keeps keepB
    have eqL := len _ _ _ _ hs
    have kinds : ∀ y ∈ ps.zip us, scope.names.lookup y.1 = some .local ∨ (scope.names.lookup y.1 = some .cell ∧ ((cellsFrom (s.heap.objs.size + 1) scope.names []).lookup y.1).isSome = true) := by
      rintro ⟨n, v⟩ hy
      cases S.par n (List.of_mem_zip hy).1 with
      | inl q => exact .inl q
      | inr q => exact .inr ⟨q, PySem.W.cellsFrom_some _ _ _ (.inl q)⟩
    apply codeAny_call_function room.depth (inK _ _ lk) rfl S.co S.gen rfl (PySem.W.codeRec_of inK hcd) (bd _ _ _ _ ?_)
    apply wpAny_newFunctionEnv_cells S.kind kinds
    intro env he s1 x
    cases he
    refine ⟨nl.keeps x.toInCall.keep, codeAny_func ?_⟩
    obtain ⟨t, ht, hq⟩ := go A outer s H vs Q E (room.deeper _) hgd hs
    have start := inv_start (E := E) (CX := CX) S room.hd ent eqL rv x
    apply wpAny_mono (ht.run [] s1 (L2.start N vs) H _ start hq) ?_ (fun _ _ z => z)
    intro fl s' z
    obtain ⟨u, e, ce⟩ := end_of z
    rcases e with rfl | ⟨rfl, rfl⟩
    · exact ce
    · exact ce
end

/-- a def of one parameter that is told an exception, and tells its class's word -/
structure FnX (P : Program) (w : World) (K : PySem.W.Frag) (mg : Str → Option Value) (base : Heap) (k : Nat) (f : Addr) (fd : FuncData) (ps : List Str) (ga : Str → Addr) (word : Str → Option Str) : Prop where
  run : ∀ (A : Around) (outer : List PySem.Env) (s : Shared) (H : Hp) (args : Args) (Q : VK) (E : XK) (p : Addr × Obj) (c x : Str), L2H.RoomH k A → L2H.PinOk outer H s p → Env0 P w K mg base A outer s H → BindsTo s fd args (ps.zip [.ref p.1]) → Zc (.ref (ga c)) none p.2 → (∃ vs, p.2.data = .fields vs) →
    word c = some x → (∀ H', (∀ a o, H a = some o → H' a = some o) → Q (.str x) H') → codeAny (model P w) A (.call (.ref f) args) (L2.CR (L2.CX P w) outer P w H s Q E) s
/-! ### the context of a piece of code -/
/-- what is wanted of a def's call -/
def spOf (K : PySem.W.Frag) (ga : Str → Addr) (ar : Nat) (F : List D → Ev D) : Sp := fun vs H Q E => ∃ rho M ds, MR K ga rho H M ∧ VRs K ga rho H ds vs ∧ ds.length = ar ∧
  (match F ds M with
  | .ok d M' => ∀ rho' H' v, Ext rho H rho' H' → MR K ga rho' H' M' → VR K ga rho' H' d v → Q v H'
  | .ex c M' => ∀ rho' H', Ext rho H rho' H' → MR K ga rho' H' M' → E (.ref (ga c)) none H'
  | .no => False)
structure CalM (X : Cx) (ga : Str → Addr) (x : Str) (F : List D → Ev D) : Prop where
  fn : ∃ k fd ps, FnG X.prog X.w X.K X.mg X.base (L2.CX X.prog X.w) k (ga x) fd ps (spOf X.K ga ps.length F) ∧ Room (k + 1) X.A ∧ (∀ ds M, ds.length ≠ ps.length → F ds M = .no) ∧
    ∀ (s : Shared) (us : List Value), X.K.In s.heap → us.length = ps.length → BindsTo s fd ⟨us, []⟩ (ps.zip us)
structure Cal (X : Cx) (ga : Str → Addr) (x : Str) (F : List D → Ev D) : Prop extends CalM X ga x F where
  mg : X.mg x = some (.ref (ga x))
  kp : PySem.W.keepIn X.K (.ref (ga x)) = true
/-- what is known of the def that tells words -/
structure WrdC (X : Cx) (ga : Str → Addr) (Wd : Str → Option Str) (w : Str) : Prop where
  mg : X.mg w = some (.ref (ga w))
  kp : PySem.W.keepIn X.K (.ref (ga w)) = true
  fn : ∃ fd ps, FnX X.prog X.w X.K X.mg X.base 1 (ga w) fd ps ga Wd ∧ ∀ (s : Shared) (us : List Value), X.K.In s.heap → us.length = 1 → BindsTo s fd ⟨us, []⟩ (ps.zip us)
  rm : Room 1 X.A
structure OKX (S : SI) (Phi : Tab) (ga : Str → Addr) (W : WX) (X : Cx) : Prop where
  N : X.N = S.N
  nd : S.N.Nodup
  sc : X.env.scope.names = S.sc
  kd : X.env.scope.kind = .function
  bk : X.env.blockKind = .function
  calm : X.calm = true
  tk : Takes X W
  gds : X.A.guards = some []
  rm : Room 0 X.A
  fns : ∀ x, S.G x = .fn → Cal X ga x (Phi x)
  blt : ∀ x, S.G x = .blt → X.mg x = none
  intg : ∀ x i, S.G x = .int i → ∃ t, X.mg x = some (.int i t)
  txtg : ∀ x z, S.G x = .txt z → ∃ t, X.mg x = some (.str z t)
  cls : ∀ x, S.G x = .cls → PySem.W.excIn X.K (ga x) He.veBase "ValueError.__new__" = true ∧ X.mg x = some (.ref (ga x)) ∧ PySem.W.keepIn X.K (.ref (ga x)) = true ∧ Raises X (.ref (ga x))
  wrd : ∀ x, S.G x = .wrd → WrdC X ga S.Wd x
  exm : ∀ c x, S.Wd c = some x → PySem.W.exmOne X.K (.ref (ga c)) (.ref (ga "PuffError")) = some true
  mths : ∀ C m k, S.mth C m = some k → Cls X.K (ga C) ∧ Meth X.K (ga C) m (ga k) ∧ CalM X ga k (Phi k)
  flds : ∀ C f, S.fld C f = true → Cls X.K (ga C) ∧ NoAttr X.K (ga C) f
  kls : ∀ C k, S.G C = .kls → S.mth C "__init__" = some k → X.mg C = some (.ref (ga C)) ∧ Mk X.K (ga C) (ga k)
  sysm : ∃ o, X.K.lookup sysModules = some o ∧ o.cls = .type "dict"
  fnc : ∀ x, S.fc x = true → X.fn x = true
  nN : ∀ x ∈ S.N, (x == ("__debug__" : Str)) = false ∧ (x == ("__classdict__" : Str)) = false
  nG : ∀ x, (match S.G x with | .unk => False | _ => True) → (x == ("__debug__" : Str)) = false ∧ x ≠ "__name__"
end Pf
set_option maxHeartbeats 4000000
/-! Pf: new tuples have no dict of their own; dict() of a tuple. -/
namespace Pf
open PySem PySem.Spec PyProof.Rows L2
/-- a new tuple as it stands -/
def newT (its : List Value) : Obj := { cls := .type "tuple", data := .seq its.toArray }
section
variable {X : Cx} {pins : List (Addr × Obj)} {sg : L2.St} {H : Hp} {s : Shared}
theorem laidT (I : Inv X pins sg H s) {its : List Value} {xs : List V} (tk : Nat) (hz : xs.length ≤ sizeLine) (r : Vals xs its) :
    Inv X pins sg (upd H s.heap.objs.size (.frz (newT its) (.tup xs))) { s with heap := s.heap.push (newT its), toks := tk } :=
  I.laid (t' := tk) (fun b u e => Heap.get?_push_of_some _ e) (Nat.le_refl _) (show ObjOk X.prog X.w _ _ _ (.frz (newT its) (.tup xs)) from ⟨Heap.get?_push_size _ rfl, hz, its, r, IsTup.new _ _⟩)
end
section
variable {X : Cx}
/-- (..) -/
def tTupF (t : TA) : TE := fun sg H Q => t sg H fun xs H1 => xs.length ≤ sizeLine ∧ ∀ p (o : Obj), H1 p = none → o.dict = none → Q (.ref p) (upd H1 p (.frz o (.tup xs)))
theorem pe_tupF {es : List Expr} {t : TA} {k : Nat} {pos : Pos} (h : PA X es t) : PE X (.Tuple es k pos) (tTupF t) := by
  refine ⟨fun pins s sg H Q I hq => ?_⟩
  refine wpAny_Tuple_spliced (thn (h.run pos pins s sg H _ I hq) fun us s1 ⟨xs, H1, I1, r, z, q⟩ => ⟨by rw [← r.length]; exact z, ?_⟩)
  exact ⟨.ref s1.heap.objs.size, _, laidT I1 s1.toks z r, rfl, q _ _ (I1.hok.fresh (Nat.le_refl _)) rfl⟩
/-- tuple(..) -/
theorem call_tupleF : CallR X (.type "tuple") (fun xs H Q => ∃ p ys, xs = [.ref p] ∧ ((SqL X.K H p ys ∧ ∀ l (o : Obj), H l = none → o.dict = none → Q (.ref l) (upd H l (.frz o (.tup ys)))) ∨ (SqT X.K H p ys ∧ Q (.ref p) H))) := by
  intro pins s sg H xs us Q I r h
  obtain ⟨p, ys, rfl, h⟩ := h
  rcases h with ⟨hq, q⟩ | h
  · obtain ⟨u, rfl, rx⟩ := vals1 r
    cases rx
    obtain ⟨its, r', pl, hz⟩ := I.list hq
    refine call_tuple_list pl.isList (fun h' kp => ?_) (by simp only [List.size_toArray]; have := r'.length; omega)
    have I1 : Inv X pins sg H { s with heap := h' } := I.kept (t' := s.toks) kp
    exact ⟨.ref h'.objs.size, _, laidT I1 s.toks hz r', rfl, q _ _ (I1.hok.fresh (Nat.le_refl _)) rfl⟩
  · exact call_tuple_of pins s sg H _ us Q I r ⟨p, ys, rfl, .inr h⟩
/-- t + u -/
theorem op_catF : OpR X (binaryOp .Add) (fun x y H Q => ∃ a b xs ys, x = .ref a ∧ y = .ref b ∧ SqT X.K H a xs ∧ SqT X.K H b ys ∧ xs.length + ys.length ≤ sizeLine ∧
    (xs = [] → Q (.ref b) H) ∧ (xs ≠ [] → ys = [] → Q (.ref a) H) ∧ (xs ≠ [] → ys ≠ [] → ∀ p (o : Obj), H p = none → o.dict = none → Q (.ref p) (upd H p (.frz o (.tup (xs ++ ys)))))) := by
  intro pins s sg H x y v u Q I rx ry h
  obtain ⟨a, b, xs, ys, rfl, rfl, ha, hb, hz, q0, q1, q2⟩ := h
  by_cases hn : xs ≠ [] ∧ ys ≠ []
  · cases rx
    cases ry
    obtain ⟨its, r1, p1, _⟩ := I.tuple ha
    obtain ⟨its2, r2, p2, _⟩ := I.tuple hb
    refine HT.cat_tup p1 p2 (fun z => hn.1 (r1.nil_iff.mp z)) (fun z => absurd (r2.nil_iff.mp z) hn.2) (fun z => ?_) (by rw [← r1.length, ← r2.length]; exact hz)
    exact ⟨.ref s.heap.objs.size, _, laidT I s.toks (by rw [List.length_append]; exact hz) (r1.append r2), rfl, q2 hn.1 hn.2 _ _ (I.hok.fresh (Nat.le_refl _)) rfl⟩
  · exact op_catA pins s sg H _ _ v u Q I rx ry ⟨a, b, xs, ys, rfl, rfl, ha, hb, hz, q0, q1, fun h1 h2 => absurd ⟨h1, h2⟩ hn⟩
/-- t[lo:hi] -/
theorem sl_tupF : SlR X (fun x lo hi H Q => ∃ a xs, x = .ref a ∧ SqT X.K H a xs ∧ (HT.sIx xs.length 0 lo = 0 ∧ HT.sIx xs.length xs.length hi = xs.length → Q (.ref a) H) ∧
    (¬ (HT.sIx xs.length 0 lo = 0 ∧ HT.sIx xs.length xs.length hi = xs.length) → ∀ p (o : Obj), H p = none → o.dict = none → Q (.ref p) (upd H p (.frz o (.tup (cutV xs lo hi)))))) := by
  intro pins s sg H x v vl vu lo hi sl Q I rx hs pl pu h
  obtain ⟨a, xs, rfl, hx, q1, q2⟩ := h
  by_cases hw : HT.sIx xs.length 0 lo = 0 ∧ HT.sIx xs.length xs.length hi = xs.length
  · exact sl_tupA pins s sg H _ v vl vu lo hi sl Q I rx hs pl pu ⟨a, xs, rfl, hx, q1, fun z => absurd hw z⟩
  · cases rx
    obtain ⟨its, r, ht, hz⟩ := I.tuple hx
    have hlen : its.toArray.size = xs.length := by rw [List.size_toArray]; exact r.length.symm
    refine ⟨"tuple", _, PyProof.Rows.slot_tuple_getitem.lookup, ht.typeIs, ?_⟩
    refine HT.getItem_tuple_cut ht hs pl pu (by rw [hlen]; exact hw) ?_ (by rw [hlen]; exact hz)
    rw [hlen]
    exact ⟨.ref s.heap.objs.size, _, laidT I s.toks (Nat.le_trans (cutV_length xs lo hi) hz) ((r.drop (HT.sIx xs.length 0 lo)).take (HT.sIx xs.length xs.length hi - HT.sIx xs.length 0 lo)), rfl, q2 hw _ _ (I.hok.fresh (Nat.le_refl _)) rfl⟩
/-- dict(t) of a tuple of pairs -/
theorem call_dictT (hcalm : X.calm = true) : CallR X (.type "dict") (fun xs H Q => ∃ (a : Addr) (ps : List Addr) (kvs : List (Key × V)), xs = [.ref a] ∧ SqT X.K H a (ps.map V.ref) ∧ PlT H a ∧ Paired (fun p kv => SqT X.K H p [kV kv.1, kv.2]) ps kvs ∧
    ∀ p, H p = none → Q (.ref p) (upd H p (.dK (mergeK [] kvs)))) := by
  intro pins s sg H xs us Q I r q
  obtain ⟨a, ps, kvs, ex, hq, ⟨o, ys, hP, hdn⟩, hp, q⟩ := q
  subst ex
  obtain ⟨u, eu, rx⟩ := vals1 r
  subst eu
  cases rx
  obtain ⟨its, rv, pl, hz⟩ := I.tuple hq
  have ei := refs_at rv
  subst ei
  rw [List.length_map] at hz
  obtain ⟨prs, rel, hl, hpr⟩ := pairs_of I hp
  obtain ⟨o', ho, hc, n, hd⟩ := pl
  have ho2 := (I.hok a _ hP).1
  rw [ho] at ho2
  cases ho2
  have sel : ∀ j : Fin prs.length, ∃ u : Value, ∃ b, ps[j.val]? = some b ∧ IsTup s.heap b #[u, (prs[j.val]).2] ∧ keyIs (prs[j.val]).1 u = true := fun j => by
    obtain ⟨b, u, e1, e2, e3⟩ := hpr j.val prs[j.val] (by simp)
    exact ⟨u, b, e1, e2, e3⟩
  obtain ⟨f, hf⟩ := Classical.axiomOfChoice sel
  let pv : List (Value × Value) := List.ofFn fun j : Fin prs.length => (f j, (prs[j.val]).2)
  have lpv : pv.length = prs.length := by simp [pv]
  have at_ : ∀ j k v, pv[j]? = some (k, v) → ∃ hj : j < prs.length, k = f ⟨j, hj⟩ ∧ v = (prs[j]).2 := fun j k v e => by
    have hj : j < prs.length := by have := (List.getElem?_eq_some_iff.mp e).1; omega
    refine ⟨hj, ?_⟩
    simp only [pv, List.getElem?_ofFn, hj, dif_pos, Option.some.injEq, Prod.mk.injEq] at e
    exact ⟨e.1.symm, e.2.symm⟩
  have ok : PlainSeq "tuple" s.heap a (ps.map Value.ref).toArray ∧ PairItems s.heap (ps.map Value.ref).toArray (fun j => ps.getD j 0) pv := by
    refine ⟨⟨o, n, ho, hc, hdn, hd⟩, by simp [lpv, hl], fun j k v e => ?_⟩
    obtain ⟨hj, rfl, rfl⟩ := at_ j k v e
    obtain ⟨b, e1, e2, e3⟩ := hf ⟨j, hj⟩
    have e4 : ps.getD j 0 = b := by rw [List.getD_eq_getElem?_getD]; rw [show ps[j]? = some b from e1]; rfl
    dsimp only
    rw [e4]
    refine ⟨by simp; exact e1, ?_⟩
    exact .inl e2
  refine PySem.call_dict_pairs (knd := mixKind X.prog X.w) (kvs := prs) (PairArg.tuple a (ps.map Value.ref).toArray (fun j => ps.getD j 0) pv) (I.ok.hd hcalm) ok ⟨lpv.symm, fun i key v e => ?_⟩ (by rw [lpv, hl]; exact hz) fun h' tk hd' k => ?_
  · obtain ⟨hj, rfl, rfl⟩ := at_ i key v e
    obtain ⟨b, e1, e2, e3⟩ := hf ⟨i, hj⟩
    exact ⟨prs[i].1, by simp [hj], e3⟩
  · have hm : (s.heap.objs.size == sysModules) = false := beq_eq_false_iff_ne.mpr (Nat.ne_of_gt I.big)
    have hlen : (mergeK [] kvs).length ≤ sizeLine := by
      refine Nat.le_trans (length_mergeK kvs []) ?_
      rw [List.length_nil, Nat.zero_add, rel.length, hl]
      exact hz
    exact ⟨.ref s.heap.objs.size, upd H s.heap.objs.size (.dK (mergeK [] kvs)), I.laid (t' := tk) (fun b o e => k b o (by simp) e) (Nat.le_refl _) (show ObjOk X.prog X.w _ _ _ (.dK (mergeK [] kvs)) from ⟨hlen, hm, merged [] prs, KV.merge rel .nil, hd'⟩), rfl, q _ (I.hok.fresh (Nat.le_refl _))⟩
end
end Pf
set_option maxHeartbeats 4000000
/-! Pf: each operation on values, shown by the layer's rule. -/
namespace Pf
open PySem PySem.Spec PyProof.Rows L2

/-- what a result of an operation must do -/
def Op (K : PySem.W.Frag) (ga : Str → Addr) (rho : List Addr) (H : Hp) (r : Res D) (Q : VK) : Prop :=
  match r with
  | .ok d M' => ∀ rho' H' v, Ext rho H rho' H' → MR K ga rho' H' M' → VR K ga rho' H' d v → Q v H'
  | _ => False
def r1 (K : PySem.W.Frag) (ga : Str → Addr) (f : D → Ev D) : V → Hp → VK → Prop := fun x H Q => ∃ rho M a, MR K ga rho H M ∧ VR K ga rho H a x ∧ Op K ga rho H (f a M) Q
def r2 (K : PySem.W.Frag) (ga : Str → Addr) (f : D → D → Ev D) : R2 := fun x y H Q => ∃ rho M a b, MR K ga rho H M ∧ VR K ga rho H a x ∧ VR K ga rho H b y ∧ Op K ga rho H (f a b M) Q
section
variable {K : PySem.W.Frag} {ga : Str → Addr} {rho : List Addr} {H : Hp} {M : Mem} {Q : VK}
theorem SZ_le {n : Nat} (h : n ≤ 16777216) : n ≤ sizeLine := by rw [sizeLine_eq]; exact h
theorem SZ_lt {n : Nat} (h : n < 16777216) : n < sizeLine := by rw [sizeLine_eq]; exact h
theorem Op.here {d : D} (h : Op K ga rho H (.ok d M) Q) (m : MR K ga rho H M) {v : V} (r : VR K ga rho H d v) : Q v H := h rho H v Ext.refl m r
/-- a new tuple -/
theorem Op.tup {ds : List D} {xs : List V} (h : Op K ga rho H (.ok (.tup ds) M) Q) (m : MR K ga rho H M) (r : VRs K ga rho H ds xs) : ∀ p (o : Obj), H p = none → o.dict = none → Q (.ref p) (upd H p (.frz o (.tup xs))) := fun p o hp ho =>
  h rho _ _ (Ext.laid hp) (m.laid hp) (by simp only [VR]; exact ⟨p, xs, rfl, .inl (.inr ⟨o, upd_same⟩), r.ext (Ext.laid hp), fun _ => ⟨o, xs, upd_same, ho⟩⟩)
theorem Op.tup0 {ds : List D} {xs : List V} (h : Op K ga rho H (.ok (.tup ds) M) Q) (m : MR K ga rho H M) (r : VRs K ga rho H ds xs) (hp : prsD ds = false) : ∀ p, H p = none → Q (.ref p) (upd H p (.tup xs)) := fun p hq =>
  h rho _ _ (Ext.laid hq) (m.laid hq) (by simp only [VR]; exact ⟨p, xs, rfl, SqT.of upd_same, r.ext (Ext.laid hq), fun z => by rw [hp] at z; cases z⟩)
/-- a new list -/
theorem Op.lst {ds : List D} {xs : List V} (h : Op K ga rho H (.ok (.ref M.length) (M ++ [.lst ds])) Q) (m : MR K ga rho H M) (r : VRs K ga rho H ds xs) : ∀ p, H p = none → Q (.ref p) (upd H p (.lst xs)) := fun p hp =>
  h (rho ++ [p]) _ _ (Ext.alloc hp) (m.alloc hp ⟨xs, upd_same, r.ext (Ext.alloc hp)⟩) (by simp only [VR]; exact ⟨p, rfl, by rw [← m.len]; simp⟩)
theorem Op.newl {ds : List D} {xs : List V} (h : Op K ga rho H (newl ds M) Q) (m : MR K ga rho H M) (r : VRs K ga rho H ds xs) : xs.length ≤ sizeLine ∧ ∀ p, H p = none → Q (.ref p) (upd H p (.lst xs)) := by
  unfold Pf.newl at h
  split at h
  · rename_i hz
    exact ⟨by rw [r.length]; exact SZ_le hz, Op.lst h m r⟩
  · exact h.elim
theorem Op.newt0 {ds : List D} {xs : List V} (h : Op K ga rho H (newt ds M) Q) (m : MR K ga rho H M) (r : VRs K ga rho H ds xs) (hp : prsD ds = false) : ∀ p, H p = none → Q (.ref p) (upd H p (.tup xs)) := by
  unfold Pf.newt at h
  split at h
  · exact Op.tup0 h m r hp
  · exact h.elim
theorem Op.newt {ds : List D} {xs : List V} (h : Op K ga rho H (newt ds M) Q) (m : MR K ga rho H M) (r : VRs K ga rho H ds xs) : xs.length ≤ sizeLine ∧ ∀ p (o : Obj), H p = none → o.dict = none → Q (.ref p) (upd H p (.frz o (.tup xs))) := by
  unfold Pf.newt at h
  split at h
  · rename_i hz
    exact ⟨by rw [r.length]; exact SZ_le hz, Op.tup h m r⟩
  · exact h.elim
/-- the items of a list, as the layer reads them -/
theorem items_sq (m : MR K ga rho H M) {a : D} {x : V} (r : VR K ga rho H a x) {ds : List D} (e : items a M = some ds) : ∃ p xs, x = .ref p ∧ SqL K H p xs ∧ VRs K ga rho H ds xs := by
  unfold items at e
  cases a with
  | ref n =>
    simp only at e
    split at e
    · rename_i ys hy
      cases e
      obtain ⟨p, xs, h1, h2, h3⟩ := m.lst hy
      simp only [VR] at r
      obtain ⟨q, e1, e2⟩ := r
      rw [h1] at e2; cases e2
      exact ⟨p, xs, e1, SqL.of h2, h3⟩
    · cases e
  | frz ys =>
    cases e
    simp only [VR] at r
    obtain ⟨p, xs, e1, h, h3⟩ := r
    refine ⟨p, xs, e1, ?_, h3⟩
    rcases h with h | ⟨o, h⟩
    · exact .inr h
    · exact .inl (.inr ⟨o, h⟩)
  | _ => cases e
theorem VR.lref (m : MR K ga rho H M) {n : Nat} {x : V} (r : VR K ga rho H (.ref n) x) {ds : List D} (e : M[n]? = some (.lst ds)) : ∃ p xs, x = .ref p ∧ rho[n]? = some p ∧ H p = some (.lst xs) ∧ VRs K ga rho H ds xs := by
  obtain ⟨p, xs, h1, h2, h3⟩ := m.lst e
  simp only [VR] at r
  obtain ⟨q, e1, e2⟩ := r
  rw [h1] at e2; cases e2
  exact ⟨p, xs, e1, h1, h2, h3⟩
theorem VR.tupE {ds : List D} {x : V} (r : VR K ga rho H (.tup ds) x) : ∃ p xs, x = .ref p ∧ SqT K H p xs ∧ VRs K ga rho H ds xs := by
  simp only [VR] at r
  obtain ⟨p, xs, e, h, q, _⟩ := r
  exact ⟨p, xs, e, h, q⟩
theorem VR.tupP {ds : List D} {x : V} (r : VR K ga rho H (.tup ds) x) (hp : prsD ds = true) : ∃ p xs, x = .ref p ∧ SqT K H p xs ∧ VRs K ga rho H ds xs ∧ PlT H p := by
  simp only [VR] at r
  obtain ⟨p, xs, e, h, q, z⟩ := r
  exact ⟨p, xs, e, h, q, z hp⟩
theorem VR.intE {i : Int} {x : V} (r : VR K ga rho H (.int i) x) : x = .int i := by simpa only [VR] using r
theorem VR.strE {i : Str} {x : V} (r : VR K ga rho H (.str i) x) : x = .str i := by simpa only [VR] using r
theorem VR.blE {i : Bool} {x : V} (r : VR K ga rho H (.bl i) x) : x = .bl i := by simpa only [VR] using r
theorem VRs.rep {ds : List D} {xs : List V} (r : VRs K ga rho H ds xs) : ∀ k : Nat, VRs K ga rho H (List.replicate k ds).flatten (List.replicate k xs).flatten
  | 0 => by simp [VRs]
  | k + 1 => by
    rw [List.replicate_succ, List.replicate_succ, List.flatten_cons, List.flatten_cons]
    exact r.app (VRs.rep r k)
theorem VRs.nil_iff {ds : List D} {xs : List V} (r : VRs K ga rho H ds xs) : xs = [] ↔ ds = [] := by
  have e := r.length
  constructor
  · rintro rfl; exact List.eq_nil_of_length_eq_zero e.symm
  · rintro rfl; exact List.eq_nil_of_length_eq_zero e
/-- a written list -/
theorem Op.wr {n : Nat} {p : Addr} {ds : List D} {xs : List V} {d : D} {v : V} (h : Op K ga rho H (.ok d (M.set n (.lst ds))) Q) (m : MR K ga rho H M) (hn : rho[n]? = some p) {ys : List V} (hx : H p = some (.lst ys)) (r : VRs K ga rho H ds xs) (rd : VR K ga rho H d v) : Q v (upd H p (.lst xs)) :=
  have hz : ∀ o u, H p ≠ some (.frz o (.dK u)) := fun o u e => by rw [hx] at e; cases e
  h rho _ _ (Ext.write m hn hz) (m.write hn ⟨xs, upd_same, r.ext (Ext.write m hn hz)⟩) (rd.ext (Ext.write m hn hz))
end

section
variable {X : Cx} {ga : Str → Addr}
theorem opAdd : OpR X (binaryOp .Add) (r2 X.K ga dAdd) := by
  intro pins s sg H x y v u Q I rx ry h
  obtain ⟨rho, M, a, b, m, ra, rb, h⟩ := h
  unfold dAdd at h
  split at h
  · rename_i i j
    cases ra.intE; cases rb.intE
    exact op_add pins s sg H _ _ v u Q I rx ry ⟨i, j, rfl, rfl, h.here m (by simp only [VR])⟩
  · rename_i i j
    cases ra.strE; cases rb.strE
    split at h
    · rename_i hz
      exact op_add_str pins s sg H _ _ v u Q I rx ry ⟨i, j, rfl, rfl, SZ_le hz, h.here m (by simp only [VR])⟩
    · exact h.elim
  · rename_i xs ys
    obtain ⟨p, xv, rfl, hx, rx'⟩ := ra.tupE
    obtain ⟨q, yv, rfl, hy, ry'⟩ := rb.tupE
    split at h
    · rename_i hz
      refine op_catF pins s sg H _ _ v u Q I rx ry ⟨p, q, xv, yv, rfl, rfl, hx, hy, by rw [rx'.length, ry'.length]; exact SZ_le hz, fun e => ?_, fun _ e => ?_, fun _ _ => h.tup m (rx'.app ry')⟩
      · have e1 := rx'.nil_iff.mp e
        subst e1
        exact h.here m (by simpa using rb)
      · have e1 := ry'.nil_iff.mp e
        subst e1
        exact h.here m (by simpa using ra)
    · exact h.elim
  · rename_i n k
    split at h
    · rename_i xs ys e1 e2
      obtain ⟨p, xv, rfl, _, hx, rx'⟩ := ra.lref m e1
      obtain ⟨q, yv, rfl, _, hy, ry'⟩ := rb.lref m e2
      obtain ⟨hz, h⟩ := h.newl m (rx'.app ry')
      exact op_cat pins s sg H _ _ v u Q I rx ry ⟨p, q, xv, yv, rfl, rfl, hx, hy, by simpa using hz, h⟩
    · exact h.elim
  · exact h.elim
theorem opSub : OpR X (binaryOp .Sub) (r2 X.K ga dSub) := by
  intro pins s sg H x y v u Q I rx ry h
  obtain ⟨rho, M, a, b, m, ra, rb, h⟩ := h
  unfold dSub at h
  split at h
  · rename_i i j
    cases ra.intE; cases rb.intE
    exact op_sub pins s sg H _ _ v u Q I rx ry ⟨i, j, rfl, rfl, h.here m (by simp only [VR])⟩
  · exact h.elim
theorem mulOk_ok {i j : Int} (h : mulOk i j = true) : CMul i j := by
  unfold mulOk at h
  simp only [Bool.or_eq_true, decide_eq_true_eq] at h
  unfold CMul
  have e : (2 : Int) ^ 64 = 18446744073709551616 := by decide
  rw [e]
  omega
theorem opMul : OpR X (binaryOp .Mult) (r2 X.K ga dMul) := by
  intro pins s sg H x y v u Q I rx ry h
  obtain ⟨rho, M, a, b, m, ra, rb, h⟩ := h
  unfold dMul at h
  split at h
  · rename_i i j
    cases ra.intE; cases rb.intE
    split at h
    · rename_i hc
      exact op_mul pins s sg H _ _ v u Q I rx ry ⟨i, j, rfl, rfl, mulOk_ok hc, h.here m (by simp only [VR])⟩
    · exact h.elim
  · rename_i n k
    split at h
    · rename_i xs e1
      split at h
      · rename_i hk
        obtain ⟨p, xv, rfl, _, hx, rx'⟩ := ra.lref m e1
        cases rb.intE
        obtain ⟨hz, h⟩ := h.newl m (rx'.rep k.toNat)
        refine op_rep pins s sg H _ _ v u Q I rx ry ⟨p, k, xv, rfl, rfl, hx, by omega, by omega, ?_, h⟩
        rw [List.length_flatten] at hz
        simp only [List.map_replicate, List.sum_replicate_nat] at hz
        rw [Nat.mul_comm]
        exact hz
      · exact h.elim
    · exact h.elim
  · rename_i xs k
    split at h
    · rename_i hk
      obtain ⟨hk1, hk2, hk3, hk4, hk5⟩ := hk
      obtain ⟨p, xv, rfl, hx, rx'⟩ := ra.tupE
      cases rb.intE
      have h := h.newt0 m (rx'.rep k.toNat) hk5
      exact op_repT pins s sg H _ _ v u Q I rx ry ⟨p, k, xv, rfl, rfl, hx, fun e => hk1 (rx'.nil_iff.mp e), hk2, hk3, by rw [rx'.length]; exact hk4, h⟩
    · exact h.elim
  · rename_i z k
    split at h
    · rename_i hk
      cases ra.strE; cases rb.intE
      obtain ⟨tz, rfl⟩ := rx
      obtain ⟨tk, rfl⟩ := ry
      have e63 : (2 : Int) ^ 63 = 9223372036854775808 := by decide
      have hz : (z.length : Int) * k ≤ 1000 * 1000 := Int.mul_le_mul (by omega) (by omega) (by omega) (by omega)
      refine PySem.SB.mul ⟨?_, fun _ _ => ?_, fun _ _ => ?_⟩ fun t' k' => ⟨.str (Txt.mul z k), H, I.tok k', ⟨t', rfl⟩, h.here m (by simp only [VR])⟩
      · rw [e63, Bool.or_eq_false_iff]
        exact ⟨decide_eq_false (by omega), decide_eq_false (by omega)⟩
      · rw [e63]
        intro q
        have := (Int.le_ediv_iff_mul_le (c := k) (a := (z.length : Int)) (b := 9223372036854775808 - 1) (by omega)).mpr (by omega)
        omega
      · unfold PySem.Builtin.Str.tooLong sizeLine
        refine decide_eq_false ?_
        have : z.length * k.toNat ≤ 1000 * 1000 := Nat.mul_le_mul (by omega) (by omega)
        omega
    · exact h.elim
  · exact h.elim
theorem opDiv : OpR X (binaryOp .FloorDiv) (r2 X.K ga dDiv) := by
  intro pins s sg H x y v u Q I rx ry h
  obtain ⟨rho, M, a, b, m, ra, rb, h⟩ := h
  unfold dDiv at h
  split at h
  · rename_i i j
    cases ra.intE; cases rb.intE
    split at h
    · rename_i hc
      unfold divOk at hc
      simp only [Bool.and_eq_true, decide_eq_true_eq] at hc
      exact op_fdivW pins s sg H _ _ v u Q I rx ry ⟨i, j, rfl, rfl, hc, h.here m (by simp only [VR])⟩
    · exact h.elim
  · exact h.elim
theorem opMod : OpR X (binaryOp .Mod) (r2 X.K ga dMod) := by
  intro pins s sg H x y v u Q I rx ry h
  obtain ⟨rho, M, a, b, m, ra, rb, h⟩ := h
  unfold dMod at h
  split at h
  · rename_i i j
    cases ra.intE; cases rb.intE
    split at h
    · rename_i hc
      exact op_mod pins s sg H _ _ v u Q I rx ry ⟨i, j, rfl, rfl, hc, h.here m (by simp only [VR])⟩
    · exact h.elim
  · exact h.elim
theorem opPow : OpR X (binaryOp .Pow) (r2 X.K ga dPow) := by
  intro pins s sg H x y v u Q I rx ry h
  obtain ⟨rho, M, a, b, m, ra, rb, h⟩ := h
  unfold dPow at h
  split at h
  · rename_i i j
    cases ra.intE; cases rb.intE
    split at h
    · rename_i hc
      unfold powOk at hc
      simp only [Bool.and_eq_true, decide_eq_true_eq] at hc
      have e : (2 : Nat) ^ 64 = 18446744073709551616 := by decide
      exact op_pow pins s sg H _ _ v u Q I rx ry ⟨i, j, rfl, rfl, ⟨hc.1.1, hc.1.2, by rw [e]; exact hc.2⟩, h.here m (by simp only [VR])⟩
    · exact h.elim
  · exact h.elim
theorem opBin (op : Operator) : OpR X (binaryOp op) (r2 X.K ga (dBin op)) := by
  cases op with
  | Add => exact opAdd
  | Sub => exact opSub
  | Mult => exact opMul
  | FloorDiv => exact opDiv
  | Mod => exact opMod
  | Pow => exact opPow
  | _ => exact fun pins s sg H x y v u Q I rx ry ⟨rho, M, a, b, m, ra, rb, h⟩ => h.elim
theorem unNeg : UnR X (unaryOp .USub) (r1 X.K ga dNeg) := by
  intro pins s sg H x v Q I rx h
  obtain ⟨rho, M, a, m, ra, h⟩ := h
  unfold dNeg at h
  split at h
  · rename_i i
    cases ra.intE
    exact un_neg pins s sg H _ v Q I rx ⟨i, rfl, h.here m (by simp only [VR])⟩
  · exact h.elim

/-! ### data -/
mutual
theorem dp_of {rho : List Addr} {H : Hp} {R : Nat → Option PyData} (hR : ∀ k p x, R k = some p → p.hasDict = false → VR X.K ga rho H (.ref k) x → Dp X.K H x p) : ∀ (d : D) (p : PyData) (x : V), toPyF R d = some p → p.hasDict = false → VR X.K ga rho H d x → Dp X.K H x p
  | .non, p, x, e, _, r => by simp only [toPyF, Option.some.injEq] at e; subst e; simp only [VR] at r; subst r; exact .non
  | .bl b, p, x, e, _, r => by simp only [toPyF, Option.some.injEq] at e; subst e; simp only [VR] at r; subst r; exact .bl b
  | .int b, p, x, e, _, r => by simp only [toPyF, Option.some.injEq] at e; subst e; simp only [VR] at r; subst r; exact .int b
  | .str b, p, x, e, _, r => by simp only [toPyF, Option.some.injEq] at e; subst e; simp only [VR] at r; subst r; exact .str b
  | .tup ds, p, x, e, hd, r => by
    simp only [toPyF, Option.map_eq_some_iff] at e
    obtain ⟨ps, e, rfl⟩ := e
    simp only [VR] at r
    obtain ⟨a, xs, rfl, h1, h2, _⟩ := r
    exact .tup h1 (dps_of hR ds ps xs e (by simpa only [PyData.hasDict] using hd) h2)
  | .frz ds, p, x, e, hd, r => by simp only [toPyF] at e; cases e
  | .ref k, p, x, e, hd, r => hR k p x (by simpa only [toPyF] using e) hd r
  | .fn _, p, x, e, _, r => by simp only [toPyF] at e; cases e
theorem dps_of {rho : List Addr} {H : Hp} {R : Nat → Option PyData} (hR : ∀ k p x, R k = some p → p.hasDict = false → VR X.K ga rho H (.ref k) x → Dp X.K H x p) : ∀ (ds : List D) (ps : List PyData) (xs : List V), toPyFs R ds = some ps → PyData.hasDictAll ps = false → VRs X.K ga rho H ds xs → DpAll X.K H xs ps
  | [], ps, xs, e, _, r => by simp only [toPyFs, Option.some.injEq] at e; subst e; simp only [VRs] at r; subst r; exact .nil
  | d :: ds, ps, xs, e, hd, r => by
    simp only [toPyFs, Option.bind_eq_some_iff, Option.map_eq_some_iff] at e
    obtain ⟨a, e1, as, e2, rfl⟩ := e
    simp only [VRs] at r
    obtain ⟨v, vs, rfl, r1, r2⟩ := r
    simp only [PyData.hasDictAll, Bool.or_eq_false_iff] at hd
    exact .cons (dp_of hR d a v e1 hd.1 r1) (dps_of hR ds as vs e2 hd.2 r2)
end
theorem dp_N {rho : List Addr} {H : Hp} {M : Mem} (m : MR X.K ga rho H M) : ∀ (n k : Nat) (p : PyData) (x : V), toPyN M n k = some p → p.hasDict = false → VR X.K ga rho H (.ref k) x → Dp X.K H x p
  | 0, k, p, x, e, _, _ => by simp only [toPyN] at e; cases e
  | n + 1, k, p, x, e, hd, r => by
    simp only [toPyN] at e
    split at e
    · rename_i ds h
      simp only [Option.map_eq_some_iff] at e
      obtain ⟨ps, e, rfl⟩ := e
      obtain ⟨q, xs, rfl, _, h2, h3⟩ := VR.lref m r h
      exact .lst (SqL.of h2) (dps_of (dp_N m n) ds ps xs e (by simpa only [PyData.hasDict] using hd) h3)
    · simp only [Option.map_eq_some_iff] at e
      obtain ⟨ps, e, rfl⟩ := e
      simp only [PyData.hasDict] at hd
      cases hd
    · cases e
theorem dp_py {rho : List Addr} {H : Hp} {M : Mem} (m : MR X.K ga rho H M) {d : D} {p : PyData} {x : V} (e : toPy M d = some p) (hd : p.hasDict = false) (r : VR X.K ga rho H d x) : Dp X.K H x p :=
  dp_of (dp_N m 100) d p x e hd r
mutual
theorem noD_F : ∀ (d : D) (p : PyData), toPyF (fun _ => none) d = some p → p.hasDict = false
  | .non, p, e => by simp only [toPyF, Option.some.injEq] at e; subst e; simp only [PyData.hasDict]
  | .bl b, p, e => by simp only [toPyF, Option.some.injEq] at e; subst e; simp only [PyData.hasDict]
  | .int i, p, e => by simp only [toPyF, Option.some.injEq] at e; subst e; simp only [PyData.hasDict]
  | .str x, p, e => by simp only [toPyF, Option.some.injEq] at e; subst e; simp only [PyData.hasDict]
  | .tup ds, p, e => by
    simp only [toPyF, Option.map_eq_some_iff] at e
    obtain ⟨ps, e, rfl⟩ := e
    simp only [PyData.hasDict]
    exact noD_Fs ds ps e
  | .frz ds, p, e => by simp only [toPyF] at e; cases e
  | .ref k, p, e => by simp only [toPyF] at e; cases e
  | .fn x, p, e => by simp only [toPyF] at e; cases e
theorem noD_Fs : ∀ (ds : List D) (ps : List PyData), toPyFs (fun _ => none) ds = some ps → PyData.hasDictAll ps = false
  | [], ps, e => by simp only [toPyFs, Option.some.injEq] at e; subst e; simp only [PyData.hasDictAll]
  | d :: ds, ps, e => by
    simp only [toPyFs, Option.bind_eq_some_iff, Option.map_eq_some_iff] at e
    obtain ⟨a, e1, as, e2, rfl⟩ := e
    simp only [PyData.hasDictAll, noD_F d a e1, noD_Fs ds as e2, Bool.or_self]
end
theorem dp_tupF {rho : List Addr} {H : Hp} {M : Mem} (m : MR X.K ga rho H M) {xs : List D} {a : List PyData} {x : V} (e : toPyFs (fun _ => none) xs = some a) (r : VR X.K ga rho H (.tup xs) x) : Dp X.K H x (.tuple a) := by
  have e' : toPyF (fun _ => none) (.tup xs) = some (.tuple a) := by simp only [toPyF, e, Option.map_some]
  exact dp_of (fun k p x z => by cases z) (.tup xs) (.tuple a) x e' (noD_F _ _ e') r
theorem noD {p : PyData} (h : SeqAt.shaped p = true) : p.hasDict = false := PyData.hasDict_of_canLay p (SeqAt.canLay_of_shaped h)
theorem scQ_ok {rho : List Addr} {H : Hp} {a b : D} {x y : V} {c : Bool} (e : scQ a b = some c) (ra : VR X.K ga rho H a x) (rb : VR X.K ga rho H b y) : scal x y = true ∧ c = decide (x = y) := by
  unfold scQ at e
  split at e <;> first
    | (cases e; simp only [VR] at ra rb; subst ra rb; exact ⟨rfl, by first | rfl | (simp; done) | (rw [Bool.eq_iff_iff]; simp; done)⟩)
    | cases e
theorem emQ_ok {pins : List (Addr × Obj)} {sg : L2.St} {s : Shared} {rho : List Addr} {H : Hp} {M : Mem} (I : Inv X pins sg H s) (hu : X.A.units + 64 < cLine) (m : MR X.K ga rho H M) {a b : D} {x y : V} {v u : Value} {c : Bool} (e : emQ a b M = some c) (ra : VR X.K ga rho H a x) (rb : VR X.K ga rho H b y) (rx : RelV x v) (ry : RelV y u) :
    SeqAt.RcAt X.A s v u c ∧ SeqAt.RcNeAt X.A s v u (!c) := by
  unfold emQ at e
  split at e
  · rename_i xs ys
    split at e
    · rename_i hem
      cases e
      obtain ⟨p, vs, rfl, h1, r1⟩ := ra.tupE
      obtain ⟨q, ws, rfl, h2, r2⟩ := rb.tupE
      cases rx
      cases ry
      obtain ⟨i1, v1, t1, _⟩ := I.tuple h1
      obtain ⟨i2, v2, t2, _⟩ := I.tuple h2
      have l1 : i1.toArray.size = xs.length := by rw [List.size_toArray, ← v1.length, r1.length]
      have l2 : i2.toArray.size = ys.length := by rw [List.size_toArray, ← v2.length, r2.length]
      have hmin : min i1.toArray.size i2.toArray.size = 0 := by
        rw [l1, l2]
        rw [Bool.or_eq_true] at hem
        rcases hem with h | h
        · rw [List.isEmpty_iff.mp h]; simp
        · rw [List.isEmpty_iff.mp h]; simp
      have a1 := SeqAt.RcAt.tuples (A := X.A) (e := fun _ => true) t1 t2 (by omega) (fun j h1 h2 => by omega)
      have a2 := SeqAt.RcNeAt.tuples (A := X.A) (e := fun _ => true) t1 t2 (by omega) (fun j h1 h2 => by omega)
      rw [hmin, l1, l2] at a1 a2
      exact ⟨a1, a2⟩
    · cases e
  · split at e
    · rename_i n k xs ys e1 e2
      split at e
      · cases e
      · rename_i hne
        cases e
        obtain ⟨p, vs, rfl, _, h1, r1⟩ := ra.lref m e1
        obtain ⟨q, ws, rfl, _, h2, r2⟩ := rb.lref m e2
        cases rx
        cases ry
        obtain ⟨i1, v1, t1, _⟩ := I.list (SqL.of h1)
        obtain ⟨i2, v2, t2, _⟩ := I.list (SqL.of h2)
        have l1 : i1.toArray.size = xs.length := by rw [List.size_toArray, ← v1.length, r1.length]
        have l2 : i2.toArray.size = ys.length := by rw [List.size_toArray, ← v2.length, r2.length]
        have hb : (i1.toArray.size != i2.toArray.size) = true := by rw [l1, l2]; simpa using hne
        exact ⟨SeqAt.RcAt.lists_lengths t1.isList t2.isList hb (by omega), SeqAt.RcNeAt.lists_lengths t1.isList t2.isList hb (by omega)⟩
    · cases e
  · cases e
theorem dEq_dp {rho : List Addr} {H : Hp} {M : Mem} (m : MR X.K ga rho H M) {a b : D} {x y : V} {c : Bool} (e : dEq a b M = some c) (ra : VR X.K ga rho H a x) (rb : VR X.K ga rho H b y) :
    (scal x y = true ∧ c = decide (x = y)) ∨ emQ a b M = some c ∨ ∃ d e', Dp X.K H x d ∧ Dp X.K H y e' ∧ SeqAt.shaped d = true ∧ SeqAt.shaped e' = true ∧ c = PyData.eqv d e' := by
  unfold dEq at e
  split at e
  · rename_i q
    cases e
    cases hs : scQ a b with
    | some b' =>
      rw [hs] at q
      cases q
      exact .inl (scQ_ok hs ra rb)
    | none =>
      rw [hs] at q
      exact .inr (.inl q)
  · split at e
    · rename_i p q h1 h2
      split at e
      · rename_i hs
        rw [Bool.and_eq_true] at hs
        cases e
        exact .inr (.inr ⟨p, q, dp_py m h1 (noD hs.1) ra, dp_py m h2 (noD hs.2) rb, hs.1, hs.2, rfl⟩)
      · cases e
    · cases e
end

/-! ### dicts -/
section
variable {K : PySem.W.Frag} {ga : Str → Addr} {rho : List Addr} {H : Hp} {M : Mem}
theorem KVR.len : ∀ {ds : List (Key × D)} {xs : List (Key × V)}, KVR K ga rho H ds xs → xs.length = ds.length
  | [], _, h => by cases (show _ = _ from h); rfl
  | d :: ds, _, h => by
    obtain ⟨v, r, rfl, _, _, h2⟩ := h
    simp [KVR.len h2]
theorem KVR.val (k : Key) : ∀ {ds : List (Key × D)} {xs : List (Key × V)}, KVR K ga rho H ds xs → (valV xs k).isSome = (valD ds k).isSome ∧ ∀ d, valD ds k = some d → ∃ v, valV xs k = some v ∧ VR K ga rho H d v
  | [], _, h => by cases (show _ = _ from h); exact ⟨rfl, fun d e => by cases e⟩
  | d :: ds, _, h => by
    obtain ⟨v, r, rfl, hk, hv, h2⟩ := h
    obtain ⟨ih1, ih2⟩ := KVR.val k h2
    by_cases e : v.1 = k
    · have e' : d.1 = k := hk.trans e
      refine ⟨by simp [valV, valD, List.find?_cons, e, e'], fun d' hd => ⟨v.2, by simp [valV, List.find?_cons, e], ?_⟩⟩
      simp [valD, List.find?_cons, e'] at hd
      subst hd; exact hv
    · have e' : ¬ d.1 = k := fun z => e (hk.symm.trans z)
      refine ⟨?_, fun d' hd => ?_⟩
      · simpa [valV, valD, List.find?_cons, e, e'] using ih1
      · obtain ⟨w, h3, h4⟩ := ih2 d' (by simpa [valD, List.find?_cons, e'] using hd)
        exact ⟨w, by simpa [valV, List.find?_cons, e] using h3, h4⟩
theorem KVR.repl (k : Key) {d : D} {v : V} (hv : VR K ga rho H d v) : ∀ {ds : List (Key × D)} {xs : List (Key × V)}, KVR K ga rho H ds xs → KVR K ga rho H (ds.map fun kv => if kv.1 = k then (kv.1, d) else kv) (xs.map fun kv => if kv.1 = k then (kv.1, v) else kv)
  | [], _, h => by cases (show _ = _ from h); exact rfl
  | x :: ds, _, h => by
    obtain ⟨w, r, rfl, hk, hw, h2⟩ := h
    have ih := KVR.repl k hv h2
    by_cases e : w.1 = k
    · have e' : x.1 = k := hk.trans e
      simp only [List.map_cons, e, e', if_true]
      exact ⟨_, _, rfl, rfl, hv, ih⟩
    · have e' : ¬ x.1 = k := fun z => e (hk.symm.trans z)
      simp only [List.map_cons, e, e', if_false]
      exact ⟨_, _, rfl, hk, hw, ih⟩
theorem KVR.snoc (k : Key) {d : D} {v : V} (hv : VR K ga rho H d v) : ∀ {ds : List (Key × D)} {xs : List (Key × V)}, KVR K ga rho H ds xs → KVR K ga rho H (ds ++ [(k, d)]) (xs ++ [(k, v)])
  | [], _, h => by cases (show _ = _ from h); exact ⟨(k, v), [], rfl, rfl, hv, rfl⟩
  | x :: ds, _, h => by
    obtain ⟨w, r, rfl, hk, hw, h2⟩ := h
    exact ⟨w, _, rfl, hk, hw, KVR.snoc k hv h2⟩
theorem KVR.any (k : Key) : ∀ {ds : List (Key × D)} {xs : List (Key × V)}, KVR K ga rho H ds xs → (xs.any fun kv => decide (kv.1 = k)) = ds.any fun kv => decide (kv.1 = k)
  | [], _, h => by cases (show _ = _ from h); rfl
  | x :: ds, _, h => by
    obtain ⟨w, r, rfl, hk, hw, h2⟩ := h
    simp only [List.any_cons, KVR.any k h2, hk]
theorem KVR.put (k : Key) {d : D} {v : V} {ds : List (Key × D)} {xs : List (Key × V)} (hv : VR K ga rho H d v) (h : KVR K ga rho H ds xs) : KVR K ga rho H (putD ds k d) (putK xs k v) := by
  unfold putD putK
  rw [KVR.any k h]
  split
  · exact KVR.repl k hv h
  · exact KVR.snoc k hv h
theorem key_vr {b : D} {y : V} {k : Key} (r : VR K ga rho H b y) (e : keyD b = some k) : y = kV k := by
  cases b <;> simp only [keyD] at e <;> cases e
  · exact r.intE
  · exact r.strE
theorem dct_at (m : MR K ga rho H M) {a : D} {x : V} {kvs : List (Key × D)} (e : dctOf a M = some kvs) (r : VR K ga rho H a x) : ∃ n p xs, a = .ref n ∧ M[n]? = some (.dct kvs) ∧ x = .ref p ∧ rho[n]? = some p ∧ H p = some (.dK xs) ∧ KVR K ga rho H kvs xs := by
  unfold dctOf at e
  split at e
  · rename_i n
    split at e
    · rename_i kvs' q
      cases e
      obtain ⟨p, xs, h1, h2, h3⟩ := m.dct q
      simp only [VR] at r
      obtain ⟨p', rfl, h4⟩ := r
      rw [h1] at h4
      cases h4
      exact ⟨n, p, xs, rfl, q, rfl, h1, h2, h3⟩
    · cases e
  · cases e
end
section
variable {X : Cx} {ga : Str → Addr}
theorem toPy_str {rho : List Addr} {H : Hp} {M : Mem} (m : MR X.K ga rho H M) {a : D} {x : V} {c : Str} (e : toPy M a = some (.str c)) (r : VR X.K ga rho H a x) : x = .str c := by
  have d := dp_py m e (by simp only [PyData.hasDict]) r
  cases d
  rfl
theorem opIn (hu : X.A.units + 65 < cLine) : OpR X (compareOp .In) (r2 X.K ga (dCmp .In)) := by
  intro pins s sg H x y v u Q I rx ry h
  obtain ⟨rho, M, a, b, m, ra, rb, h⟩ := h
  unfold dCmp at h
  simp only at h
  split at h
  · rename_i c e
    have fin : Q (.bl c) H := h.here m (by simp only [VR])
    unfold dIn at e
    split at e
    · rename_i kvs q
      obtain ⟨n, p, xs, rfl, _, rfl, _, hx, rx'⟩ := dct_at m q rb
      simp only [Option.map_eq_some_iff] at e
      obtain ⟨k, ek, rfl⟩ := e
      have ey := key_vr ra ek
      subst ey
      have := DGet.k (k := k) hx
      cases ry
      refine d_in (by omega) I this rx fun s' I' => ⟨.bl _, H, I', rfl, ?_⟩
      rw [(KVR.val k rx').1]
      exact fin
    · split at e
      · rename_i d ds h1 h2
        split at e
        · rename_i hs
          rw [Bool.and_eq_true] at hs
          cases e
          exact op_inD hu pins s sg H _ _ v u Q I rx ry ⟨d, ds, dp_py m h1 (noD hs.1) ra, dp_py m h2 (noD hs.2) rb, hs.1, hs.2, fin⟩
        · cases e
      · rename_i d ds h1 h2
        split at e
        · rename_i hs
          rw [Bool.and_eq_true] at hs
          cases e
          obtain ⟨as, r1⟩ := Dp.reads I d x v (dp_py m h1 (noD hs.1) ra) rx
          obtain ⟨bs, r2⟩ := Dp.reads I (.tuple ds) y u (dp_py m h2 (noD hs.2) rb) ry
          exact SeqAt.in_tuple_reads r2 r1 (SeqAt.canLay_of_shaped hs.2) (SeqAt.canLay_of_shaped hs.1) (room_in_shaped hs.1 hu) ⟨.bl _, H, I, rfl, fin⟩
        · cases e
      · rename_i cc zz h1 h2
        split at e
        · rename_i k hk
          cases e
          have ex := toPy_str m h1 ra
          have ey := toPy_str m h2 rb
          subst ex; subst ey
          have ec : cc = ⟨#[k]⟩ := by
            cases cc with
            | mk l => exact congrArg Str.mk (by apply Array.toList_inj.mp; exact hk)
          subst ec
          exact op_in_sign pins s sg H _ _ v u Q I rx ry ⟨k, zz, rfl, rfl, fin⟩
        · cases e
      · cases e
  · exact h.elim
theorem opNotIn (hu : X.A.units + 65 < cLine) : OpR X (compareOp .NotIn) (r2 X.K ga (dCmp .NotIn)) := by
  intro pins s sg H x y v u Q I rx ry h
  obtain ⟨rho, M, a, b, m, ra, rb, h⟩ := h
  unfold dCmp at h
  simp only at h
  split at h
  · rename_i c e
    have fin : Q (.bl (!c)) H := h.here m (by simp only [VR])
    unfold dIn at e
    split at e
    · rename_i kvs q
      obtain ⟨n, p, xs, rfl, _, rfl, _, hx, rx'⟩ := dct_at m q rb
      simp only [Option.map_eq_some_iff] at e
      obtain ⟨k, ek, rfl⟩ := e
      have ey := key_vr ra ek
      subst ey
      have := DGet.k (k := k) hx
      cases ry
      refine d_notIn (by omega) I this rx fun s' I' => ⟨.bl _, H, I', rfl, ?_⟩
      rw [(KVR.val k rx').1]
      exact fin
    · split at e
      · rename_i d ds h1 h2
        split at e
        · rename_i hs
          rw [Bool.and_eq_true] at hs
          cases e
          exact op_notInD hu pins s sg H _ _ v u Q I rx ry ⟨d, ds, dp_py m h1 (noD hs.1) ra, dp_py m h2 (noD hs.2) rb, hs.1, hs.2, fin⟩
        · cases e
      · rename_i d ds h1 h2
        split at e
        · rename_i hs
          rw [Bool.and_eq_true] at hs
          cases e
          obtain ⟨as, r1⟩ := Dp.reads I d x v (dp_py m h1 (noD hs.1) ra) rx
          obtain ⟨bs, r2⟩ := Dp.reads I (.tuple ds) y u (dp_py m h2 (noD hs.2) rb) ry
          exact SeqAt.notIn_tuple_reads r2 r1 (SeqAt.canLay_of_shaped hs.2) (SeqAt.canLay_of_shaped hs.1) (room_in_shaped hs.1 hu) ⟨.bl _, H, I, rfl, fin⟩
        · cases e
      · rename_i cc zz h1 h2
        split at e
        · rename_i k hk
          cases e
          have ex := toPy_str m h1 ra
          have ey := toPy_str m h2 rb
          subst ex; subst ey
          have ec : cc = ⟨#[k]⟩ := by
            cases cc with
            | mk l => exact congrArg Str.mk (by apply Array.toList_inj.mp; exact hk)
          subst ec
          exact op_notIn_sign pins s sg H _ _ v u Q I rx ry ⟨k, zz, rfl, rfl, fin⟩
        · cases e
      · cases e
  · exact h.elim
end
section
variable {X : Cx} {ga : Str → Addr}
theorem opCmp (op : CmpOp) (hu : X.A.units + 65 < cLine) : OpR X (compareOp op) (r2 X.K ga (dCmp op)) := by
  intro pins s sg H x y v u Q I rx ry h
  cases op with
  | In => exact opIn hu pins s sg H x y v u Q I rx ry h
  | NotIn => exact opNotIn hu pins s sg H x y v u Q I rx ry h
  | Lt =>
    obtain ⟨rho, M, a, b, m, ra, rb, h⟩ := h
    unfold dCmp at h
    simp only at h
    split at h
    · rename_i i j
      cases ra.intE; cases rb.intE
      exact op_lt pins s sg H _ _ v u Q I rx ry ⟨i, j, rfl, rfl, h.here m (by simp only [VR])⟩
    · rename_i xs ys
      split at h
      · rename_i a b e1 e2
        split at h
        · rename_i hk
          rw [Bool.and_eq_true, decide_eq_true_eq] at hk
          have d1 : Dp X.K H x (.tuple a) := dp_tupF (M := M) m e1 ra
          have d2 : Dp X.K H y (.tuple b) := dp_tupF (M := M) m e2 rb
          obtain ⟨as, r1⟩ := Dp.reads I _ x v d1 rx
          obtain ⟨bs, r2⟩ := Dp.reads I _ y u d2 ry
          have z := PySem.W.rcLt_alike (.tuple a) (.tuple b) X.A s v u as bs r1 r2 (by simp only [PySem.W.alike]; exact hk.1) (by nofun) (by
            have : (PyData.tuple a).depth ≤ 51 := by simp only [PyData.depth]; omega
            omega)
          exact z _ _ _ _ ⟨.bl _, H, I, rfl, h.here m (by simp only [VR])⟩
        · exact h.elim
      · exact h.elim
    · exact h.elim
  | LtE =>
    obtain ⟨rho, M, a, b, m, ra, rb, h⟩ := h
    unfold dCmp at h
    simp only at h
    split at h
    · rename_i i j
      cases ra.intE; cases rb.intE
      exact op_le pins s sg H _ _ v u Q I rx ry ⟨i, j, rfl, rfl, h.here m (by simp only [VR])⟩
    · exact h.elim
  | Gt =>
    obtain ⟨rho, M, a, b, m, ra, rb, h⟩ := h
    unfold dCmp at h
    simp only at h
    split at h
    · rename_i i j
      cases ra.intE; cases rb.intE
      exact op_gt pins s sg H _ _ v u Q I rx ry ⟨i, j, rfl, rfl, h.here m (by simp only [VR])⟩
    · exact h.elim
  | GtE =>
    obtain ⟨rho, M, a, b, m, ra, rb, h⟩ := h
    unfold dCmp at h
    simp only at h
    split at h
    · rename_i i j
      cases ra.intE; cases rb.intE
      exact op_ge pins s sg H _ _ v u Q I rx ry ⟨i, j, rfl, rfl, h.here m (by simp only [VR])⟩
    · exact h.elim
  | Eq =>
    obtain ⟨rho, M, a, b, m, ra, rb, h⟩ := h
    unfold dCmp at h
    simp only at h
    split at h
    · rename_i c e
      rcases dEq_dp m e ra rb with ⟨h1, rfl⟩ | hem | ⟨d, e', h1, h2, h3, h4, rfl⟩
      rotate_left
      · exact (emQ_ok I (by omega) m hem ra rb rx ry).1 _ _ _ _ ⟨.bl c, H, I, rfl, h.here m (by simp only [VR])⟩
      rotate_left
      · exact op_eq pins s sg H _ _ v u Q I rx ry ⟨h1, h.here m (by simp only [VR])⟩
      exact op_eqD (by omega) pins s sg H _ _ v u Q I rx ry ⟨d, e', h1, h2, h3, h4, h.here m (by simp only [VR])⟩
    · exact h.elim
  | NotEq =>
    obtain ⟨rho, M, a, b, m, ra, rb, h⟩ := h
    unfold dCmp at h
    simp only at h
    split at h
    · rename_i c e
      rcases dEq_dp m e ra rb with ⟨h1, rfl⟩ | hem | ⟨d, e', h1, h2, h3, h4, rfl⟩
      rotate_left
      · exact (emQ_ok I (by omega) m hem ra rb rx ry).2 _ _ _ _ ⟨.bl (!c), H, I, rfl, h.here m (by simp only [VR])⟩
      rotate_left
      · exact op_ne pins s sg H _ _ v u Q I rx ry ⟨h1, h.here m (by simp only [VR])⟩
      exact op_neD (by omega) pins s sg H _ _ v u Q I rx ry ⟨d, e', h1, h2, h3, h4, h.here m (by simp only [VR])⟩
    · exact h.elim
  | _ =>
    obtain ⟨rho, M, a, b, m, ra, rb, h⟩ := h
    unfold dCmp at h
    exact h.elim
end
end Pf
set_option maxHeartbeats 4000000
/-! Pf: built-in functions and methods. -/
namespace Pf
open PySem PySem.Spec PyProof.Rows L2

def c1 (K : PySem.W.Frag) (ga : Str → Addr) (f : D → Ev D) : List V → Hp → VK → Prop := fun xs H Q => ∃ x, xs = [x] ∧ r1 K ga f x H Q
def c2 (K : PySem.W.Frag) (ga : Str → Addr) (f : D → D → Ev D) : List V → Hp → VK → Prop := fun xs H Q => ∃ x y, xs = [x, y] ∧ r2 K ga f x y H Q
section
variable {X : Cx} {ga : Str → Addr}
theorem SqT.sq {K : PySem.W.Frag} {H : Hp} {a : Addr} {xs : List V} (h : SqT K H a xs) : SqT K H a xs := h
theorem cLen : CallR X (.builtin "len") (c1 X.K ga dLen) := by
  intro pins s sg H xs us Q I r h
  obtain ⟨x, rfl, rho, M, a, m, ra, h⟩ := h
  unfold dLen at h
  split at h
  · rename_i z
    cases ra.strE
    split at h
    · rename_i hz
      exact call_len pins s sg H _ us Q I r ⟨_, z.length, rfl, ⟨SZ_le hz, rfl⟩, h.here m (by simp only [VR])⟩
    · exact h.elim
  · rename_i ds
    obtain ⟨p, xv, rfl, hx, rx'⟩ := ra.tupE
    exact call_len pins s sg H _ us Q I r ⟨_, xv.length, rfl, .inr ⟨xv, hx, rfl⟩, h.here m (by simp only [VR]; rw [rx'.length])⟩
  · rename_i n
    split at h
    · rename_i ds e1
      obtain ⟨p, xv, rfl, _, hx, rx'⟩ := ra.lref m e1
      exact call_len pins s sg H _ us Q I r ⟨_, xv.length, rfl, .inl ⟨xv, SqL.of hx, rfl⟩, h.here m (by simp only [VR]; rw [rx'.length])⟩
    · rename_i kvs e1
      obtain ⟨_, p, xv, e0, _, rfl, _, hx, rx'⟩ := dct_at (a := .ref n) (kvs := kvs) m (by simp only [dctOf, e1]) ra
      cases r with
      | cons r1 r2 =>
        cases r2
        cases r1
        refine d_len I (.inl hx) fun t s' I' => ⟨.int xv.length, H, I', ⟨t, rfl⟩, ?_⟩
        exact h.here m (by simp only [VR]; rw [rx'.len])
    · exact h.elim
  · rename_i ds
    obtain ⟨p, xv, rfl, hx, rx'⟩ := items_sq m ra (ds := ds) rfl
    exact call_len pins s sg H _ us Q I r ⟨_, xv.length, rfl, .inl ⟨xv, hx, rfl⟩, h.here m (by simp only [VR]; rw [rx'.length])⟩
  · exact h.elim
theorem allB_vs {rho : List Addr} {H : Hp} : ∀ {ds : List D} {b : Bool} {xs : List V}, allB ds = some b → VRs X.K ga rho H ds xs → ∃ bs : List Bool, xs = bs.map V.bl ∧ bs.all id = b
  | [], b, xs, e, r => by simp only [allB, Option.some.injEq] at e; simp only [VRs] at r; subst r; subst e; exact ⟨[], rfl, rfl⟩
  | .bl c :: ds, b, xs, e, r => by
    simp only [allB, Option.map_eq_some_iff] at e
    obtain ⟨b', e, rfl⟩ := e
    simp only [VRs] at r
    obtain ⟨v, vs, rfl, h1, h2⟩ := r
    obtain ⟨bs, rfl, h3⟩ := allB_vs e h2
    cases h1.blE
    exact ⟨c :: bs, rfl, by simp [h3]⟩
  | .non :: _, _, _, e, _ | .int _ :: _, _, _, e, _ | .str _ :: _, _, _, e, _ | .tup _ :: _, _, _, e, _ | .ref _ :: _, _, _, e, _ | .frz _ :: _, _, _, e, _ | .fn _ :: _, _, _, e, _ => by simp only [allB] at e; cases e
theorem anyB_vs {rho : List Addr} {H : Hp} : ∀ {ds : List D} {b : Bool} {xs : List V}, anyB ds = some b → VRs X.K ga rho H ds xs → ∃ bs : List Bool, xs = bs.map V.bl ∧ bs.any id = b
  | [], b, xs, e, r => by simp only [anyB, Option.some.injEq] at e; simp only [VRs] at r; subst r; subst e; exact ⟨[], rfl, rfl⟩
  | .bl c :: ds, b, xs, e, r => by
    simp only [anyB, Option.map_eq_some_iff] at e
    obtain ⟨b', e, rfl⟩ := e
    simp only [VRs] at r
    obtain ⟨v, vs, rfl, h1, h2⟩ := r
    obtain ⟨bs, rfl, h3⟩ := anyB_vs e h2
    cases h1.blE
    exact ⟨c :: bs, rfl, by simp [h3]⟩
  | .non :: _, _, _, e, _ | .int _ :: _, _, _, e, _ | .str _ :: _, _, _, e, _ | .tup _ :: _, _, _, e, _ | .ref _ :: _, _, _, e, _ | .frz _ :: _, _, _, e, _ | .fn _ :: _, _, _, e, _ => by simp only [anyB] at e; cases e
theorem sumI_vs {rho : List Addr} {H : Hp} : ∀ {ds : List D} {b : Int} {xs : List V}, sumI ds = some b → VRs X.K ga rho H ds xs → ∃ bs : List Int, xs = bs.map V.int ∧ bs.sum = b
  | [], b, xs, e, r => by simp only [sumI, Option.some.injEq] at e; simp only [VRs] at r; subst r; subst e; exact ⟨[], rfl, rfl⟩
  | .int c :: ds, b, xs, e, r => by
    simp only [sumI, Option.map_eq_some_iff] at e
    obtain ⟨b', e, rfl⟩ := e
    simp only [VRs] at r
    obtain ⟨v, vs, rfl, h1, h2⟩ := r
    obtain ⟨bs, rfl, h3⟩ := sumI_vs e h2
    cases h1.intE
    exact ⟨c :: bs, rfl, by simp [h3]⟩
  | .non :: _, _, _, e, _ | .bl _ :: _, _, _, e, _ | .str _ :: _, _, _, e, _ | .tup _ :: _, _, _, e, _ | .ref _ :: _, _, _, e, _ | .frz _ :: _, _, _, e, _ | .fn _ :: _, _, _, e, _ => by simp only [sumI] at e; cases e
theorem cAll (hc : X.calm = true) : CallR X (.builtin "all") (c1 X.K ga dAll) := by
  intro pins s sg H xs us Q I r h
  obtain ⟨x, rfl, rho, M, a, m, ra, h⟩ := h
  unfold dAll at h
  split at h
  · rename_i ds e
    obtain ⟨p, xv, rfl, hx, rx'⟩ := items_sq m ra e
    split at h
    · rename_i b e2
      obtain ⟨bs, rfl, e3⟩ := allB_vs e2 rx'
      exact cr_all hc pins s sg H _ us Q I r ⟨p, bs, rfl, hx, by rw [e3]; exact h.here m (by simp only [VR])⟩
    · exact h.elim
  · exact h.elim
theorem cAny (hc : X.calm = true) : CallR X (.builtin "any") (c1 X.K ga dAny) := by
  intro pins s sg H xs us Q I r h
  obtain ⟨x, rfl, rho, M, a, m, ra, h⟩ := h
  unfold dAny at h
  split at h
  · rename_i ds e
    obtain ⟨p, xv, rfl, hx, rx'⟩ := items_sq m ra e
    split at h
    · rename_i b e2
      obtain ⟨bs, rfl, e3⟩ := anyB_vs e2 rx'
      exact cr_any hc pins s sg H _ us Q I r ⟨p, bs, rfl, hx, by rw [e3]; exact h.here m (by simp only [VR])⟩
    · exact h.elim
  · exact h.elim
theorem sum_tup_raw {prog : Program} {w : World} {A : Around} {E : Value → Shared → Prop} {s : Shared} {t : Addr} {its : List Value} {ns : List Int} {Q : Value → Shared → Prop} (hh : A.handled = none) (ht : s.heap.IsTuple t its.toArray) (hi : IntsAre its ns)
    (h : ∀ h' tk t', (∀ b o, s.heap.get? b = some o → h'.get? b = some o) → Q (.int ns.sum t') { s with heap := h', toks := tk }) : wpAny (model prog w) A (call (.builtin "sum") [.ref t]) Q E s := by
  obtain ⟨xs, e⟩ := hi.allInts.items
  have hn : numsOf (intItems xs).toList = ns := by rw [← e]; exact hi.numsOf
  rw [nums_intItems] at hn
  rw [e] at ht
  refine PySem.W.ktm_sumG hh ht fun h' tk t' hk => ?_
  have := h h' tk t' hk
  rw [preSum_eq, List.take_of_length_le (by simp), hn]; exact this
theorem cr_sumT (hc : X.calm = true) : CallR X (.builtin "sum") (fun vs H Q => ∃ (a : Addr) (ns : List Int), vs = [V.ref a] ∧ SqT X.K H a (ns.map V.int) ∧ Q (.int ns.sum) H) := by
  intro pins s sg H vs us Q I r h
  obtain ⟨a, ns, rfl, hs, q⟩ := h
  obtain ⟨its, rv, hl, _⟩ := I.tuple hs
  rw [Vals.ref1 r]
  exact sum_tup_raw (I.ok.hd hc) hl rv.ints fun h' tk t' hk => ⟨.int _, H, I.kept hk, ⟨_, rfl⟩, q⟩
theorem cSum (hc : X.calm = true) : CallR X (.builtin "sum") (c1 X.K ga dSum) := by
  intro pins s sg H xs us Q I r h
  obtain ⟨x, rfl, rho, M, a, m, ra, h⟩ := h
  unfold dSum at h
  split at h
  · rename_i ds
    obtain ⟨p, xv, rfl, hx, rx'⟩ := ra.tupE
    split at h
    · rename_i b e2
      obtain ⟨bs, rfl, e3⟩ := sumI_vs e2 rx'
      exact cr_sumT hc pins s sg H _ us Q I r ⟨p, bs, rfl, hx, by rw [e3]; exact h.here m (by simp only [VR])⟩
    · exact h.elim
  · unfold dSumL at h
    split at h
    · rename_i ds e
      obtain ⟨p, xv, rfl, hx, rx'⟩ := items_sq m ra e
      split at h
      · rename_i b e2
        obtain ⟨bs, rfl, e3⟩ := sumI_vs e2 rx'
        exact cr_sum hc pins s sg H _ us Q I r ⟨p, bs, rfl, hx, by rw [e3]; exact h.here m (by simp only [VR])⟩
      · exact h.elim
    · exact h.elim
theorem cMax (hc : X.calm = true) : CallR X (.builtin "max") (c2 X.K ga dMax2) := by
  intro pins s sg H xs us Q I r h
  obtain ⟨x, y, rfl, rho, M, a, b, m, ra, rb, h⟩ := h
  unfold dMax2 at h
  split at h
  · rename_i i j
    cases ra.intE; cases rb.intE
    exact call_max2 hc pins s sg H _ us Q I r ⟨i, j, rfl, h.here m (by simp only [VR])⟩
  · exact h.elim
theorem cMin (hc : X.calm = true) : CallR X (.builtin "min") (c2 X.K ga dMin2) := by
  intro pins s sg H xs us Q I r h
  obtain ⟨x, y, rfl, rho, M, a, b, m, ra, rb, h⟩ := h
  unfold dMin2 at h
  split at h
  · rename_i i j
    cases ra.intE; cases rb.intE
    exact call_min2 hc pins s sg H _ us Q I r ⟨i, j, rfl, h.here m (by simp only [VR])⟩
  · exact h.elim
theorem keys_vrs {rho : List Addr} {H : Hp} : ∀ {kvs : List (Key × D)} {xs : List (Key × V)}, KVR X.K ga rho H kvs xs → VRs X.K ga rho H (kvs.map fun kv => kD kv.1) (xs.map fun kv => kV kv.1)
  | [], xs, r => by simp only [KVR] at r; subst r; simp [VRs]
  | kv :: kvs, xs, r => by
    simp only [KVR] at r
    obtain ⟨v, r', rfl, e, _, r2⟩ := r
    simp only [List.map_cons, VRs]
    refine ⟨_, _, rfl, ?_, keys_vrs r2⟩
    rw [← e]
    cases kv.1 with
    | inl i => simp only [kD, kV, VR]
    | inr x => simp only [kD, kV, VR]
theorem cList (hcalm : X.calm = true) : CallR X (.type "list") (c1 X.K ga dList) := by
  intro pins s sg H xs us Q I r h
  obtain ⟨x, rfl, rho, M, a, m, ra, h⟩ := h
  unfold dList at h
  split at h
  · rename_i ds
    obtain ⟨p, xv, rfl, hx, rx'⟩ := ra.tupE
    exact call_list_of pins s sg H _ us Q I r ⟨p, xv, rfl, .inr hx, (h.newl m rx').2⟩
  · split at h
    · rename_i ds e
      obtain ⟨p, xv, rfl, hx, rx'⟩ := items_sq m ra e
      exact call_list_of pins s sg H _ us Q I r ⟨p, xv, rfl, .inl hx, (h.newl m rx').2⟩
    · split at h
      · rename_i kvs e
        obtain ⟨n, p, xv, rfl, _, rfl, _, hx, rx'⟩ := dct_at m e ra
        exact call_listD hcalm pins s sg H _ us Q I r ⟨p, xv, rfl, .inl hx, (h.newl m (keys_vrs rx')).2⟩
      · exact h.elim
theorem cTuple : CallR X (.type "tuple") (c1 X.K ga dTuple) := by
  intro pins s sg H xs us Q I r h
  obtain ⟨x, rfl, rho, M, a, m, ra, h⟩ := h
  unfold dTuple at h
  split at h
  · rename_i ds
    obtain ⟨p, xv, rfl, hx, rx'⟩ := ra.tupE
    exact call_tuple_of pins s sg H _ us Q I r ⟨p, xv, rfl, .inr ⟨hx, h.here m ra⟩⟩
  · split at h
    · rename_i ds e
      obtain ⟨p, xv, rfl, hx, rx'⟩ := items_sq m ra e
      exact call_tupleF pins s sg H _ us Q I r ⟨p, xv, rfl, .inl ⟨hx, (h.newt m rx').2⟩⟩
    · exact h.elim
theorem cInt : CallR X (.type "int") (c1 X.K ga dInt) := by
  intro pins s sg H xs us Q I r h
  obtain ⟨x, rfl, rho, M, a, m, ra, h⟩ := h
  unfold dInt at h
  split at h
  · rename_i i
    cases ra.intE
    exact call_int1 pins s sg H _ us Q I r (.inl ⟨i, rfl, h.here m (by simp only [VR])⟩)
  · rename_i b
    cases ra.blE
    exact call_int1 pins s sg H _ us Q I r (.inr ⟨b, rfl, h.here m (by simp only [VR])⟩)
  · rename_i z
    split at h
    · rename_i i hi
      split at h
      · rename_i hz
        simp only [VR] at ra
        subst ra
        exact call_int_str pins s sg H _ us Q I r ⟨z, i, rfl, hi, hz, h.here m (by simp only [VR])⟩
      · exact h.elim
    · exact h.elim
  · exact h.elim
theorem cStr : CallR X (.type "str") (c1 X.K ga dStr) := by
  intro pins s sg H xs us Q I r h
  obtain ⟨x, rfl, rho, M, a, m, ra, h⟩ := h
  unfold dStr at h
  split at h
  · rename_i i
    split at h
    · rename_i hi
      cases ra.intE
      exact call_str_int pins s sg H _ us Q I r ⟨i, rfl, hi, h.here m (by simp only [VR])⟩
    · exact h.elim
  · exact h.elim

/-! ### repr -/
def SysM (K : PySem.W.Frag) : Prop := ∃ o, K.lookup sysModules = some o ∧ o.cls = .type "dict"
theorem no_sys {pins : List (Addr × Obj)} {sg : L2.St} {H : Hp} {s : Shared} (I : Inv X pins sg H s) (hs : SysM X.K) {a : Addr} {o : HO} (h : H a = some o) : a ≠ sysModules := by
  rintro rfl
  obtain ⟨o', e, _⟩ := hs
  have := (I.bs _ _ (I.mod.kin _ _ e)).2
  rw [h] at this; cases this
theorem no_sysS (hs : SysM X.K) {a : Addr} {xs : List V} (h : stL X.K a xs) : a ≠ sysModules := by
  rintro rfl
  obtain ⟨o', e, c⟩ := hs
  obtain ⟨o, its, n, e2, c2, _⟩ := h
  rw [e] at e2; cases e2
  rw [c] at c2
  exact absurd c2 (by decide +kernel)
theorem keyPy_reads {h : Heap} {k : Key} {u : Value} (e : keyIs k u = true) : Reads h u (keyPy k) [] := by
  rcases keyIs_shape e with ⟨i, t, rfl, rfl⟩ | ⟨x, t, rfl, rfl⟩
  · exact .int i t
  · exact .str x t
section
variable {pins : List (Addr × Obj)} {sg : L2.St} {H : Hp} {s : Shared} {rho : List Addr}
def RdOk (h : Heap) (u : Value) (p : PyData) : Prop := ∃ as, Reads h u p as ∧ ∀ a ∈ as, a ≠ sysModules
def RdsOk (h : Heap) (us : List Value) (ps : List PyData) : Prop := ∃ as, ReadsAll h us ps as ∧ ∀ a ∈ as, a ≠ sysModules
mutual
theorem rd_of (I : Inv X pins sg H s) (hs : SysM X.K) {R : Nat → Option PyData} (hR : ∀ k p x u, R k = some p → VR X.K ga rho H (.ref k) x → RelV x u → RdOk s.heap u p) :
    ∀ (d : D) (p : PyData) (x : V) (u : Value), toPyF R d = some p → VR X.K ga rho H d x → RelV x u → RdOk s.heap u p
  | .non, p, x, u, e, r, q => by simp only [toPyF, Option.some.injEq] at e; subst e; simp only [VR] at r; subst r; cases q; exact ⟨[], .none, by simp⟩
  | .bl b, p, x, u, e, r, q => by simp only [toPyF, Option.some.injEq] at e; subst e; simp only [VR] at r; subst r; cases q; exact ⟨[], .bool b, by simp⟩
  | .int i, p, x, u, e, r, q => by simp only [toPyF, Option.some.injEq] at e; subst e; simp only [VR] at r; subst r; obtain ⟨t, rfl⟩ := q; exact ⟨[], .int i t, by simp⟩
  | .str i, p, x, u, e, r, q => by simp only [toPyF, Option.some.injEq] at e; subst e; simp only [VR] at r; subst r; obtain ⟨t, rfl⟩ := q; exact ⟨[], .str i t, by simp⟩
  | .tup ds, p, x, u, e, r, q => by
    simp only [toPyF, Option.map_eq_some_iff] at e
    obtain ⟨ps, e, rfl⟩ := e
    obtain ⟨a, xs, rfl, h1, h2⟩ := r.tupE
    cases q
    obtain ⟨its, rv, ⟨o, ho, hc, n, hd⟩, _⟩ := I.tuple h1
    obtain ⟨as, hr, hn⟩ := rds_of I hs hR ds ps xs its e h2 rv
    exact ⟨as, .tuple ho hc hd (by simpa using hr), hn⟩
  | .frz ds, p, x, u, e, r, q => by simp only [toPyF] at e; cases e
  | .ref k, p, x, u, e, r, q => hR k p x u (by simpa only [toPyF] using e) r q
  | .fn _, p, x, u, e, _, _ => by simp only [toPyF] at e; cases e
theorem rds_of (I : Inv X pins sg H s) (hs : SysM X.K) {R : Nat → Option PyData} (hR : ∀ k p x u, R k = some p → VR X.K ga rho H (.ref k) x → RelV x u → RdOk s.heap u p) :
    ∀ (ds : List D) (ps : List PyData) (xs : List V) (us : List Value), toPyFs R ds = some ps → VRs X.K ga rho H ds xs → Vals xs us → RdsOk s.heap us ps
  | [], ps, xs, us, e, r, q => by simp only [toPyFs, Option.some.injEq] at e; subst e; simp only [VRs] at r; subst r; cases q; exact ⟨[], .nil, by simp⟩
  | d :: ds, ps, xs, us, e, r, q => by
    simp only [toPyFs, Option.bind_eq_some_iff, Option.map_eq_some_iff] at e
    obtain ⟨a, e1, as, e2, rfl⟩ := e
    simp only [VRs] at r
    obtain ⟨v, vs, rfl, r1, r2⟩ := r
    cases q with
    | cons q1 q2 =>
      obtain ⟨as1, h1, n1⟩ := rd_of I hs hR d a v _ e1 r1 q1
      obtain ⟨as2, h2, n2⟩ := rds_of I hs hR ds as vs _ e2 r2 q2
      exact ⟨_, .cons h1 h2, fun b hb => (List.mem_append.mp hb).elim (n1 b) (n2 b)⟩
end
theorem rdk_of (I : Inv X pins sg H s) (hs : SysM X.K) {R : Nat → Option PyData} (hR : ∀ k p x u, R k = some p → VR X.K ga rho H (.ref k) x → RelV x u → RdOk s.heap u p) :
    ∀ (ds : List (Key × D)) (ps : List (PyData × PyData)) (xs : List (Key × V)) (us : List (Key × Value)) (es : List DictEntry), toPyFk R ds = some ps → KVR X.K ga rho H ds xs → KV xs us → Pairs (mixKind X.prog X.w) es us →
      RdsOk s.heap (es.map (·.key)) (ps.map (·.1)) ∧ RdsOk s.heap (es.map (·.val)) (ps.map (·.2))
  | [], ps, xs, us, es, e, r, q, z => by
    simp only [toPyFk, Option.some.injEq] at e; subst e
    have r' : xs = [] := r
    subst r'; cases q; cases z
    exact ⟨⟨[], .nil, by simp⟩, ⟨[], .nil, by simp⟩⟩
  | d :: ds, ps, xs, us, es, e, r, q, z => by
    simp only [toPyFk, Option.bind_eq_some_iff, Option.map_eq_some_iff] at e
    obtain ⟨a, e1, as, e2, rfl⟩ := e
    obtain ⟨v, vs, rfl, rk, r1, r2⟩ := r
    cases q with
    | cons q1 q2 =>
      cases z with
      | cons z1 z2 z3 =>
        obtain ⟨⟨as1, h1, n1⟩, ⟨as2, h2, n2⟩⟩ := rdk_of I hs hR ds as vs _ _ e2 r2 q2 z3
        obtain ⟨as3, h3, n3⟩ := rd_of I hs hR d.2 a v.2 _ e1 r1 q1.2
        have hk := keyPy_reads (h := s.heap) z1
        rw [← q1.1, ← rk] at hk
        refine ⟨⟨[] ++ as1, .cons hk h1, by simpa using n1⟩, ⟨as3 ++ as2, .cons (by show Reads s.heap (DictEntry.val _) _ _; rw [z2]; exact h3) h2, fun b hb => (List.mem_append.mp hb).elim (n3 b) (n2 b)⟩⟩
theorem rd_N (I : Inv X pins sg H s) (hs : SysM X.K) {M : Mem} (m : MR X.K ga rho H M) : ∀ (n k : Nat) (p : PyData) (x : V) (u : Value), toPyN M n k = some p → VR X.K ga rho H (.ref k) x → RelV x u → RdOk s.heap u p
  | 0, k, p, x, u, e, _, _ => by simp only [toPyN] at e; cases e
  | n + 1, k, p, x, u, e, r, q => by
    simp only [toPyN] at e
    split at e
    · rename_i ds h
      simp only [Option.map_eq_some_iff] at e
      obtain ⟨ps, e, rfl⟩ := e
      obtain ⟨a, xs, rfl, _, h2, h3⟩ := VR.lref m r h
      cases q
      obtain ⟨its, rv, ⟨o, c, ho, hc, _, hd⟩, _⟩ := I.list (SqL.of (K := X.K) h2)
      obtain ⟨as, hr, hn⟩ := rds_of I hs (rd_N I hs m n) ds ps xs its e h3 rv
      exact ⟨a :: as, .list ho hc hd (by simpa using hr), fun b hb => (List.mem_cons.mp hb).elim (fun z => by rw [z]; exact no_sys I hs h2) (hn b)⟩
    · rename_i ds h
      simp only [Option.map_eq_some_iff] at e
      obtain ⟨ps, e, rfl⟩ := e
      obtain ⟨a, xs, h1, h2, h3⟩ := m.dct h
      simp only [VR] at r
      obtain ⟨a', rfl, e2⟩ := r
      rw [h1] at e2; cases e2
      cases q
      obtain ⟨_, hS, vs, kv, o, es, ep, ho, hx, hd, _, pr, _⟩ : xs.length ≤ sizeLine ∧ (a == sysModules) = false ∧ ∃ vs, KV xs vs ∧ s.heap.DictOf (mixKind X.prog X.w) a vs := I.hok a _ h2
      obtain ⟨⟨as1, q1, n1⟩, ⟨as2, q2, n2⟩⟩ := rdk_of I hs (rd_N I hs m n) ds ps xs vs es.toList e h3 kv pr
      refine ⟨a :: as1 ++ as2, .dict ho hx.1 hd q1 q2, fun b hb => ?_⟩
      simp only [List.cons_append, List.mem_cons, List.mem_append] at hb
      rcases hb with rfl | hb | hb
      · exact no_sys I hs h2
      · exact n1 b hb
      · exact n2 b hb
    · cases e
theorem repr_any {A : Around} {u : Value} {p : PyData} {E : Value → Shared → Prop} {Q : Value → Shared → Prop} (r : RdOk s.heap u p) (hs : p.showable = true) (hz : p.shown.length ≤ sizeLine) (hg : A.guards = some []) (hu : A.units + (p.depth + 1) < cLine)
    (hQ : ∀ h' tk t, (∀ b o, s.heap.get? b = some o → h'.get? b = some o) → Q (.str p.shown t) { s with heap := h', toks := tk }) : wpAny (model X.prog X.w) A (call (.builtin "repr") [u]) Q E s := by
  obtain ⟨as, rd, na⟩ := r
  cases rd with
  | none => exact PySem.P.repr_of_none (by have := hQ s.heap (s.toks + 1) s.toks fun _ _ e => e; simpa only [PyData.shown] using this)
  | bool b => exact PySem.P.repr_of_bool (by have := hQ s.heap (s.toks + 1) s.toks fun _ _ e => e; cases b <;> simpa only [PyData.shown] using this)
  | int i t =>
    simp only [PyData.showable, decide_eq_true_eq] at hs
    exact PySem.P.repr_of_int hs (by have := hQ s.heap (s.toks + 1) s.toks fun _ _ e => e; simpa only [PyData.shown] using this)
  | str x t => exact PySem.P.repr_of_str (by have := hQ s.heap (s.toks + 1) s.toks fun _ _ e => e; simpa only [PyData.shown] using this) (by simpa only [PyData.shown] using hz)
  | list h1 h2 h3 h4 => exact repr_of_reads' (.list h1 h2 h3 h4) hs (fun _ z => na _ z rfl) hg hu (fun _ _ e => e) (fun h' t tk k => hQ h' tk t k) hz
  | tuple h1 h2 h3 h4 => exact repr_of_reads' (.tuple h1 h2 h3 h4) hs (fun _ z => na _ z rfl) hg hu (fun _ _ e => e) (fun h' t tk k => hQ h' tk t k) hz
  | dict h1 h2 h3 h4 h5 => exact repr_of_reads' (.dict h1 h2 h3 h4 h5) hs (fun _ z => na _ z rfl) hg hu (fun _ _ e => e) (fun h' t tk k => hQ h' tk t k) hz
end
theorem cRepr (hs : SysM X.K) (hg : X.A.guards = some []) (hu : X.A.units + 150 < cLine) : CallR X (.builtin "repr") (c1 X.K ga dRepr) := by
  intro pins s sg H xs us Q I r h
  obtain ⟨x, rfl, rho, M, a, m, ra, h⟩ := h
  obtain ⟨u, rfl, rx⟩ := vals1 r
  unfold dRepr at h
  split at h
  · rename_i z e
    unfold dShown at e
    split at e
    · rename_i p e2
      split at e
      · rename_i hc
        cases e
        simp only [Bool.and_eq_true, decide_eq_true_eq] at hc
        refine repr_any (rd_of I hs (rd_N I hs m 100) a p x u e2 ra rx) hc.1.1 (SZ_le hc.1.2) hg (by omega) fun h' tk t k => ?_
        exact ⟨.str p.shown, H, I.kept (t' := tk) k, ⟨t, rfl⟩, h.here m (by simp only [VR])⟩
      · cases e
    · cases e
  · exact h.elim

/-! ### isinstance -/
theorem boot_ty {T : Str} {t : String} {b : Bool} (e : isiT t T = some b) : ∃ n : String, bootBuiltins T = some (.type n) ∧ ((t = "NoneType" ∨ t = "bool" ∨ t = "int" ∨ t = "str" ∨ t = "tuple" ∨ t = "list" ∨ t = "dict") → kitB t n = some b) := by
  unfold isiT at e
  split at e
  · rename_i h
    have h' := eq_of_beq h
    subst h'
    cases e
    exact ⟨"int", by decide +kernel, by rintro (rfl | rfl | rfl | rfl | rfl | rfl | rfl) <;> decide +kernel⟩
  · split at e
    · rename_i h
      have h' := eq_of_beq h
      subst h'
      cases e
      exact ⟨"bool", by decide +kernel, by rintro (rfl | rfl | rfl | rfl | rfl | rfl | rfl) <;> decide +kernel⟩
    · split at e
      · rename_i h
        have h' := eq_of_beq h
        subst h'
        cases e
        exact ⟨"str", by decide +kernel, by rintro (rfl | rfl | rfl | rfl | rfl | rfl | rfl) <;> decide +kernel⟩
      · split at e
        · rename_i h
          have h' := eq_of_beq h
          subst h'
          cases e
          exact ⟨"tuple", by decide +kernel, by rintro (rfl | rfl | rfl | rfl | rfl | rfl | rfl) <;> decide +kernel⟩
        · split at e
          · rename_i h
            have h' := eq_of_beq h
            subst h'
            cases e
            exact ⟨"list", by decide +kernel, by rintro (rfl | rfl | rfl | rfl | rfl | rfl | rfl) <;> decide +kernel⟩
          · cases e
theorem ty_of {rho : List Addr} {H : Hp} {M : Mem} (m : MR X.K ga rho H M) {a : D} {x : V} (r : VR X.K ga rho H a x) {t : String} (e : dTy a M = some t) :
    (t = "NoneType" ∨ t = "bool" ∨ t = "int" ∨ t = "str" ∨ t = "tuple" ∨ t = "list" ∨ t = "dict") ∧ TyX X.K H x (.type t) := by
  unfold dTy at e
  split at e
  · cases e; simp only [VR] at r; subst r; exact ⟨.inl rfl, .base .non⟩
  · cases e; simp only [VR] at r; subst r; exact ⟨.inr (.inl rfl), .base (.bl _)⟩
  · cases e; simp only [VR] at r; subst r; exact ⟨.inr (.inr (.inl rfl)), .base (.int _)⟩
  · cases e; simp only [VR] at r; subst r; exact ⟨.inr (.inr (.inr (.inl rfl))), .base (.str _)⟩
  · cases e
    obtain ⟨p, xv, rfl, hx, rx'⟩ := r.tupE
    refine ⟨.inr (.inr (.inr (.inr (.inl rfl)))), ?_⟩
    rcases hx with (h | ⟨o, h⟩) | ⟨o, its, n, h, c, _⟩
    · exact .base (.tup h)
    · exact .fTuple h
    · exact .kTuple h c
  · split at e
    · rename_i ds h
      cases e
      obtain ⟨p, xv, rfl, _, hx, _⟩ := r.lref m h
      exact ⟨.inr (.inr (.inr (.inr (.inr (.inl rfl))))), .base (.lst hx)⟩
    · rename_i ds h
      cases e
      obtain ⟨p, xv, h1, hx, _⟩ := m.dct h
      simp only [VR] at r
      obtain ⟨p', rfl, e2⟩ := r
      rw [h1] at e2; cases e2
      exact ⟨.inr (.inr (.inr (.inr (.inr (.inr rfl))))), .base (.dK hx)⟩
    · cases e
  · cases e

/-! ### is -/
theorem opIs {c : Const} (cv : V) (hc : (c = .none ∧ cv = .non) ∨ ∃ b, c = .bool b ∧ cv = .bl b) : OpR X (compareOp .Is) (fun x y H Q => y = cv ∧ ∃ rho M a b, MR X.K ga rho H M ∧ VR X.K ga rho H a x ∧ dIs a c = some b ∧ Q (.bl b) H) := by
  intro pins s sg H x y v u Q I rx ry h
  obtain ⟨rfl, rho, M, a, b, m, ra, e, h⟩ := h
  rcases hc with ⟨rfl, rfl⟩ | ⟨k, rfl, rfl⟩
  · refine op_isN pins s sg H x _ v u Q I rx ry ⟨rfl, ?_⟩
    have hb : decide (x = V.non) = b := by
      unfold dIs at e
      split at e
      · cases e; simp only [VR] at ra; subst ra; rfl
      · cases e; simp only [VR] at ra; subst ra; rfl
      · cases e; simp only [VR] at ra; subst ra; rfl
      · cases e; simp only [VR] at ra; subst ra; rfl
      · cases e; obtain ⟨p, xs, rfl, _⟩ := ra.tupE; rfl
      · cases e; simp only [VR] at ra; obtain ⟨p, rfl, _⟩ := ra; rfl
      · rename_i z; cases z
      · cases e
    rw [hb]; exact h
  · unfold dIs at e
    split at e
    · rename_i z; cases z
    · rename_i z; cases z
    · rename_i z; cases z
    · rename_i z; cases z
    · rename_i z; cases z
    · rename_i z; cases z
    · rename_i z
      cases z; cases e
      cases ra.blE
      refine op_isBl pins s sg H _ _ v u Q I rx ry ⟨_, _, rfl, rfl, ?_⟩
      rw [show decide (_ = k) = (_ == k) from (Bool.beq_eq_decide_eq _ k).symm]
      exact h
    · cases e
theorem opIsNot {c : Const} (cv : V) (hc : (c = .none ∧ cv = .non) ∨ ∃ b, c = .bool b ∧ cv = .bl b) : OpR X (compareOp .IsNot) (fun x y H Q => y = cv ∧ ∃ rho M a b, MR X.K ga rho H M ∧ VR X.K ga rho H a x ∧ dIs a c = some b ∧ Q (.bl (!b)) H) := by
  intro pins s sg H x y v u Q I rx ry h
  obtain ⟨rfl, rho, M, a, b, m, ra, e, h⟩ := h
  rcases hc with ⟨rfl, rfl⟩ | ⟨k, rfl, rfl⟩
  · refine op_notN pins s sg H x _ v u Q I rx ry ⟨rfl, ?_⟩
    have hb : decide (x = V.non) = b := by
      unfold dIs at e
      split at e
      · cases e; simp only [VR] at ra; subst ra; rfl
      · cases e; simp only [VR] at ra; subst ra; rfl
      · cases e; simp only [VR] at ra; subst ra; rfl
      · cases e; simp only [VR] at ra; subst ra; rfl
      · cases e; obtain ⟨p, xs, rfl, _⟩ := ra.tupE; rfl
      · cases e; simp only [VR] at ra; obtain ⟨p, rfl, _⟩ := ra; rfl
      · rename_i z; cases z
      · cases e
    rw [hb]; exact h
  · unfold dIs at e
    split at e
    · rename_i z; cases z
    · rename_i z; cases z
    · rename_i z; cases z
    · rename_i z; cases z
    · rename_i z; cases z
    · rename_i z; cases z
    · rename_i z
      cases z; cases e
      cases ra.blE
      refine op_notBl pins s sg H _ _ v u Q I rx ry ⟨_, _, rfl, rfl, ?_⟩
      rw [show decide (_ = k) = (_ == k) from (Bool.beq_eq_decide_eq _ k).symm]
      exact h
    · cases e

/-! ### parts -/
theorem atI_ds {rho : List Addr} {H : Hp} {ds : List D} {xs : List V} (r : VRs X.K ga rho H ds xs) {i : Int} {d : D} (e : atI ds i = some d) : ∃ v, atI xs i = some v ∧ VR X.K ga rho H d v := by
  unfold atI at e ⊢
  rw [r.length]
  cases q : ixN ds.length i with
  | none => rw [q] at e; cases e
  | some j =>
    rw [q] at e
    exact r.get e
theorem ixS : IxR X (r2 X.K ga dIdxS) := by
  intro value slice pins s sg H x y v u Q I rx ry h hs
  obtain ⟨rho, M, a, b, m, ra, rb, h⟩ := h
  unfold dIdxS at h
  split at h
  · rename_i i
    cases rb.intE
    split at h
    · rename_i ds
      split at h
      · rename_i d e
        obtain ⟨p, xv, rfl, hx, rx'⟩ := ra.tupE
        obtain ⟨w, e2, rw⟩ := atI_ds rx' e
        exact ix_seq value slice pins s sg H _ _ v u Q I rx ry (.inr (.inl ⟨p, xv, i, w, rfl, rfl, hx, e2, h.here m rw⟩)) hs
      · exact h.elim
    · rename_i z
      cases ra.strE
      split at h
      · rename_i c e
        split at h
        · rename_i hz
          exact ix_seq value slice pins s sg H _ _ v u Q I rx ry (.inr (.inr ⟨z, i, c, rfl, rfl, SZ_le hz, e, h.here m (by simp only [VR])⟩)) hs
        · exact h.elim
      · exact h.elim
    · split at h
      · rename_i ds e1
        split at h
        · rename_i d e
          obtain ⟨p, xv, rfl, hx, rx'⟩ := items_sq m ra e1
          obtain ⟨w, e2, rw⟩ := atI_ds rx' e
          exact ix_seq value slice pins s sg H _ _ v u Q I rx ry (.inl ⟨p, xv, i, w, rfl, rfl, hx, e2, h.here m rw⟩) hs
        · exact h.elim
      · exact h.elim
  · exact h.elim
theorem fdc_at {rho : List Addr} {H : Hp} {M : Mem} (m : MR X.K ga rho H M) {a : D} {x : V} {kvs : List (Key × D)} (e : fdcOf a M = some kvs) (r : VR X.K ga rho H a x) : ∃ p o xs, x = .ref p ∧ H p = some (.frz o (.dK xs)) ∧ KVR X.K ga rho H kvs xs := by
  unfold fdcOf at e
  split at e
  · rename_i n
    split at e
    · rename_i k q
      cases e
      obtain ⟨p, o, xs, h1, h2, h3⟩ := m.fdc q
      simp only [VR] at r
      obtain ⟨p', rfl, h4⟩ := r
      rw [h1] at h4; cases h4
      exact ⟨p, o, xs, rfl, h2, h3⟩
    · cases e
  · cases e
theorem ixD (hu : X.A.units + 1 < cLine) : IxR X (r2 X.K ga dIdx) := by
  intro value slice pins s sg H x y v u Q I rx ry h hs
  obtain ⟨rho, M, a, b, m, ra, rb, h⟩ := h
  unfold dIdx at h
  split at h
  · rename_i kvs e
    split at h
    · rename_i d hk
      simp only [Option.bind_eq_some_iff] at hk
      obtain ⟨k, ek, ev⟩ := hk
      obtain ⟨n, p, xs, rfl, _, rfl, _, hx, rx'⟩ := dct_at m e ra
      have ey := key_vr rb ek
      subst ey
      obtain ⟨w, ew, rw⟩ := (KVR.val k rx').2 d ev
      have g := DGet.k (k := k) hx
      rw [ew] at g
      cases rx
      exact tail_any (dict_typeIs I g) PySem.F.slot_dict_getitem.lookup (d_getItem hu I g ry fun w' s' I' rw' => ⟨w, H, I', rw', h.here m rw⟩) hs
    · exact h.elim
  · split at h
    · rename_i kvs e
      split at h
      · rename_i d hk
        simp only [Option.bind_eq_some_iff] at hk
        obtain ⟨k, ek, ev⟩ := hk
        obtain ⟨p, o, xs, rfl, hx, rx'⟩ := fdc_at m e ra
        have ey := key_vr rb ek
        subst ey
        obtain ⟨w, ew, rw⟩ := (KVR.val k rx').2 d ev
        have g : DGet H p (kV k) (valV xs k) := .inl ⟨xs, k, .inr ⟨o, hx⟩, rfl, rfl⟩
        rw [ew] at g
        cases rx
        exact tail_any (dict_typeIs I g) PySem.F.slot_dict_getitem.lookup (d_getItem hu I g ry fun w' s' I' rw' => ⟨w, H, I', rw', h.here m rw⟩) hs
      · exact h.elim
    · exact ixS value slice pins s sg H x y v u Q I rx ry ⟨rho, M, a, b, m, ra, rb, h⟩ hs
theorem cut_rel {rho : List Addr} {H : Hp} {ds : List D} {xs : List V} (r : VRs X.K ga rho H ds xs) (lo hi : Option Int) : VRs X.K ga rho H (cutD ds lo hi) (cutV xs lo hi) := by
  unfold cutD cutV
  rw [r.length]
  exact (r.drop _).take _
theorem slD : SlR X (fun x lo hi H Q => ∃ rho M a, MR X.K ga rho H M ∧ VR X.K ga rho H a x ∧ Op X.K ga rho H (dSlice a lo hi M) Q) := by
  intro pins s sg H x v vl vu lo hi sl Q I rx hs pl pu h
  obtain ⟨rho, M, a, m, ra, h⟩ := h
  unfold dSlice at h
  split at h
  · rename_i ds
    obtain ⟨p, xv, rfl, hx, rx'⟩ := ra.tupE
    refine sl_tupF pins s sg H _ v vl vu lo hi sl Q I rx hs pl pu ⟨p, xv, rfl, hx, fun w => ?_, fun _ => h.tup m (cut_rel rx' lo hi)⟩
    have e : cutD ds lo hi = ds := by
      unfold cutD
      rw [rx'.length] at w
      rw [w.1, w.2]
      simp
    rw [e] at h
    exact h.here m ra
  · rename_i z
    split at h
    · rename_i hz
      simp only [VR] at ra
      subst ra
      exact sl_str pins s sg H _ v vl vu lo hi sl Q I rx hs pl pu ⟨z, rfl, SZ_le hz, h.here m (by simp only [VR])⟩
    · exact h.elim
  · split at h
    · rename_i ds e1
      obtain ⟨p, xv, rfl, hx, rx'⟩ := items_sq m ra e1
      exact sl_list pins s sg H _ v vl vu lo hi sl Q I rx hs pl pu ⟨p, xv, rfl, hx, (h.newl m (cut_rel rx' lo hi)).2⟩
    · exact h.elim

/-! ### methods -/
def m1 (K : PySem.W.Frag) (ga : Str → Addr) (f : D → D → Ev D) : V → List V → Hp → VK → Prop := fun x vs H Q => ∃ y, vs = [y] ∧ r2 K ga f x y H Q
theorem mAppendR : MtR X "list.append" (m1 X.K ga mAppend) := by
  intro pins s sg H x xs v us Q I rx rs h
  obtain ⟨y, rfl, rho, M, a, b, m, ra, rb, h⟩ := h
  unfold mAppend at h
  split at h
  · split at h
    · rename_i ds e1
      split at h
      · rename_i hz
        obtain ⟨p, xv, rfl, hp, hx, rx'⟩ := ra.lref m e1
        exact mt_append pins s sg H _ _ v us Q I rx rs ⟨p, xv, y, rfl, rfl, hx, by rw [rx'.length]; exact SZ_lt hz, h.wr m hp hx (rx'.app (VRs.one rb)) (by simp only [VR])⟩
      · exact h.elim
    · exact h.elim
  · exact h.elim
theorem mIndexR (hu : X.A.units + 65 < cLine) : MtR X "list.index" (m1 X.K ga mIndex) := by
  intro pins s sg H x xs v us Q I rx rs h
  obtain ⟨y, rfl, rho, M, a, b, m, ra, rb, h⟩ := h
  unfold mIndex at h
  split at h
  · rename_i ds d h1 h2
    split at h
    · rename_i hs
      rw [Bool.and_eq_true] at hs
      split at h
      · rename_i j hj
        have da := dp_py m h1 (noD hs.1) ra
        have db := dp_py m h2 (noD hs.2) rb
        obtain ⟨hlt, hz, hno⟩ := List.findIdx?_eq_some_iff_getElem.mp hj
        cases da with
        | lst q r =>
          rename_i p xs
          exact mt_indexD hu pins s sg H _ _ v us Q I rx rs ⟨p, y, d, ds, j, ds[j], rfl, rfl, .lst q r, db, hs.1, hs.2, List.getElem?_eq_getElem hlt, hz, fun k z' hk e => by
            obtain ⟨hk', e'⟩ := List.getElem?_eq_some_iff.mp e
            rw [← e']
            exact Bool.eq_false_iff.mpr (hno k hk), h.here m (by simp only [VR])⟩
      · exact h.elim
    · exact h.elim
  · exact h.elim
theorem mCountR (hu : X.A.units + 65 < cLine) : MtR X "list.count" (m1 X.K ga mCount) := by
  intro pins s sg H x xs v us Q I rx rs h
  obtain ⟨y, rfl, rho, M, a, b, m, ra, rb, h⟩ := h
  unfold mCount at h
  split at h
  · rename_i ds d h1 h2
    split at h
    · rename_i hs
      rw [Bool.and_eq_true] at hs
      have da := dp_py m h1 (noD hs.1) ra
      have db := dp_py m h2 (noD hs.2) rb
      have fin := h.here m (v := .int (ds.countP fun z => PyData.eqv z d : Nat)) (by simp only [VR])
      cases rs with
      | cons r1 r2 =>
        cases r2
        obtain ⟨bs, q2⟩ := Dp.reads I d y _ db r1
        cases da with
        | lst q r =>
          cases rx
          obtain ⟨its, rv, pl, _⟩ := I.list q
          obtain ⟨as, q1⟩ := Dp.readsAll I ds _ its r rv
          have c1 : PyData.canLayAll0 ds = true := SeqAt.canLay_of_shaped hs.1
          refine PySem.SeqAt.count_list_data pl.isList (by simpa using q1) q2 ?_ (PyData.plain_of_canLay0 _ (SeqAt.canLay_of_shaped hs.2)) (room_in_shaped hs.2 hu) ⟨.int (ds.countP fun z => PyData.eqv z d : Nat), H, I.tok _, ⟨_, rfl⟩, fin⟩
          have := PyData.plain_of_canLay0 (.list ds) (SeqAt.canLay_of_shaped hs.1)
          simpa only [PyData.plain] using this
    · exact h.elim
  · exact h.elim
theorem mExtendR : MtR X "list.extend" (m1 X.K ga mExtend) := by
  intro pins s sg H x xs v us Q I rx rs h
  obtain ⟨y, rfl, rho, M, a, b, m, ra, rb, h⟩ := h
  unfold mExtend at h
  split at h
  · split at h
    · rename_i ds es e1 e2
      split at h
      · rename_i hz
        obtain ⟨p, xv, rfl, hp, hx, rx'⟩ := ra.lref m e1
        obtain ⟨q, yv, rfl, hq, hy, ry'⟩ := rb.lref m e2
        exact mt_extend pins s sg H _ _ v us Q I rx rs ⟨p, q, xv, yv, rfl, rfl, hx, hy, by rw [rx'.length, ry'.length]; exact SZ_le hz, h.wr m hp hx (rx'.app ry') (by simp only [VR])⟩
      · exact h.elim
    · exact h.elim
  · exact h.elim
theorem mPopAtR : MtR X "list.pop" (m1 X.K ga mPopAt) := by
  intro pins s sg H x xs v us Q I rx rs h
  obtain ⟨y, rfl, rho, M, a, b, m, ra, rb, h⟩ := h
  unfold mPopAt at h
  split at h
  · rename_i i
    cases rb.intE
    split at h
    · rename_i ds e1
      split at h
      · rename_i k e2
        split at h
        · rename_i d e3
          split at h
          · rename_i hz
            obtain ⟨p, xv, rfl, hp, hx, rx'⟩ := ra.lref m e1
            obtain ⟨w, e4, rw'⟩ := rx'.get e3
            have e5 := ixN_seq e2
            rw [← rx'.length] at e5
            exact mt_popAt pins s sg H _ _ v us Q I rx rs ⟨p, xv, i, k, w, rfl, rfl, hx, by omega, by omega, e5.1, e4, h.wr m hp hx (rx'.erase k) rw'⟩
          · exact h.elim
        · exact h.elim
      · exact h.elim
    · exact h.elim
  · exact h.elim
theorem mPopR : MtR X "list.pop" (fun x vs H Q => vs = [] ∧ ∃ rho M a, MR X.K ga rho H M ∧ VR X.K ga rho H a x ∧ Op X.K ga rho H (mPop a M) Q) := by
  intro pins s sg H x xs v us Q I rx rs h
  obtain ⟨rfl, rho, M, a, m, ra, h⟩ := h
  unfold mPop at h
  split at h
  · split at h
    · rename_i ds e1
      split at h
      · rename_i d e3
        obtain ⟨p, xv, rfl, hp, hx, rx'⟩ := ra.lref m e1
        obtain ⟨w, e4, rw'⟩ := rx'.get e3
        rw [← rx'.length] at e4
        exact mt_pop pins s sg H _ _ v us Q I rx rs ⟨p, xv, w, rfl, rfl, hx, e4, h.wr m hp hx (by rw [List.dropLast_eq_take, List.dropLast_eq_take, rx'.length]; exact rx'.take _) rw'⟩
      · exact h.elim
    · exact h.elim
  · exact h.elim
theorem mInsertR : MtR X "list.insert" (fun x vs H Q => ∃ i y, vs = [i, y] ∧ ∃ rho M a b c, MR X.K ga rho H M ∧ VR X.K ga rho H a x ∧ VR X.K ga rho H b i ∧ VR X.K ga rho H c y ∧ Op X.K ga rho H (mInsert a b c M) Q) := by
  intro pins s sg H x xs v us Q I rx rs h
  obtain ⟨i, y, rfl, rho, M, a, b, c, m, ra, rb, rc, h⟩ := h
  unfold mInsert at h
  split at h
  · rename_i k
    cases rb.intE
    split at h
    · rename_i ds e1
      split at h
      · rename_i hz
        obtain ⟨p, xv, rfl, hp, hx, rx'⟩ := ra.lref m e1
        exact mt_insert pins s sg H _ _ v us Q I rx rs ⟨p, xv, k, y, rfl, rfl, hx, by rw [rx'.length]; exact SZ_lt hz.1, hz.2.1, by omega, h.wr m hp hx (((rx'.take _).app (VRs.one rc)).app (rx'.drop _)) (by simp only [VR])⟩
      · exact h.elim
    · exact h.elim
  · exact h.elim
theorem setS : PSet X (fun o i v H Q => ∃ rho M a b c, MR X.K ga rho H M ∧ VR X.K ga rho H a o ∧ VR X.K ga rho H b i ∧ VR X.K ga rho H c v ∧
    (match setIxS a b c M with | .ok _ M' => ∀ rho' H', Ext rho H rho' H' → MR X.K ga rho' H' M' → Q H' | _ => False)) := by
  intro pins s sg H o i v ov iv u Q I ro ri rv h
  obtain ⟨rho, M, a, b, c, m, ra, rb, rc, h⟩ := h
  unfold setIxS at h
  split at h
  · rename_i M' e
    split at e
    · rename_i k
      cases rb.intE
      split at e
      · rename_i ds e1
        split at e
        · rename_i j e2
          cases e
          obtain ⟨p, xv, rfl, hp, hx, rx'⟩ := ra.lref m e1
          exact set_list pins s sg H _ _ v ov iv u Q I ro ri rv ⟨p, xv, k, j, rfl, rfl, hx, by rw [rx'.length]; exact e2, have hz : ∀ o u, H p ≠ some (.frz o (.dK u)) := fun o u e => by rw [hx] at e; cases e
            h _ _ (Ext.write m hp hz) (m.write hp ⟨_, upd_same, (rx'.ext (Ext.write m hp hz)).set j (rc.ext (Ext.write m hp hz))⟩)⟩
        · cases e
      · cases e
    · cases e
  · exact h.elim
theorem setR (hu : X.A.units + 1 < cLine) : PSet X (fun o i v H Q => ∃ rho M a b c, MR X.K ga rho H M ∧ VR X.K ga rho H a o ∧ VR X.K ga rho H b i ∧ VR X.K ga rho H c v ∧
    (match setIx a b c M with | .ok _ M' => ∀ rho' H', Ext rho H rho' H' → MR X.K ga rho' H' M' → Q H' | _ => False)) := by
  intro pins s sg H o i v ov iv u Q I ro ri rv h
  obtain ⟨rho, M, a, b, c, m, ra, rb, rc, h⟩ := h
  unfold setIx at h
  split at h
  · rename_i M' e
    split at e
    · rename_i kvs e1
      split at e
      · rename_i k e2
        obtain ⟨n, p, xs, rfl, _, rfl, hp, hx, rx'⟩ := dct_at m e1 ra
        unfold setD at e
        dsimp only at e
        split at e
        · rename_i hz
          cases e
          have ey := key_vr rb e2
          subst ey
          have hl : xs.length < sizeLine := by rw [rx'.len]; exact SZ_lt hz
          cases ro
          refine d_setItem hu I (DPut.k (k := k) (v := v) hx hl) ri rv fun s' I' => ⟨_, I', ?_⟩
          have hz : ∀ o u, H p ≠ some (.frz o (.dK u)) := fun o u e => by rw [hx] at e; cases e
          exact h _ _ (Ext.write m hp hz) (m.write hp ⟨_, upd_same, KVR.put k (rc.ext (Ext.write m hp hz)) (rx'.ext (Ext.write m hp hz))⟩)
        · cases e
      · cases e
    · exact setS pins s sg H o i v ov iv u Q I ro ri rv ⟨rho, M, a, b, c, m, ra, rb, rc, by rw [e]; exact h⟩
  · exact h.elim
end
end Pf
/-! Pf: a list or a tuple turned about. -/
namespace Pf
open PySem PySem.Spec PyProof.Rows L2 HT
section
variable {prog : Program} {w : World} {A : Around} {E : Value → Shared → Prop} {s : Shared}
theorem rev_adjust (n : Nat) : Builtin.Slice.sliceAdjust none none (-1) (n : Int) = ((n : Int) - 1, -1) := by
  unfold Builtin.Slice.sliceAdjust
  have h1 : ((-1 : Int) < 0) := by omega
  simp only [h1, if_true]
theorem rev_places (n : Nat) : Builtin.Slice.slicePlaces ((n : Int) - 1) (-1) (-1) = n := by
  unfold Builtin.Slice.slicePlaces
  have h1 : ¬ ((-1 : Int) > 0) := by omega
  simp only [h1, if_false]
  split
  · have e : ((n : Int) - 1 - -1 - 1) / (- -1) = (n : Int) - 1 := by
      rw [show (- -1 : Int) = 1 by decide, Int.ediv_one]; omega
    rw [e]; omega
  · omega
theorem fm_congr {α β : Type} {f g : α → Option β} : ∀ {l : List α}, (∀ x ∈ l, f x = g x) → l.filterMap f = l.filterMap g
  | [], _ => rfl
  | x :: l, h => by rw [List.filterMap_cons, List.filterMap_cons, h x (by simp), fm_congr (l := l) fun y hy => h y (by simp [hy])]
theorem rev_pick (xs : Array Value) : ((List.range xs.size).filterMap fun (m : Nat) => xs[((xs.size : Int) - 1 + (m : Int) * -1).toNat]?).toArray = xs.toList.reverse.toArray := by
  rw [fm_congr (g := fun m => xs[xs.size - 1 - m]?) (fun m hm => by
    have := List.mem_range.mp hm
    have e : ((xs.size : Int) - 1 + (m : Int) * -1).toNat = xs.size - 1 - m := by omega
    rw [e])]
  have h : (List.range xs.size).filterMap (fun m => xs[xs.size - 1 - m]?) = ((List.range xs.size).map fun k => xs.size - 1 - k).filterMap (xs[·]?) := by rw [List.filterMap_map]; rfl
  rw [h, PySem.W.krv_range, List.filterMap_reverse, PySem.W.krv_all]
theorem sliceApplied_rev {sl : Addr} {vs : Value} {n : Nat} {Q : Int × Int × Nat → Shared → Prop} (hs : s.heap.IsSliceOf sl .none .none vs) (pk : IsPart vs (some (-1)))
    (h : Q ((n : Int) - 1, -1, n) s) : wpAny (model prog w) A (Builtin.Slice.sliceApplied (.ref sl) (pure (n : Int))) Q E s := by
  obtain ⟨os, hos, hcs, hds⟩ := id hs
  unfold Builtin.Slice.sliceApplied Builtin.Slice.sliceFields
  refine wpAny_bind (wpAny_bind (wpAny_field hos hds (x := .none) rfl (wpAny_bind (wpAny_field hos hds (x := .none) rfl (wpAny_bind (wpAny_field hos hds (x := vs) rfl (wpAny_pure ?_)))))))
  refine wpAny_bind (slicePart_ pk ?_)
  show wpAny _ _ (if ((-1 : Int) == 0) = true then _ else _) _ _ s
  rw [if_neg (by decide)]
  refine wpAny_bind (slicePart_none (wpAny_bind (slicePart_none (wpAny_bind (wpAny_pure ?_)))))
  show wpAny _ _ (match Builtin.Slice.sliceAdjust none none (-1) (n : Int) with | (lo, hi) => pure (lo, (-1 : Int), Builtin.Slice.slicePlaces lo hi (-1))) _ _ s
  rw [rev_adjust n]
  show wpAny _ _ (pure ((n : Int) - 1, (-1 : Int), Builtin.Slice.slicePlaces ((n : Int) - 1) (-1) (-1))) _ _ s
  rw [rev_places]
  exact wpAny_pure h
theorem getItem_tuple_rev {t sl : Addr} {items : Array Value} {vs : Value} {Q : Value → Shared → Prop} (ht : IsTup s.heap t items) (hs : s.heap.IsSliceOf sl .none .none vs) (pk : IsPart vs (some (-1)))
    (h : Q (.ref s.heap.objs.size) { s with heap := s.heap.push { cls := .type "tuple", data := .seq items.toList.reverse.toArray } })
    (hsz : items.size ≤ sizeLine) : wpAny (model prog w) A (getItem (.ref t) (.ref sl)) Q E s := by
  have htake : sizeOk (.seq items.toList.reverse.toArray) := by
    show items.toList.reverse.toArray.size ≤ sizeLine
    rw [List.size_toArray, List.length_reverse, Array.length_toList]
    exact hsz
  obtain ⟨os, hos, hcs, hds⟩ := id hs
  have hTs : s.TypeIs (.ref sl) "slice" := ⟨os, hos, hcs⟩
  unfold getItem
  try with_reducible refine wpAny_holding ?_
  first | refine wpAny_bind (wpAny_pure ?_) | skip
  refine wpAny_bind (wpAny_sequenceKey ht.typeIs (by decide) ?_)
  refine wpAny_bind (wpAny_callSpecial?_slot (name := Str.ofString "__getitem__") ht.typeIs PyProof.Rows.slot_tuple_getitem
    (wpAny_call_entry PyProof.Rows.slot_tuple_getitem ht.typeIs entry_tuple_getitem ?_ (args_tuple_getitem _ _)))
  show wpAny _ _ (Builtin.Tuple.tupleItemsOf (.ref t) >>= _) _ _ s
  refine wpAny_bind (tupleItemsOf_ ht ?_)
  refine wpAny_bind (wpAny_typeOf hTs ?_)
  rw [if_pos (by decide)]
  refine wpAny_bind (sliceApplied_rev hs pk ?_)
  have hno : ¬ ((((items.size : Int) - 1) == 0 && (-1 : Int) == 1 && items.size == items.size) = true) := by
    intro q
    rw [Bool.and_eq_true, Bool.and_eq_true] at q
    exact absurd (eq_of_beq q.1.2) (by decide)
  show wpAny _ _ (if (((items.size : Int) - 1) == 0 && (-1 : Int) == 1 && items.size == items.size) = true then _ else _) _ _ s
  rw [if_neg hno, rev_pick]
  first
    | exact wpAny_bind (m := Builtin.Tuple.tupleExact _) (wpAny_newObj_type (wpAny_pure ⟨_, rfl, wpAny_pure h⟩) htake)
    | exact wpAny_bind (m := Builtin.Tuple.tupleExact _) (wpAny_newObj_type (wpAny_bind (wpAny_pure (wpAny_pure ⟨_, rfl, wpAny_pure h⟩))) htake)
    | exact wpAny_bind (wpAny_bind (m := Builtin.Tuple.tupleExact _) (wpAny_newObj_type (wpAny_pure (wpAny_pure ⟨_, rfl, wpAny_pure h⟩)) htake))
    | exact wpAny_bind (wpAny_bind (m := Builtin.Tuple.tupleExact _) (wpAny_newObj_type (wpAny_pure ⟨_, rfl, wpAny_pure h⟩) htake))
end
section
variable {X : Cx} {ga : Str → Addr}
def tRevD (K : PySem.W.Frag) (ga : Str → Addr) (te : TE) : TE := fun sg H Q => te sg H fun x H1 => r1 K ga dRev x H1 Q
theorem pe_revD {e : Expr} {te : TE} {k : Nat} {p1 p2 p3 pos : Pos} (he : PE X e te) : PE X (.Subscript e (.Slice none none (some (.UnaryOp .USub (.Constant (.int 1) k p1) p2)) p3) pos) (tRevD X.K ga te) := by
  refine ⟨fun pins s sg H Q I h => ?_⟩
  refine Subscript_ (thn (he.run pins s sg H _ I h) fun v s1 ⟨x, H1, I1, r1, q1⟩ => ?_)
  have hst : PO X (some (.UnaryOp .USub (.Constant (.int 1) k p1) p2)) (tPart (tUn (rU fun i => .int (-i)) (tC (.int 1)))) := po_some (pe_un un_neg pe_int)
  refine wpAny_Slice (thn (po_none.run pins s1 sg H1 (fun o H2 => o = none ∧ H2 = H1) I1 ⟨rfl, rfl⟩) fun vl s2 ⟨l, H2, I2, pl, el, e2⟩ => ?_)
  subst el e2
  refine thn (po_none.run pins s2 sg H2 (fun o H3 => o = none ∧ H3 = H2) I2 ⟨rfl, rfl⟩) fun vu s3 ⟨u, H3, I3, pu, eu, e3⟩ => ?_
  subst eu e3
  refine thn (hst.run pins s3 sg H3 (fun o H4 => o = some (-1) ∧ H4 = H3) I3 ⟨1, rfl, -1, rfl, rfl, rfl⟩) fun vs s4 ⟨o, H4, I4, ps, eo, e4⟩ => ?_
  subst eo e4
  have I5 : Inv X pins sg H4 { s4 with heap := s4.heap.push { cls := .type "slice", data := .fields #[vl, vu, vs] } } := I4.kept (t' := s4.toks) fun b ob q => Heap.get?_push_of_some _ q
  obtain ⟨rho, M, a, m, ra, q1⟩ := q1
  unfold dRev at q1
  split at q1
  · rename_i ds
    obtain ⟨p, xs, rfl, hx, rx'⟩ := ra.tupE
    cases r1
    obtain ⟨its, r, ht, hz⟩ := I5.tuple hx
    have hlen := r.length
    show wpAny (model X.prog X.w) X.A (subscriptTail e (.Slice none none (some (.UnaryOp .USub (.Constant (.int 1) k p1) p2)) p3) (.ref p) (.ref s4.heap.objs.size)) (EP X pins sg Q) X.xe { s4 with heap := s4.heap.push { cls := .type "slice", data := .fields #[vl, vu, vs] } }
    refine tail_any (ops := [.ref p, .ref s4.heap.objs.size]) ht.typeIs PyProof.Rows.slot_tuple_getitem.lookup ?_ (by with_unfolding_all rfl)
    cases pl
    cases pu
    refine getItem_tuple_rev ht (Heap.IsSliceOf.new _ .none .none vs) ps ?_ (by rw [List.size_toArray]; omega)
    exact ⟨.ref _, _, laidT I5 s4.toks (by rw [List.length_reverse]; exact hz) r.reverse, rfl, q1.tup m (VRs.rev rx') _ _ (I5.hok.fresh (Nat.le_refl _)) rfl⟩
  · split at q1
    · rename_i ds e1
      obtain ⟨p, xs, rfl, hx, rx'⟩ := items_sq m ra e1
      have q := (q1.newl m (VRs.rev rx')).2
      cases r1
      obtain ⟨its, r, ht, hz⟩ := I5.list hx
      have hlen := r.length
      show wpAny (model X.prog X.w) X.A (subscriptTail e (.Slice none none (some (.UnaryOp .USub (.Constant (.int 1) k p1) p2)) p3) (.ref p) (.ref s4.heap.objs.size)) (EP X pins sg Q) X.xe { s4 with heap := s4.heap.push { cls := .type "slice", data := .fields #[vl, vu, vs] } }
      refine tail_any (ops := [.ref p, .ref s4.heap.objs.size]) ht.isList.typeIs (PySem.slot_list_getitem.lookup) ?_ (by with_unfolding_all rfl)
      refine wpAny_getItem_list_slice ht.isList (Heap.IsSliceOf.new _ vl vu vs) pl pu ps (by decide) ?_ (by rw [List.size_toArray]; omega)
      rw [PySem.W.krv_pick]
      refine ⟨.ref _, _, I5.laid (t' := s4.toks) (o := .lst xs.reverse) (fun b ob q => Heap.get?_push_of_some _ q) (Nat.le_refl _) ?_, rfl, q _ (I5.hok.fresh (Nat.le_refl _))⟩
      exact ⟨by rw [List.length_reverse]; exact hz, _, 0, r.reverse, Heap.get?_push_size _ rfl⟩
    · exact q1.elim
end
end Pf
set_option maxHeartbeats 4000000
/-! Pf: least, greatest, sorted, get, three comparisons. -/
namespace Pf
open PySem PySem.Spec PyProof.Rows L2
theorem pyX_of {d : D} {p : PyData} (h : toPyF (fun _ => none) d = some p) : pyX d = p := by unfold pyX pyO; rw [h]; rfl
mutual
theorem pure_inj : ∀ (d e : D) (p : PyData), toPyF (fun _ => none) d = some p → toPyF (fun _ => none) e = some p → d = e
  | .non, e, p, h, g => by simp only [toPyF, Option.some.injEq] at h; subst h; cases e <;> simp [toPyF] at g ⊢
  | .bl b, e, p, h, g => by simp only [toPyF, Option.some.injEq] at h; subst h; cases e <;> simp [toPyF] at g ⊢ <;> exact g.symm
  | .int b, e, p, h, g => by simp only [toPyF, Option.some.injEq] at h; subst h; cases e <;> simp [toPyF] at g ⊢ <;> exact g.symm
  | .str b, e, p, h, g => by simp only [toPyF, Option.some.injEq] at h; subst h; cases e <;> simp [toPyF] at g ⊢ <;> exact g.symm
  | .tup ds, e, p, h, g => by
    simp only [toPyF, Option.map_eq_some_iff] at h
    obtain ⟨ps, h, rfl⟩ := h
    cases e with
    | tup es =>
      simp only [toPyF, Option.map_eq_some_iff, PyData.tuple.injEq] at g
      obtain ⟨qs, g, rfl⟩ := g
      rw [pures_inj ds es qs h g]
    | _ => simp [toPyF] at g
  | .frz ds, e, p, h, g => by simp [toPyF] at h
  | .ref k, e, p, h, g => by simp [toPyF] at h
  | .fn _, e, p, h, g => by simp [toPyF] at h
theorem pures_inj : ∀ (ds es : List D) (ps : List PyData), toPyFs (fun _ => none) ds = some ps → toPyFs (fun _ => none) es = some ps → ds = es
  | [], es, ps, h, g => by
    simp only [toPyFs, Option.some.injEq] at h; subst h
    cases es with
    | nil => rfl
    | cons e es =>
      simp only [toPyFs, Option.bind_eq_some_iff, Option.map_eq_some_iff] at g
      obtain ⟨_, _, _, _, g⟩ := g
      cases g
  | d :: ds, es, ps, h, g => by
    simp only [toPyFs, Option.bind_eq_some_iff, Option.map_eq_some_iff] at h
    obtain ⟨a, h1, as, h2, rfl⟩ := h
    cases es with
    | nil => simp [toPyFs] at g
    | cons e es =>
      simp only [toPyFs, Option.bind_eq_some_iff, Option.map_eq_some_iff] at g
      obtain ⟨b, g1, bs, g2, g3⟩ := g
      injection g3 with e1 e2
      rw [pure_inj d e a h1 (e1 ▸ g1), pures_inj ds es as h2 (e2 ▸ g2)]
end
theorem pys_get : ∀ {ds : List D} {ps : List PyData} {i : Nat} {d : D}, toPyFs (fun _ => none) ds = some ps → ds[i]? = some d → ∃ p, ps[i]? = some p ∧ toPyF (fun _ => none) d = some p
  | [], ps, i, d, h, g => by simp at g
  | x :: ds, ps, i, d, h, g => by
    simp only [toPyFs, Option.bind_eq_some_iff, Option.map_eq_some_iff] at h
    obtain ⟨a, h1, as, h2, rfl⟩ := h
    cases i with
    | zero => simp at g; subst g; exact ⟨a, rfl, h1⟩
    | succ i => exact pys_get (i := i) h2 (by simpa using g)
theorem pys_map : ∀ {ds : List D} {ps : List PyData}, toPyFs (fun _ => none) ds = some ps → ds.map pyX = ps
  | [], ps, h => by simp only [toPyFs, Option.some.injEq] at h; subst h; rfl
  | x :: ds, ps, h => by
    simp only [toPyFs, Option.bind_eq_some_iff, Option.map_eq_some_iff] at h
    obtain ⟨a, h1, as, h2, rfl⟩ := h
    rw [List.map_cons, pyX_of h1, pys_map h2]
theorem best_lt : ∀ {ds : List D} {ps : List PyData} {d : D} {p : PyData}, toPyF (fun _ => none) d = some p → toPyFs (fun _ => none) ds = some ps → toPyF (fun _ => none) (bestD false d ds) = some (PySem.W.minD p ps)
  | [], ps, d, p, h, g => by simp only [toPyFs, Option.some.injEq] at g; subst g; exact h
  | x :: ds, ps, d, p, h, g => by
    simp only [toPyFs, Option.bind_eq_some_iff, Option.map_eq_some_iff] at g
    obtain ⟨a, h1, as, h2, rfl⟩ := g
    unfold bestD PySem.W.minD
    simp only [Bool.false_eq_true, if_false, List.foldl_cons]
    have e : ltD x d = PySem.W.dataLt a p := by unfold ltD; rw [pyX_of h1, pyX_of h]
    have r := best_lt (ds := ds) (ps := as) (d := if ltD x d = true then x else d) (p := if PySem.W.dataLt a p = true then a else p) (by rw [e]; split <;> assumption) h2
    unfold bestD PySem.W.minD at r
    simpa only [Bool.false_eq_true, if_false] using r
theorem best_gt : ∀ {ds : List D} {ps : List PyData} {d : D} {p : PyData}, toPyF (fun _ => none) d = some p → toPyFs (fun _ => none) ds = some ps → toPyF (fun _ => none) (bestD true d ds) = some (PySem.W.maxD p ps)
  | [], ps, d, p, h, g => by simp only [toPyFs, Option.some.injEq] at g; subst g; exact h
  | x :: ds, ps, d, p, h, g => by
    simp only [toPyFs, Option.bind_eq_some_iff, Option.map_eq_some_iff] at g
    obtain ⟨a, h1, as, h2, rfl⟩ := g
    unfold bestD PySem.W.maxD
    simp only [if_true, List.foldl_cons]
    have e : ltD d x = PySem.W.dataLt p a := by unfold ltD; rw [pyX_of h1, pyX_of h]
    have r := best_gt (ds := ds) (ps := as) (d := if ltD d x = true then x else d) (p := if PySem.W.dataLt p a = true then a else p) (by rw [e]; split <;> assumption) h2
    unfold bestD PySem.W.maxD at r
    simpa only [if_true] using r
theorem alikeB_ok {ps : List PyData} (h : (alikeB ps && ps.all (fun p => !isNonP p) && decide (PyData.depthAll ps ≤ 50)) = true) : PySem.W.AlikeAll ps ∧ PyData.depthAll ps ≤ 50 := by
  simp only [Bool.and_eq_true, decide_eq_true_eq, alikeB, List.all_eq_true] at h
  refine ⟨⟨h.1.1, fun x hx e => ?_⟩, h.2⟩
  have := h.1.2 x hx
  rw [e] at this
  cases this
theorem vals_get' : ∀ {xs : List V} {us : List Value} {i : Nat} {u : Value}, Vals xs us → us[i]? = some u → ∃ x, xs[i]? = some x ∧ RelV x u
  | _, _, i, u, .nil, e => by simp at e
  | _, _, 0, u, .cons h t, e => by simp at e; subst e; exact ⟨_, rfl, h⟩
  | _, _, i + 1, u, .cons h t, e => by simpa using vals_get' (i := i) t (by simpa using e)
section
variable {X : Cx} {ga : Str → Addr} {pins : List (Addr × Obj)} {sg : L2.St} {H : Hp} {s : Shared} {rho : List Addr}
/-- an item by its data -/
theorem pick_item (I : Inv X pins sg H s) (hs : SysM X.K) {ds : List D} {ps : List PyData} {xs : List V} {its : List Value} (e : toPyFs (fun _ => none) ds = some ps) (rx : VRs X.K ga rho H ds xs) (rv : Vals xs its) {i : Nat} {v : Value} {q : PyData} (hi : its[i]? = some v)
    {h' : Heap} {bs : List Addr} (hr : Reads h' v q bs) (hk : ∀ b o, s.heap.get? b = some o → h'.get? b = some o) : ∃ d x, VR X.K ga rho H d x ∧ RelV x v ∧ toPyF (fun _ => none) d = some q := by
  obtain ⟨x, h1, h2⟩ := vals_get' rv hi
  obtain ⟨d, h3, h4⟩ := rx.get' h1
  obtain ⟨p, _, h6⟩ := pys_get e h3
  obtain ⟨as, rd, _⟩ := rd_of I hs (R := fun _ => none) (fun _ _ _ _ z => by cases z) d p x v h6 h4 h2
  obtain ⟨rfl, _⟩ := Reads.unique (PySem.W.reads_keeps hk rd) q bs hr
  exact ⟨d, x, h4, h2, h6⟩
theorem best_one (I : Inv X pins sg H s) (hs : SysM X.K) {ds : List D} {ps : List PyData} {xs : List V} {its : List Value} (e : toPyFs (fun _ => none) ds = some ps) (rx : VRs X.K ga rho H ds xs) (rv : Vals xs its) {i : Nat} {v : Value} {q : PyData} (hi : its[i]? = some v)
    {h' : Heap} {bs : List Addr} (hr : Reads h' v q bs) (hk : ∀ b o, s.heap.get? b = some o → h'.get? b = some o) {d0 : D} (h0 : toPyF (fun _ => none) d0 = some q) : ∃ x, VR X.K ga rho H d0 x ∧ RelV x v := by
  obtain ⟨d, x, h1, h2, h3⟩ := pick_item I hs e rx rv hi hr hk
  rw [pure_inj d0 d q h0 h3]
  exact ⟨x, h1, h2⟩
end
section
variable {X : Cx} {ga : Str → Addr}
theorem cMin1 (hc : X.calm = true) (hs : SysM X.K) (hu : X.A.units + 65 < cLine) : CallR X (.builtin "min") (c1 X.K ga dMin1) := by
  intro pins s sg H xs us Q I r h
  obtain ⟨x, rfl, rho, M, a, m, ra, h⟩ := h
  unfold dMin1 dBest at h
  split at h
  · rename_i ds e
    obtain ⟨p, xv, rfl, hx, rx'⟩ := items_sq m ra e
    split at h
    · rename_i ps e2
      split at h
      · rename_i hal
        obtain ⟨ha, hd⟩ := alikeB_ok hal
        obtain ⟨its, rv, hl, _⟩ := I.list hx
        rw [Vals.ref1 r]
        obtain ⟨as, hr, _⟩ := rds_of I hs (R := fun _ => none) (fun _ _ _ _ z => by cases z) ds ps xv its e2 rx' rv
        split at h
        · exact h.elim
        · rename_i d0 ds0
          have e3 := e2
          simp only [toPyFs, Option.bind_eq_some_iff, Option.map_eq_some_iff] at e3
          obtain ⟨p0, g1, ps0, g2, rfl⟩ := e3
          refine PySem.W.min_list_data (I.ok.hd hc) hl.isList (by simpa using hr) ha (by omega) fun i v h' tk bs hi hrd hk => ?_
          obtain ⟨y, y1, y2⟩ := best_one I hs e2 rx' rv (by simpa using hi) hrd hk (best_lt g1 g2)
          exact ⟨y, H, I.kept hk, y2, h.here m y1⟩
      · exact h.elim
    · exact h.elim
  · exact h.elim
theorem cMax1 (hc : X.calm = true) (hs : SysM X.K) (hu : X.A.units + 65 < cLine) : CallR X (.builtin "max") (c1 X.K ga dMax1) := by
  intro pins s sg H xs us Q I r h
  obtain ⟨x, rfl, rho, M, a, m, ra, h⟩ := h
  unfold dMax1 dBest at h
  split at h
  · rename_i ds e
    obtain ⟨p, xv, rfl, hx, rx'⟩ := items_sq m ra e
    split at h
    · rename_i ps e2
      split at h
      · rename_i hal
        obtain ⟨ha, hd⟩ := alikeB_ok hal
        obtain ⟨its, rv, hl, _⟩ := I.list hx
        rw [Vals.ref1 r]
        obtain ⟨as, hr, _⟩ := rds_of I hs (R := fun _ => none) (fun _ _ _ _ z => by cases z) ds ps xv its e2 rx' rv
        split at h
        · exact h.elim
        · rename_i d0 ds0
          have e3 := e2
          simp only [toPyFs, Option.bind_eq_some_iff, Option.map_eq_some_iff] at e3
          obtain ⟨p0, g1, ps0, g2, rfl⟩ := e3
          refine PySem.W.max_list_data (I.ok.hd hc) hl.isList (by simpa using hr) ha (by omega) fun i v h' tk bs hi hrd hk => ?_
          obtain ⟨y, y1, y2⟩ := best_one I hs e2 rx' rv (by simpa using hi) hrd hk (best_gt g1 g2)
          exact ⟨y, H, I.kept hk, y2, h.here m y1⟩
      · exact h.elim
    · exact h.elim
  · exact h.elim
def ck (K : PySem.W.Frag) (ga : Str → Addr) (f : D → D → Ev D) : List V → List V → Hp → VK → Prop := fun xs zs H Q => ∃ x z, xs = [x] ∧ zs = [z] ∧ r2 K ga f x z H Q
theorem cMinK (hc : X.calm = true) (hs : SysM X.K) (hu : X.A.units + 65 < cLine) : CallRK X (.builtin "min") [Str.ofString "default"] (ck X.K ga dMinK) := by
  intro pins s sg H xs zs us ws Q I r rz h
  obtain ⟨x, z, rfl, rfl, rho, M, a, b, m, ra, rb, h⟩ := h
  obtain ⟨w, rfl, rw'⟩ := vals1 rz
  unfold dMinK dBest at h
  split at h
  · rename_i ds e
    obtain ⟨p, xv, rfl, hx, rx'⟩ := items_sq m ra e
    split at h
    · rename_i ps e2
      split at h
      · rename_i hal
        obtain ⟨ha, hd⟩ := alikeB_ok hal
        obtain ⟨its, rv, hl, _⟩ := I.list hx
        rw [Vals.ref1 r]
        obtain ⟨as, hr, _⟩ := rds_of I hs (R := fun _ => none) (fun _ _ _ _ z => by cases z) ds ps xv its e2 rx' rv
        refine PySem.W.min_list_default (I.ok.hd hc) hl.isList (by simpa using hr) ha (by omega) (fun e0 h' tk hk => ?_) fun y ys i v h' tk bs e0 hi hrd hk => ?_
        · subst e0
          have eds : ds = [] := by
            cases ds with
            | nil => rfl
            | cons d ds => simp only [toPyFs, Option.bind_eq_some_iff, Option.map_eq_some_iff] at e2; obtain ⟨_, _, _, _, e2⟩ := e2; cases e2
          subst eds
          exact ⟨z, H, I.kept hk, rw', h.here m rb⟩
        · subst e0
          cases ds with
          | nil => simp [toPyFs] at e2
          | cons d0 ds0 =>
            have e3 := e2
            simp only [toPyFs, Option.bind_eq_some_iff, Option.map_eq_some_iff] at e3
            obtain ⟨p0, g1, ps0, g2, g3⟩ := e3
            cases g3
            obtain ⟨y, y1, y2⟩ := best_one I hs e2 rx' rv (by simpa using hi) hrd hk (best_lt g1 g2)
            exact ⟨y, H, I.kept hk, y2, h.here m y1⟩
      · exact h.elim
    · exact h.elim
  · exact h.elim
theorem cMaxK (hc : X.calm = true) (hs : SysM X.K) (hu : X.A.units + 65 < cLine) : CallRK X (.builtin "max") [Str.ofString "default"] (ck X.K ga dMaxK) := by
  intro pins s sg H xs zs us ws Q I r rz h
  obtain ⟨x, z, rfl, rfl, rho, M, a, b, m, ra, rb, h⟩ := h
  obtain ⟨w, rfl, rw'⟩ := vals1 rz
  unfold dMaxK dBest at h
  split at h
  · rename_i ds e
    obtain ⟨p, xv, rfl, hx, rx'⟩ := items_sq m ra e
    split at h
    · rename_i ps e2
      split at h
      · rename_i hal
        obtain ⟨ha, hd⟩ := alikeB_ok hal
        obtain ⟨its, rv, hl, _⟩ := I.list hx
        rw [Vals.ref1 r]
        obtain ⟨as, hr, _⟩ := rds_of I hs (R := fun _ => none) (fun _ _ _ _ z => by cases z) ds ps xv its e2 rx' rv
        refine PySem.W.max_list_default (I.ok.hd hc) hl.isList (by simpa using hr) ha (by omega) (fun e0 h' tk hk => ?_) fun y ys i v h' tk bs e0 hi hrd hk => ?_
        · subst e0
          have eds : ds = [] := by
            cases ds with
            | nil => rfl
            | cons d ds => simp only [toPyFs, Option.bind_eq_some_iff, Option.map_eq_some_iff] at e2; obtain ⟨_, _, _, _, e2⟩ := e2; cases e2
          subst eds
          exact ⟨z, H, I.kept hk, rw', h.here m rb⟩
        · subst e0
          cases ds with
          | nil => simp [toPyFs] at e2
          | cons d0 ds0 =>
            have e3 := e2
            simp only [toPyFs, Option.bind_eq_some_iff, Option.map_eq_some_iff] at e3
            obtain ⟨p0, g1, ps0, g2, g3⟩ := e3
            cases g3
            obtain ⟨y, y1, y2⟩ := best_one I hs e2 rx' rv (by simpa using hi) hrd hk (best_gt g1 g2)
            exact ⟨y, H, I.kept hk, y2, h.here m y1⟩
      · exact h.elim
    · exact h.elim
  · exact h.elim
end
/-! ### sorted -/
section
variable {K : PySem.W.Frag} {ga : Str → Addr} {rho : List Addr} {H : Hp}
theorem each_of : ∀ {ds : List D} {xs : List V} {its : List Value}, VRs K ga rho H ds xs → Vals xs its → PySem.W.EachIs (fun (v : Value) (d : D) => ∃ x, VR K ga rho H d x ∧ RelV x v) its ds
  | [], xs, its, r, q => by simp only [VRs] at r; subst r; cases q; exact .nil
  | d :: ds, xs, its, r, q => by
    simp only [VRs] at r
    obtain ⟨v, vs, rfl, r1, r2⟩ := r
    cases q with
    | cons q1 q2 => exact .cons ⟨v, r1, q1⟩ (each_of r2 q2)
theorem of_each : ∀ {ds : List D} {its : List Value}, PySem.W.EachIs (fun (v : Value) (d : D) => ∃ x, VR K ga rho H d x ∧ RelV x v) its ds → ∃ xs, VRs K ga rho H ds xs ∧ Vals xs its
  | _, _, .nil => ⟨[], by simp only [VRs], .nil⟩
  | _, _, .cons ⟨x, h1, h2⟩ t => by
    obtain ⟨xs, g1, g2⟩ := of_each t
    exact ⟨x :: xs, by simp only [VRs]; exact ⟨x, xs, rfl, h1, g1⟩, .cons h2 g2⟩
theorem inls_keys : ∀ {kvs : List (Key × D)} {xs : List (Key × V)} {ks : List Int}, inlsOf kvs = some ks → KVR K ga rho H kvs xs → xs.map (·.1) = ks.map Sum.inl
  | [], xs, ks, e, r => by
    simp only [inlsOf, Option.some.injEq] at e; subst e
    have r' : xs = [] := r
    subst r'; rfl
  | (.inl i, d) :: kvs, xs, ks, e, r => by
    simp only [inlsOf, Option.map_eq_some_iff] at e
    obtain ⟨ks, e, rfl⟩ := e
    obtain ⟨v, vs, rfl, rk, r1, r2⟩ := r
    rw [List.map_cons, List.map_cons, inls_keys e r2, ← rk]
  | (.inr i, d) :: kvs, xs, ks, e, r => by simp only [inlsOf] at e; cases e
theorem VRs.ints : ∀ ns : List Int, VRs K ga rho H (ns.map .int) (ns.map V.int)
  | [] => by simp only [List.map_nil, VRs]
  | n :: ns => by simp only [List.map_cons, VRs]; exact ⟨_, _, rfl, by simp only [VR], VRs.ints ns⟩
end
/-! sorted(d) of a dict whose keys are ints, however many -/
theorem each_ix {α : Type} {P : Value → α → Prop} : ∀ {us : List Value} {ks : List α}, us.length = ks.length → (∀ (j : Nat) (v : Value) (k : α), us[j]? = some v → ks[j]? = some k → P v k) → PySem.W.EachIs P us ks
  | [], [], _, _ => .nil
  | u :: us, k :: ks, hl, h => .cons (h 0 u k rfl rfl) (each_ix (by simpa using hl) fun j v k e1 e2 => h (j + 1) v k (by simpa using e1) (by simpa using e2))
  | [], _ :: _, hl, _ => by simp at hl
  | _ :: _, [], hl, _ => by simp at hl
abbrev IntV (v : Value) (k : Int) : Prop := ∃ t, v = Value.int k t
theorem intV_vals : ∀ {us : List Value} {ks : List Int}, PySem.W.EachIs IntV us ks → Vals (ks.map V.int) us
  | _, _, .nil => .nil
  | _, _, .cons ⟨t, e⟩ r => .cons ⟨t, e⟩ (intV_vals r)
theorem le_int (a b : Int) : PySem.W.dataLe false PyData.int a b = decide (a ≤ b) := by
  have e : PySem.W.dataLe false PyData.int a b = !(PySem.W.dataLt (.int b) (.int a)) := rfl
  rw [e, PySem.W.dataLt_int]
  by_cases h : a ≤ b
  · have : ¬ (b < a) := by omega
    simp [h, this]
  · have : b < a := by omega
    simp [h, this]
theorem cSortK {X : Cx} (calm : X.calm = true) (room : X.A.units + 65 < cLine) : CallR X (.builtin "sorted") (fun xs H Q => ∃ (a : Addr) (kvs : List (Key × V)) (ks : List Int), xs = [.ref a] ∧ Rd H a (.dK kvs) ∧ kvs.map (·.1) = ks.map Sum.inl ∧ ks.length ≤ 100000 ∧
    ∀ p : Addr, H p = none → Q (.ref p) (upd H p (.lst ((ks.mergeSort fun a b => decide (a ≤ b)).map V.int)))) := by
  intro pins s sg H xs us Q I r ⟨a, kvs, ks, hxs, rd, keys, few, fin⟩
  subst hxs
  obtain ⟨u, hu, ru⟩ := vals1 r
  subst hu
  cases ru
  obtain ⟨_, loD, vs, rel, dD⟩ := dk_rd I.hok rd
  obtain ⟨ep, atD⟩ := dD.dictAt
  have hk : vs.map (·.1) = ks.map Sum.inl := rel.keys.symm.trans keys
  have nl : vs.length = ks.length := by simpa using congrArg List.length hk
  have line : (100000 : Nat) ≤ sizeLine := by rw [sizeLine_eq]; omega
  refine Calls.call_function_entry PyProof.Rows.kind_sorted PyProof.Rows.plain_sorted PyProof.Rows.entry_sorted (PyProof.Rows.args_sorted1 _) ?_
  unfold Builtin.«sorted»
  refine wpAny_bind (m := checkCount "sorted" 1 1 _) (wpAny_pure ?_)
  have walk := PySem.W.kdl_dict (knd := mixKind X.prog X.w) (kvs := vs) (ep := ep) loD
  refine wpAny_bind (PySem.W.kdu_collect (A := X.A.in1) walk (I.ok.hd calm) atD (by omega) fun hp tk got old all => ?_)
  have gl : got.toList.length = ks.length := by rw [Array.length_toList, all.1, nl]
  have each : PySem.W.EachIs IntV got.toList ks := each_ix gl fun j v k e1 e2 => by
    obtain ⟨q, x, h1, h2⟩ := all.2 j v (by rw [← Array.getElem?_toList]; exact e1)
    have h3 : (ks.map Sum.inl)[j]? = some q := by rw [← hk, List.getElem?_map, h1]; rfl
    rw [List.getElem?_map, e2] at h3
    cases h3
    rcases keyIs_shape (show keyIs (Sum.inl k) v = true from h2) with ⟨i, t, ek, ev⟩ | ⟨z, t, ek, ev⟩
    · cases ek; exact ⟨t, ev⟩
    · cases ek
  have I1 : Inv X pins sg H { s with heap := hp, toks := tk } := I.kept old
  refine wpAny_bind (wpAny_newList ?_ (by omega))
  have laid : (hp.push (seqObj "list" got.toList.toArray 0)).get? hp.objs.size = some (seqObj "list" got.toList.toArray 0) := Heap.get?_push_size _ rfl
  show wpAny _ _ _ _ _ { s with heap := hp.push (seqObj "list" got.toList.toArray 0), toks := tk }
  refine wpAny_bind (wpAny_holding (PySem.W.list_sort_data (s := { s with heap := hp.push (seqObj "list" got.toList.toArray 0), toks := tk }) (R := IntV) (enc := PyData.int) (bs := ks) laid each ?_ ?_ ?_ (by omega) ?_ fun out ol oe => ?_))
  · refine each.mono fun v k ⟨t, e⟩ => ⟨[], ?_, by simp⟩
    subst e
    exact .int _ _
  · intro d h1 d' h2
    obtain ⟨x, _, rfl⟩ := List.mem_map.mp h1
    obtain ⟨y, _, rfl⟩ := List.mem_map.mp h2
    rfl
  · refine .inr fun d hd => ?_
    obtain ⟨x, _, rfl⟩ := List.mem_map.mp hd
    exact ⟨by nofun, by nofun⟩
  · intro b _
    have e0 : (PyData.int b).depth = 0 := by simp [PyData.depth]
    rw [e0]
    show X.A.in1.units + 1 + 0 < cLine
    have := (show X.A.in1.units = X.A.units + 1 from rfl)
    omega
  have ef : PySem.W.dataLe false PyData.int = fun a b => decide (a ≤ b) := funext fun a => funext fun b => le_int a b
  rw [ef] at oe
  obtain ⟨e', he'⟩ := PyProof.Rows.sortedHeap_at (vs := got.toList) (out := out.toArray) laid
  have ml : ((ks.mergeSort fun a b => decide (a ≤ b)).map V.int).length ≤ sizeLine := by rw [List.length_map, List.length_mergeSort]; omega
  have lay : ObjOk X.prog X.w (upd H hp.objs.size (.lst ((ks.mergeSort fun a b => decide (a ≤ b)).map V.int))) (sortedHeap (hp.push (seqObj "list" got.toList.toArray 0)) hp.objs.size got.toList out.toArray) hp.objs.size (.lst ((ks.mergeSort fun a b => decide (a ≤ b)).map V.int)) := ⟨ml, out, e', intV_vals oe, he'⟩
  refine wpAny_pure ⟨_, rfl, .ref hp.objs.size, _, I1.laid (t' := tk) (fun b o e => ?_) (Nat.le_refl _) lay, rfl, fin _ (I1.hok.fresh (Nat.le_refl _))⟩
  have lt : b < hp.objs.size := Heap.lt_size e
  refine (PyProof.Rows.sortedHeap_old (Nat.ne_of_lt lt) ?_).trans (Heap.get?_push_of_some _ e)
  rw [size_push']; exact Nat.lt_succ_of_lt lt
section
variable {X : Cx} {ga : Str → Addr}
theorem cSort (hc : X.calm = true) (hs : SysM X.K) (hu : X.A.units + 65 < cLine) : CallR X (.builtin "sorted") (c1 X.K ga dSort) := by
  intro pins s sg H xs us Q I r h
  obtain ⟨x, rfl, rho, M, a, m, ra, h⟩ := h
  unfold dSort at h
  split at h
  · rename_i kvs e
    split at h
    · rename_i ks e2
      split at h
      · rename_i hk
        obtain ⟨n, p, xv, rfl, hM, rfl, hrho, hx, rx⟩ := dct_at m e ra
        refine cSortK hc hu pins s sg H _ us Q I r ⟨p, xv, ks, rfl, .inl hx, inls_keys e2 rx, hk, fun p' hp => ?_⟩
        exact (h.newl m (VRs.ints _)).2 p' hp
      · exact h.elim
    · exact h.elim
  · split at h
    · rename_i ds e
      obtain ⟨p, xv, rfl, hx, rx'⟩ := items_sq m ra e
      split at h
      · rename_i ps e2
        split at h
        · rename_i hal
          simp only [Bool.and_eq_true, Bool.or_eq_true, decide_eq_true_eq, alikeB, List.all_eq_true] at hal
          obtain ⟨⟨ha, hk⟩, hd⟩ := hal
          have em := pys_map e2
          obtain ⟨its, rv, hl, hz⟩ := I.list hx
          rw [Vals.ref1 r]
          have er : PySem.W.EachIs (fun (v : Value) (d : D) => ∃ as, Reads s.heap v (pyX d) as) its ds := by
            have : ∀ {ds : List D} {ps : List PyData} {xs : List V} {its : List Value}, toPyFs (fun _ => none) ds = some ps → VRs X.K ga rho H ds xs → Vals xs its → PySem.W.EachIs (fun (v : Value) (d : D) => ∃ as, Reads s.heap v (pyX d) as) its ds := by
              intro ds
              induction ds with
              | nil => intro ps xs its e r q; simp only [VRs] at r; subst r; cases q; exact .nil
              | cons d ds ih =>
                intro ps xs its e r q
                simp only [toPyFs, Option.bind_eq_some_iff, Option.map_eq_some_iff] at e
                obtain ⟨a, e1, as, e2, rfl⟩ := e
                simp only [VRs] at r
                obtain ⟨v, vs, rfl, r1, r2⟩ := r
                cases q with
                | cons q1 q2 =>
                  obtain ⟨bs, rd, _⟩ := rd_of I hs (R := fun _ => none) (fun _ _ _ _ z => by cases z) d a v _ e1 r1 q1
                  exact .cons ⟨bs, by rw [pyX_of e1]; exact rd⟩ (ih e2 r2 q2)
            exact this e2 rx' rv
          refine PySem.W.sorted_data (R := fun (v : Value) (d : D) => ∃ x, VR X.K ga rho H d x ∧ RelV x v) hl.isList (each_of rx' rv) er (by rw [em]; exact fun d h1 d' h2 => ha d h1 d' h2) (by
            rw [em]
            rcases hk with hk | hk
            · exact .inl fun d hd => by
                have := hk d hd
                unfold tupP at this
                split at this
                · exact ⟨_, _, rfl⟩
                · cases this
            · exact .inr fun d hd => by
                have := hk d hd
                refine ⟨fun e => ?_, fun xs e => ?_⟩ <;> (rw [e] at this; cases this)) (by rw [← rx'.length]; exact hz) (fun d hd' => by
              have h1 : pyX d ∈ ps := by rw [← em]; exact List.mem_map.mpr ⟨d, hd', rfl⟩
              have h2 : (pyX d).depth ≤ PyData.depthAll ps := by
                clear ha hk hd em e2
                induction ps with
                | nil => cases h1
                | cons q qs ih =>
                  simp only [PyData.depthAll]
                  rcases List.mem_cons.mp h1 with e | h
                  · rw [e]; omega
                  · have := ih h; omega
              omega) fun out hlen heo => ?_
          obtain ⟨xs', g1, g2⟩ := of_each heo
          obtain ⟨ep, he'⟩ := PyProof.Rows.sortedAll_at s.heap its out.toArray
          obtain ⟨z1, z2⟩ := h.newl m g1
          exact ⟨.ref _, upd H (s.heap.objs.size + 1) (.lst xs'), I.laid (t' := s.toks) (fun _ _ => PyProof.Rows.sortedAll_old) (Nat.le_succ _) ⟨z1, out, ep, g2, he'⟩, rfl, z2 _ (I.hok.fresh (Nat.le_succ _))⟩
        · exact h.elim
      · exact h.elim
    · exact h.elim
end
/-! ### three comparisons -/
def tChain3 (r r' r'' : R2) (ta tb tc td : TE) : TE := fun σ H Q => ta σ H fun x H1 => tb σ H1 fun y H2 => r x y H2 fun z H3 => ∃ k, z = .bl k ∧
  (if k = true then tc σ H3 fun w H4 => r' y w H4 fun z2 H5 => ∃ k2, z2 = .bl k2 ∧ (if k2 = true then td σ H5 fun w2 H6 => r'' w w2 H6 Q else Q (.bl false) H5) else Q (.bl false) H3)
section
variable {X : Cx} {a b c d : Expr} {pos : Pos} {ta tb tc td : TE}
theorem pe_chain3 {op op' op'' : CmpOp} {r r' r'' : R2} (ho : OpR X (compareOp op) r) (ho' : OpR X (compareOp op') r') (ho'' : OpR X (compareOp op'') r'') (ha : PE X a ta) (hb : PE X b tb) (hc : PE X c tc) (hd : PE X d td)
    (hm : lastMarks [op, op', op''] [b, c, d] = false) : PE X (.Compare a [op, op', op''] [b, c, d] pos) (tChain3 r r' r'' ta tb tc td) := by
  refine ⟨fun pins s σ H Q I h => ?_⟩
  refine Compare_chain (thn (ha.run pins s σ H _ I h) fun v s1 ⟨x, H1, I1, r1, q1⟩ => chain_link (thn (hb.run pins s1 σ H1 _ I1 q1) fun u s2 ⟨y, H2, I2, r2, q2⟩ =>
    thn (ho pins s2 σ H2 x y v u _ I2 r1 r2 q2) fun d s3 ⟨z, H3, I3, r3, k, e, q3⟩ => ?_)) hm
  subst e
  cases r3
  refine wpAny_truthy_bool ?_
  cases k with
  | false => exact ite_ff ⟨.bl false, H3, I3, rfl, q3⟩
  | true =>
    refine ite_tt (chain_link (thn (hc.run pins s3 σ H3 _ I3 q3) fun w' s4 ⟨z', H4, I4, r4, q4⟩ => thn (ho' pins s4 σ H4 y z' u w' _ I4 r2 r4 q4) fun d s5 ⟨z5, H5, I5, r5, k2, e2, q5⟩ => ?_))
    subst e2
    cases r5
    refine wpAny_truthy_bool ?_
    cases k2 with
    | false => exact ite_ff ⟨.bl false, H5, I5, rfl, q5⟩
    | true => exact ite_tt (chain_last (thn (hd.run pins s5 σ H5 _ I5 q5) fun w2 s6 ⟨z6, H6, I6, r6, q6⟩ => ho'' pins s6 σ H6 z' z6 w' w2 Q I6 r4 r6 q6))
theorem pt_chain3 {op op' op'' : CmpOp} {r r' r'' : R2} (ho : OpR X (compareOp op) r) (ho' : OpR X (compareOp op') r') (ho'' : OpR X (compareOp op'') r'') (ha : PE X a ta) (hb : PE X b tb) (hc : PE X c tc) (hd : PE X d td)
    (hm : lastMarks [op, op', op''] [b, c, d] = false) : PT X (.Compare a [op, op', op''] [b, c, d] pos) (tTest (tChain3 r r' r'' ta tb tc td)) := by
  refine ⟨fun pins s σ H Q I h => ?_⟩
  refine isTrue_chain (thn (ha.run pins s σ H _ I h) fun v s1 ⟨x, H1, I1, r1, q1⟩ => test_link (thn (hb.run pins s1 σ H1 _ I1 q1) fun u s2 ⟨y, H2, I2, r2, q2⟩ =>
    thn (ho pins s2 σ H2 x y v u _ I2 r1 r2 q2) fun d s3 ⟨z, H3, I3, r3, k, e, q3⟩ => ?_)) hm
  subst e
  cases r3
  refine wpAny_truthy_bool ?_
  cases k with
  | false =>
    obtain ⟨k', e', q'⟩ := q3
    cases e'
    exact ite_ff ⟨H3, I3, q'⟩
  | true =>
    refine ite_tt (test_link (thn (hc.run pins s3 σ H3 _ I3 q3) fun w' s4 ⟨z', H4, I4, r4, q4⟩ => thn (ho' pins s4 σ H4 y z' u w' _ I4 r2 r4 q4) fun d s5 ⟨z5, H5, I5, r5, k2, e2, q5⟩ => ?_))
    subst e2
    cases r5
    refine wpAny_truthy_bool ?_
    cases k2 with
    | false =>
      obtain ⟨k', e', q'⟩ := q5
      cases e'
      exact ite_ff ⟨H5, I5, q'⟩
    | true =>
      refine ite_tt (test_last (thn (hd.run pins s5 σ H5 _ I5 q5) fun w2 s6 ⟨z6, H6, I6, r6, q6⟩ => thn (ho'' pins s6 σ H6 z' z6 w' w2 _ I6 r4 r6 q6) fun d s7 ⟨z7, H7, I7, r7, k3, e3, q7⟩ => ?_))
      subst e3
      cases r7
      exact wpAny_truthy_bool ⟨H7, I7, q7⟩
end
end Pf
set_option maxHeartbeats 4000000
/-! Pf: each expression, shown by the layer's rule. -/
namespace Pf
open PySem PySem.Spec PyProof.Rows L2

/-! ### small facts of the model's trees -/
theorem star_cons {x : Expr} {r : List Expr} {env : PySem.Env} (h : isStar x = false) : starEach (x :: r) env = (false, eval x env) :: starEach r env := by
  cases x <;> first | rfl | (simp [isStar] at h)
theorem back_plain {pos : Pos} {env : PySem.Env} : ∀ {r : List Expr}, r.any isStar = false → (backTo pos (starEach r env)).any (·.1) = false
  | [], _ => rfl
  | x :: r, h => by
    simp only [List.any_cons, Bool.or_eq_false_iff] at h
    rw [star_cons h.1]
    show (false || (backTo pos (starEach r env)).any (·.1)) = false
    rw [back_plain h.2]; rfl
theorem set_plain {it : Expr} {env : PySem.Env} (h : isSetD it = false) : ∀ x, foldedSetIterable it env x = pure x := by
  intro x
  cases it <;> first | rfl | (simp [isSetD] at h)
theorem mark_plain {op : CmpOp} {b : Expr} (h : isSetD b = false) : behindInMarks op b = false := by
  cases b <;> first | rfl | (simp [isSetD] at h)
theorem sub_plain {i : Expr} (h : isSlice i = false) : PlainIx i := by
  intro o u
  cases i <;> first | rfl | (simp [isSlice] at h)
theorem true_plain {e : Expr} {env : PySem.Env} (h : plainT e = true) : ∀ whole, isTrue e env whole = (do let v ← whole; standAt e.pos; holding [v] (truthy v)) := by
  intro whole
  cases e <;> first | rfl | (simp [plainT] at h; done) | skip
  rename_i op a p
  cases op <;> first | rfl | (simp [plainT] at h; done)
theorem swaps_plain {x : Expr} {t : Option Expr} {l : Nat} {env : PySem.Env} (h : isComp x = false) : swapsWith x t l env = pure false := by
  cases x <;> first | rfl | (simp [isComp] at h)

/-! ### readings, composed -/
section
variable {X : Cx} {ga : Str → Addr} {W : WX} {α β γ δ : Type} {R : List Addr → Hp → α → β → Prop} {R' : List Addr → Hp → γ → δ → Prop}
theorem PE.imp {e : Expr} {t t' : TE} (h : PE X e t) (k : ∀ sg H Q, t' sg H Q → t sg H Q) : PE X e t' := ⟨fun pins s sg H Q I z => h.run pins s sg H Q I (k _ _ _ z)⟩
theorem PT.imp {e : Expr} {t t' : TT} (h : PT X e t) (k : ∀ sg H Q, t' sg H Q → t sg H Q) : PT X e t' := ⟨fun pins s sg H Q I z => h.run pins s sg H Q I (k _ _ _ z)⟩
theorem PA.imp {e : List Expr} {t t' : TA} (h : PA X e t) (k : ∀ sg H Q, t' sg H Q → t sg H Q) : PA X e t' := ⟨fun pos pins s sg H Q I z => h.run pos pins s sg H Q I (k _ _ _ z)⟩
theorem PI.imp {tg e : Expr} {t t' : TI} (h : PI X tg e t) (k : ∀ sg H Q, t' sg H Q → t sg H Q) : PI X tg e t' := ⟨fun pins s sg H Q I z => h.run pins s sg H Q I (k _ _ _ z)⟩
theorem PI.or {tg e : Expr} {t t' : TI} (h : PI X tg e t) (h' : PI X tg e t') : PI X tg e (fun sg H R => t sg H R ∨ t' sg H R) := ⟨fun pins s sg H Q I z => z.elim (h.run pins s sg H Q I) (h'.run pins s sg H Q I)⟩
theorem PE.none {e : Expr} (t : TE) (h : ∀ sg H Q, ¬ t sg H Q) : PE X e t := ⟨fun pins s sg H Q I z => (h _ _ _ z).elim⟩
theorem PT.none {e : Expr} (t : TT) (h : ∀ sg H Q, ¬ t sg H Q) : PT X e t := ⟨fun pins s sg H Q I z => (h _ _ _ z).elim⟩
theorem PA.none {e : List Expr} (t : TA) (h : ∀ sg H Q, ¬ t sg H Q) : PA X e t := ⟨fun pos pins s sg H Q I z => (h _ _ _ z).elim⟩
theorem PI.none {tg e : Expr} (t : TI) (h : ∀ sg H Q, ¬ t sg H Q) : PI X tg e t := ⟨fun pins s sg H Q I z => (h _ _ _ z).elim⟩
theorem stop_no {r : Env → Ev α} (h : ∀ e, r e = stop) : ∀ sg H (Q : β → Hp → Prop), ¬ tG X.K ga W R r sg H Q := by
  rintro sg H Q ⟨rho, M, e, m, n, z⟩
  rw [h] at z
  exact z
theorem tG.mono {r : Env → Ev α} {sg : L2.St} {H : Hp} {Q Q' : β → Hp → Prop} (h : tG X.K ga W R r sg H Q) (k : ∀ b H', Q b H' → Q' b H') : tG X.K ga W R r sg H Q' :=
  let ⟨rho, M, e, m, n, z⟩ := h; ⟨rho, M, e, m, n, z.mono k⟩
/-- where one stands behind a part -/
structure At (X : Cx) (ga : Str → Addr) (e : Env) (sg : L2.St) (rho : List Addr) (M : Mem) (H : Hp) : Prop where
  m : MR X.K ga rho H M
  n : NR X.K ga rho H e sg
theorem tG.of {r : Env → Ev α} {sg : L2.St} {H : Hp} {Q : β → Hp → Prop} {rho : List Addr} {M : Mem} {e : Env} (a : At X ga e sg rho M H) (h : RG X.K ga W e.length R rho H (r e M) Q) : tG X.K ga W R r sg H Q := ⟨rho, M, e, a.m, a.n, h⟩
theorem tG.get {r : Env → Ev α} {sg : L2.St} {H : Hp} {Q : β → Hp → Prop} (h : tG X.K ga W R r sg H Q) : ∃ rho M e, At X ga e sg rho M H ∧ RG X.K ga W e.length R rho H (r e M) Q :=
  let ⟨rho, M, e, m, n, z⟩ := h; ⟨rho, M, e, ⟨m, n⟩, z⟩
/-- the first part of two -/
theorem RG.bnd {l : Nat} {rho : List Addr} {H : Hp} {M : Mem} {f : Ev α} {g : α → Ev γ} {Q : δ → Hp → Prop} (h : RG X.K ga W l R' rho H (bnd f g M) Q) :
    RG X.K ga W l R rho H (f M) (fun b H1 => ∃ rho1 a M1, Ext rho H rho1 H1 ∧ MR X.K ga rho1 H1 M1 ∧ R rho1 H1 a b ∧ RG X.K ga W l R' rho1 H1 (g a M1) Q) := by
  unfold Pf.bnd at h
  cases e : f M with
  | ok a M1 => rw [e] at h; exact fun rho' H' b x m r => ⟨rho', a, M1, x, m, r, h.re x⟩
  | ex c M1 => rw [e] at h; exact h
  | no => rw [e] at h; exact h
/-- one part, then the rest at its value -/
theorem tG.one {ra : Env → Ev α} {g : α → Env → Ev γ} {sg : L2.St} {H : Hp} {Q : δ → Hp → Prop} (h : tG X.K ga W R' (fun e => bnd (ra e) fun a => g a e) sg H Q) :
    tG X.K ga W R ra sg H (fun b H1 => ∃ rho1 a M1 e, At X ga e sg rho1 M1 H1 ∧ R rho1 H1 a b ∧ RG X.K ga W e.length R' rho1 H1 (g a e M1) Q) := by
  obtain ⟨rho, M, e, at_, z⟩ := h.get
  exact .of at_ ((RG.bnd (R := R) z).mono fun b H1 ⟨rho1, a, M1, x, m, r, z1⟩ => ⟨rho1, a, M1, e, ⟨m, at_.n.ext x⟩, r, z1⟩)
/-- the next part -/
theorem At.nxt {α' β' : Type} {R2 : List Addr → Hp → α' → β' → Prop} {rb : Env → Ev α'} {g : α' → Ev γ} {sg : L2.St} {H : Hp} {Q : δ → Hp → Prop} {rho : List Addr} {M : Mem} {e : Env} (a : At X ga e sg rho M H)
    (h : RG X.K ga W e.length R' rho H (Pf.bnd (rb e) g M) Q) :
    tG X.K ga W R2 rb sg H (fun b H1 => ∃ rho1 v M1, Ext rho H rho1 H1 ∧ At X ga e sg rho1 M1 H1 ∧ R2 rho1 H1 v b ∧ RG X.K ga W e.length R' rho1 H1 (g v M1) Q) :=
  .of a ((RG.bnd (R := R2) h).mono fun b H1 ⟨rho1, v, M1, x, m, r, z⟩ => ⟨rho1, v, M1, x, ⟨m, a.n.ext x⟩, r, z⟩)
/-- an operation on values never raises -/
theorem RG.op {l : Nat} {rho : List Addr} {H : Hp} {r : Res D} {Q : VK} (h : RG X.K ga W l (VR X.K ga) rho H r Q) (hx : ∀ c M, r ≠ .ex c M) : Op X.K ga rho H r Q := by
  cases r with
  | ok d M => exact h
  | ex c M => exact absurd rfl (hx c M)
  | no => exact h
end
/-- never raises -/
def Nx (f : Ev D) : Prop := ∀ M c M', f M ≠ .ex c M'
theorem nx_newl (ds : List D) : Nx (newl ds) := fun M c M' h => by unfold newl at h; split at h <;> cases h
theorem nx_newt (ds : List D) : Nx (newt ds) := fun M c M' h => by unfold newt at h; split at h <;> cases h
theorem nx_add (x y : D) : Nx (dAdd x y) := fun M c M' h => by
  unfold dAdd at h
  split at h
  · cases h
  · split at h <;> cases h
  · split at h <;> cases h
  · split at h
    · exact nx_newl _ _ _ _ h
    · cases h
  · cases h
theorem nx_bin (op : Operator) (x y : D) : Nx (dBin op x y) := fun M c M' h => by
  cases op with
  | Add => exact nx_add x y M c M' h
  | Sub => simp only [dBin] at h; unfold dSub at h; split at h <;> cases h
  | Mult =>
    simp only [dBin] at h; unfold dMul at h
    split at h
    · split at h <;> cases h
    · split at h
      · split at h
        · exact nx_newl _ _ _ _ h
        · cases h
      · cases h
    · split at h
      · exact nx_newt _ _ _ _ h
      · cases h
    · split at h <;> cases h
    · cases h
  | FloorDiv =>
    simp only [dBin] at h; unfold dDiv at h
    split at h
    · split at h <;> cases h
    · cases h
  | Mod =>
    simp only [dBin] at h; unfold dMod at h
    split at h
    · split at h <;> cases h
    · cases h
  | Pow =>
    simp only [dBin] at h; unfold dPow at h
    split at h
    · split at h <;> cases h
    · cases h
  | _ => cases h
theorem nx_neg (x : D) : Nx (dNeg x) := fun M c M' h => by unfold dNeg at h; split at h <;> cases h
theorem nx_cmp (op : CmpOp) (x y : D) : Nx (dCmp op x y) := fun M c M' h => by
  unfold dCmp at h
  cases op
  case Lt =>
    simp only at h
    split at h
    · cases h
    · split at h
      · split at h <;> cases h
      · cases h
    · cases h
  all_goals simp only at h
  all_goals first | (split at h <;> cases h) | cases h
theorem nx_idxS (x y : D) : Nx (dIdxS x y) := fun M c M' h => by
  unfold dIdxS at h
  split at h
  · split at h
    · split at h <;> cases h
    · split at h
      · split at h <;> cases h
      · cases h
    · split at h
      · split at h <;> cases h
      · cases h
  · cases h
theorem nx_idx (x y : D) : Nx (dIdx x y) := fun M c M' h => by
  unfold dIdx at h
  split at h
  · split at h <;> cases h
  · split at h
    · split at h <;> cases h
    · exact nx_idxS x y M c M' h
theorem nx_setS (x i v : D) (M : Mem) (c : Str) (M' : Mem) : setIxS x i v M ≠ .ex c M' := fun h => by
  unfold setIxS at h
  split at h
  · split at h
    · split at h <;> cases h
    · cases h
  · cases h
theorem nx_set (x i v : D) (M : Mem) (c : Str) (M' : Mem) : setIx x i v M ≠ .ex c M' := fun h => by
  unfold setIx at h
  split at h
  · split at h
    · unfold setD at h
      split at h
      · split at h <;> cases h
      · cases h
    · cases h
  · exact nx_setS x i v M c M' h
theorem nx_slice (x : D) (l u : Option Int) : Nx (dSlice x l u) := fun M c M' h => by
  unfold dSlice at h
  split at h
  · cases h
  · split at h <;> cases h
  · split at h
    · exact nx_newl _ _ _ _ h
    · cases h
theorem nx_split (x y : D) : Nx (dSplit x y) := fun M c M' h => by
  unfold dSplit at h
  split at h
  · split at h
    · exact nx_newl _ _ _ _ h
    · cases h
  · cases h
theorem nx_rev (x : D) : Nx (dRev x) := fun M c M' h => by
  unfold dRev at h
  split at h
  · cases h
  · split at h
    · exact nx_newl _ _ _ _ h
    · cases h
theorem nx_isA (T : List Str) (x : D) : Nx (isiA T x) := fun M c M' h => by unfold isiA at h; split at h <;> cases h
theorem nx_isi (T : Str) (x : D) : Nx (isiE T x) := fun M c M' h => by unfold isiE at h; split at h <;> cases h
end Pf
set_option maxHeartbeats 1000000
/-! Pf: zip of a list and a tuple. -/
namespace Pf
open PySem PySem.Spec PyProof.Rows L2
open PySem.Sem (wp)
section
variable {prog : Program} {w : World} {A : Around} {E : Value → Shared → Prop} {s : Shared}
/-- all but four objects stay -/
abbrev Kp4 (z t i j : Addr) (h h' : Heap) : Prop := ∀ c o, c ≠ z → c ≠ t → c ≠ i → c ≠ j → h.get? c = some o → h'.get? c = some o
/-- the state of such a zip -/
structure ZM (h : Heap) (z TI TO i1 i2 l1 l2 : Addr) (k : Nat) (f0 : Value) : Prop where
  zip : IsZip h z TI TO f0
  its : IsPair h TI (.ref i1) (.ref i2)
  out : ∃ a b, IsPair h TO a b
  one : h.IsListIter i1 l1 k
  two : h.IsTupleIter i2 l2 k
theorem zm_item {z TI TO i1 i2 l1 l2 : Addr} {k : Nat} {xs ys : Array Value} {x y : Value} {Q : Value → Shared → Prop} (D : ZipApart z TI TO i1 i2 l1 l2) (S : ZM s.heap z TI TO i1 i2 l1 l2 k .none)
    (hl1 : s.heap.IsList l1 xs) (hl2 : s.heap.IsTuple l2 ys) (hx : xs[k]? = some x) (hy : ys[k]? = some y)
    (hQ : ∀ h', ZM h' z TI TO i1 i2 l1 l2 (k + 1) (rawInt s.heap.objs.size) → IsPair h' s.heap.objs.size x y → h'.objs.size = s.heap.objs.size + 1 →
      Kp4 z TO i1 i2 s.heap h' → Q (.ref s.heap.objs.size) { s with heap := h' }) :
    wpAny (model prog w) A (Builtin.«zip.__next__» ⟨[.ref z], []⟩) (fun fin s' => ∃ v, fin = .done (.ret v) ∧ Q v s') E s := by
  obtain ⟨hz, hTI, ⟨a, b, hTO⟩, h1, h2⟩ := S
  show wpAny _ _ (field (.ref z) 2 >>= _) _ _ _; refine wpAny_bind (wpAny_field hz rfl (x := .bool false) rfl ?_)
  show wpAny _ _ (field (.ref z) 3 >>= _) _ _ _; refine wpAny_bind (wpAny_field hz rfl (x := .ref TI) rfl ?_)
  refine wpAny_bind (wpAny_seqItems hTI rfl ?_); show wpAny _ _ (Builtin.SmallTypes.ownedTupleIsFree (.ref z) >>= _) _ _ _
  refine wpAny_bind ?_
  unfold Builtin.SmallTypes.ownedTupleIsFree; refine wpAny_bind (wpAny_field hz rfl (x := .none) rfl (wpAny_pure ?_))
  simp only [if_true]
  refine wpAny_bind (wpAny_rule ?_); refine wpAny_bind (wpAny_field hz rfl (x := .ref TO) rfl ?_)
  refine wpAny_bind (wpAny_setField_rec hz (by simp) fun g1 z1 s1 => ?_)
  replace z1 : IsZip g1 z TI TO .ellipsis := z1
  refine wpAny_bind ?_
  simp only [List.zipIdx_cons, List.zipIdx_nil, List.forIn_cons, List.forIn_nil]; refine wpAny_bind (wpAny_bind (wpAny_onRaise ?_))
  show wpAny _ _ (Builtin.SmallTypes.nextOf (.ref i1) >>= _) _ _ _; refine wpAny_bind (wpAny_nextOf_list_item (h1.extBut s1.extBut D.i1z) (hl1.extBut s1.extBut D.l1z) hx fun g2 n1 s2 => wpAny_pure ?_)
  have o2 : IsPair g2 TO a b := s2.extBut _ _ D.TOi1 (s1.extBut _ _ D.TOz hTO)
  refine wpAny_bind (wpAny_seqItems o2 rfl ?_)
  refine wpAny_bind (wpAny_updateSeq_pair o2 fun g3 o3 s3 => ?_)
  replace o3 : IsPair g3 TO x b := o3
  refine wpAny_bind (wpAny_letGo (wpAny_pure ?_)); refine wpAny_bind (wpAny_bind (wpAny_onRaise ?_))
  show wpAny _ _ (Builtin.SmallTypes.nextOf (.ref i2) >>= _) _ _ _; have t3 : g3.IsTupleIter i2 l2 k := ((h2.extBut s1.extBut D.i2z).extBut s2.extBut D.i12.symm).extBut s3.extBut D.TOi2.symm
  have m3 : g3.IsTuple l2 ys := ((hl2.extBut s1.extBut D.l2z).extBut s2.extBut D.l2i1).extBut s3.extBut D.l2TO
  refine wpAny_bind (RZ.nextOf_tuple_item t3 m3 hy fun g4 n2 s4 => wpAny_pure ?_)
  have o4 : IsPair g4 TO x b := s4.extBut _ _ D.TOi2 o3
  refine wpAny_bind (wpAny_seqItems o4 rfl ?_)
  refine wpAny_bind (wpAny_updateSeq_pair o4 fun g5 o5 s5 => ?_)
  replace o5 : IsPair g5 TO x y := o5
  refine wpAny_bind (wpAny_letGo (wpAny_pure (wpAny_pure ?_))); refine wpAny_bind (wpAny_seqItems o5 rfl ?_)
  refine wpAny_bind (wpAny_newTuple ?_); have sz : g5.objs.size = s.heap.objs.size := by rw [s5.1, s4.1, s3.1, s2.1, s1.1]
  have z5 : IsZip g5 z TI TO .ellipsis := s5.extBut _ _ D.TOz.symm (s4.extBut _ _ D.i2z.symm (s3.extBut _ _ D.TOz.symm (s2.extBut _ _ D.i1z.symm z1)))
  have kp : ∀ c o, c ≠ z → c ≠ TO → c ≠ i1 → c ≠ i2 → s.heap.get? c = some o → g5.get? c = some o := fun c o e1 e2 e3 e4 q =>
    s5.extBut _ _ e2 (s4.extBut _ _ e4 (s3.extBut _ _ e2 (s2.extBut _ _ e3 (s1.extBut _ _ e1 q))))
  have p1 : g5.IsListIter i1 l1 (k + 1) := ((n1.extBut s3.extBut D.TOi1.symm).extBut s4.extBut D.i12).extBut s5.extBut D.TOi1.symm
  have p2 : g5.IsTupleIter i2 l2 (k + 1) := n2.extBut s5.extBut D.TOi2.symm
  have zlt : z < g5.objs.size := Heap.lt_size z5
  show wpAny _ _ (Builtin.SmallTypes.ownedTupleHandOut (.ref z) (.ref g5.objs.size) >>= _) _ _ _
  refine wpAny_bind ?_
  unfold Builtin.SmallTypes.ownedTupleHandOut; have z6 : IsZip (g5.push { cls := .type "tuple", data := .seq #[x, y] }) z TI TO .ellipsis := Heap.get?_push_of_some _ z5
  refine wpAny_bind (wpAny_setField_rec z6 (by simp) fun g7 z7 s7 => ?_)
  replace z7 : IsZip g7 z TI TO (rawInt g5.objs.size) := z7
  refine wpAny_setField_rec z7 (by simp) fun g8 z8 s8 => ?_
  replace z8 : IsZip g8 z TI TO (rawInt g5.objs.size) := z8
  have up : ∀ c o, c ≠ z → g5.get? c = some o → g8.get? c = some o := fun c o e q => s8.extBut _ _ e (s7.extBut _ _ e (Heap.get?_push_of_some _ q))
  have new : IsPair g8 g5.objs.size x y := s8.extBut _ _ (Nat.ne_of_gt zlt) (s7.extBut _ _ (Nat.ne_of_gt zlt) (Heap.get?_push_size _ rfl))
  have sz8 : g8.objs.size = g5.objs.size + 1 := by rw [s8.1, s7.1, Heap.size_push]
  rw [sz] at z8 new sz8
  refine wpAny_pure ⟨_, rfl, ?_⟩; show Q (.ref g5.objs.size) _
  rw [sz]
  exact hQ g8 ⟨z8, up _ _ D.TIz (kp _ _ D.TIz D.TITO D.TIi1 D.TIi2 hTI), ⟨_, _, up _ _ D.TOz o5⟩, p1.at fun o q => up _ o D.i1z q, p2.at fun o q => up _ o D.i2z q⟩ new sz8 fun c o e1 e2 e3 e4 q => up c o e1 (kp c o e1 e2 e3 e4 q)
theorem zm_end {z TI TO i1 i2 l1 l2 : Addr} {k : Nat} {xs ys : Array Value} {Q : Fin → Shared → Prop} (hh : A.handled = none) (D : ZipApart z TI TO i1 i2 l1 l2) (S : ZM s.heap z TI TO i1 i2 l1 l2 k .none)
    (hl1 : s.heap.IsList l1 xs) (hl2 : s.heap.IsTuple l2 ys) (hend : xs[k]? = none ∨ ys[k]? = none)
    (hE : ∀ h' e, Kp4 z TO i1 i2 s.heap h' → (∃ o, h'.get? e = some o ∧ o.cls = .type "StopIteration") → E (.ref e) { s with heap := h' }) :
    wpAny (model prog w) A (Builtin.«zip.__next__» ⟨[.ref z], []⟩) Q E s := by
  obtain ⟨hz, hTI, ⟨a, b, hTO⟩, h1, h2⟩ := S
  show wpAny _ _ (field (.ref z) 2 >>= _) _ _ _; refine wpAny_bind (wpAny_field hz rfl (x := .bool false) rfl ?_)
  show wpAny _ _ (field (.ref z) 3 >>= _) _ _ _; refine wpAny_bind (wpAny_field hz rfl (x := .ref TI) rfl ?_)
  refine wpAny_bind (wpAny_seqItems hTI rfl ?_); show wpAny _ _ (Builtin.SmallTypes.ownedTupleIsFree (.ref z) >>= _) _ _ _
  refine wpAny_bind ?_
  unfold Builtin.SmallTypes.ownedTupleIsFree; refine wpAny_bind (wpAny_field hz rfl (x := .none) rfl (wpAny_pure ?_))
  simp only [if_true]
  refine wpAny_bind (wpAny_rule ?_); refine wpAny_bind (wpAny_field hz rfl (x := .ref TO) rfl ?_)
  refine wpAny_bind (wpAny_setField_rec hz (by simp) fun g1 z1 s1 => ?_)
  replace z1 : IsZip g1 z TI TO .ellipsis := z1
  refine wpAny_bind ?_
  simp only [List.zipIdx_cons, List.zipIdx_nil, List.forIn_cons, List.forIn_nil]; refine wpAny_bind (wpAny_bind (wpAny_onRaise ?_))
  show wpAny _ _ (Builtin.SmallTypes.nextOf (.ref i1) >>= _) _ _ _; have u1 := h1.extBut s1.extBut D.i1z
  have v1 := hl1.extBut s1.extBut D.l1z
  cases hx : xs[k]? with
  | none =>
    refine wpAny_bind (wpAny_nextOf_list_end hh u1 v1 hx fun g2 e s2 he => ?_)
    obtain ⟨oe, hoe, hce⟩ := he
    have z2 : IsZip g2 z TI TO .ellipsis := s2 _ _ D.i1z.symm z1
    have ez : e ≠ z := fun q => by subst q; rw [z2] at hoe; cases hoe; simp at hce
    exact wpAny_setField_rec z2 (by simp) fun g3 _ s3 => hE g3 e (fun c o e1 _ e3 _ q => s3.extBut _ _ e1 (s2 _ _ e3 (s1.extBut _ _ e1 q))) ⟨oe, s3.extBut _ _ ez hoe, hce⟩
  | some x =>
    have hy : ys[k]? = none := hend.elim (fun q => by rw [hx] at q; cases q) id
    refine wpAny_bind (wpAny_nextOf_list_item u1 v1 hx fun g2 n1 s2 => wpAny_pure ?_)
    have o2 : IsPair g2 TO a b := s2.extBut _ _ D.TOi1 (s1.extBut _ _ D.TOz hTO)
    refine wpAny_bind (wpAny_seqItems o2 rfl ?_)
    refine wpAny_bind (wpAny_updateSeq_pair o2 fun g3 o3 s3 => ?_)
    refine wpAny_bind (wpAny_letGo (wpAny_pure ?_)); refine wpAny_bind (wpAny_bind (wpAny_onRaise ?_))
    show wpAny _ _ (Builtin.SmallTypes.nextOf (.ref i2) >>= _) _ _ _; have t3 : g3.IsTupleIter i2 l2 k := ((h2.extBut s1.extBut D.i2z).extBut s2.extBut D.i12.symm).extBut s3.extBut D.TOi2.symm
    have m3 : g3.IsTuple l2 ys := ((hl2.extBut s1.extBut D.l2z).extBut s2.extBut D.l2i1).extBut s3.extBut D.l2TO
    refine wpAny_bind (RZ.nextOf_tuple_end hh t3 m3 hy fun g4 e s4 he => ?_)
    obtain ⟨oe, hoe, hce⟩ := he
    have z4 : IsZip g4 z TI TO .ellipsis := s4 _ _ D.i2z.symm (s3.extBut _ _ D.TOz.symm (s2.extBut _ _ D.i1z.symm z1))
    have ez : e ≠ z := fun q => by subst q; rw [z4] at hoe; cases hoe; simp at hce
    exact wpAny_setField_rec z4 (by simp) fun g5 _ s5 => hE g5 e (fun c o e1 e2 e3 e4 q => s5.extBut _ _ e1 (s4 _ _ e4 (s3.extBut _ _ e2 (s2.extBut _ _ e3 (s1.extBut _ _ e1 q))))) ⟨oe, s5.extBut _ _ ez hoe, hce⟩
theorem zm_next {z TI TO i1 i2 l1 l2 : Addr} {k : Nat} {xs ys : Array Value} {x y : Value} {Q : Option Value → Shared → Prop} (D : ZipApart z TI TO i1 i2 l1 l2) (S : ZM s.heap z TI TO i1 i2 l1 l2 k .none)
    (hl1 : s.heap.IsList l1 xs) (hl2 : s.heap.IsTuple l2 ys) (hx : xs[k]? = some x) (hy : ys[k]? = some y)
    (hQ : ∀ h', ZM h' z TI TO i1 i2 l1 l2 (k + 1) (rawInt s.heap.objs.size) → IsPair h' s.heap.objs.size x y → h'.objs.size = s.heap.objs.size + 1 →
      Kp4 z TO i1 i2 s.heap h' → Q (some (.ref s.heap.objs.size)) { s with heap := h' }) :
    wpAny (model prog w) A (pyNext (.ref z)) Q E s := by
  have ty : s.TypeIs (.ref z) "zip" := ⟨_, S.zip, rfl⟩
  unfold pyNext; exact wpAny_bind (wpAny_attempt (wpAny_callSpecial?_slot (name := Str.ofString "__next__") ty F.slot_zip_next (wpAny_call_entry F.slot_zip_next ty F.entry_zip_next
      (zm_item D S hl1 hl2 hx hy fun h' b1 b2 b3 b4 => wpAny_pure (hQ h' b1 b2 b3 b4)) (F.args_zip_next_1 _))))
theorem zm_stop {z TI TO i1 i2 l1 l2 : Addr} {k : Nat} {xs ys : Array Value} {Q : Option Value → Shared → Prop} (hh : A.handled = none) (D : ZipApart z TI TO i1 i2 l1 l2) (S : ZM s.heap z TI TO i1 i2 l1 l2 k .none)
    (hl1 : s.heap.IsList l1 xs) (hl2 : s.heap.IsTuple l2 ys) (hend : xs[k]? = none ∨ ys[k]? = none)
    (hQ : ∀ h', Kp4 z TO i1 i2 s.heap h' → Q none { s with heap := h' }) : wpAny (model prog w) A (pyNext (.ref z)) Q E s := by
  have ty : s.TypeIs (.ref z) "zip" := ⟨_, S.zip, rfl⟩
  unfold pyNext; refine wpAny_bind (wpAny_attempt (wpAny_callSpecial?_slot (name := Str.ofString "__next__") ty F.slot_zip_next (wpAny_call_entry F.slot_zip_next ty F.entry_zip_next
      (zm_end hh D S hl1 hl2 hend fun h' e kp oe => ?_) (F.args_zip_next_1 _))))
  obtain ⟨o, ho, co⟩ := oe
  exact wpAny_bind (wpAny_isInstance (T := "StopIteration") (b := true) ⟨o, ho, co⟩ isSubtype_stop (wpAny_pure (hQ _ kp)))
end
/-- the heap behind the making of such a zip -/
abbrev zmA (h : Heap) (a : Addr) : Heap := h.push { cls := .type "list_iterator", data := .fields #[.ref a, .int 0 0] }
abbrev zmB (h : Heap) (a b : Addr) : Heap := (zmA h a).push { cls := .type "tuple_iterator", data := .fields #[.ref b, .int 0 0] }
abbrev zmC (h : Heap) (a b : Addr) : Heap := (zmB h a b).push { cls := .type "tuple", data := .seq #[.ref h.objs.size, .ref (zmA h a).objs.size] }
abbrev zmD (h : Heap) (a b : Addr) : Heap := (zmC h a b).push { cls := .type "tuple", data := .seq #[.none, .none] }
abbrev zmE (h : Heap) (a b : Addr) : Heap := (zmD h a b).push { cls := .type "zip", data := .fields #[.none, .bool false, .bool false, .ref (zmB h a b).objs.size, .ref (zmC h a b).objs.size] }
theorem zm_new (a b : Addr) (xs ys : Array Value) :
    Meets (Builtin.«zip.__new__» ⟨[.type "zip", .ref a, .ref b], []⟩) (fun _ R s => s.heap.IsList a xs ∧ s.heap.IsTuple b ys ∧ R (.ok (.ret (.ref (zmD s.heap a b).objs.size))) { s with heap := zmE s.heap a b }) :=
  .of_wp fun prog w A R s q => by
    obtain ⟨hp, g, d, tk, os⟩ := s; obtain ⟨q1, q2, q⟩ := q
    have sub := sub_zip
    have u1 : Heap.IsList (Shared.heap ⟨hp, g, d, tk, os⟩) a xs := q1
    have u2 : Heap.IsTuple (Shared.heap ⟨hp.push { cls := .type "list_iterator", data := .fields #[.ref a, .int 0 0] }, g, d, tk, os⟩) b ys := Heap.IsTuple.push q2 _
    wp_walk using wpAny_pyIter_list u1, wpAny_pyIter_tuple u2
    exact ⟨_, rfl, q⟩
section
variable {prog : Program} {w : World} {A : Around} {E : Value → Shared → Prop} {s : Shared}
theorem zm_call {a b : Addr} {xs ys : Array Value} {Q : Value → Shared → Prop} (q1 : s.heap.IsList a xs) (q2 : s.heap.IsTuple b ys)
    (q : ∀ h', ZM h' (s.heap.objs.size + 4) (s.heap.objs.size + 2) (s.heap.objs.size + 3) s.heap.objs.size (s.heap.objs.size + 1) a b 0 .none →
      (∀ c o, s.heap.get? c = some o → h'.get? c = some o) → Q (.ref (s.heap.objs.size + 4)) { s with heap := h' }) :
    wpAny (model prog w) A (call (.type "zip") [.ref a, .ref b]) Q E s := by
  refine callType_new F.called_zip (by decide) (F.typeCall_zip_2 _ _) (F.newCall_zip_2 _ _) (fun ob => F.args_object_init_3 ob _ _) F.entry_zip_new (zm_new a b xs ys) ⟨q1, q2, ?_⟩
  have e1 : (zmA s.heap a).objs.size = s.heap.objs.size + 1 := by rw [Heap.size_push]
  have e2 : (zmB s.heap a b).objs.size = s.heap.objs.size + 2 := by rw [Heap.size_push, e1]
  have e3 : (zmC s.heap a b).objs.size = s.heap.objs.size + 3 := by rw [Heap.size_push, e2]
  have e4 : (zmD s.heap a b).objs.size = s.heap.objs.size + 4 := by rw [Heap.size_push, e3]
  have p5 : (zmE s.heap a b).get? (zmD s.heap a b).objs.size = some _ := Heap.get?_push_size _ rfl
  have p4 : (zmE s.heap a b).get? (zmC s.heap a b).objs.size = some _ := Heap.get?_push_of_some _ (Heap.get?_push_size _ rfl)
  have p3 : (zmE s.heap a b).get? (zmB s.heap a b).objs.size = some _ := Heap.get?_push_of_some _ (Heap.get?_push_of_some _ (Heap.get?_push_size _ rfl))
  have p2 : (zmE s.heap a b).get? (zmA s.heap a).objs.size = some _ := Heap.get?_push_of_some _ (Heap.get?_push_of_some _ (Heap.get?_push_of_some _ (Heap.get?_push_size _ rfl)))
  have p1 : (zmE s.heap a b).get? s.heap.objs.size = some _ := Heap.get?_push_of_some _ (Heap.get?_push_of_some _ (Heap.get?_push_of_some _ (Heap.get?_push_of_some _ (Heap.get?_push_size _ rfl))))
  show _ ∧ _
  rw [e2, e3, e4] at p5; rw [e1, e2] at p3; rw [e3] at p4; rw [e1] at p2; rw [e4]
  exact ⟨⟨_, p5, rfl⟩, q _ ⟨p5, p3, ⟨_, _, p4⟩, ⟨_, p1, rfl, rfl⟩, ⟨_, p2, rfl, rfl⟩⟩ fun c o x =>
    Heap.get?_push_of_some _ (Heap.get?_push_of_some _ (Heap.get?_push_of_some _ (Heap.get?_push_of_some _ (Heap.get?_push_of_some _ x))))⟩
end
/-- the list at a and the tuple at b as they stand at each turn, the items in new pairs -/
def ItzM (K : PySem.W.Frag) (a b : Addr) : It :=
  ⟨fun i H => ∃ (xs ys : List V) (x y : V), SqL K H a xs ∧ SqT K H b ys ∧ xs[i]? = some x ∧ ys[i]? = some y,
    fun i H v H' => ∃ T x y, v = .ref T ∧ H T = none ∧ H' = upd H T (.tup [x, y]) ∧ (∀ xs, SqL K H a xs → xs[i]? = some x) ∧ ∀ ys, SqT K H b ys → ys[i]? = some y,
    fun i H => ∃ xs ys : List V, SqL K H a xs ∧ SqT K H b ys ∧ (xs.length ≤ i ∨ ys.length ≤ i)⟩
theorem turn_zipM {P : Program} {w : World} {K : PySem.W.Frag} {elts : List Expr} {kk : Nat} {tpos : Pos} {a b z TI TO i1 i2 : Addr} (D : ZipApart z TI TO i1 i2 a b) :
    Turn P w K (.Tuple elts kk tpos) (ItzM K a b) [z, TI, TO, i1, i2] z (fun i h => ZM h z TI TO i1 i2 a b i .none) where
  mem := by simp
  obj := fun i h st c hc => by
    obtain ⟨p0, p1, ⟨x, y, p2⟩, ⟨o1, e1, _, d1⟩, ⟨o2, e2, _, d2⟩⟩ := st
    simp only [List.mem_cons, List.not_mem_nil, or_false] at hc
    rcases hc with rfl | rfl | rfl | rfl | rfl
    · exact ⟨_, p0, fun v q => (nomatch q)⟩
    · exact ⟨_, p1, fun v q => (nomatch q)⟩
    · exact ⟨_, p2, fun v q => (nomatch q)⟩
    · exact ⟨o1, e1, fun v q => (by rw [d1] at q; cases q)⟩
    · exact ⟨o2, e2, fun v q => (by rw [d2] at q; cases q)⟩
  keep := fun i h h' st k => by
    obtain ⟨p0, p1, ⟨x, y, p2⟩, p3, p4⟩ := st
    exact ⟨k z (by simp) _ p0, k TI (by simp) _ p1, ⟨x, y, k TO (by simp) _ p2⟩, p3.at fun o q => k i1 (by simp) o q, p4.at fun o q => k i2 (by simp) o q⟩
  item := by
    intro X hP hw hK hc i pins s σ H E I hf st hg; subst hP hw hK
    obtain ⟨xs, ys, x, y, qx, qy, ex, ey⟩ := hg
    obtain ⟨its, rv, pl, _⟩ := I.list qx; obtain ⟨its2, rv2, pt, _⟩ := I.tuple qy
    obtain ⟨u, hu, ru⟩ := rv.get ex; obtain ⟨u2, hu2, ru2⟩ := rv2.get ey
    have zl : z < s.heap.objs.size := Heap.lt_size st.zip
    refine zm_next D st pl.isList pt (x := u) (y := u2) (by simpa using hu) (by simpa using hu2) fun h' S' pr sz kp => ?_
    refine ⟨_, rfl, wpAny_letOwnedTupleGo_zip (s := { s with heap := h' }) S'.zip fun h2 z2 sb => ?_⟩
    have pr2 : h2.get? s.heap.objs.size = some { cls := .type "tuple", data := .seq #[u, u2] } := (sb.2 _ (Nat.ne_of_gt zl)).trans pr
    have nw : ObjOk X.prog X.w (upd H s.heap.objs.size (.tup [x, y])) h2 s.heap.objs.size (.tup [x, y]) := ⟨by show 2 ≤ sizeLine; decide, [u, u2], .cons ru (.cons ru2 .nil), ⟨_, pr2, rfl, _, rfl⟩⟩
    have I1 : Inv X pins σ (upd H s.heap.objs.size (.tup [x, y])) { s with heap := h2 } :=
      I.turnedNew (t' := s.toks) (ch := [z, TI, TO, i1, i2]) (fun c o hb q => (sb.2 c (fun r => hb (by simp [r]))).trans (kp c o (fun r => hb (by simp [r])) (fun r => hb (by simp [r])) (fun r => hb (by simp [r])) (fun r => hb (by simp [r])) q)) hf (Nat.le_refl _) nw
    obtain ⟨_, s1, ⟨c1, c2, s2⟩, s3, s4⟩ := S'
    refine ⟨.ref s.heap.objs.size, _, I1, rfl, ⟨_, x, y, rfl, I.hok.fresh (Nat.le_refl _), rfl, fun l hl => by rw [I.list_inj hl qx]; exact ex, fun l hl => by rw [I.tuple_inj hl qy]; exact ey⟩,
      ⟨z2, (sb.2 _ D.TIz).trans s1, ⟨c1, c2, (sb.2 _ D.TOz).trans s2⟩, s3.at fun o q => (sb.2 _ D.i1z).trans q, s4.at fun o q => (sb.2 _ D.i2z).trans q⟩, fun c hcm => ?_⟩
    have hlt : c < s.heap.objs.size := by
      obtain ⟨_, t1, ⟨_, _, t2⟩, ⟨_, t3, _⟩, ⟨_, t4, _⟩⟩ := st
      simp only [List.mem_cons, List.not_mem_nil, or_false] at hcm
      rcases hcm with rfl | rfl | rfl | rfl | rfl
      · exact zl
      · exact Heap.lt_size t1
      · exact Heap.lt_size t2
      · exact Heap.lt_size t3
      · exact Heap.lt_size t4
    rw [upd_ne (Nat.ne_of_lt hlt)]; exact (hf c hcm).1
  done := by
    intro X hP hw hK hc i pins s σ H E I hf st hg; subst hP hw hK
    obtain ⟨xs, ys, qx, qy, en⟩ := hg
    obtain ⟨its, rv, pl, _⟩ := I.list qx; obtain ⟨its2, rv2, pt, _⟩ := I.tuple qy
    have n1 := rv.length; have n2 := rv2.length
    have he : its.toArray[i]? = none ∨ its2.toArray[i]? = none := en.imp (fun q => by simp; omega) (fun q => by simp; omega)
    exact zm_stop (I.ok.hd hc) D st pl.isList pt he fun h' kp => ⟨rfl, I.turnedL (t' := s.toks) (ch := [z, TI, TO, i1, i2]) (fun c o hb q =>
      kp c o (fun r => hb (by simp [r])) (fun r => hb (by simp [r])) (fun r => hb (by simp [r])) (fun r => hb (by simp [r])) q) hf⟩
  self := fun A i s Q E st h => wpAny_pyIter_zip st.zip h
/-- the lists at a and b as they stand at each turn, the items in new pairs that have no dict of their own -/
def ItzP (K : PySem.W.Frag) (a b : Addr) : It :=
  ⟨(Itz K a b).go, fun i H v H' => ∃ (T : Addr) (x y : V) (o : Obj), v = .ref T ∧ H T = none ∧ o.dict = none ∧ H' = upd H T (.frz o (.tup [x, y])) ∧ (∀ xs, SqL K H a xs → xs[i]? = some x) ∧ ∀ ys, SqL K H b ys → ys[i]? = some y, (Itz K a b).stop⟩
theorem turn_zipP {P : Program} {w : World} {K : PySem.W.Frag} {elts : List Expr} {kk : Nat} {tpos : Pos} {a b z TI TO i1 i2 : Addr} (D : ZipApart z TI TO i1 i2 a b) :
    Turn P w K (.Tuple elts kk tpos) (ItzP K a b) [z, TI, TO, i1, i2] z (fun i h => IsZip h z TI TO .none ∧ IsPair h TI (.ref i1) (.ref i2) ∧ (∃ x y, IsPair h TO x y) ∧ h.IsListIter i1 a i ∧ h.IsListIter i2 b i) where
  mem := (turn_zip (P := P) (w := w) (K := K) (elts := elts) (kk := kk) (tpos := tpos) D).mem
  obj := (turn_zip (P := P) (w := w) (K := K) (elts := elts) (kk := kk) (tpos := tpos) D).obj
  keep := (turn_zip (P := P) (w := w) (K := K) (elts := elts) (kk := kk) (tpos := tpos) D).keep
  done := (turn_zip (P := P) (w := w) (K := K) (elts := elts) (kk := kk) (tpos := tpos) D).done
  self := (turn_zip (P := P) (w := w) (K := K) (elts := elts) (kk := kk) (tpos := tpos) D).self
  item := by
    intro X eP eW eK calm i pins s sg H E I free st more
    subst eP eW eK
    obtain ⟨z0, t1, ⟨x0, y0, t2⟩, l1, l2⟩ := st
    obtain ⟨xs, ys, x, y, qx, qy, ex, ey⟩ := more
    obtain ⟨its, rv, p1, _⟩ := I.list qx
    obtain ⟨its2, rv2, p2, _⟩ := I.list qy
    obtain ⟨u, hu, ru⟩ := rv.get ex
    obtain ⟨u2, hu2, ru2⟩ := rv2.get ey
    have zl : z < s.heap.objs.size := Heap.lt_size z0
    refine wpAny_pyNext_zip_item D z0 t1 t2 l1 l2 p1.isList p2.isList (x := u) (y := u2) (by simpa using hu) (by simpa using hu2) fun h1 z1 to1 a1 b1 pr _ kp => ?_
    refine ⟨_, rfl, wpAny_letOwnedTupleGo_zip (s := { s with heap := h1 }) z1 fun h2 z2 sb => ?_⟩
    have pr2 : h2.get? s.heap.objs.size = some { cls := .type "tuple", data := .seq #[u, u2] } := (sb.2 _ (Nat.ne_of_gt zl)).trans pr
    have nw : ObjOk X.prog X.w (upd H s.heap.objs.size (.frz { cls := .type "tuple", data := .seq #[u, u2] } (.tup [x, y]))) h2 s.heap.objs.size (.frz { cls := .type "tuple", data := .seq #[u, u2] } (.tup [x, y])) :=
      ⟨pr2, by show 2 ≤ sizeLine; decide, [u, u2], .cons ru (.cons ru2 .nil), ⟨_, pr2, rfl, _, rfl⟩⟩
    have I1 : Inv X pins sg (upd H s.heap.objs.size (.frz { cls := .type "tuple", data := .seq #[u, u2] } (.tup [x, y]))) { s with heap := h2 } :=
      I.turnedNew (t' := s.toks) (ch := [z, TI, TO, i1, i2]) (fun c o nb q => (sb.2 c (fun r => nb (by simp [r]))).trans (kp c o (fun r => nb (by simp [r])) (fun r => nb (by simp [r])) (fun r => nb (by simp [r])) (fun r => nb (by simp [r])) q)) free (Nat.le_refl _) nw
    refine ⟨.ref s.heap.objs.size, _, I1, rfl, ⟨_, x, y, _, rfl, I.hok.fresh (Nat.le_refl _), rfl, rfl, fun l hl => by rw [I.list_inj hl qx]; exact ex, fun l hl => by rw [I.list_inj hl qy]; exact ey⟩,
      ⟨z2, (sb.2 _ D.TIz).trans (kp _ _ D.TIz D.TITO D.TIi1 D.TIi2 t1), ⟨u, u2, (sb.2 _ D.TOz).trans to1⟩, a1.at fun o q => (sb.2 _ D.i1z).trans q, b1.at fun o q => (sb.2 _ D.i2z).trans q⟩, fun c hc => ?_⟩
    have lt : c < s.heap.objs.size := by
      simp only [List.mem_cons, List.not_mem_nil, or_false] at hc
      rcases hc with rfl | rfl | rfl | rfl | rfl
      · exact zl
      · exact Heap.lt_size t1
      · exact Heap.lt_size t2
      · obtain ⟨_, e1, _⟩ := l1; exact Heap.lt_size e1
      · obtain ⟨_, e1, _⟩ := l2; exact Heap.lt_size e1
    rw [upd_ne (Nat.ne_of_lt lt)]
    exact (free c hc).1
/-- zip(..) of two lists, two tuples, a list and a tuple -/
def iZipM (K : PySem.W.Frag) (ta : TA) : TI := fun σ H R => ta σ H fun vs H1 => ∃ a b xs ys, vs = [.ref a, .ref b] ∧
  ((SqL K H1 a xs ∧ SqL K H1 b ys ∧ R (ItzP K a b) H1) ∨ (SqT K H1 a xs ∧ SqT K H1 b ys ∧ R (RZ.ItzT K a b) H1) ∨ (SqL K H1 a xs ∧ SqT K H1 b ys ∧ R (ItzM K a b) H1))
theorem pi_zipM {X : Cx} {e e2 : Expr} {ta : TA} {p pos tpos : Pos} {elts : List Expr} {kk : Nat} (hg : Gl X "zip") (hm : X.mg "zip" = none) (ha : PA X [e, e2] ta)
    (hs : starEach [e, e2] X.env = (false, eval e X.env) :: starEach [e2] X.env := by rfl) (hpl : (backTo pos (starEach [e2] X.env)).any (·.1) = false := by rfl) :
    PI X (.Tuple elts kk tpos) (.Call (.Name "zip" p) [e, e2] [] pos) (iZipM X.K ta) := by
  refine ⟨fun pins s σ H R I h => ?_⟩; refine Call_ (ld_blt I hg hm PyProof.Rows.boot_zip (PyProof.Rows.callWith_type1 (thn (ha.run pos pins s σ H _ I h) fun us s1 ⟨vs, H1, I1, r1, q1⟩ => ?_) hs hpl))
  obtain ⟨a, b, xs, ys, ex, q1⟩ := q1; subst ex
  cases r1 with
  | cons r rr => cases rr with
    | cons r' rr =>
      cases rr; cases r; cases r'
      have fr : ∀ c, c ∈ [s1.heap.objs.size + 4, s1.heap.objs.size + 2, s1.heap.objs.size + 3, s1.heap.objs.size, s1.heap.objs.size + 1] → FpOk X pins H1 c := fun c hcm => by
        have hle : s1.heap.objs.size ≤ c := by
          simp only [List.mem_cons, List.not_mem_nil, or_false] at hcm
          rcases hcm with rfl | rfl | rfl | rfl | rfl <;> omega
        exact I1.fpOk hle (I1.hok.fresh hle)
      rcases q1 with ⟨qx, qy, q⟩ | ⟨qx, qy, q⟩ | ⟨qx, qy, q⟩
      · obtain ⟨its, rv, p1, _⟩ := I1.list qx; obtain ⟨its2, rv2, p2, _⟩ := I1.list qy
        refine call_zip_2 p1.isList p2.isList fun h' c1 c2 c3 c4 c5 sz kp => wpAny_pyIter_zip c1 ?_
        exact ⟨s1.heap.objs.size + 4, [s1.heap.objs.size + 4, s1.heap.objs.size + 2, s1.heap.objs.size + 3, s1.heap.objs.size, s1.heap.objs.size + 1], _, _, H1, rfl, I1.kept (t' := s1.toks) kp, turn_zipP (PySem.W.ktu_apart s1.heap.objs.size a b p1.lt p2.lt), ⟨c1, c2, ⟨_, _, c3⟩, c4, c5⟩, fr, q⟩
      · obtain ⟨its, rv, p1, _⟩ := I1.tuple qx; obtain ⟨its2, rv2, p2, _⟩ := I1.tuple qy
        obtain ⟨o1, ho1, _⟩ := id p1; obtain ⟨o2, ho2, _⟩ := id p2
        refine RZ.call_zipT (show s1.heap.IsTuple a its.toArray from p1) (show s1.heap.IsTuple b its2.toArray from p2) fun h' c1 c2 c3 c4 c5 sz kp => wpAny_pyIter_zip c1 ?_
        exact ⟨s1.heap.objs.size + 4, [s1.heap.objs.size + 4, s1.heap.objs.size + 2, s1.heap.objs.size + 3, s1.heap.objs.size, s1.heap.objs.size + 1], _, _, H1, rfl, I1.kept (t' := s1.toks) kp, RZ.turn_zipT (PySem.W.ktu_apart s1.heap.objs.size a b (Heap.lt_size ho1) (Heap.lt_size ho2)), ⟨c1, c2, ⟨_, _, c3⟩, c4, c5⟩, fr, q⟩
      · obtain ⟨its, rv, p1, _⟩ := I1.list qx; obtain ⟨its2, rv2, p2, _⟩ := I1.tuple qy
        obtain ⟨o2, ho2, _⟩ := id p2
        refine zm_call p1.isList (show s1.heap.IsTuple b its2.toArray from p2) fun h' S kp => wpAny_pyIter_zip S.zip ?_
        exact ⟨s1.heap.objs.size + 4, [s1.heap.objs.size + 4, s1.heap.objs.size + 2, s1.heap.objs.size + 3, s1.heap.objs.size, s1.heap.objs.size + 1], _, _, H1, rfl, I1.kept (t' := s1.toks) kp, turn_zipM (PySem.W.ktu_apart s1.heap.objs.size a b p1.lt (Heap.lt_size ho2)), S, fr, q⟩
end Pf
set_option maxHeartbeats 1000000
/-! Pf: enumerate of a zip of two lists. -/
namespace Pf
open PySem PySem.Spec PyProof.Rows L2
open PySem.Sem (wp)
open PySem.AutoSeq1 (wpAny_loadPart')
/-- a zip whose tuple may be out or not -/
abbrev ZG (h : Heap) (z TI TO : Addr) (f0 f1 : Value) : Prop :=
  h.get? z = some { cls := .type "zip", dict := none, data := .fields #[f0, f1, .bool false, .ref TI, .ref TO], slots := #[] }
structure ZS (h : Heap) (z TI TO i1 i2 l1 l2 : Addr) (k : Nat) : Prop where
  zip : ∃ f0 b, ZG h z TI TO f0 (.bool b) ∧ (f0 = .none ∨ ∃ T : Addr, f0 = rawInt T)
  its : IsPair h TI (.ref i1) (.ref i2)
  out : ∃ a b, IsPair h TO a b
  one : h.IsListIter i1 l1 k
  two : h.IsListIter i2 l2 k
section
variable {prog : Program} {w : World} {A : Around} {E : Value → Shared → Prop} {s : Shared}
/-- the tuple is free: nothing is out, or it is gone -/
def ZFree (h : Heap) (f0 : Value) : Prop := f0 = .none ∨ ∃ T : Addr, f0 = rawInt T ∧ h.get? T = none
theorem zg_isfree {z TI TO : Addr} {f0 f1 : Value} {Q : Bool → Shared → Prop} (hz : ZG s.heap z TI TO f0 f1) (hf : ZFree s.heap f0) (h : Q true s) :
    wpAny (model prog w) A (Builtin.SmallTypes.ownedTupleIsFree (.ref z)) Q E s := by
  unfold Builtin.SmallTypes.ownedTupleIsFree
  refine wpAny_bind (wpAny_field hz rfl (x := f0) rfl ?_)
  rcases hf with rfl | ⟨T, rfl, hT⟩
  · exact wpAny_pure h
  · show wpAny _ _ (loadIfAlive ((T : Int).toNat) >>= _) _ _ _
    rw [Int.toNat_natCast]
    have al : ∀ {Q : Option Obj → Shared → Prop}, Q none s → wpAny (model prog w) A (loadIfAlive T) Q E s := fun {Q} q => by
      have q' : Q (s.heap.get? T) s := by rw [hT]; exact q
      exact fun _ _ _ => q'
    refine wpAny_bind (al ?_)
    simp only [Option.isNone_none, if_true]
    exact wpAny_pure h
theorem zg_item {z TI TO i1 i2 l1 l2 : Addr} {k : Nat} {xs ys : Array Value} {x y a b f0 f1 : Value} {Q : Value → Shared → Prop} (D : ZipApart z TI TO i1 i2 l1 l2)
    (hz : ZG s.heap z TI TO f0 f1) (hf : ZFree s.heap f0) (hTI : IsPair s.heap TI (.ref i1) (.ref i2)) (hTO : IsPair s.heap TO a b)
    (h1 : s.heap.IsListIter i1 l1 k) (h2 : s.heap.IsListIter i2 l2 k) (hl1 : s.heap.IsList l1 xs) (hl2 : s.heap.IsList l2 ys) (hx : xs[k]? = some x) (hy : ys[k]? = some y)
    (hQ : ∀ h', ZG h' z TI TO (rawInt s.heap.objs.size) (.bool false) → IsPair h' TO x y → h'.IsListIter i1 l1 (k + 1) → h'.IsListIter i2 l2 (k + 1) → IsPair h' s.heap.objs.size x y → h'.objs.size = s.heap.objs.size + 1 →
      Kp4 z TO i1 i2 s.heap h' → Q (.ref s.heap.objs.size) { s with heap := h' }) :
    wpAny (model prog w) A (Builtin.«zip.__next__» ⟨[.ref z], []⟩) (fun fin s' => ∃ v, fin = .done (.ret v) ∧ Q v s') E s := by
  show wpAny _ _ (field (.ref z) 2 >>= _) _ _ _
  refine wpAny_bind (wpAny_field hz rfl (x := .bool false) rfl ?_)
  show wpAny _ _ (field (.ref z) 3 >>= _) _ _ _
  refine wpAny_bind (wpAny_field hz rfl (x := .ref TI) rfl ?_)
  refine wpAny_bind (wpAny_seqItems hTI rfl ?_)
  show wpAny _ _ (Builtin.SmallTypes.ownedTupleIsFree (.ref z) >>= _) _ _ _
  refine wpAny_bind (zg_isfree hz hf ?_)
  simp only [if_true]
  refine wpAny_bind (wpAny_rule ?_)
  refine wpAny_bind (wpAny_field hz rfl (x := .ref TO) rfl ?_)
  refine wpAny_bind (wpAny_setField_rec hz (by simp) fun g1 z1 s1 => ?_)
  replace z1 : ZG g1 z TI TO .ellipsis f1 := z1
  refine wpAny_bind ?_
  simp only [List.zipIdx_cons, List.zipIdx_nil, List.forIn_cons, List.forIn_nil]
  refine wpAny_bind (wpAny_bind (wpAny_onRaise ?_))
  show wpAny _ _ (Builtin.SmallTypes.nextOf (.ref i1) >>= _) _ _ _
  refine wpAny_bind (wpAny_nextOf_list_item (h1.extBut s1.extBut D.i1z) (hl1.extBut s1.extBut D.l1z) hx fun g2 n1 s2 => wpAny_pure ?_)
  have o2 : IsPair g2 TO a b := s2.extBut _ _ D.TOi1 (s1.extBut _ _ D.TOz hTO)
  refine wpAny_bind (wpAny_seqItems o2 rfl ?_)
  refine wpAny_bind (wpAny_updateSeq_pair o2 fun g3 o3 s3 => ?_)
  replace o3 : IsPair g3 TO x b := o3
  refine wpAny_bind (wpAny_letGo (wpAny_pure ?_))
  refine wpAny_bind (wpAny_bind (wpAny_onRaise ?_))
  show wpAny _ _ (Builtin.SmallTypes.nextOf (.ref i2) >>= _) _ _ _
  refine wpAny_bind (wpAny_nextOf_list_item (((h2.extBut s1.extBut D.i2z).extBut s2.extBut D.i12.symm).extBut s3.extBut D.TOi2.symm)
    (((hl2.extBut s1.extBut D.l2z).extBut s2.extBut D.l2i1).extBut s3.extBut D.l2TO) hy fun g4 n2 s4 => wpAny_pure ?_)
  have o4 : IsPair g4 TO x b := s4.extBut _ _ D.TOi2 o3
  refine wpAny_bind (wpAny_seqItems o4 rfl ?_)
  refine wpAny_bind (wpAny_updateSeq_pair o4 fun g5 o5 s5 => ?_)
  replace o5 : IsPair g5 TO x y := o5
  refine wpAny_bind (wpAny_letGo (wpAny_pure (wpAny_pure ?_)))
  refine wpAny_bind (wpAny_seqItems o5 rfl ?_)
  refine wpAny_bind (wpAny_newTuple ?_)
  have sz : g5.objs.size = s.heap.objs.size := by rw [s5.1, s4.1, s3.1, s2.1, s1.1]
  have z5 : ZG g5 z TI TO .ellipsis f1 := s5.extBut _ _ D.TOz.symm (s4.extBut _ _ D.i2z.symm (s3.extBut _ _ D.TOz.symm (s2.extBut _ _ D.i1z.symm z1)))
  have kp : ∀ c o, c ≠ z → c ≠ TO → c ≠ i1 → c ≠ i2 → s.heap.get? c = some o → g5.get? c = some o := fun c o c1 c2 c3 c4 e =>
    s5.extBut _ _ c2 (s4.extBut _ _ c4 (s3.extBut _ _ c2 (s2.extBut _ _ c3 (s1.extBut _ _ c1 e))))
  have p1 : g5.IsListIter i1 l1 (k + 1) := ((n1.extBut s3.extBut D.TOi1.symm).extBut s4.extBut D.i12).extBut s5.extBut D.TOi1.symm
  have p2 : g5.IsListIter i2 l2 (k + 1) := n2.extBut s5.extBut D.TOi2.symm
  have zlt : z < g5.objs.size := Heap.lt_size z5
  show wpAny _ _ (Builtin.SmallTypes.ownedTupleHandOut (.ref z) (.ref g5.objs.size) >>= _) _ _ _
  refine wpAny_bind ?_
  unfold Builtin.SmallTypes.ownedTupleHandOut
  have z6 : ZG (g5.push { cls := .type "tuple", data := .seq #[x, y] }) z TI TO .ellipsis f1 := Heap.get?_push_of_some _ z5
  refine wpAny_bind (wpAny_setField_rec z6 (by simp) fun g7 z7 s7 => ?_)
  replace z7 : ZG g7 z TI TO (rawInt g5.objs.size) f1 := z7
  refine wpAny_setField_rec z7 (by simp) fun g8 z8 s8 => ?_
  replace z8 : ZG g8 z TI TO (rawInt g5.objs.size) (.bool false) := z8
  have up : ∀ c o, c ≠ z → g5.get? c = some o → g8.get? c = some o := fun c o c1 e => s8.extBut _ _ c1 (s7.extBut _ _ c1 (Heap.get?_push_of_some _ e))
  have new : IsPair g8 g5.objs.size x y := s8.extBut _ _ (Nat.ne_of_gt zlt) (s7.extBut _ _ (Nat.ne_of_gt zlt) (Heap.get?_push_size _ rfl))
  have sz8 : g8.objs.size = g5.objs.size + 1 := by rw [s8.1, s7.1, Heap.size_push]
  rw [sz] at z8 new sz8
  refine wpAny_pure ⟨_, rfl, ?_⟩
  show Q (.ref g5.objs.size) _
  rw [sz]
  exact hQ g8 z8 (up _ _ D.TOz o5) (p1.at fun o e => up _ o D.i1z e) (p2.at fun o e => up _ o D.i2z e) new sz8 fun c o c1 c2 c3 c4 e => up c o c1 (kp c o c1 c2 c3 c4 e)
theorem zg_end {z TI TO i1 i2 l1 l2 : Addr} {k : Nat} {xs ys : Array Value} {a b f0 f1 : Value} {Q : Fin → Shared → Prop} (hh : A.handled = none) (D : ZipApart z TI TO i1 i2 l1 l2)
    (hz : ZG s.heap z TI TO f0 f1) (hf : ZFree s.heap f0) (hTI : IsPair s.heap TI (.ref i1) (.ref i2)) (hTO : IsPair s.heap TO a b)
    (h1 : s.heap.IsListIter i1 l1 k) (h2 : s.heap.IsListIter i2 l2 k) (hl1 : s.heap.IsList l1 xs) (hl2 : s.heap.IsList l2 ys) (hend : xs[k]? = none ∨ ys[k]? = none)
    (hE : ∀ h' e, Kp4 z TO i1 i2 s.heap h' → (∃ o, h'.get? e = some o ∧ o.cls = .type "StopIteration") → E (.ref e) { s with heap := h' }) :
    wpAny (model prog w) A (Builtin.«zip.__next__» ⟨[.ref z], []⟩) Q E s := by
  show wpAny _ _ (field (.ref z) 2 >>= _) _ _ _
  refine wpAny_bind (wpAny_field hz rfl (x := .bool false) rfl ?_)
  show wpAny _ _ (field (.ref z) 3 >>= _) _ _ _
  refine wpAny_bind (wpAny_field hz rfl (x := .ref TI) rfl ?_)
  refine wpAny_bind (wpAny_seqItems hTI rfl ?_)
  show wpAny _ _ (Builtin.SmallTypes.ownedTupleIsFree (.ref z) >>= _) _ _ _
  refine wpAny_bind (zg_isfree hz hf ?_)
  simp only [if_true]
  refine wpAny_bind (wpAny_rule ?_)
  refine wpAny_bind (wpAny_field hz rfl (x := .ref TO) rfl ?_)
  refine wpAny_bind (wpAny_setField_rec hz (by simp) fun g1 z1 s1 => ?_)
  replace z1 : ZG g1 z TI TO .ellipsis f1 := z1
  refine wpAny_bind ?_
  simp only [List.zipIdx_cons, List.zipIdx_nil, List.forIn_cons, List.forIn_nil]
  refine wpAny_bind (wpAny_bind (wpAny_onRaise ?_))
  show wpAny _ _ (Builtin.SmallTypes.nextOf (.ref i1) >>= _) _ _ _
  cases hx : xs[k]? with
  | none =>
    refine wpAny_bind (wpAny_nextOf_list_end hh (h1.extBut s1.extBut D.i1z) (hl1.extBut s1.extBut D.l1z) hx fun g2 e s2 he => ?_)
    obtain ⟨oe, hoe, hce⟩ := he
    have z2 : ZG g2 z TI TO .ellipsis f1 := s2 _ _ D.i1z.symm z1
    have hez : e ≠ z := fun q => by subst q; rw [z2] at hoe; cases hoe; simp at hce
    exact wpAny_setField_rec z2 (by simp) fun g3 _ s3 => hE g3 e (fun c o c1 _ c3 _ q => s3.extBut _ _ c1 (s2 _ _ c3 (s1.extBut _ _ c1 q))) ⟨oe, s3.extBut _ _ hez hoe, hce⟩
  | some x =>
    have hy : ys[k]? = none := hend.elim (fun q => by rw [hx] at q; cases q) id
    refine wpAny_bind (wpAny_nextOf_list_item (h1.extBut s1.extBut D.i1z) (hl1.extBut s1.extBut D.l1z) hx fun g2 n1 s2 => wpAny_pure ?_)
    have o2 : IsPair g2 TO a b := s2.extBut _ _ D.TOi1 (s1.extBut _ _ D.TOz hTO)
    refine wpAny_bind (wpAny_seqItems o2 rfl ?_)
    refine wpAny_bind (wpAny_updateSeq_pair o2 fun g3 o3 s3 => ?_)
    refine wpAny_bind (wpAny_letGo (wpAny_pure ?_))
    refine wpAny_bind (wpAny_bind (wpAny_onRaise ?_))
    show wpAny _ _ (Builtin.SmallTypes.nextOf (.ref i2) >>= _) _ _ _
    refine wpAny_bind (wpAny_nextOf_list_end hh (((h2.extBut s1.extBut D.i2z).extBut s2.extBut D.i12.symm).extBut s3.extBut D.TOi2.symm)
      (((hl2.extBut s1.extBut D.l2z).extBut s2.extBut D.l2i1).extBut s3.extBut D.l2TO) hy fun g4 e s4 he => ?_)
    obtain ⟨oe, hoe, hce⟩ := he
    have z4 : ZG g4 z TI TO .ellipsis f1 := s4 _ _ D.i2z.symm (s3.extBut _ _ D.TOz.symm (s2.extBut _ _ D.i1z.symm z1))
    have hez : e ≠ z := fun q => by subst q; rw [z4] at hoe; cases hoe; simp at hce
    exact wpAny_setField_rec z4 (by simp) fun g5 _ s5 => hE g5 e (fun c o c1 c2 c3 c4 q => s5.extBut _ _ c1 (s4 _ _ c4 (s3.extBut _ _ c2 (s2.extBut _ _ c3 (s1.extBut _ _ c1 q))))) ⟨oe, s5.extBut _ _ hez hoe, hce⟩
theorem zs_cases {z TI TO i1 i2 l1 l2 : Addr} {k : Nat} {h : Heap} (S : ZS h z TI TO i1 i2 l1 l2 k) :
    (∃ f0 f1, ZG h z TI TO f0 f1 ∧ ZFree h f0) ∨ ∃ (T : Addr) (b : Bool) (oT : Obj), IsZipHeld h z TI TO T b ∧ h.get? T = some oT := by
  obtain ⟨f0, b, hz, rfl | ⟨T, rfl⟩⟩ := S.zip
  · exact .inl ⟨_, _, hz, .inl rfl⟩
  · cases hT : h.get? T with
    | none => exact .inl ⟨_, _, hz, .inr ⟨T, rfl, hT⟩⟩
    | some oT => exact .inr ⟨T, b, oT, hz, hT⟩
/-- the zip's next item -/
theorem zs_item {z TI TO i1 i2 l1 l2 : Addr} {k : Nat} {xs ys : Array Value} {x y : Value} {Q : Value → Shared → Prop} (D : ZipApart z TI TO i1 i2 l1 l2) (S : ZS s.heap z TI TO i1 i2 l1 l2 k)
    (hl1 : s.heap.IsList l1 xs) (hl2 : s.heap.IsList l2 ys) (hx : xs[k]? = some x) (hy : ys[k]? = some y)
    (hQ : ∀ h', ZS h' z TI TO i1 i2 l1 l2 (k + 1) → IsPair h' s.heap.objs.size x y → h'.objs.size = s.heap.objs.size + 1 → Kp4 z TO i1 i2 s.heap h' → Q (.ref s.heap.objs.size) { s with heap := h' }) :
    wpAny (model prog w) A (Builtin.SmallTypes.nextOf (.ref z)) Q E s := by
  have ty : s.TypeIs (.ref z) "zip" := by
    obtain ⟨f0, b, hz, _⟩ := S.zip
    exact ⟨_, hz, rfl⟩
  obtain ⟨a, b, hTO⟩ := S.out
  unfold Builtin.SmallTypes.nextOf
  rcases zs_cases S with ⟨f0, f1, hz, hf⟩ | ⟨T, f, oT, hz, hT⟩
  · refine wpAny_bind (wpAny_callSpecial?_slot (name := Str.ofString "__next__") ty F.slot_zip_next (wpAny_call_entry F.slot_zip_next ty F.entry_zip_next
      (zg_item D hz hf S.its hTO S.one S.two hl1 hl2 hx hy fun h' a1 a2 a3 a4 a5 a6 a7 => wpAny_pure (hQ h' ⟨⟨_, _, a1, .inr ⟨_, rfl⟩⟩, a7 _ _ D.TIz D.TITO D.TIi1 D.TIi2 S.its, ⟨_, _, a2⟩, a3, a4⟩ a5 a6 a7)) (F.args_zip_next_1 _)))
  · refine wpAny_bind (wpAny_callSpecial?_slot (name := Str.ofString "__next__") ty F.slot_zip_next (wpAny_call_entry F.slot_zip_next ty F.entry_zip_next
      (zip_next_item_held D hz hT S.its S.one S.two hl1 hl2 hx hy fun h' a1 a3 a4 a5 a6 a7 => wpAny_pure (hQ h' ⟨⟨_, _, a1, .inr ⟨_, rfl⟩⟩, a7 _ _ D.TIz D.TIi1 D.TIi2 S.its, ⟨_, _, a7 _ _ D.TOz D.TOi1 D.TOi2 hTO⟩, a3, a4⟩ a5 a6 fun c o c1 _ c3 c4 => a7 c o c1 c3 c4)) (F.args_zip_next_1 _)))
theorem zs_end {z TI TO i1 i2 l1 l2 : Addr} {k : Nat} {xs ys : Array Value} {Q : Value → Shared → Prop} (hh : A.handled = none) (D : ZipApart z TI TO i1 i2 l1 l2) (S : ZS s.heap z TI TO i1 i2 l1 l2 k)
    (hl1 : s.heap.IsList l1 xs) (hl2 : s.heap.IsList l2 ys) (hend : xs[k]? = none ∨ ys[k]? = none)
    (hE : ∀ h' e, Kp4 z TO i1 i2 s.heap h' → (∃ o, h'.get? e = some o ∧ o.cls = .type "StopIteration") → E (.ref e) { s with heap := h' }) :
    wpAny (model prog w) A (Builtin.SmallTypes.nextOf (.ref z)) Q E s := by
  have ty : s.TypeIs (.ref z) "zip" := by
    obtain ⟨f0, b, hz, _⟩ := S.zip
    exact ⟨_, hz, rfl⟩
  obtain ⟨a, b, hTO⟩ := S.out
  unfold Builtin.SmallTypes.nextOf
  rcases zs_cases S with ⟨f0, f1, hz, hf⟩ | ⟨T, f, oT, hz, hT⟩
  · refine wpAny_bind (wpAny_callSpecial?_slot (name := Str.ofString "__next__") ty F.slot_zip_next (wpAny_call_entry F.slot_zip_next ty F.entry_zip_next
      (zg_end hh D hz hf S.its hTO S.one S.two hl1 hl2 hend hE) (F.args_zip_next_1 _)))
  · refine wpAny_bind (wpAny_callSpecial?_slot (name := Str.ofString "__next__") ty F.slot_zip_next (wpAny_call_entry F.slot_zip_next ty F.entry_zip_next
      (zip_next_end_held hh D hz hT S.its S.one S.two hl1 hl2 hend fun h' e hk he => hE h' e (fun c o c1 _ c3 c4 q => hk c o c1 c3 c4 q) he) (F.args_zip_next_1 _)))
theorem ZS.keep {z TI TO i1 i2 l1 l2 : Addr} {k : Nat} {h h' : Heap} (S : ZS h z TI TO i1 i2 l1 l2 k) (k' : ∀ b, b ∈ [z, TI, TO, i1, i2] → ∀ o, h.get? b = some o → h'.get? b = some o) : ZS h' z TI TO i1 i2 l1 l2 k := by
  obtain ⟨⟨f0, b, hz, hf⟩, hTI, ⟨x, y, hTO⟩, h1, h2⟩ := S
  exact ⟨⟨f0, b, k' z (by simp) _ hz, hf⟩, k' TI (by simp) _ hTI, ⟨x, y, k' TO (by simp) _ hTO⟩, h1.at fun o q => k' i1 (by simp) o q, h2.at fun o q => k' i2 (by simp) o q⟩
/-- the zip and the enumerate over it stand apart -/
structure EApart (e z TI TO i1 i2 : Addr) : Prop where
  z : e ≠ z
  TI : e ≠ TI
  TO : e ≠ TO
  i1 : e ≠ i1
  i2 : e ≠ i2
theorem EApart.all {e z TI TO i1 i2 : Addr} (A : EApart e z TI TO i1 i2) : ∀ b, b ∈ [z, TI, TO, i1, i2] → b ≠ e := by
  intro b hb
  simp only [List.mem_cons, List.not_mem_nil, or_false] at hb
  rcases hb with rfl | rfl | rfl | rfl | rfl
  · exact A.z.symm
  · exact A.TI.symm
  · exact A.TO.symm
  · exact A.i1.symm
  · exact A.i2.symm
theorem ze_item {e z TI TO i1 i2 l1 l2 : Addr} {i : Nat} {xs ys : Array Value} {x y old : Value} {Q : Value → Shared → Prop} (D : ZipApart z TI TO i1 i2 l1 l2) (EA : EApart e z TI TO i1 i2)
    (he : IsEnum s.heap e z i old) (S : ZS s.heap z TI TO i1 i2 l1 l2 i) (hl1 : s.heap.IsList l1 xs) (hl2 : s.heap.IsList l2 ys) (hx : xs[i]? = some x) (hy : ys[i]? = some y)
    (hQ : ∀ h1 h', Kp4 z TO i1 i2 s.heap h1 → h1.objs.size = s.heap.objs.size + 1 → IsPair h1 s.heap.objs.size x y → ZS h1 z TI TO i1 i2 l1 l2 (i + 1) →
      (∀ b o, b ≠ e → h1.get? b = some o → h'.get? b = some o) → IsEnumOut h' e z ((i : Int) + 1) (.ref s.heap.objs.size) (s.heap.objs.size + 1) →
      h'.get? (s.heap.objs.size + 1) = some { cls := .type "tuple", data := .seq #[.int i s.toks, .ref s.heap.objs.size] } → Q (.ref (s.heap.objs.size + 1)) { s with heap := h', toks := s.toks + 1 }) :
    wpAny (model prog w) A (Builtin.«enumerate.__next__» ⟨[.ref e], []⟩) (fun fin s' => ∃ v, fin = .done (.ret v) ∧ Q v s') E s := by
  obtain ⟨hp, g, d, tk, os⟩ := s
  show wpAny _ _ (field (.ref e) 2 >>= _) _ _ _
  refine wpAny_bind (wpAny_field he rfl (x := .ref z) rfl ?_)
  refine wpAny_bind (zs_item D S hl1 hl2 hx hy fun h1 S1 pr sz kp => ?_)
  replace kp : Kp4 z TO i1 i2 hp h1 := kp
  replace sz : h1.objs.size = hp.objs.size + 1 := sz
  replace pr : IsPair h1 hp.objs.size x y := pr
  have he1 : IsEnum h1 e z i old := kp _ _ EA.z EA.TO EA.i1 EA.i2 he
  show wpAny _ _ (field (.ref e) 3 >>= _) _ _ ⟨h1, g, d, tk, os⟩
  refine wpAny_bind (wpAny_field he1 rfl (x := rawInt i) rfl ?_)
  show wpAny _ _ (field (.ref e) 4 >>= _) _ _ ⟨h1, g, d, tk, os⟩
  refine wpAny_bind (wpAny_field he1 rfl (x := .none) rfl ?_)
  show wpAny _ _ (mkInt i >>= _) _ _ ⟨h1, g, d, tk, os⟩
  refine wpAny_bind (wpAny_mkInt ?_)
  show wpAny _ _ (setField (.ref e) 3 (rawInt ((i : Int) + 1)) >>= _) _ _ ⟨h1, g, d, tk + 1, os⟩
  refine wpAny_bind (wpAny_setField_rec he1 (by simp) fun h2 he2 s2 => ?_)
  replace s2 : Heap.SameBut e h1 h2 := s2
  replace he2 : IsEnum h2 e z ((i : Int) + 1) old := he2
  show wpAny _ _ (setField (.ref e) 4 .none >>= _) _ _ ⟨h2, g, d, tk + 1, os⟩
  refine wpAny_bind (wpAny_setField_rec he2 (by simp) fun h3 he3 s3 => ?_)
  replace s3 : Heap.SameBut e h2 h3 := s3
  replace he3 : IsEnum h3 e z ((i : Int) + 1) old := he3
  show wpAny _ _ (newTuple [.int i tk, .ref hp.objs.size] >>= _) _ _ ⟨h3, g, d, tk + 1, os⟩
  refine wpAny_bind (wpAny_newTuple ?_)
  have he4 : IsEnum (h3.push { cls := .type "tuple", data := .seq #[.int i tk, .ref hp.objs.size] }) e z ((i : Int) + 1) old := Heap.get?_push_of_some _ he3
  have sz3 : h3.objs.size = hp.objs.size + 1 := by rw [s3.1, s2.1, sz]
  have hel : e < h3.objs.size := Heap.lt_size he3
  have t4 : (h3.push { cls := .type "tuple", data := .seq #[.int i tk, .ref hp.objs.size] }).get? (hp.objs.size + 1) = some { cls := .type "tuple", data := .seq #[.int i tk, .ref hp.objs.size] } := by rw [← sz3]; exact Heap.get?_push_size _ rfl
  have k4 : ∀ b o, b ≠ e → h1.get? b = some o → (h3.push { cls := .type "tuple", data := .seq #[.int i tk, .ref hp.objs.size] }).get? b = some o := fun b o hb q => Heap.get?_push_of_some _ (s3.extBut b o hb (s2.extBut b o hb q))
  generalize h3.push { cls := .type "tuple", data := .seq #[.int i tk, .ref hp.objs.size] } = h4 at he4 t4 k4
  show wpAny _ _ (Builtin.SmallTypes.ownedTupleIsFree (.ref e) >>= _) _ _ ⟨h4, g, d, tk + 1, os⟩
  rw [sz3] at hel ⊢
  refine wpAny_bind ?_
  unfold Builtin.SmallTypes.ownedTupleIsFree
  refine wpAny_bind (wpAny_field he4 rfl (x := .none) rfl (wpAny_pure ?_))
  simp only [if_true]
  refine wpAny_bind (wpAny_rule ?_)
  refine wpAny_bind (wpAny_field he4 rfl (x := old) rfl ?_)
  refine wpAny_bind (wpAny_setField_rec he4 (by simp) fun h5 he5 s5 => ?_)
  replace s5 : Heap.SameBut e h4 h5 := s5
  replace he5 : IsEnum h5 e z ((i : Int) + 1) (.ref hp.objs.size) := he5
  show wpAny _ _ (Builtin.SmallTypes.ownedTupleHandOut (.ref e) (.ref (hp.objs.size + 1)) >>= _) _ _ ⟨h5, g, d, tk + 1, os⟩
  refine wpAny_bind ?_
  unfold Builtin.SmallTypes.ownedTupleHandOut
  refine wpAny_bind (wpAny_setField_rec he5 (by simp) fun h6 he6 s6 => ?_)
  replace s6 : Heap.SameBut e h5 h6 := s6
  replace he6 : IsEnumOut h6 e z ((i : Int) + 1) (.ref hp.objs.size) (hp.objs.size + 1) := he6
  refine wpAny_setField_rec he6 (by simp) fun h7 he7 s7 => ?_
  replace s7 : Heap.SameBut e h6 h7 := s7
  replace he7 : IsEnumOut h7 e z ((i : Int) + 1) (.ref hp.objs.size) (hp.objs.size + 1) := he7
  refine wpAny_bind (wpAny_letGo (wpAny_pure ⟨_, rfl, hQ h1 h7 kp sz pr S1 (fun b o hb q => ?_) he7 ?_⟩))
  · exact s7.extBut b o hb (s6.extBut b o hb (s5.extBut b o hb (k4 b o hb q)))
  · exact s7.extBut _ _ (Nat.ne_of_gt hel) (s6.extBut _ _ (Nat.ne_of_gt hel) (s5.extBut _ _ (Nat.ne_of_gt hel) t4))
theorem ze_next {e z TI TO i1 i2 l1 l2 : Addr} {i : Nat} {xs ys : Array Value} {x y old : Value} {Q : Option Value → Shared → Prop} (D : ZipApart z TI TO i1 i2 l1 l2) (EA : EApart e z TI TO i1 i2)
    (he : IsEnum s.heap e z i old) (S : ZS s.heap z TI TO i1 i2 l1 l2 i) (hl1 : s.heap.IsList l1 xs) (hl2 : s.heap.IsList l2 ys) (hx : xs[i]? = some x) (hy : ys[i]? = some y)
    (hQ : ∀ h1 h', Kp4 z TO i1 i2 s.heap h1 → h1.objs.size = s.heap.objs.size + 1 → IsPair h1 s.heap.objs.size x y → ZS h1 z TI TO i1 i2 l1 l2 (i + 1) →
      (∀ b o, b ≠ e → h1.get? b = some o → h'.get? b = some o) → IsEnumOut h' e z ((i : Int) + 1) (.ref s.heap.objs.size) (s.heap.objs.size + 1) →
      h'.get? (s.heap.objs.size + 1) = some { cls := .type "tuple", data := .seq #[.int i s.toks, .ref s.heap.objs.size] } → Q (some (.ref (s.heap.objs.size + 1))) { s with heap := h', toks := s.toks + 1 }) :
    wpAny (model prog w) A (pyNext (.ref e)) Q E s := by
  have hT : s.TypeIs (.ref e) "enumerate" := ⟨_, he, rfl⟩
  unfold pyNext
  exact wpAny_bind (wpAny_attempt (wpAny_callSpecial?_slot (name := Str.ofString "__next__") hT F.slot_enumerate_next
    (wpAny_call_entry F.slot_enumerate_next hT F.entry_enumerate_next
      (ze_item D EA he S hl1 hl2 hx hy fun h1 h' a b c d k q r => wpAny_pure (hQ h1 h' a b c d k q r)) (F.args_enumerate_next_1 _))))
theorem ze_stop {e z TI TO i1 i2 l1 l2 : Addr} {i : Nat} {j : Int} {xs ys : Array Value} {old : Value} {Q : Option Value → Shared → Prop} (hh : A.handled = none) (D : ZipApart z TI TO i1 i2 l1 l2)
    (he : IsEnum s.heap e z j old) (S : ZS s.heap z TI TO i1 i2 l1 l2 i) (hl1 : s.heap.IsList l1 xs) (hl2 : s.heap.IsList l2 ys) (hend : xs[i]? = none ∨ ys[i]? = none)
    (hQ : ∀ h', Kp4 z TO i1 i2 s.heap h' → Q none { s with heap := h' }) : wpAny (model prog w) A (pyNext (.ref e)) Q E s := by
  have hT : s.TypeIs (.ref e) "enumerate" := ⟨_, he, rfl⟩
  unfold pyNext
  refine wpAny_bind (wpAny_attempt (wpAny_callSpecial?_slot (name := Str.ofString "__next__") hT F.slot_enumerate_next
    (wpAny_call_entry F.slot_enumerate_next hT F.entry_enumerate_next ?_ (F.args_enumerate_next_1 _))))
  show wpAny _ _ (field (.ref e) 2 >>= _) _ _ _
  refine wpAny_bind (wpAny_field he rfl (x := .ref z) rfl ?_)
  refine wpAny_bind (zs_end hh D S hl1 hl2 hend fun h' x kp hx => ?_)
  obtain ⟨o, ho, hc⟩ := hx
  refine wpAny_bind (wpAny_isInstance (T := "StopIteration") (b := true) ⟨o, ho, hc⟩ isSubtype_stop ?_)
  exact wpAny_pure (hQ _ kp)
end
theorem meets_enumZ (z TI TO : Addr) :
    Meets (Builtin.«enumerate.__new__» ⟨[.type "enumerate", .ref z], []⟩) (fun _ R s => IsZip s.heap z TI TO .none ∧
      R (.ok (.ret (.ref s.heap.objs.size))) { s with heap := s.heap.push { cls := .type "enumerate", data := .fields #[.none, .bool false, .ref z, rawInt 0, .none, .none] } }) := by
  refine Meets.of_wp fun prog w A R s h => ?_
  obtain ⟨hp, g, d, tk, os⟩ := s
  obtain ⟨hl, h⟩ := h
  have hsub := sub_enumerate
  have hT : IsZip (Shared.heap ⟨hp, g, d, tk, os⟩) z TI TO .none := hl
  wp_walk using wpAny_loadPart' hl
  refine wpAny_stack_any fun st => wpAny_pure ?_
  split
  · rename_i c _ _ _ _ _
    cases (c == Value.type "enumerate")
    · wp_walk using wpAny_loadPart' hl, wpAny_pyIter_zip hT
      exact ⟨_, rfl, h⟩
    · wp_walk using wpAny_loadPart' hl, wpAny_pyIter_zip hT
      exact ⟨_, rfl, h⟩
  · wp_walk using wpAny_loadPart' hl, wpAny_pyIter_zip hT
    exact ⟨_, rfl, h⟩
theorem call_enumZ {prog : Program} {w : World} {A : Around} {E : Value → Shared → Prop} {s : Shared} {z TI TO : Addr} {Q : Value → Shared → Prop} (hz : IsZip s.heap z TI TO .none)
    (h : ∀ h', IsEnum h' s.heap.objs.size z 0 .none → (∀ b o, s.heap.get? b = some o → h'.get? b = some o) → Q (.ref s.heap.objs.size) { s with heap := h' }) :
    wpAny (model prog w) A (call (.type "enumerate") [.ref z]) Q E s := by
  refine callType_new F.called_enumerate (by decide) (F.typeCall_enumerate_1 _) (F.newCall_enumerate_1 _) (fun obj => F.args_object_init_2 obj _) F.entry_enumerate_new (meets_enumZ z TI TO) ⟨hz, ?_⟩
  have q := Heap.get?_push_size s.heap (o := { cls := .type "enumerate", data := .fields #[.none, .bool false, .ref z, rawInt 0, .none, .none] }) rfl
  exact ⟨⟨_, q, rfl⟩, h _ q fun b o x => Heap.get?_push_of_some _ x⟩
/-- the lists at a and b as they stand at each turn: the number, the two in a new pair -/
def ItE (K : PySem.W.Frag) (a b : Addr) : It :=
  ⟨(Itz K a b).go, fun i H v H' => ∃ (T T2 : Addr) (x y : V), v = .ref T2 ∧ H T = none ∧ H T2 = none ∧ T2 ≠ T ∧ H' = upd (upd H T (.tup [x, y])) T2 (.tup [.int (i : Nat), .ref T]) ∧ (∀ xs, SqL K H a xs → xs[i]? = some x) ∧ ∀ ys, SqL K H b ys → ys[i]? = some y, (Itz K a b).stop⟩
theorem turn_enz {P : Program} {w : World} {K : PySem.W.Frag} {elts : List Expr} {kk : Nat} {tpos : Pos} {a b e z TI TO i1 i2 : Addr} (D : ZipApart z TI TO i1 i2 a b) (EA : EApart e z TI TO i1 i2) :
    Turn P w K (.Tuple elts kk tpos) (ItE K a b) [e, z, TI, TO, i1, i2] e (fun i h => (∃ old, IsEnum h e z ((i : Nat) : Int) old) ∧ ZS h z TI TO i1 i2 a b i) where
  mem := by simp
  obj := fun i h st c hc => by
    obtain ⟨⟨old, he⟩, ⟨f0, fb, p0, _⟩, p1, ⟨x, y, p2⟩, ⟨o1, e1, _, d1⟩, ⟨o2, e2, _, d2⟩⟩ := st
    simp only [List.mem_cons, List.not_mem_nil, or_false] at hc
    rcases hc with rfl | rfl | rfl | rfl | rfl | rfl
    · exact ⟨_, he, fun v q => (nomatch q)⟩
    · exact ⟨_, p0, fun v q => (nomatch q)⟩
    · exact ⟨_, p1, fun v q => (nomatch q)⟩
    · exact ⟨_, p2, fun v q => (nomatch q)⟩
    · exact ⟨o1, e1, fun v q => (by rw [d1] at q; cases q)⟩
    · exact ⟨o2, e2, fun v q => (by rw [d2] at q; cases q)⟩
  keep := fun i h h' st k => let ⟨⟨old, he⟩, S⟩ := st; ⟨⟨old, k e (by simp) _ he⟩, S.keep fun b hb o q => k b (List.mem_cons_of_mem _ hb) o q⟩
  item := by
    intro X hP hw hK hc i pins s σ H E I hf st hg; subst hP hw hK
    obtain ⟨⟨old, he⟩, S⟩ := st
    obtain ⟨xs, ys, x, y, qx, qy, ex, ey⟩ := hg
    obtain ⟨its, rv, p1, _⟩ := I.list qx; obtain ⟨its2, rv2, p2, _⟩ := I.list qy
    obtain ⟨u, hu, ru⟩ := rv.get ex; obtain ⟨u2, hu2, ru2⟩ := rv2.get ey
    have lt : ∀ c, c ∈ [e, z, TI, TO, i1, i2] → c < s.heap.objs.size := fun c hc => by
      obtain ⟨⟨f0, fb, p0, _⟩, p1, ⟨x, y, p2⟩, ⟨o1, e1, _, d1⟩, ⟨o2, e2, _, d2⟩⟩ := S
      simp only [List.mem_cons, List.not_mem_nil, or_false] at hc
      rcases hc with rfl | rfl | rfl | rfl | rfl | rfl
      · exact Heap.lt_size he
      · exact Heap.lt_size p0
      · exact Heap.lt_size p1
      · exact Heap.lt_size p2
      · exact Heap.lt_size e1
      · exact Heap.lt_size e2
    refine ze_next D EA he S p1.isList p2.isList (x := u) (y := u2) (by simpa using hu) (by simpa using hu2) fun h1 h' kp sz pr S1 k2 ho tp => ?_
    refine ⟨_, rfl, wpAny_letOwnedTupleGo_enum (s := { s with heap := h', toks := s.toks + 1 }) ho fun h2 he2 sb => ?_⟩
    have nw : ObjOk X.prog X.w (upd H s.heap.objs.size (.tup [x, y])) h1 s.heap.objs.size (.tup [x, y]) := ⟨by show 2 ≤ sizeLine; decide, [u, u2], .cons ru (.cons ru2 .nil), ⟨_, pr, rfl, _, rfl⟩⟩
    have I1 : Inv X pins σ (upd H s.heap.objs.size (.tup [x, y])) { s with heap := h1 } :=
      I.turnedNew (t' := s.toks) (ch := [e, z, TI, TO, i1, i2]) (fun c o hb q => kp c o (fun r => hb (by simp [r])) (fun r => hb (by simp [r])) (fun r => hb (by simp [r])) (fun r => hb (by simp [r])) q) hf (Nat.le_refl _) nw
    have ne2 : (s.heap.objs.size + 1 : Nat) ≠ s.heap.objs.size := Nat.succ_ne_self _
    have hn2 : H (s.heap.objs.size + 1) = none := I.hok.fresh (Nat.le_succ _)
    have hf2 : ∀ c ∈ [e], FpOk X pins (upd H s.heap.objs.size (.tup [x, y])) c := fun c hc => by
      have hc' : c ∈ [e, z, TI, TO, i1, i2] := by
        rw [List.mem_singleton.mp hc]; simp
      obtain ⟨f0, f1⟩ := hf c hc'
      exact ⟨by rw [upd_ne (Nat.ne_of_lt (lt c hc'))]; exact f0, f1⟩
    have tp2 : h2.get? (s.heap.objs.size + 1) = some { cls := .type "tuple", data := .seq #[.int i s.toks, .ref s.heap.objs.size] } := (sb.2 _ (Nat.ne_of_gt (Nat.lt_succ_of_lt (lt e (by simp))))).trans tp
    have nw2 : ObjOk X.prog X.w (upd (upd H s.heap.objs.size (.tup [x, y])) (s.heap.objs.size + 1) (.tup [.int (i : Nat), .ref s.heap.objs.size])) h2 (s.heap.objs.size + 1) (.tup [.int (i : Nat), .ref s.heap.objs.size]) :=
      ⟨by show 2 ≤ sizeLine; decide, [.int i s.toks, .ref s.heap.objs.size], .cons ⟨_, rfl⟩ (.cons rfl .nil), ⟨_, tp2, rfl, _, rfl⟩⟩
    have I2 : Inv X pins σ (upd (upd H s.heap.objs.size (.tup [x, y])) (s.heap.objs.size + 1) (.tup [.int (i : Nat), .ref s.heap.objs.size])) { s with heap := h2, toks := s.toks + 1 } :=
      I1.turnedNew (t' := s.toks + 1) (ch := [e]) (fun c o hb q => (sb.2 c (fun r => hb (by simp [r]))).trans (k2 c o (fun r => hb (by simp [r])) q)) hf2 (by show h1.objs.size ≤ _; rw [sz]; exact Nat.le_refl _) nw2
    refine ⟨.ref (s.heap.objs.size + 1), _, I2, rfl, ⟨_, _, x, y, rfl, I.hok.fresh (Nat.le_refl _), hn2, ne2, rfl, fun l hl => by rw [I.list_inj hl qx]; exact ex, fun l hl => by rw [I.list_inj hl qy]; exact ey⟩,
      ⟨⟨.ref s.heap.objs.size, ?_⟩, S1.keep fun c hcm o q => (sb.2 _ (EA.all c hcm)).trans (k2 c o (EA.all c hcm) q)⟩, fun c hcm => ?_⟩
    · have e1 : ((i + 1 : Nat) : Int) = (i : Int) + 1 := by omega
      rw [e1]; exact he2
    · have hlt := lt c hcm
      rw [upd_ne (Nat.ne_of_lt (Nat.lt_succ_of_lt hlt)), upd_ne (Nat.ne_of_lt hlt)]; exact (hf c hcm).1
  done := by
    intro X hP hw hK hc i pins s σ H E I hf st hg; subst hP hw hK
    obtain ⟨⟨old, he⟩, S⟩ := st
    obtain ⟨xs, ys, qx, qy, en⟩ := hg
    obtain ⟨its, rv, p1, _⟩ := I.list qx; obtain ⟨its2, rv2, p2, _⟩ := I.list qy
    have n1 := rv.length; have n2 := rv2.length
    have he' : its.toArray[i]? = none ∨ its2.toArray[i]? = none := en.imp (fun q => by simp; omega) (fun q => by simp; omega)
    exact ze_stop (I.ok.hd hc) D he S p1.isList p2.isList he' fun h' kp => ⟨rfl, I.turnedL (t' := s.toks) (ch := [e, z, TI, TO, i1, i2]) (fun c o hb q =>
      kp c o (fun r => hb (by simp [r])) (fun r => hb (by simp [r])) (fun r => hb (by simp [r])) (fun r => hb (by simp [r])) q) hf⟩
  self := fun A i s Q E st h => let ⟨⟨_, he⟩, _⟩ := st; wpAny_pyIter_enum he h
/-- enumerate(zip(..)) of two lists -/
def iEnz (K : PySem.W.Frag) (ta : TA) : TI := fun σ H R => ta σ H fun vs H1 => ∃ a b xs ys, vs = [.ref a, .ref b] ∧ SqL K H1 a xs ∧ SqL K H1 b ys ∧ R (ItE K a b) H1
theorem pi_enz {X : Cx} {e e2 : Expr} {ta : TA} {p p2 pos pos2 tpos : Pos} {elts : List Expr} {kk : Nat} (hg : Gl X "zip") (hm : X.mg "zip" = none) (hg2 : Gl X "enumerate") (hm2 : X.mg "enumerate" = none) (ha : PA X [e, e2] ta)
    (hs : starEach [e, e2] X.env = (false, eval e X.env) :: starEach [e2] X.env := by rfl) (hpl : (backTo pos2 (starEach [e2] X.env)).any (·.1) = false := by rfl) :
    PI X (.Tuple elts kk tpos) (.Call (.Name "enumerate" p) [.Call (.Name "zip" p2) [e, e2] [] pos2] [] pos) (iEnz X.K ta) := by
  refine ⟨fun pins s σ H R I h => ?_⟩
  refine Call_ (ld_blt I hg2 hm2 PyProof.Rows.boot_enumerate (PyProof.Rows.callWith_type1 (Calls.spliced_cons ?_) rfl rfl))
  refine Call_ (ld_blt I hg hm PyProof.Rows.boot_zip (PyProof.Rows.callWith_type1 (thn (ha.run pos2 pins s σ H _ I h) fun us s1 ⟨vs, H1, I1, r1, q1⟩ => ?_) hs hpl))
  obtain ⟨a, b, xs, ys, ex, qx, qy, q⟩ := q1; subst ex
  cases r1 with
  | cons r rr => cases rr with
    | cons r' rr =>
      cases rr; cases r; cases r'
      obtain ⟨its, rv, p1, _⟩ := I1.list qx; obtain ⟨its2, rv2, p2, _⟩ := I1.list qy
      refine call_zip_2 p1.isList p2.isList fun h' c1 c2 c3 c4 c5 sz kp => Calls.spliced_nil ?_
      refine call_enumZ (s := { s1 with heap := h' }) c1 fun h2 e1 k2 => wpAny_pyIter_enum e1 ?_
      have fr : ∀ c, c ∈ [h'.objs.size, s1.heap.objs.size + 4, s1.heap.objs.size + 2, s1.heap.objs.size + 3, s1.heap.objs.size, s1.heap.objs.size + 1] → FpOk X pins H1 c := fun c hcm => by
        have hle : s1.heap.objs.size ≤ c := by
          simp only [List.mem_cons, List.not_mem_nil, or_false, sz] at hcm
          rcases hcm with rfl | rfl | rfl | rfl | rfl | rfl <;> omega
        exact I1.fpOk hle (I1.hok.fresh hle)
      have zs : ZS h' (s1.heap.objs.size + 4) (s1.heap.objs.size + 2) (s1.heap.objs.size + 3) s1.heap.objs.size (s1.heap.objs.size + 1) a b 0 := ⟨⟨_, _, c1, .inl rfl⟩, c2, ⟨_, _, c3⟩, c4, c5⟩
      have EA : EApart h'.objs.size (s1.heap.objs.size + 4) (s1.heap.objs.size + 2) (s1.heap.objs.size + 3) s1.heap.objs.size (s1.heap.objs.size + 1) := by
        rw [sz]
        constructor <;> (intro q; have q' : @Eq Nat _ _ := q; omega)
      exact ⟨h'.objs.size, [h'.objs.size, s1.heap.objs.size + 4, s1.heap.objs.size + 2, s1.heap.objs.size + 3, s1.heap.objs.size, s1.heap.objs.size + 1], _, _, H1, rfl, I1.kept (t' := s1.toks) fun c o x => k2 c o (kp c o x),
        turn_enz (PySem.W.ktu_apart s1.heap.objs.size a b p1.lt p2.lt) EA, ⟨⟨.none, e1⟩, zs.keep fun c _ o x => k2 c o x⟩, fr, q⟩
end Pf
set_option maxHeartbeats 1000000
/-! Pf: dict(x), list(dict(x)). -/
namespace Pf
open PySem PySem.Spec PyProof.Rows L2
section
variable {X : Cx} {ga : Str → Addr} {rho : List Addr} {H : Hp} {M : Mem}
theorem Op.newD {kvs : List (Key × D)} {xs : List (Key × V)} {Q : VK} (h : Op X.K ga rho H (Pf.newD kvs M) Q) (m : MR X.K ga rho H M) (r : KVR X.K ga rho H kvs xs) : ∀ p, H p = none → Q (.ref p) (upd H p (.dK xs)) := fun p hp =>
  h (rho ++ [p]) _ _ (Ext.alloc hp) (m.alloc hp ⟨xs, upd_same, r.ext (Ext.alloc hp)⟩) (by simp only [VR]; exact ⟨p, rfl, by rw [← m.len]; simp⟩)
theorem keyD_vr {d : D} {k : Key} {v : V} (e : keyD d = some k) (r : VR X.K ga rho H d v) : v = kV k := by
  unfold keyD at e
  split at e
  · cases e; exact r.intE
  · cases e; simp only [VR] at r; exact r
  · cases e
theorem pairs_vr : ∀ {ds : List D} {kvs : List (Key × D)} {xs : List V}, pairsK ds = some kvs → VRs X.K ga rho H ds xs → ∃ (ps : List Addr) (kv2 : List (Key × V)), xs = ps.map V.ref ∧ Paired (fun p kv => SqT X.K H p [kV kv.1, kv.2]) ps kv2 ∧ KVR X.K ga rho H kvs kv2
  | [], kvs, xs, e, r => by
    simp only [pairsK, Option.some.injEq] at e
    simp only [VRs] at r
    subst e; subst r
    exact ⟨[], [], rfl, .nil, rfl⟩
  | d :: ds, kvs, xs, e, r => by
    unfold pairsK at e
    split at e
    · rename_i z; cases z
    · rename_i k v r' z
      cases z
      split at e
      · rename_i k' hk
        simp only [Option.map_eq_some_iff] at e
        obtain ⟨kvs', e1, rfl⟩ := e
        simp only [VRs] at r
        obtain ⟨x, xs', rfl, r1, r2⟩ := r
        obtain ⟨ps, kv2, rfl, q1, q2⟩ := pairs_vr e1 r2
        obtain ⟨p, ys, rfl, hp, ry⟩ := r1.tupE
        simp only [VRs] at ry
        obtain ⟨a, _, rfl, ra, b, _, rfl, rb, rfl⟩ := ry
        cases keyD_vr hk ra
        exact ⟨p :: ps, (k', b) :: kv2, rfl, .cons hp q1, (k', b), kv2, rfl, rfl, rb, q2⟩
      · cases e
    · cases e
theorem KVR.merge : ∀ {more : List (Key × D)} {xs : List (Key × V)} {acc : List (Key × D)} {ys : List (Key × V)}, KVR X.K ga rho H more xs → KVR X.K ga rho H acc ys → KVR X.K ga rho H (mergeD acc more) (mergeK ys xs)
  | [], xs, acc, ys, r, q => by
    simp only [KVR] at r
    subst r
    exact q
  | kv :: more, xs, acc, ys, r, q => by
    simp only [KVR] at r
    obtain ⟨v, r', rfl, e, rv, r2⟩ := r
    have := KVR.merge r2 (KVR.put kv.1 rv q)
    rw [e] at this
    unfold mergeD mergeK at this ⊢
    rw [List.foldl_cons, List.foldl_cons, e]
    exact this
theorem nx_dict (x : D) : Nx (dDict x) := fun M c M' z => by
  unfold dDict at z
  split at z
  · split at z
    · split at z
      · cases z
      · cases z
    · cases z
    · cases z
  · split at z
    · split at z
      · cases z
      · cases z
    · cases z
  · cases z
theorem nx_dedup (x : D) : Nx (dDedup x) := fun M c M' z => by
  unfold dDedup at z
  split at z
  · split at z
    · split at z
      · exact nx_newl _ _ _ _ z
      · cases z
    · cases z
  · cases z
theorem cDict (hc : X.calm = true) : CallR X (.type "dict") (c1 X.K ga dDict) := by
  intro pins s sg H xs us Q I r h
  obtain ⟨x, rfl, rho, M, a, m, ra, h⟩ := h
  unfold dDict at h
  split at h
  · rename_i n
    split at h
    · rename_i ds e
      split at h
      · rename_i kvs e2
        obtain ⟨p, xv, rfl, hp, hx, rx⟩ := ra.lref m e
        obtain ⟨ps, kv2, rfl, q1, q2⟩ := pairs_vr e2 rx
        exact call_dictP hc pins s sg H _ us Q I r ⟨p, ps, kv2, rfl, SqL.of hx, q1, fun p' hp' => h.newD m (KVR.merge q2 (acc := []) (ys := []) rfl) p' hp'⟩
      · exact h.elim
    · rename_i kvs e
      obtain ⟨p, xv, h1, hx, rx⟩ := m.dct e
      simp only [VR] at ra
      obtain ⟨p', rfl, h2⟩ := ra
      rw [h1] at h2; cases h2
      exact call_dictD pins s sg H _ us Q I r ⟨p, xv, rfl, .inl hx, fun p' hp' => h.newD m rx p' hp'⟩
    · exact h.elim
  · split at h
    · rename_i hp
      split at h
      · rename_i kvs e2
        obtain ⟨p, xv, rfl, hx, rx, pl⟩ := ra.tupP hp
        obtain ⟨ps, kv2, rfl, q1, q2⟩ := pairs_vr e2 rx
        exact call_dictT hc pins s sg H _ us Q I r ⟨p, ps, kv2, rfl, hx, pl, q1, fun p' hp' => h.newD m (KVR.merge q2 (acc := []) (ys := []) rfl) p' hp'⟩
      · exact h.elim
    · exact h.elim
  · exact h.elim
/-! ### list(dict(x)) -/
abbrev RowP (X : Cx) (H : Hp) (p : Addr) (t : List Key × Addr × V) : Prop := SqT X.K H p [.ref t.2.1, t.2.2] ∧ SqT X.K H t.2.1 (t.1.map kV)
abbrev RowV (X : Cx) (ga : Str → Addr) (rho : List Addr) (H : Hp) (p : List Key × D) (k : List Key) (b : Addr) : Prop := p.1 = k ∧ VR X.K ga rho H p.2 (.ref b)
theorem keys_vr : ∀ {ds : List D} {ks : List Key} {xs : List V}, keysD ds = some ks → VRs X.K ga rho H ds xs → xs = ks.map kV
  | [], ks, xs, e, r => by
    simp only [keysD, Option.some.injEq] at e
    simp only [VRs] at r
    subst e; subst r; rfl
  | d :: ds, ks, xs, e, r => by
    unfold keysD at e
    split at e
    · rename_i k hk
      simp only [Option.map_eq_some_iff] at e
      obtain ⟨ks', e1, rfl⟩ := e
      simp only [VRs] at r
      obtain ⟨x, xs', rfl, r1, r2⟩ := r
      rw [keyD_vr hk r1, keys_vr e1 r2]; rfl
    · cases e
theorem rows_vr : ∀ {ds : List D} {prs : List (List Key × D)} {xs : List V}, pairsT ds = some prs → VRs X.K ga rho H ds xs → ∃ (ps : List Addr) (ts : List (List Key × Addr × V)), xs = ps.map V.ref ∧ Paired (RowP X H) ps ts ∧ Paired (fun p t => RowV X ga rho H p t.1 t.2.1) prs ts
  | [], prs, xs, e, r => by
    simp only [pairsT, Option.some.injEq] at e
    simp only [VRs] at r
    subst e; subst r
    exact ⟨[], [], rfl, .nil, .nil⟩
  | d :: ds, prs, xs, e, r => by
    unfold pairsT at e
    split at e
    · rename_i z; cases z
    · rename_i ks v r' z
      cases z
      split at e
      · rename_i k' hk
        simp only [Option.map_eq_some_iff] at e
        obtain ⟨prs', e1, rfl⟩ := e
        simp only [VRs] at r
        obtain ⟨x, xs', rfl, r1, r2⟩ := r
        obtain ⟨ps, ts, rfl, q1, q2⟩ := rows_vr e1 r2
        obtain ⟨p, ys, rfl, hp, ry⟩ := r1.tupE
        simp only [VRs] at ry
        obtain ⟨a, _, rfl, ra, b, _, rfl, rb, rfl⟩ := ry
        have ra' := ra
        obtain ⟨q, zs, rfl, hq, rz⟩ := ra.tupE
        have ez := keys_vr hk rz
        subst ez
        exact ⟨p :: ps, (k', q, b) :: ts, rfl, .cons ⟨hp, hq⟩ q1, .cons ⟨rfl, ra'⟩ q2⟩
      · cases e
    · cases e
/-- the rows as they stand -/
theorem raw_of {pins : List (Addr × Obj)} {sg : L2.St} {s : Shared} (I : Inv X pins sg H s) : ∀ {ps : List Addr} {ts : List (List Key × Addr × V)}, Paired (RowP X H) ps ts →
    ∃ rw : List (List Key × Addr × Value), Paired (fun (t : List Key × Addr × V) (q : List Key × Addr × Value) => t.1 = q.1 ∧ t.2.1 = q.2.1) ts rw ∧ rw.length = ps.length ∧
      ∀ (j : Nat) (q : List Key × Addr × Value), rw[j]? = some q → ∃ p, ps[j]? = some p ∧ IsTup s.heap p #[.ref q.2.1, q.2.2] ∧ (tupleKind (mixKind X.prog X.w)).is s.heap q.1 q.2.1
  | _, _, .nil => ⟨[], .nil, rfl, fun j q e => by simp at e⟩
  | _, _, .cons (a := p) (b := t) h tl => by
    obtain ⟨rw, r1, r2, r3⟩ := raw_of I tl
    obtain ⟨its, rv, ht, _⟩ := I.tuple h.1
    obtain ⟨u, y, ei, ru, ry⟩ := vals2 rv
    subst ei
    cases ru
    obtain ⟨its2, rv2, ⟨o, h1, h2, n, h3⟩, _⟩ := I.tuple h.2
    refine ⟨(t.1, t.2.1, y) :: rw, .cons ⟨rfl, rfl⟩ r1, by rw [List.length_cons, List.length_cons, r2], fun j q e => ?_⟩
    cases j with
    | zero =>
      have e' : (t.1, t.2.1, y) = q := Option.some.inj e
      subst e'
      exact ⟨p, rfl, ht, o, its2.toArray, n, h1, h2, h3, by simpa using items_are rv2⟩
    | succ j =>
      obtain ⟨p', e1, e2, e3⟩ := r3 j q (by simpa using e)
      exact ⟨p', by simpa using e1, e2, e3⟩
theorem Paired.at {α β : Type} {F : α → β → Prop} : ∀ {l : List α} {l' : List β}, Paired F l l' → ∀ {x : β}, x ∈ l' → ∃ y ∈ l, F y x
  | _, _, .nil, x, h => nomatch h
  | _, _, .cons h t, x, hx => by
    rcases List.mem_cons.mp hx with rfl | hx
    · exact ⟨_, List.mem_cons_self .., h⟩
    · obtain ⟨y, hy, f⟩ := Paired.at t hx
      exact ⟨y, List.mem_cons_of_mem _ hy, f⟩
theorem first_any {p : List Key} : ∀ {acc : List (List Key × D)} {xs : List (List Key × Addr × Value)}, Paired (fun d (v : List Key × Addr × Value) => RowV X ga rho H d v.1 v.2.1) acc xs → (acc.any fun q => decide (q.1 = p)) = (atKey xs p).isSome
  | _, _, .nil => rfl
  | _, _, .cons (a := d) (b := v) h t => by
    have ih := first_any (p := p) t
    unfold atKey at ih ⊢
    rw [List.any_cons, List.find?_cons, ih, h.1]
    cases decide (v.1 = p) <;> rfl
theorem first_put {k : List Key} {y : Value} : ∀ {acc : List (List Key × D)} {xs : List (List Key × Addr × Value)}, Paired (fun d (v : List Key × Addr × Value) => RowV X ga rho H d v.1 v.2.1) acc xs → Paired (fun d (v : List Key × Addr × Value) => RowV X ga rho H d v.1 v.2.1) acc (xs.map (putAt k y))
  | _, _, .nil => .nil
  | _, _, .cons (a := d) (b := v) h t => by
    refine .cons ?_ (first_put t)
    unfold putAt
    split
    · exact h
    · exact h
theorem first_all : ∀ {prs : List (List Key × D)} {rw : List (List Key × Addr × Value)} {acc : List (List Key × D)} {xs : List (List Key × Addr × Value)}, Paired (fun d (v : List Key × Addr × Value) => RowV X ga rho H d v.1 v.2.1) prs rw →
    Paired (fun d (v : List Key × Addr × Value) => RowV X ga rho H d v.1 v.2.1) acc xs → Paired (fun d (v : List Key × Addr × Value) => RowV X ga rho H d v.1 v.2.1) (prs.foldl firstK acc) (rw.foldl (fun acc p => storedH acc p.1 p.2.1 p.2.2) xs)
  | _, _, acc, xs, .nil, q => q
  | _, _, acc, xs, .cons (a := d) (b := v) h t, q => by
    rw [List.foldl_cons, List.foldl_cons]
    refine first_all t ?_
    unfold firstK storedH
    rw [first_any q, h.1]
    split
    · exact first_put q
    · exact Paired.snoc q h
theorem paired_comp {α β γ : Type} {F : α → β → Prop} {G : β → γ → Prop} {R : α → γ → Prop} (h : ∀ a b c, F a b → G b c → R a c) : ∀ {l : List α} {m : List β} {n : List γ}, Paired F l m → Paired G m n → Paired R l n
  | _, _, _, .nil, .nil => .nil
  | _, _, _, .cons f t, .cons g u => .cons (h _ _ _ f g) (paired_comp h t u)
theorem first_vrs : ∀ {acc : List (List Key × D)} {xs : List (List Key × Addr × Value)}, Paired (fun d (v : List Key × Addr × Value) => RowV X ga rho H d v.1 v.2.1) acc xs → VRs X.K ga rho H (acc.map (·.2)) ((xs.map fun x => x.2.1).map V.ref)
  | _, _, .nil => by simp [VRs]
  | _, _, .cons (a := d) (b := v) h t => by
    simp only [List.map_cons, VRs]
    exact ⟨_, _, rfl, h.2, first_vrs t⟩
/-- dict(l), the keys tuples: what the dict holds -/
theorem call_rows {pins : List (Addr × Obj)} {sg : L2.St} {s : Shared} {A : Around} {E : Value → Shared → Prop} {Q : Value → Shared → Prop} (I : Inv X pins sg H s) (hh : A.handled = none) (hu : A.units + 3 < cLine) {a : Addr} {ps : List Addr} {ts : List (List Key × Addr × V)} (hl : SqL X.K H a (ps.map V.ref)) (hp : Paired (RowP X H) ps ts)
    (h : ∀ h' tk rw, Paired (fun (t : List Key × Addr × V) (q : List Key × Addr × Value) => t.1 = q.1 ∧ t.2.1 = q.2.1) ts rw → h'.DictOfH (tupleKind (mixKind X.prog X.w)) s.heap.objs.size (storedAllH [] rw) → rw.length ≤ sizeLine →
      (∀ b o, s.heap.get? b = some o → h'.get? b = some o) → Q (.ref s.heap.objs.size) { s with heap := h', toks := tk }) :
    wpAny (model X.prog X.w) A (call (.type "dict") [.ref a]) Q E s := by
  obtain ⟨its, rv, pl, hz⟩ := I.list hl
  have ei := refs_at rv
  subst ei
  rw [List.length_map] at hz
  obtain ⟨rw, r1, r2, r3⟩ := raw_of I hp
  obtain ⟨o, n, ho, hc, hd, hdat⟩ := pl
  have pi : PairItems s.heap (ps.map Value.ref).toArray (fun j => ps.getD j 0) (rw.map fun q => (Value.ref q.2.1, q.2.2)) := by
    refine ⟨by simp [r2], fun j k v e => ?_⟩
    rw [List.getElem?_map, Option.map_eq_some_iff] at e
    obtain ⟨q, e1, e2⟩ := e
    obtain ⟨p, h1, h2, h3⟩ := r3 j q e1
    injection e2 with e3 e4
    subst e3; subst e4
    have e5 : ps.getD j 0 = p := by simp [List.getD, h1]
    exact ⟨by simp [h1], .inl (by show s.heap.IsTuple (ps.getD j 0) _; rw [e5]; exact h2)⟩
  refine PySem.call_dict_pairsH (knd := tupleKind (mixKind X.prog X.w)) (ps := rw) (PairArg.list a (ps.map Value.ref).toArray (fun j => ps.getD j 0) (rw.map fun q => (Value.ref q.2.1, q.2.2))) hh (show A.in1.in1.units < cLine by show A.units + 1 + 1 < cLine; omega) ⟨⟨o, n, ho, hc, hd, hdat⟩, pi⟩
    ⟨by simp, fun i k v e => ?_⟩ (fun h' hk x hx => ?_) (by rw [List.length_map, r2]; exact hz) fun h' tk hd' hk => ?_
  · have e : (rw.map fun q => (Value.ref q.2.1, q.2.2))[i]? = some (k, v) := e
    rw [List.getElem?_map, Option.map_eq_some_iff] at e
    obtain ⟨q, e1, e2⟩ := e
    injection e2 with e3 e4
    subst e3; subst e4
    exact ⟨q.1, q.2.1, e1, rfl⟩
  · obtain ⟨j, hj, e⟩ := List.getElem_of_mem hx
    obtain ⟨p, _, _, ⟨o, its, m, g1, g2, g3, g4⟩⟩ := r3 j x (by rw [List.getElem?_eq_getElem hj, e])
    exact ⟨o, its, m, hk _ _ (Nat.ne_of_lt (Heap.lt_size g1)) (by simp) g1, g2, g3, g4⟩
  · exact h h' tk rw r1 hd' (by omega) fun b o e => hk b o (by simp) e
end
end Pf
set_option maxHeartbeats 4000000
/-! Pf: what is walked, targets, comprehensions. -/
namespace Pf
open PySem PySem.Spec PyProof.Rows L2

/-- enumerate(a tuple) -/
def IteT (K : PySem.W.Frag) (a : Addr) : It :=
  ⟨fun i H => ∃ (xs : List V) (x : V), SqT K H a xs ∧ xs[i]? = some x, fun i H v H' => ∃ T x, v = .ref T ∧ H T = none ∧ H' = upd H T (.tup [.int (i : Nat), x]) ∧ ∀ xs, SqT K H a xs → xs[i]? = some x,
   fun i H => ∃ xs : List V, SqT K H a xs ∧ xs.length = i⟩
def RSrc (K : PySem.W.Frag) (ga : Str → Addr) (rho : List Addr) (H : Hp) : Src → It → Prop
  | .lst n, J => ∃ a, rho[n]? = some a ∧ J = Itl K a
  | .tup ds, J => ∃ a xs, SqT K H a xs ∧ VRs K ga rho H ds xs ∧ J = Itt K a
  | .frz ds, J => ∃ a xs, (stL K a xs ∨ ∃ o, H a = some (.frz o (.lst xs))) ∧ VRs K ga rho H ds xs ∧ J = Itl K a
  | .rng lo c n, J => J = Itc lo c n
  | .enl n, J => ∃ a, rho[n]? = some a ∧ J = Ite K a
  | .ent ds, J => ∃ a xs, SqT K H a xs ∧ VRs K ga rho H ds xs ∧ J = IteT K a
  | .zpl n m, J => ∃ a b, rho[n]? = some a ∧ rho[m]? = some b ∧ J = ItzP K a b
  | .zpt ds es, J => ∃ a b xs ys, SqT K H a xs ∧ SqT K H b ys ∧ VRs K ga rho H ds xs ∧ VRs K ga rho H es ys ∧ J = RZ.ItzT K a b
  | .dck n, J => ∃ a o xs, rho[n]? = some a ∧ H a = some (.frz o (.dK xs)) ∧ J = Itk a o xs
  | .txt z, J => J = Its z
  | .enz n m, J => ∃ a b, rho[n]? = some a ∧ rho[m]? = some b ∧ J = ItE K a b
  | .zpm n es, J => ∃ a b ys, rho[n]? = some a ∧ SqT K H b ys ∧ VRs K ga rho H es ys ∧ J = ItzM K a b
section
variable {K : PySem.W.Frag} {ga : Str → Addr} {rho rho' : List Addr} {H H' : Hp} {M : Mem} {s : Src} {J : It}
theorem stS {H : Hp} {a : Addr} {xs : List V} (h : stL K a xs ∨ ∃ o, H a = some (.frz o (.lst xs))) : SqL K H a xs := h.elim .inr fun ⟨o, z⟩ => .inl (.inr ⟨o, z⟩)
theorem RSrc.ext (x : Ext rho H rho' H') (r : RSrc K ga rho H s J) : RSrc K ga rho' H' s J := by
  cases s with
  | lst n => obtain ⟨a, h, e⟩ := r; exact ⟨a, x.get h, e⟩
  | tup ds => obtain ⟨a, xs, h, h2, e⟩ := r; exact ⟨a, xs, SqT_mono x.mo h, h2.ext x, e⟩
  | frz ds => obtain ⟨a, xs, h, h2, e⟩ := r; exact ⟨a, xs, h.imp (fun z => z) (fun ⟨o, z⟩ => ⟨o, x.im _ _ z rfl⟩), h2.ext x, e⟩
  | rng lo c n => exact r
  | enl n => obtain ⟨a, h, e⟩ := r; exact ⟨a, x.get h, e⟩
  | ent ds => obtain ⟨a, xs, h, h2, e⟩ := r; exact ⟨a, xs, SqT_mono x.mo h, h2.ext x, e⟩
  | zpl n m => obtain ⟨a, b, h, h2, e⟩ := r; exact ⟨a, b, x.get h, x.get h2, e⟩
  | zpt ds es => obtain ⟨a, b, xs, ys, h, h2, h3, h4, e⟩ := r; exact ⟨a, b, xs, ys, SqT_mono x.mo h, SqT_mono x.mo h2, h3.ext x, h4.ext x, e⟩
  | dck n => obtain ⟨a, o, xs, h, h2, e⟩ := r; exact ⟨a, o, xs, x.get h, x.fz _ _ _ h2, e⟩
  | txt z => exact r
  | enz n m => obtain ⟨a, b, h, h2, e⟩ := r; exact ⟨a, b, x.get h, x.get h2, e⟩
  | zpm n es => obtain ⟨a, b, ys, h, h2, h3, e⟩ := r; exact ⟨a, b, ys, x.get h, SqT_mono x.mo h2, h3.ext x, e⟩
theorem MR.fref (m : MR K ga rho H M) {n : Nat} {ds : List (Key × D)} (e : M[n]? = some (.fdc ds)) {a : Addr} {o : Obj} {xs : List (Key × V)} (h : rho[n]? = some a) (hx : H a = some (.frz o (.dK xs))) : KVR K ga rho H ds xs := by
  obtain ⟨a', o', xs', h1, h2, h3⟩ := m.fdc e
  rw [h] at h1; cases h1
  rw [hx] at h2; cases h2
  exact h3
theorem KVR.at : ∀ {ds : List (Key × D)} {xs : List (Key × V)} {i : Nat} {kd : Key × D}, KVR K ga rho H ds xs → ds[i]? = some kd → ∃ v, xs[i]? = some (kd.1, v)
  | [], xs, i, kd, r, e => by simp at e
  | d :: ds, xs, 0, kd, r, e => by
    simp only [KVR] at r
    obtain ⟨v, r', rfl, e1, _, _⟩ := r
    simp at e
    subst e
    exact ⟨v.2, by simp [e1]⟩
  | d :: ds, xs, i + 1, kd, r, e => by
    simp only [KVR] at r
    obtain ⟨v, r', rfl, _, _, r2⟩ := r
    obtain ⟨w, hw⟩ := KVR.at r2 (i := i) (by simpa using e)
    exact ⟨w, by simpa using hw⟩
theorem MR.lref (m : MR K ga rho H M) {n : Nat} {ds : List D} (e : M[n]? = some (.lst ds)) {a : Addr} (h : rho[n]? = some a) : ∃ xs, H a = some (.lst xs) ∧ VRs K ga rho H ds xs := by
  obtain ⟨a', xs, h1, h2, h3⟩ := m.lst e
  rw [h] at h1; cases h1
  exact ⟨xs, h2, h3⟩
theorem pair_vr {p : Addr} {a b : D} {x y : V} (hp : H p = none) (hq : prsD [a, b] = false) (ra : VR K ga rho H a x) (rb : VR K ga rho H b y) : VR K ga rho (upd H p (.tup [x, y])) (.tup [a, b]) (.ref p) := by
  simp only [VR, VRs]
  exact ⟨p, [x, y], rfl, SqT.of upd_same, ⟨x, [y], rfl, ra.ext (Ext.laid hp), y, [], rfl, rb.ext (Ext.laid hp), rfl⟩, fun z => by rw [hq] at z; cases z⟩
theorem pair_vrP {p : Addr} {o : Obj} {a b : D} {x y : V} (hp : H p = none) (ho : o.dict = none) (ra : VR K ga rho H a x) (rb : VR K ga rho H b y) : VR K ga rho (upd H p (.frz o (.tup [x, y]))) (.tup [a, b]) (.ref p) := by
  simp only [VR, VRs]
  exact ⟨p, [x, y], rfl, .inl (.inr ⟨o, upd_same⟩), ⟨x, [y], rfl, ra.ext (Ext.laid hp), y, [], rfl, rb.ext (Ext.laid hp), rfl⟩, fun _ => ⟨o, _, upd_same, ho⟩⟩
theorem src_go (m : MR K ga rho H M) (r : RSrc K ga rho H s J) {i : Nat} {d : D} (e : s.at_ M i = some d) :
    J.go i H ∧ ∀ x H', J.yld i H x H' → Ext rho H rho H' ∧ MR K ga rho H' M ∧ VR K ga rho H' d x := by
  cases s with
  | lst n =>
    obtain ⟨a, h, rfl⟩ := r
    simp only [Src.at_] at e
    split at e
    · rename_i ds e1
      obtain ⟨xs, h2, h3⟩ := m.lref e1 h
      obtain ⟨x, e2, rx⟩ := h3.get e
      refine ⟨⟨xs, x, SqL.of h2, e2⟩, fun y H' ⟨eH, q⟩ => ?_⟩
      subst eH
      have := q xs (SqL.of h2)
      rw [e2] at this; cases this
      exact ⟨.refl, m, rx⟩
    · cases e
  | tup ds =>
    obtain ⟨a, xs, h, h2, rfl⟩ := r
    obtain ⟨x, e2, rx⟩ := h2.get e
    refine ⟨⟨xs, x, h, e2⟩, fun y H' ⟨eH, q⟩ => ?_⟩
    subst eH
    have := q xs h
    rw [e2] at this; cases this
    exact ⟨.refl, m, rx⟩
  | frz ds =>
    obtain ⟨a, xs, h, h2, rfl⟩ := r
    obtain ⟨x, e2, rx⟩ := h2.get e
    refine ⟨⟨xs, x, stS h, e2⟩, fun y H' ⟨eH, q⟩ => ?_⟩
    subst eH
    have := q xs (stS h)
    rw [e2] at this; cases this
    exact ⟨.refl, m, rx⟩
  | rng lo c n =>
    simp only [Src.at_] at e
    split at e
    · rename_i hi
      cases e
      have r' : J = Itc lo c n := r
      subst r'
      refine ⟨hi, fun y H' ⟨eH, q⟩ => ?_⟩
      subst eH; subst q
      exact ⟨.refl, m, by simp only [VR]⟩
    · cases e
  | txt z =>
    simp only [Src.at_, Option.map_eq_some_iff] at e
    obtain ⟨c, hc, rfl⟩ := e
    have r' : J = Its z := r
    subst r'
    refine ⟨(Array.getElem?_eq_some_iff.mp hc).1, fun y H' ⟨eH, c', hc', q⟩ => ?_⟩
    subst eH; subst q
    rw [hc] at hc'; cases hc'
    exact ⟨.refl, m, by simp only [VR]⟩
  | enl n =>
    obtain ⟨a, h, rfl⟩ := r
    simp only [Src.at_] at e
    split at e
    · rename_i ds e1
      simp only [Option.map_eq_some_iff] at e
      obtain ⟨d', e, rfl⟩ := e
      obtain ⟨xs, h2, h3⟩ := m.lref e1 h
      obtain ⟨x, e2, rx⟩ := h3.get e
      refine ⟨⟨xs, x, SqL.of h2, e2⟩, fun y H' ⟨T, z, ey, hT, eH, q⟩ => ?_⟩
      subst eH; subst ey
      have := q xs (SqL.of h2)
      rw [e2] at this; cases this
      exact ⟨.laid hT, m.laid hT, pair_vr hT (by simp [prsD, isIP]) (by simp only [VR]) rx⟩
    · cases e
  | ent ds =>
    obtain ⟨a, xs, h2, h3, rfl⟩ := r
    simp only [Src.at_, Option.map_eq_some_iff] at e
    obtain ⟨d', e, rfl⟩ := e
    obtain ⟨x, e2, rx⟩ := h3.get e
    refine ⟨⟨xs, x, h2, e2⟩, fun y H' ⟨T, z, ey, hT, eH, q⟩ => ?_⟩
    subst eH; subst ey
    have := q xs h2
    rw [e2] at this; cases this
    exact ⟨.laid hT, m.laid hT, pair_vr hT (by simp [prsD, isIP]) (by simp only [VR]) rx⟩
  | zpl n k =>
    obtain ⟨a, b, h, hb, rfl⟩ := r
    simp only [Src.at_] at e
    split at e
    · rename_i ds es e1 e1'
      split at e
      · rename_i d1 d2 e3 e3'
        cases e
        obtain ⟨xs, h2, h3⟩ := m.lref e1 h
        obtain ⟨ys, h2', h3'⟩ := m.lref e1' hb
        obtain ⟨x, e2, rx⟩ := h3.get e3
        obtain ⟨y, e2', ry⟩ := h3'.get e3'
        refine ⟨⟨xs, ys, x, y, SqL.of h2, SqL.of h2', e2, e2'⟩, fun v H' ⟨T, z, w, o, ey, hT, ho, eH, q, q'⟩ => ?_⟩
        subst eH; subst ey
        have := q xs (SqL.of h2)
        rw [e2] at this; cases this
        have := q' ys (SqL.of h2')
        rw [e2'] at this; cases this
        exact ⟨.laid hT, m.laid hT, pair_vrP hT ho rx ry⟩
      · cases e
    · cases e
  | enz n k =>
    obtain ⟨a, b, h, hb, rfl⟩ := r
    simp only [Src.at_] at e
    split at e
    · rename_i ds es e1 e1'
      split at e
      · rename_i d1 d2 e3 e3'
        by_cases hq : prsD [d1, d2] = true
        · rw [if_pos hq] at e; cases e
        rw [if_neg hq] at e
        cases e
        obtain ⟨xs, h2, h3⟩ := m.lref e1 h
        obtain ⟨ys, h2', h3'⟩ := m.lref e1' hb
        obtain ⟨x, e2, rx⟩ := h3.get e3
        obtain ⟨y, e2', ry⟩ := h3'.get e3'
        refine ⟨⟨xs, ys, x, y, SqL.of h2, SqL.of h2', e2, e2'⟩, fun v H' ⟨T, T2, z, w, ey, hT, hT2, hne, eH, q, q'⟩ => ?_⟩
        subst eH; subst ey
        have := q xs (SqL.of h2)
        rw [e2] at this; cases this
        have := q' ys (SqL.of h2')
        rw [e2'] at this; cases this
        have hT3 : upd H T (.tup [x, y]) T2 = none := by rw [upd_ne hne]; exact hT2
        exact ⟨(Ext.laid hT).trans (.laid hT3), (m.laid hT).laid hT3, pair_vr hT3 (by simp [prsD, isIP]) (by simp only [VR]) (pair_vr hT (Bool.eq_false_iff.mpr hq) rx ry)⟩
      · cases e
    · cases e
  | zpt ds es =>
    obtain ⟨a, b, xs, ys, h2, h2', h3, h3', rfl⟩ := r
    simp only [Src.at_] at e
    split at e
    · rename_i d1 d2 e3 e3'
      by_cases hq : prsD [d1, d2] = true
      · rw [if_pos hq] at e; cases e
      rw [if_neg hq] at e
      cases e
      obtain ⟨x, e2, rx⟩ := h3.get e3
      obtain ⟨y, e2', ry⟩ := h3'.get e3'
      refine ⟨⟨xs, ys, x, y, h2, h2', e2, e2'⟩, fun v H' ⟨T, z, w, ey, hT, eH, q, q'⟩ => ?_⟩
      subst eH; subst ey
      have := q xs h2
      rw [e2] at this; cases this
      have := q' ys h2'
      rw [e2'] at this; cases this
      exact ⟨.laid hT, m.laid hT, pair_vr hT (Bool.eq_false_iff.mpr hq) rx ry⟩
    · cases e
  | dck n =>
    obtain ⟨a, o, xs, h, hx, rfl⟩ := r
    simp only [Src.at_] at e
    split at e
    · rename_i kvs e1
      have kv := m.fref e1 h hx
      simp only [Option.map_eq_some_iff] at e
      obtain ⟨kd, e2, rfl⟩ := e
      obtain ⟨w, e3⟩ := kv.at e2
      refine ⟨⟨hx, (List.getElem?_eq_some_iff.mp e3).1⟩, fun y H' ⟨eH, k, v, q1, q2⟩ => ?_⟩
      subst eH; subst q2
      rw [e3] at q1; cases q1
      refine ⟨.refl, m, ?_⟩
      cases kd.1 with
      | inl i => simp only [kD, kV, VR]
      | inr x => simp only [kD, kV, VR]
    · cases e
  | zpm n es =>
    obtain ⟨a, b, ys, h, h2', h3', rfl⟩ := r
    simp only [Src.at_] at e
    split at e
    · rename_i ds e1
      split at e
      · rename_i d1 d2 e3 e3'
        by_cases hq : prsD [d1, d2] = true
        · rw [if_pos hq] at e; cases e
        rw [if_neg hq] at e
        cases e
        obtain ⟨xs, h2, h3⟩ := m.lref e1 h
        obtain ⟨x, e2, rx⟩ := h3.get e3
        obtain ⟨y, e2', ry⟩ := h3'.get e3'
        refine ⟨⟨xs, ys, x, y, SqL.of h2, h2', e2, e2'⟩, fun v H' ⟨T, z, w, ey, hT, eH, q, q'⟩ => ?_⟩
        subst eH; subst ey
        have := q xs (SqL.of h2)
        rw [e2] at this; cases this
        have := q' ys h2'
        rw [e2'] at this; cases this
        exact ⟨.laid hT, m.laid hT, pair_vr hT (Bool.eq_false_iff.mpr hq) rx ry⟩
      · cases e
    · cases e
theorem src_stop (m : MR K ga rho H M) (r : RSrc K ga rho H s J) {i : Nat} (e : s.len M = some i) : J.stop i H := by
  cases s with
  | lst n =>
    obtain ⟨a, h, rfl⟩ := r
    simp only [Src.len] at e
    split at e
    · rename_i ds e1
      cases e
      obtain ⟨xs, h2, h3⟩ := m.lref e1 h
      exact ⟨xs, SqL.of h2, Nat.le_of_eq h3.length⟩
    · cases e
  | tup ds =>
    obtain ⟨a, xs, h, h2, rfl⟩ := r
    simp only [Src.len, Option.some.injEq] at e; subst e
    exact ⟨xs, h, Nat.le_of_eq h2.length⟩
  | frz ds =>
    obtain ⟨a, xs, h, h2, rfl⟩ := r
    simp only [Src.len, Option.some.injEq] at e; subst e
    exact ⟨xs, stS h, Nat.le_of_eq h2.length⟩
  | rng lo c n =>
    simp only [Src.len, Option.some.injEq] at e; subst e
    have r' : J = Itc lo c _ := r
    subst r'
    exact Nat.le_refl _
  | txt z =>
    simp only [Src.len, Option.some.injEq] at e; subst e
    have r' : J = Its z := r
    subst r'
    exact Nat.le_refl _
  | enl n =>
    obtain ⟨a, h, rfl⟩ := r
    simp only [Src.len] at e
    split at e
    · rename_i ds e1
      cases e
      obtain ⟨xs, h2, h3⟩ := m.lref e1 h
      exact ⟨xs, SqL.of h2, Nat.le_of_eq h3.length⟩
    · cases e
  | ent ds =>
    obtain ⟨a, xs, h, h2, rfl⟩ := r
    simp only [Src.len, Option.some.injEq] at e; subst e
    exact ⟨xs, h, h2.length⟩
  | zpl n k =>
    obtain ⟨a, b, h, hb, rfl⟩ := r
    simp only [Src.len] at e
    split at e
    · rename_i ds es e1 e1'
      cases e
      obtain ⟨xs, h2, h3⟩ := m.lref e1 h
      obtain ⟨ys, h2', h3'⟩ := m.lref e1' hb
      refine ⟨xs, ys, SqL.of h2, SqL.of h2', ?_⟩
      have := h3.length
      have := h3'.length
      omega
    · cases e
  | enz n k =>
    obtain ⟨a, b, h, hb, rfl⟩ := r
    simp only [Src.len] at e
    split at e
    · rename_i ds es e1 e1'
      cases e
      obtain ⟨xs, h2, h3⟩ := m.lref e1 h
      obtain ⟨ys, h2', h3'⟩ := m.lref e1' hb
      refine ⟨xs, ys, SqL.of h2, SqL.of h2', ?_⟩
      have := h3.length
      have := h3'.length
      omega
    · cases e
  | zpt ds es =>
    obtain ⟨a, b, xs, ys, h2, h2', h3, h3', rfl⟩ := r
    simp only [Src.len, Option.some.injEq] at e; subst e
    refine ⟨xs, ys, h2, h2', ?_⟩
    have := h3.length
    have := h3'.length
    omega
  | dck n =>
    obtain ⟨a, o, xs, h, hx, rfl⟩ := r
    simp only [Src.len] at e
    split at e
    · rename_i kvs e1
      cases e
      exact ⟨hx, Nat.le_of_eq (m.fref e1 h hx).len⟩
    · cases e
  | zpm n es =>
    obtain ⟨a, b, ys, h, h2', h3', rfl⟩ := r
    simp only [Src.len] at e
    split at e
    · rename_i ds e1
      cases e
      obtain ⟨xs, h2, h3⟩ := m.lref e1 h
      refine ⟨xs, ys, SqL.of h2, h2', ?_⟩
      have := h3.length
      have := h3'.length
      omega
    · cases e
end

/-! ### targets -/
def tgIa (S : SI) : Expr → List Nat
  | .Name x _ => (S.ix x).toList
  | _ => []
def tgIx (S : SI) : Expr → List Nat
  | .Tuple ts _ _ => ts.flatMap (tgIa S)
  | t => tgIa S t
def tgIxs (S : SI) : Expr → List Nat
  | .Tuple ts _ _ => ts.flatMap (tgIx S)
  | t => tgIa S t
def gT (K : PySem.W.Frag) (ga : Str → Addr) (S : SI) (tg : Expr) : TG := fun v sg H Q => ∃ rho M d e e', MR K ga rho H M ∧ VR K ga rho H d v ∧ NR K ga rho H e sg ∧ tgO S tg d e = some e' ∧
  ∀ sg', NR K ga rho H e' sg' → (∀ j, j ∉ tgIxs S tg → sg'[j]? = sg[j]?) → Q sg' H
def gA1 (K : PySem.W.Frag) (ga : Str → Addr) (S : SI) (tg : Expr) : TG := fun v sg H Q => ∃ rho M d e e', MR K ga rho H M ∧ VR K ga rho H d v ∧ NR K ga rho H e sg ∧ tgA S tg d e = some e' ∧
  ∀ sg', NR K ga rho H e' sg' → (∀ j, j ∉ tgIa S tg → sg'[j]? = sg[j]?) → Q sg' H
def gAs (K : PySem.W.Frag) (ga : Str → Addr) (S : SI) (ts : List Expr) : TGs := fun vs sg H Q => ∃ rho M ds e e', MR K ga rho H M ∧ VRs K ga rho H ds vs ∧ NR K ga rho H e sg ∧ tgAs S ts ds e = some e' ∧
  ∀ sg', NR K ga rho H e' sg' → (∀ j, j ∉ ts.flatMap (tgIa S) → sg'[j]? = sg[j]?) → Q sg' H
def gT1 (K : PySem.W.Frag) (ga : Str → Addr) (S : SI) (tg : Expr) : TG := fun v sg H Q => ∃ rho M d e e', MR K ga rho H M ∧ VR K ga rho H d v ∧ NR K ga rho H e sg ∧ tgN S tg d e = some e' ∧
  ∀ sg', NR K ga rho H e' sg' → (∀ j, j ∉ tgIx S tg → sg'[j]? = sg[j]?) → Q sg' H
def gTs (K : PySem.W.Frag) (ga : Str → Addr) (S : SI) (ts : List Expr) : TGs := fun vs sg H Q => ∃ rho M ds e e', MR K ga rho H M ∧ VRs K ga rho H ds vs ∧ NR K ga rho H e sg ∧ tgNs S ts ds e = some e' ∧
  ∀ sg', NR K ga rho H e' sg' → (∀ j, j ∉ ts.flatMap (tgIx S) → sg'[j]? = sg[j]?) → Q sg' H
theorem ix_get {S : SI} {x : Str} {i : Nat} (h : S.ix x = some i) : S.N[i]? = some x := by
  unfold SI.ix at h
  rw [List.findIdx?_eq_some_iff_getElem] at h
  obtain ⟨h1, h2, _⟩ := h
  rw [List.getElem?_eq_getElem h1, eq_of_beq h2]
section
variable {X : Cx} {S : SI} {Phi : Tab} {ga : Str → Addr} {W : WX}
theorem loc_of (ok : OKX S Phi ga W X) {x : Str} (h : S.loc x = true) : L2.Loc X.env.scope x ∧ (X.fn x = true ∨ X.env.scope.names.lookup x = some .local) := by
  unfold SI.loc at h
  unfold L2.Loc
  rw [ok.sc]
  split at h
  · rename_i q; exact ⟨.inl q, .inr q⟩
  · rename_i q; exact ⟨.inr q, .inl (ok.fnc _ h)⟩
  · cases h
theorem pgA1 (ok : OKX S Phi ga W X) (tg : Expr) : PG X tg (gA1 X.K ga S tg) := by
  cases tg with
  | Name x p =>
    refine ⟨fun pins s sg H v u Q I r h => ?_⟩
    obtain ⟨rho, M, d, e, e', m, rv, n, et, k⟩ := h
    simp only [tgA] at et
    split at et
    · rename_i hl
      simp only [Option.map_eq_some_iff] at et
      obtain ⟨i, hi, rfl⟩ := et
      obtain ⟨h1, h2⟩ := loc_of ok hl
      refine (pg_name (i := i) (by rw [ok.N]; exact ok.nd) (by rw [ok.N]; exact ix_get hi) h1 h2).run pins s sg H v u Q I r ?_
      refine k _ (n.set rv i) fun j hj => ?_
      simp only [tgIa, hi, Option.toList_some, List.mem_singleton] at hj
      rw [List.getElem?_set_ne (Ne.symm hj)]
    · cases et
  | _ => exact ⟨fun pins s sg H v u Q I r ⟨rho, M, d, e, e', m, rv, n, et, k⟩ => by simp only [tgA] at et; cases et⟩
theorem tgAs_names {S : SI} : ∀ {ts : List Expr} {ds : List D} {e e' : Env}, tgAs S ts ds e = some e' → ts.all (fun t => match t with | .Name .. => true | _ => false) = true ∧ ds.length = ts.length
  | [], [], _, _, _ => ⟨rfl, rfl⟩
  | [], _ :: _, _, _, h => by simp only [tgAs] at h; cases h
  | _ :: _, [], _, _, h => by simp only [tgAs] at h; cases h
  | t :: ts, d :: ds, e, e', h => by
    simp only [tgAs, Option.bind_eq_some_iff] at h
    obtain ⟨e1, h1, h2⟩ := h
    obtain ⟨q1, q2⟩ := tgAs_names h2
    refine ⟨?_, by simp [q2]⟩
    cases t <;> first | (simp only [tgA] at h1; cases h1; done) | skip
    rw [List.all_cons, q1]
    rfl
theorem pgsA (ok : OKX S Phi ga W X) : ∀ (ts : List Expr), ts.all (fun t => match t with | .Name .. => true | _ => false) = true → PGs X ts (gAs X.K ga S ts) ∧ (assignEach ts X.env).length = ts.length ∧ (assignEach ts X.env).findIdx? (·.1) = none
  | [], _ => ⟨⟨fun pins s sg H vs us Q I r h => by
      obtain ⟨rho, M, ds, e, e', m, rv, n, et, k⟩ := h
      cases ds with
      | nil =>
        simp only [tgAs, Option.some.injEq] at et; subst et
        simp only [VRs] at rv; subst rv
        exact pgs_nil.run pins s sg H [] us Q I r ⟨rfl, k sg n fun _ _ => rfl⟩
      | cons _ _ => simp only [tgAs] at et; cases et⟩, rfl, rfl⟩
  | t :: ts, h => by
    rw [List.all_cons, Bool.and_eq_true] at h
    obtain ⟨ih, hl, hf⟩ := pgsA ok ts h.2
    cases t <;> first | (cases h.1; done) | skip
    rename_i x p
    refine ⟨⟨fun pins s sg H vs us Q I r h => ?_⟩, ?_, ?_⟩
    · obtain ⟨rho, M, ds, e, e', m, rv, n, et, k⟩ := h
      cases ds with
      | nil => simp only [tgAs] at et; cases et
      | cons d ds =>
        simp only [tgAs, Option.bind_eq_some_iff] at et
        obtain ⟨e1, h1, h2⟩ := et
        simp only [VRs] at rv
        obtain ⟨v, vr, rfl, r1, r2⟩ := rv
        refine (pgs_cons (pgA1 ok (.Name x p)) ih rfl).run pins s sg H _ us Q I r ⟨v, vr, rfl, rho, M, d, e, e1, m, r1, n, h1, fun sg' n1 f1 => ?_⟩
        refine ⟨rho, M, ds, e1, e', m, r2, n1, h2, fun sg2 n2 f2 => k sg2 n2 fun j hj => ?_⟩
        simp only [List.flatMap_cons, List.mem_append, not_or] at hj
        rw [f2 j hj.2, f1 j hj.1]
    · show (assignEach ts X.env).length + 1 = ts.length + 1
      rw [hl]
    · show (List.findIdx? (·.1) ((false, assign (.Name x p) X.env) :: assignEach ts X.env)) = none
      rw [List.findIdx?_cons]
      simp [hf]
theorem pgN (ok : OKX S Phi ga W X) (tg : Expr) : PG X tg (gT1 X.K ga S tg) := by
  by_cases ht : isTupE tg = true
  · cases tg <;> first | (cases ht; done) | skip
    rename_i ts k p
    by_cases ha : ts.all (fun t => match t with | .Name .. => true | _ => false) = true
    · obtain ⟨h1, h2, h3⟩ := pgsA ok ts ha
      refine ⟨fun pins s sg H v u Q I r h => ?_⟩
      obtain ⟨rho, M, d, e, e', m, rv, n, et, kk⟩ := h
      cases d with
      | tup ds =>
        obtain ⟨a, xs, rfl, hx, rx⟩ := rv.tupE
        have et' : tgAs S ts ds e = some e' := et
        refine (pg_tup (n := ts.length) ok.calm h1 h2 h3).run pins s sg H _ u Q I r ⟨a, xs, rfl, hx, by rw [rx.length, (tgAs_names et').2], rho, M, ds, e, e', m, rx, n, et', fun sg' n' f => kk sg' n' f⟩
      | _ => simp only [tgN, tgA] at et; cases et
    · refine ⟨fun pins s sg H v u Q I r ⟨rho, M, d, e, e', m, rv, n, et, kk⟩ => ?_⟩
      cases d with
      | tup ds => exact absurd (tgAs_names (show tgAs S ts ds e = some e' from et)).1 ha
      | _ => simp only [tgN, tgA] at et; cases et
  · refine ⟨fun pins s sg H v u Q I r ⟨rho, M, d, e, e', m, rv, n, et, kk⟩ => (pgA1 ok tg).run pins s sg H v u Q I r ⟨rho, M, d, e, e', m, rv, n, ?_, fun sg' n' f => kk sg' n' ?_⟩⟩
    · cases tg <;> first | exact et | (exact absurd rfl ht)
    · cases tg <;> first | exact f | (exact absurd rfl ht)
theorem tgNs_names {S : SI} : ∀ {ts : List Expr} {ds : List D} {e e' : Env}, tgNs S ts ds e = some e' → ts.all (fun t => match t with | .Name .. => true | .Tuple .. => true | _ => false) = true ∧ ds.length = ts.length
  | [], [], _, _, _ => ⟨rfl, rfl⟩
  | [], _ :: _, _, _, h => by simp only [tgNs] at h; cases h
  | _ :: _, [], _, _, h => by simp only [tgNs] at h; cases h
  | t :: ts, d :: ds, e, e', h => by
    simp only [tgNs, Option.bind_eq_some_iff] at h
    obtain ⟨e1, h1, h2⟩ := h
    obtain ⟨q1, q2⟩ := tgNs_names h2
    refine ⟨?_, by simp [q2]⟩
    cases t <;> first | (simp only [tgN, tgA] at h1; cases h1; done) | skip
    all_goals
      rw [List.all_cons, q1]
      rfl
theorem pgs (ok : OKX S Phi ga W X) : ∀ (ts : List Expr), ts.all (fun t => match t with | .Name .. => true | .Tuple .. => true | _ => false) = true → PGs X ts (gTs X.K ga S ts) ∧ (assignEach ts X.env).length = ts.length ∧ (assignEach ts X.env).findIdx? (·.1) = none
  | [], _ => ⟨⟨fun pins s sg H vs us Q I r h => by
      obtain ⟨rho, M, ds, e, e', m, rv, n, et, k⟩ := h
      cases ds with
      | nil =>
        simp only [tgNs, Option.some.injEq] at et; subst et
        simp only [VRs] at rv; subst rv
        exact pgs_nil.run pins s sg H [] us Q I r ⟨rfl, k sg n fun _ _ => rfl⟩
      | cons _ _ => simp only [tgNs] at et; cases et⟩, rfl, rfl⟩
  | t :: ts, h => by
    rw [List.all_cons, Bool.and_eq_true] at h
    obtain ⟨ih, hl, hf⟩ := pgs ok ts h.2
    have hc : assignEach (t :: ts) X.env = (false, assign t X.env) :: assignEach ts X.env := by cases t <;> first | rfl | (cases h.1; done)
    refine ⟨⟨fun pins s sg H vs us Q I r h => ?_⟩, ?_, ?_⟩
    · obtain ⟨rho, M, ds, e, e', m, rv, n, et, k⟩ := h
      cases ds with
      | nil => simp only [tgNs] at et; cases et
      | cons d ds =>
        simp only [tgNs, Option.bind_eq_some_iff] at et
        obtain ⟨e1, h1, h2⟩ := et
        simp only [VRs] at rv
        obtain ⟨v, vr, rfl, r1, r2⟩ := rv
        refine (pgs_cons (pgN ok t) ih (by rw [hc]; rfl)).run pins s sg H _ us Q I r ⟨v, vr, rfl, rho, M, d, e, e1, m, r1, n, h1, fun sg' n1 f1 => ?_⟩
        refine ⟨rho, M, ds, e1, e', m, r2, n1, h2, fun sg2 n2 f2 => k sg2 n2 fun j hj => ?_⟩
        simp only [List.flatMap_cons, List.mem_append, not_or] at hj
        rw [f2 j hj.2, f1 j hj.1]
    · rw [hc]
      show (assignEach ts X.env).length + 1 = ts.length + 1
      rw [hl]
    · rw [hc, List.findIdx?_cons]
      simp [hf]
theorem pgO (ok : OKX S Phi ga W X) (tg : Expr) : PG X tg (gT X.K ga S tg) := by
  by_cases ht : isTupE tg = true
  · cases tg <;> first | (cases ht; done) | skip
    rename_i ts k p
    by_cases ha : ts.all (fun t => match t with | .Name .. => true | .Tuple .. => true | _ => false) = true
    · obtain ⟨h1, h2, h3⟩ := pgs ok ts ha
      refine ⟨fun pins s sg H v u Q I r h => ?_⟩
      obtain ⟨rho, M, d, e, e', m, rv, n, et, kk⟩ := h
      cases d with
      | tup ds =>
        obtain ⟨a, xs, rfl, hx, rx⟩ := rv.tupE
        have et' : tgNs S ts ds e = some e' := et
        refine (pg_tup (n := ts.length) ok.calm h1 h2 h3).run pins s sg H _ u Q I r ⟨a, xs, rfl, hx, by rw [rx.length, (tgNs_names et').2], rho, M, ds, e, e', m, rx, n, et', fun sg' n' f => kk sg' n' f⟩
      | _ => simp only [tgO, tgA] at et; cases et
    · refine ⟨fun pins s sg H v u Q I r ⟨rho, M, d, e, e', m, rv, n, et, kk⟩ => ?_⟩
      cases d with
      | tup ds => exact absurd (tgNs_names (show tgNs S ts ds e = some e' from et)).1 ha
      | _ => simp only [tgO, tgA] at et; cases et
  · refine ⟨fun pins s sg H v u Q I r ⟨rho, M, d, e, e', m, rv, n, et, kk⟩ => (pgA1 ok tg).run pins s sg H v u Q I r ⟨rho, M, d, e, e', m, rv, n, ?_, fun sg' n' f => kk sg' n' ?_⟩⟩
    · cases tg <;> first | exact et | (exact absurd rfl ht)
    · cases tg <;> first | exact f | (exact absurd rfl ht)
end
end Pf
set_option maxHeartbeats 4000000
/-! Pf: comprehensions. -/
namespace Pf
open PySem PySem.Spec PyProof.Rows L2

abbrev W0 : WX := fun _ _ _ _ => False
theorem wipe_at {α : Type} (e : List (Option α)) (f : List (Option α) → List Nat → List (Option α)) (h0 : ∀ e, f e [] = e) (h1 : ∀ e v vs, f e (v :: vs) = (f e vs).set v none) :
    ∀ (vs : List Nat) (j : Nat), (f e vs)[j]? = if j ∈ vs then e[j]?.map (fun _ => none) else e[j]?
  | [], j => by rw [h0]; simp
  | v :: vs, j => by
    rw [h1, List.getElem?_set, wipe_at e f h0 h1 vs]
    have hl : (f e vs).length = e.length := by
      induction vs with
      | nil => rw [h0]
      | cons w ws ih => rw [h1, List.length_set]; exact ih
    by_cases hv : v = j
    · subst hv
      simp only [List.mem_cons, true_or, if_true, hl]
      by_cases q : v < e.length
      · simp [q]
      · simp [q]
    · have hj : j ≠ v := Ne.symm hv
      simp [hv, hj]
theorem wipeV_at (sg : L2.St) (vs : List Nat) (j : Nat) : (wipe sg vs)[j]? = if j ∈ vs then sg[j]?.map (fun _ => none) else sg[j]? := wipe_at sg wipe (fun _ => rfl) (fun _ _ _ => rfl) vs j
theorem wipeE_at (e : Env) (vs : List Nat) (j : Nat) : (wipeE e vs)[j]? = if j ∈ vs then e[j]?.map (fun _ => none) else e[j]? := wipe_at e wipeE (fun _ => rfl) (fun _ _ _ => rfl) vs j
theorem wipeE_len (e : Env) : ∀ vs : List Nat, (wipeE e vs).length = e.length
  | [] => rfl
  | v :: vs => by show ((wipeE e vs).set v none).length = _; rw [List.length_set, wipeE_len e vs]
section
variable {K : PySem.W.Frag} {ga : Str → Addr} {rho : List Addr} {H : Hp}
theorem NR.wipe {e : Env} {sg : L2.St} (n : NR K ga rho H e sg) (vs : List Nat) : NR K ga rho H (wipeE e vs) (L2.wipe sg vs) := by
  refine ⟨by rw [wipe_length, wipeE_len, n.len], fun i d h => ?_⟩
  rw [wipeE_at] at h
  split at h
  · simp only [Option.map_eq_some_iff] at h
    obtain ⟨_, _, z⟩ := h
    cases z
  · rename_i hi
    obtain ⟨v, a, b⟩ := n.at_ i d h
    exact ⟨v, by rw [wipeV_at, if_neg hi]; exact a, b⟩
theorem tgA_len {S : SI} {t : Expr} {d : D} {e e' : Env} (h : tgA S t d e = some e') : e'.length = e.length := by
  cases t <;> first | (simp only [tgA] at h; cases h; done) | skip
  simp only [tgA] at h
  split at h
  · simp only [Option.map_eq_some_iff] at h
    obtain ⟨i, _, rfl⟩ := h
    simp
  · cases h
theorem tgAs_len {S : SI} : ∀ {ts : List Expr} {ds : List D} {e e' : Env}, tgAs S ts ds e = some e' → e'.length = e.length
  | [], [], _, _, h => by simp only [tgAs, Option.some.injEq] at h; rw [h]
  | [], _ :: _, _, _, h => by simp only [tgAs] at h; cases h
  | _ :: _, [], _, _, h => by simp only [tgAs] at h; cases h
  | t :: ts, d :: ds, e, e', h => by
    simp only [tgAs, Option.bind_eq_some_iff] at h
    obtain ⟨e1, h1, h2⟩ := h
    rw [tgAs_len h2, tgA_len h1]
theorem tgN_len {S : SI} {t : Expr} {d : D} {e e' : Env} (h : tgN S t d e = some e') : e'.length = e.length := by
  unfold tgN at h
  split at h
  · exact tgAs_len h
  · exact tgA_len h
theorem tgNs_len {S : SI} : ∀ {ts : List Expr} {ds : List D} {e e' : Env}, tgNs S ts ds e = some e' → e'.length = e.length
  | [], [], _, _, h => by simp only [tgNs, Option.some.injEq] at h; rw [h]
  | [], _ :: _, _, _, h => by simp only [tgNs] at h; cases h
  | _ :: _, [], _, _, h => by simp only [tgNs] at h; cases h
  | t :: ts, d :: ds, e, e', h => by
    simp only [tgNs, Option.bind_eq_some_iff] at h
    obtain ⟨e1, h1, h2⟩ := h
    rw [tgNs_len h2, tgN_len h1]
theorem tgO_len {S : SI} {t : Expr} {d : D} {e e' : Env} (h : tgO S t d e = some e') : e'.length = e.length := by
  unfold tgO at h
  split at h
  · exact tgNs_len h
  · exact tgA_len h
end
theorem own_ix {S : SI} {sc : List (Str × NameKind)} {x : Str} (h : (ownOf S sc).any (fun p => p.1 == x) = true) {j : Nat} (hj : S.ix x = some j) : j ∈ (ownOf S sc).map (·.2) := by
  rw [List.any_eq_true] at h
  obtain ⟨p, hp, e⟩ := h
  have e := eq_of_beq e
  refine List.mem_map.mpr ⟨p, hp, ?_⟩
  unfold ownOf at hp
  rw [List.mem_filterMap] at hp
  obtain ⟨y, _, hy⟩ := hp
  split at hy
  · simp only [Option.map_eq_some_iff] at hy
    obtain ⟨i, hi, rfl⟩ := hy
    simp only at e
    rw [e, hj] at hi; cases hi; rfl
  · simp only [Option.map_eq_some_iff] at hy
    obtain ⟨i, hi, rfl⟩ := hy
    simp only at e
    rw [e, hj] at hi; cases hi; rfl
  · cases hy
theorem own_ixs {S : SI} {sc : List (Str × NameKind)} {tg : Expr} (h : tgOwn (ownOf S sc) tg = true) {j : Nat} (hj : j ∈ tgIxs (S.blk sc) tg) : j ∈ (ownOf S sc).map (·.2) := by
  have one : ∀ t : Expr, ownName (ownOf S sc) t = true → ∀ j, j ∈ tgIx (S.blk sc) t → j ∈ (ownOf S sc).map (·.2) := by
    intro t ht j hj
    cases t <;> first | (cases ht; done) | skip
    rename_i x p
    simp only [tgIx, tgIa] at hj
    cases e : (S.blk sc).ix x with
    | none => rw [e] at hj; simp at hj
    | some i =>
      rw [e] at hj
      simp only [Option.toList_some, List.mem_singleton] at hj
      subst hj
      exact own_ix ht e
  cases tg with
  | Tuple ts k p =>
    simp only [tgIxs, List.mem_flatMap] at hj
    obtain ⟨t, ht, hj⟩ := hj
    exact one t (List.all_eq_true.mp h t ht) j hj
  | Name x p => exact one (.Name x p) h j (by simpa only [tgIxs, tgIx] using hj)
  | _ => simp only [tgIxs, tgIa] at hj; cases hj
theorem lcGo_nx {s : Src} {tg : D → Env → Option Env} {tst : Env → Ev Bool} {elt : Env → Ev D} {e : Env} : ∀ (k i : Nat) (acc : List D) (M : Mem) (c : Str) (M' : Mem), lcGo s tg tst elt e k i acc M ≠ .ex c M'
  | 0, i, acc, M, c, M', h => by unfold lcGo at h; split at h <;> cases h
  | k + 1, i, acc, M, c, M', h => by
    unfold lcGo at h
    split at h
    · split at h
      · split at h
        · split at h
          · exact lcGo_nx k _ _ _ _ _ h
          · cases h
        · exact lcGo_nx k _ _ _ _ _ h
        · cases h
      · cases h
    · cases h
section
variable {X : Cx} {S : SI} {Phi : Tab} {ga : Str → Addr} {W : WX}
theorem okBlk (ok : OKX S Phi ga W X) {sc : Scope} (hk : sc.kind = .function) (s : Shared) (H : Hp) (C : Addr) (cl : List (Str × Addr)) (fp : List Addr) : OKX (S.blk sc.names) Phi ga W0 (X.blk s H sc (compEnvC sc cl C X.env) fp) where
  N := ok.N
  nd := ok.nd
  sc := by
    show (relabel sc X.env).names = relab S sc.names
    unfold relabel relab
    rw [ok.kd]
    show sc.names.map _ = sc.names.map _
    refine List.map_congr_left fun y _ => ?_
    obtain ⟨n, k⟩ := y
    show (if (k == NameKind.free && ScopeKind.function == ScopeKind.function && X.env.scope.names.lookup n == some .cell) = true then (n, NameKind.cell) else (n, k)) = _
    rw [ok.sc]
    simp
  kd := hk
  bk := by
    show (if sc.kind.isAnnotationScope then ScopeKind.function else sc.kind) = _
    rw [hk]; rfl
  calm := ok.calm
  tk := fun u s' x => by
    obtain ⟨_, _, _, _, _, _, _, _, _, _, _, _, _, _, _, _, w⟩ := x
    exact w
  gds := ok.gds
  rm := ok.rm
  fns := fun x h => ⟨⟨(ok.fns x h).fn⟩, (ok.fns x h).mg, (ok.fns x h).kp⟩
  mths := fun C m k h => let ⟨a, b, c⟩ := ok.mths C m k h; ⟨a, b, ⟨c.fn⟩⟩
  flds := ok.flds
  kls := ok.kls
  blt := ok.blt
  intg := ok.intg
  txtg := ok.txtg
  cls := fun x h => let ⟨a, b, c, d⟩ := ok.cls x h; ⟨a, b, c, fun M h k => d M h k⟩
  wrd := fun x h => ⟨(ok.wrd x h).mg, (ok.wrd x h).kp, (ok.wrd x h).fn, (ok.wrd x h).rm⟩
  exm := ok.exm
  sysm := ok.sysm
  fnc := fun x h => h
  nN := ok.nN
  nG := ok.nG
theorem blk_ok (ok : OKX S Phi ga W X) {sc : Scope} {own : List (Str × Nat)} (h : blkC S.N { kind := .function, names := S.sc, isGenerator := false, isCoroutine := false, more := [] } sc own = true) : BlkOk X.N X.env.scope sc own := by
  have b := blkOk_by h
  exact ⟨b.kind, b.uniq, by rw [ok.N]; exact b.ix, fun y hy e => by rw [ok.sc]; exact b.free y hy e, by rw [ok.N]; exact b.own⟩
/-- a comprehension's reading -/
theorem lc_read {sc : List (Str × NameKind)} {tg : Expr} {dI : Env → Ev Src} {tst : Env → Ev Bool} {elt : Env → Ev D} (ho : tgOwn (ownOf S sc) tg = true) {sg : L2.St} {H : Hp} {Q : VK}
    (h : tI X.K ga W (fun e => bnd (dI e) fun s => lcS s (tgO (S.blk sc) tg) tst elt (wipeE e ((ownOf S sc).map (·.2)))) sg H Q) :
    tLc (tG X.K ga W (RSrc X.K ga) dI) (gT X.K ga (S.blk sc) tg) (tT X.K ga W0 tst) (tI X.K ga W0 elt) ((ownOf S sc).map (·.2)) sg H Q := by
  refine (tG.one (R := RSrc X.K ga) h).imp fun rho0 ⟨M0, e0, m0, n0, z0⟩ => ⟨M0, e0, m0, n0, z0.mono ?_⟩
  rintro J H1 ⟨rho1, s, M1, e, at1, rs, z⟩ D hD
  generalize hvs : (ownOf S sc).map (·.2) = vs at z ⊢
  have hwp : ∀ {j : Nat}, j ∈ tgIxs (S.blk sc) tg → j ∈ vs := fun hj => hvs ▸ own_ixs ho hj
  unfold lcS at z
  split at z
  · rename_i n hn
    split at z
    · rename_i hz
      cases hgo : lcGo s (tgO (S.blk sc) tg) tst elt (wipeE e vs) n 0 [] M1 with
      | no => unfold Pf.bnd at z; rw [hgo] at z; exact z.elim
      | ex c M' => exact absurd hgo (lcGo_nx _ _ _ _ _ _)
      | ok ds M' =>
        have fin : ∀ rho' H' v, Ext rho1 H1 rho' H' → MR X.K ga rho' H' (M' ++ [.lst ds]) → VR X.K ga rho' H' (.ref M'.length) v → Q v H' := by
          unfold Pf.bnd at z; rw [hgo] at z; exact z
        refine ⟨fun i m H' => i ≤ n ∧ m = n - i ∧ ∃ rho M acc accV, Ext rho1 H1 rho H' ∧ MR X.K ga rho H' M ∧ D ∉ rho ∧ H' D = some (.lst accV) ∧ VRs X.K ga rho H' acc accV ∧ acc.length ≤ i ∧
          lcGo s (tgO (S.blk sc) tg) tst elt (wipeE e vs) (n - i) i acc M = .ok ds M', ⟨n, Nat.zero_le _, rfl, rho1, M1, [], [], Ext.laid hD, at1.m.laid hD, ?_, upd_same, by simp only [VRs], Nat.le_refl _, hgo⟩, ?_⟩
        · intro hm
          obtain ⟨o, q, _⟩ := at1.m.mem hm
          rw [hD] at q; cases q
        · rintro i m H2 ⟨hi, rfl, rho, M, acc, accV, x, mr, nD, hDl, ra, hal, go⟩
          cases hk : n - i with
          | zero =>
            have hin : i = n := by omega
            subst hin
            rw [hk] at go
            unfold lcGo at go
            split at go
            · rename_i hl
              cases go
              refine .inl ⟨src_stop mr (rs.ext x) hl, ?_⟩
              refine fin (rho ++ [D]) H2 _ (x.adopt hD) (mr.adopt nD hDl ra) ?_
              simp only [VR]
              exact ⟨D, rfl, by rw [← mr.len]; simp⟩
            · cases go
          | succ k =>
            rw [hk] at go
            unfold lcGo at go
            split at go
            · rename_i d hd
              split at go
              · rename_i e1 he1
                obtain ⟨hgo1, hy⟩ := src_go mr (rs.ext x) hd
                refine .inr ⟨hgo1, fun H' => ∃ rho M acc accV, Ext rho1 H1 rho H' ∧ MR X.K ga rho H' M ∧ D ∉ rho ∧ H' D = some (.lst accV) ∧ VRs X.K ga rho H' acc accV ∧ acc.length ≤ i + 1 ∧
                  lcGo s (tgO (S.blk sc) tg) tst elt (wipeE e vs) k (i + 1) acc M = .ok ds M', ?_, ?_⟩
                · rintro H' ⟨rho', M2, acc2, accV2, q1, q2, q3, q4, q5, q6, q7⟩
                  refine ⟨k, by omega, by omega, by omega, rho', M2, acc2, accV2, q1, q2, q3, q4, q5, q6, ?_⟩
                  have : n - (i + 1) = k := by omega
                  rw [this]; exact q7
                · intro v H' yv
                  obtain ⟨x2, m2, rv⟩ := hy v H' yv
                  have nw : NR X.K ga rho H' (wipeE e vs) (wipe sg vs) := (at1.n.wipe vs).ext (x.trans x2)
                  refine ⟨rho, M, d, wipeE e vs, e1, m2, rv, nw, he1, fun sg2 n2 f2 => ⟨?_, ?_⟩⟩
                  · refine List.ext_getElem? fun j => ?_
                    rw [wipeV_at, wipeV_at]
                    have hl2 : sg2.length = sg.length := by rw [n2.len, tgO_len he1, wipeE_len, at1.n.len]
                    by_cases hj : j ∈ vs
                    · rw [if_pos hj, if_pos hj]
                      by_cases hq : j < sg.length
                      · rw [List.getElem?_eq_getElem hq, List.getElem?_eq_getElem (by omega)]; rfl
                      · rw [List.getElem?_eq_none (by omega), List.getElem?_eq_none (by omega)]
                    · rw [if_neg hj, if_neg hj, f2 j fun z => hj (hwp z), wipeV_at, if_neg hj]
                  · split at go
                    · rename_i M3 ht
                      refine ⟨rho, M, e1, m2, n2, ?_⟩
                      rw [ht]
                      rintro rho3 H3 b x3 m3 rfl
                      rw [if_pos rfl]
                      split at go
                      · rename_i w M4 hel
                        refine ⟨rho3, M3, e1, m3, n2.ext x3, ?_⟩
                        rw [hel]
                        intro rho4 H4 y x4 m4 ry
                        have k1 : H' D = some (.lst accV) := x2.keep D _ hDl nD
                        have nD3 : D ∉ rho3 := fun z => (x3.new D z).elim nD fun q => by rw [k1] at q; cases q
                        have k3 : H3 D = some (.lst accV) := x3.keep D _ k1 nD
                        have nD4 : D ∉ rho4 := fun z => (x4.new D z).elim nD3 fun q => by rw [k3] at q; cases q
                        have k4 : H4 D = some (.lst accV) := x4.keep D _ k3 nD3
                        have xx : Ext rho1 H1 rho4 H4 := ((x.trans x2).trans x3).trans x4
                        have im4 : ∀ u, H4 D = some u → imm u = false := fun u q => by rw [k4] at q; cases q; rfl
                        have ra4 : VRs X.K ga rho4 H4 acc accV := ((ra.ext x2).ext x3).ext x4
                        refine ⟨accV, k4, ?_, rho4, M4, acc ++ [w], accV ++ [y], xx.side hD, m4.side nD4 im4, nD4, upd_same, VRs.mono (Mono.side im4) (ra4.app (VRs.one ry)), by simp; omega, go⟩
                        rw [ra.length]
                        exact SZ_lt (by omega)
                      · cases go
                    · rename_i M3 ht
                      refine ⟨rho, M, e1, m2, n2, ?_⟩
                      rw [ht]
                      rintro rho3 H3 b x3 m3 rfl
                      rw [if_neg Bool.false_ne_true]
                      have k1 : H' D = some (.lst accV) := x2.keep D _ hDl nD
                      have nD3 : D ∉ rho3 := fun z => (x3.new D z).elim nD fun q => by rw [k1] at q; cases q
                      exact ⟨rho3, M3, acc, accV, (x.trans x2).trans x3, m3, nD3, x3.keep D _ k1 nD, (ra.ext x2).ext x3, by omega, go⟩
                    · cases go
              · cases go
            · cases go
    · exact z.elim
  · exact z.elim
end
end Pf
set_option maxHeartbeats 4000000
/-! Pf: calls, ranges. -/
namespace Pf
open PySem PySem.Spec PyProof.Rows L2

theorem attr_plain {o : Expr} {m : Str} {env : PySem.Env} (h : isCall0 o = false) : attributeBase o m env (eval o env) = eval o env := by
  cases o with
  | Call g as ks p =>
    cases as with
    | nil => simp [isCall0] at h
    | cons a r => cases g <;> rfl
  | _ => rfl
/-! list(range(..)) of ends too big for a word -/
section
variable {prog : Program} {w : World} {A : Around} {E : Value → Shared → Prop} {s : Shared}
abbrev LItem (a c : Int) (i : Nat) (v : Value) : Prop := ∃ t, v = .int (a + i * c) t
theorem extend_long {R : PySem.Result → Shared → Prop} {r : Addr} {a b c : Int} {t u v : Tok} {n : Nat} (calm : A.handled = none) (isr : IsRange s.heap r a b c t u v) (big : Builtin.Range.small a b c = false) (size : Builtin.Range.rangeSize a b c = n) (fits : n ≤ 2 ^ 24)
    (L : Addr) (res : Value) (k0 : Nat) (isl : s.heap.get? L = some { cls := .type "list", data := .seq #[] k0 })
    (fin : ∀ h' tk acc k', (∀ x o, x ≠ L → s.heap.get? x = some o → h'.get? x = some o) → h'.get? L = some { cls := .type "list", dict := none, data := .seq acc k', slots := #[] } → ItemsOf (LItem a c) acc n → R (.ok (.ret res)) { s with heap := h', toks := tk }) :
    wpAny (model prog w) A.in1 (Builtin.List.listExtendWith (.ref L) (.ref r) res) (fun f s' => match f with | .done g => R (.ok g) s' | .again d => d.quiet = true ∧ codeAny (model prog w) A d R s') (fun e s' => R (.error e) s') s := by
  have ne : L ≠ r := by rintro rfl; rw [isr] at isl; simp at isl
  have lt : L < s.heap.objs.size := Heap.lt_size isl
  have neI : L ≠ s.heap.objs.size := Nat.ne_of_lt lt
  have out : L ∉ [s.heap.objs.size] := by rw [List.mem_singleton]; exact neI
  have walk := (Walks.longrange (prog := prog) (w := w) (A := A.in1) calm s.heap.objs.size a c n).toS
  have loop : ∀ (h : Heap) (k1 tk : Nat), IsLongIter h s.heap.objs.size (a + ((0 : Nat) : Int) * c) ((n : Int) - ((0 : Nat) : Int)) c → (∀ x o, x ≠ L → s.heap.get? x = some o → h.get? x = some o) → h.get? L = some { cls := .type "list", data := .seq #[] k1 } →
      codeAny (model prog w) A (.builtin "list.extend.loop" ⟨[.ref L, .ref s.heap.objs.size, res], []⟩) R { s with heap := h, toks := tk } := by
    intro h k1 tk there old isl1
    refine codeAny_extend_loopS walk (by rw [sizeLine_eq]; omega) L out res n 0 _ #[] k1 rfl (Nat.zero_le _) there isl1 (ItemsOf.nil _) fun s' acc k' mv isl' items => ?_
    rw [Moved.eq_with mv]
    refine fin s'.heap s'.toks acc k' (fun x o nx e => mv.heap x o ?_ (old x o nx e)) isl' items
    intro hm
    rw [List.mem_cons, List.mem_singleton] at hm
    rcases hm with e' | e'
    · exact nx e'
    · rw [e'] at e
      exact absurd (Heap.lt_size e) (Nat.lt_irrefl _)
  unfold Builtin.List.listExtendWith
  refine wpAny_bind (wpAny_typeOf (T := "range") ⟨_, isr, rfl⟩ ?_)
  have c1 : Builtin.List.listSameRef (.ref L) (.ref r) = false := by simp [Builtin.List.listSameRef, ne]
  have c2 : (Value.type "range" == Value.type "list") = false := by decide
  have c3 : (Value.type "range" == Value.type "tuple") = false := by decide
  simp only [c1, c2, c3, Bool.or_false, Bool.false_eq_true, if_false]
  refine wpAny_bind (wpAny_pyIter_longrange isr big ?_)
  refine wpAny_bind (wpAny_holding (wpAny_hint_range (n := n) (Heap.get?_push_of_some _ isr) size fits ?_))
  have there : IsLongIter (s.heap.push { cls := .type "longrange_iterator", data := .fields #[rawInt a, rawInt (Builtin.Range.rangeSize a b c), rawInt c] }) s.heap.objs.size (a + ((0 : Nat) : Int) * c) ((n : Int) - ((0 : Nat) : Int)) c := by
    show IsLongIter _ _ _ _ _
    rw [size]
    simpa using Heap.get?_push_size _ rfl
  have isl1 := Heap.get?_push_of_some { cls := .type "longrange_iterator", data := .fields #[rawInt a, rawInt (Builtin.Range.rangeSize a b c), rawInt c] } isl
  refine wpAny_ite_split (fun _ => ?_) (fun _ => wpAny_pure ⟨plainId_quiet F.plain_extend_loop _, loop _ k0 _ there (fun x o _ e => Heap.get?_push_of_some _ e) isl1⟩)
  refine wpAny_bind (wpAny_rule (wpAny_bind ?_))
  show wpAny _ _ (updateSeq L (·.push .none) >>= fun _ => updateSeq L (·.pop)) _ _ _
  refine wpAny_bind (wpAny_updateSeq isl1 rfl ?_)
  have isl2 := Heap.get?_update_self (Obj.mapSeq (·.push Value.none)) isl1 rfl
  refine wpAny_updateSeq (hz := by seq_fits) isl2 rfl ?_
  have isl3 := Heap.get?_update_self (Obj.mapSeq (·.pop)) isl2 rfl
  refine wpAny_pure ⟨plainId_quiet F.plain_extend_loop _, loop _ _ _ ?_ (fun x o nx e => ?_) isl3⟩
  · exact (Heap.get?_update_other _ _ neI).trans
      ((Heap.get?_update_other _ _ neI).trans there)
  · exact (Heap.get?_update_other _ _ nx.symm).trans
      ((Heap.get?_update_other _ _ nx.symm).trans (Heap.get?_push_of_some _ e))
theorem init_long {R : PySem.Result → Shared → Prop} {r : Addr} {a b c : Int} {t u v : Tok} {n : Nat} (calm : A.handled = none) (isr : IsRange s.heap r a b c t u v) (big : Builtin.Range.small a b c = false) (size : Builtin.Range.rangeSize a b c = n) (fits : n ≤ 2 ^ 24)
    (L : Addr) (isl : s.heap.get? L = some { cls := .type "list", data := .seq #[] })
    (fin : ∀ h' tk acc k', (∀ x o, x ≠ L → s.heap.get? x = some o → h'.get? x = some o) → h'.get? L = some { cls := .type "list", dict := none, data := .seq acc k', slots := #[] } → ItemsOf (LItem a c) acc n → R (.ok (.ret .none)) { s with heap := h', toks := tk }) :
    wpAny (model prog w) A.in1 (Builtin.«list.__init__» ⟨[.ref L, .ref r], []⟩) (fun f s' => match f with | .done g => R (.ok g) s' | .again d => d.quiet = true ∧ codeAny (model prog w) A d R s') (fun e s' => R (.error e) s') s := by
  have ne : L ≠ r := by rintro rfl; rw [isr] at isl; simp at isl
  show wpAny _ _ (do let old ← Builtin.List.listItems (.ref L); Builtin.List.listUpdate (.ref L) (fun _ => #[]); letGo old.toList.reverse; Builtin.List.listExtendWith (.ref L) (.ref r) .none) _ _ s
  refine wpAny_bind ?_
  unfold Builtin.List.listItems
  refine wpAny_bind (wpAny_seqItems isl rfl (wpAny_pure ?_))
  show wpAny _ _ (updateSeq L (fun _ => #[]) >>= fun _ => letGo (#[] : Array Value).toList.reverse >>= fun _ => Builtin.List.listExtendWith (.ref L) (.ref r) .none) _ _ s
  refine wpAny_bind (wpAny_updateSeq isl rfl ?_)
  have isl2 := Heap.get?_update_self (Obj.mapSeq (fun _ => (#[] : Array Value))) isl rfl
  have keep : ∀ x o, x ≠ L → s.heap.get? x = some o → (s.heap.update L (Obj.mapSeq (fun _ => (#[] : Array Value)))).get? x = some o := by
    intro x o nx e
    rw [Heap.get?_update_other _ _ nx.symm]; exact e
  refine wpAny_bind (wpAny_letGo ?_)
  refine extend_long calm (keep r _ ne.symm isr) big size fits L .none _ isl2 fun h' tk acc k' old isl' items => fin h' tk acc k' (fun x o nx e => old x o nx (keep x o nx e)) isl' items
theorem call_list_long {Q : Value → Shared → Prop} {r : Addr} {a b c : Int} {t u v : Tok} {n : Nat} (calm : A.handled = none) (isr : IsRange s.heap r a b c t u v) (big : Builtin.Range.small a b c = false) (size : Builtin.Range.rangeSize a b c = n) (fits : n ≤ 2 ^ 24)
    (fin : ∀ h' tk acc k', (∀ x o, s.heap.get? x = some o → h'.get? x = some o) → h'.get? s.heap.objs.size = some { cls := .type "list", dict := none, data := .seq acc k', slots := #[] } → ItemsOf (LItem a c) acc n → Q (.ref s.heap.objs.size) { s with heap := h', toks := tk }) :
    wpAny (model prog w) A (call (.type "list") [.ref r]) Q E s := by
  refine callType_codes (Q₁ := fun obj s1 => obj = .ref s.heap.objs.size ∧ s1 = { s with heap := s.heap.push { cls := .type "list", data := .seq #[] } }) PySem.F.called_list (PySem.F.typeCall_list_1 _) PySem.F.entry_list_init (code_list_new _ ⟨rfl, rfl⟩) ?_
  rintro obj s1 ⟨rfl, rfl⟩
  have isl : (s.heap.push { cls := .type "list", data := .seq #[] }).get? s.heap.objs.size = some { cls := .type "list", data := .seq #[] } := Heap.get?_push_size _ rfl
  refine ⟨⟨_, isl, rfl⟩, PySem.F.args_list_init_2 _ _, init_long (A := A.in1) calm (Heap.get?_push_of_some _ isr) big size fits _ isl fun h' tk acc k' old isl' items => ⟨rfl, fin h' tk acc k' (fun x o e => ?_) isl' items⟩⟩
  exact old x o (Nat.ne_of_lt (Heap.lt_size e)) (Heap.get?_push_of_some _ e)
end
section
variable {X : Cx} {S : SI} {Phi : Tab} {ga : Str → Addr} {W : WX}
theorem gl_of (ok : OKX S Phi ga W X) {x : Str} (h : S.glb x = true) : Gl X x := by
  unfold SI.glb at h
  show X.env.scope.names.lookup x = some .globalImplicit
  rw [ok.sc]
  split at h
  · assumption
  · cases h
theorem run_G (ok : OKX S Phi ga W X) {x : Str} {F : List D → Ev D} (c : CalM X ga x F) {pins : List (Addr × Obj)} {sg : L2.St} {H : Hp} {s : Shared} {us : List Value} {vs : List V} {Q : VK} {rho : List Addr} {M : Mem} {ds : List D} {l : Nat}
    (I : Inv X pins sg H s) (r : Vals vs us) (m : MR X.K ga rho H M) (rv : VRs X.K ga rho H ds vs) (hl : sg.length = l) (h : RG X.K ga W l (VR X.K ga) rho H (F ds M) Q) :
    wpAny (model X.prog X.w) X.A (call (.ref (ga x)) us) (EP X pins sg Q) X.xe s := by
  obtain ⟨k, fd, ps, fn, hr, hn, hb⟩ := c.fn
  have hds : ds.length = ps.length := by
    by_cases q : ds.length = ps.length
    · exact q
    · rw [hn ds M q] at h; exact h.elim
  have hus : us.length = ps.length := by rw [← r.length, rv.length, hds]
  refine wpAny_call (codeAny_mono (fn.run X.A X.stack s H ⟨us, []⟩ us vs Q (fun cls d H' => ∀ sg' : L2.St, sg'.length = l → W cls d sg' H') (hr.mono (Nat.le_succ _)) ok.gds I.env0 (hb s us I.kIn hus) r ?_) fun r s' hq => ?_)
  · refine ⟨rho, M, ds, m, rv, hds, ?_⟩
    cases e : F ds M with
    | ok d M' => rw [e] at h; exact h
    | ex cc M' => rw [e] at h; exact fun rho' H' x m' sg' z => h rho' H' sg' x m' z
    | no => rw [e] at h; exact h
  · cases r with
    | error e => exact ok.tk _ _ (XE.of_call I (fun cls d H' z => z sg hl) hq)
    | ok fl =>
      cases fl with
      | ret u => exact I.after hq
      | next => exact False.elim hq
      | brk => exact False.elim hq
      | cont => exact False.elim hq
/-- f(a, ..), f a def -/
theorem pe_fn (ok : OKX S Phi ga W X) {f : Str} {a : Expr} {r : List Expr} {p pos : Pos} {dA : Env → Ev (List D)} (hg : S.glb f = true) (hf : S.G f = .fn) (hst : (a :: r).any isStar = false) (ha : PA X (a :: r) (tL X.K ga W dA)) :
    PE X (.Call (.Name f p) (a :: r) [] pos) (tI X.K ga W (fun e => bnd (dA e) fun vs => Phi f vs)) := by
  refine ⟨fun pins s sg H Q I h => ?_⟩
  have c := ok.fns f hf
  simp only [List.any_cons, Bool.or_eq_false_iff] at hst
  refine wpAny_Call_Name_kw (ld_glob I (gl_of ok hg) c.mg ?_ (ok.nG f (by rw [hf]; trivial)).1)
  refine PySem.W.callWith_K (h₀ := X.base) I.ok.mod.kin c.kp (thn (ha.run pos pins s sg H _ I (tG.one h)) ?_) (star_cons hst.1) (back_plain hst.2)
  rintro us s1 ⟨vs, H1, I1, r1, rho1, ds, M1, e, at1, rv, z⟩
  exact ⟨I1.kIn, run_G ok c.toCalM I1 r1 at1.m rv at1.n.len z⟩
theorem blt_of (ok : OKX S Phi ga W X) {f : Str} (h : isBlt (S.G f) = true) : X.mg f = none ∧ (f == ("__debug__" : Str)) = false ∧ f ≠ "__name__" := by
  have e : S.G f = .blt := by
    cases q : S.G f <;> rw [q] at h <;> first | rfl | cases h
  exact ⟨ok.blt f e, ok.nG f (by rw [e]; trivial)⟩
theorem pe_b (ok : OKX S Phi ga W X) {f : Str} {id : Value} {r : List V → Hp → VK → Prop} {a : Expr} {es : List Expr} {p pos : Pos} {t : TA} (hi : (∃ n, id = .builtin n) ∨ ∃ n, id = .type n) (hv : bootBuiltins f = some id) (hc : CallR X id r) (hg : S.glb f = true) (hb : isBlt (S.G f) = true) (hst : (a :: es).any isStar = false) (ha : PA X (a :: es) t) :
    PE X (.Call (.Name f p) (a :: es) [] pos) (tCB r t) := by
  obtain ⟨h1, h2, h3⟩ := blt_of ok hb
  simp only [List.any_cons, Bool.or_eq_false_iff] at hst
  rcases hi with ⟨n, rfl⟩ | ⟨n, rfl⟩
  · exact pe_callB hc (gl_of ok hg) h1 hv ha h3 h2 (star_cons hst.1) (back_plain hst.2)
  · exact pe_callTy hc (gl_of ok hg) h1 hv ha h3 h2 (star_cons hst.1) (back_plain hst.2)
/-- the arguments one after another -/
theorem pa1 {a : Expr} {dE : Env → Ev D} (hs : isStar a = false) (ha : PE X a (tI X.K ga W dE)) : PA X [a] (tCons (tI X.K ga W dE) tNil) := pa_cons ha pa_nil (star_cons hs)
theorem pa2 {a b : Expr} {dE dF : Env → Ev D} (hs : isStar a = false) (hs2 : isStar b = false) (ha : PE X a (tI X.K ga W dE)) (hb : PE X b (tI X.K ga W dF)) : PA X [a, b] (tCons (tI X.K ga W dE) (tCons (tI X.K ga W dF) tNil)) :=
  pa_cons ha (pa_cons hb pa_nil (star_cons hs2)) (star_cons hs)
theorem nx_best (mx : Bool) (df : Option D) (x : D) : Nx (dBest mx df x) := by
  intro M c M' z
  unfold dBest at z
  split at z
  · split at z
    · split at z
      · split at z
        · split at z <;> cases z
        · cases z
      · cases z
    · cases z
  · cases z
theorem nx_b1a {f : Str} {h : D → Ev D} (e : builtin1a f = some h) (x : D) : Nx (h x) := by
  unfold builtin1a at e
  intro M c M' z
  split at e
  · cases e
    unfold dLen at z
    split at z
    · split at z <;> cases z
    · cases z
    · split at z <;> cases z
    · cases z
    · cases z
  · split at e
    · cases e
      unfold dAll at z
      split at z
      · split at z <;> cases z
      · cases z
    · split at e
      · cases e
        unfold dAny at z
        split at z
        · split at z <;> cases z
        · cases z
      · split at e
        · cases e
          unfold dSum at z
          split at z
          · split at z <;> cases z
          · unfold dSumL at z
            split at z
            · split at z <;> cases z
            · cases z
        · split at e
          · cases e
            unfold dTuple at z
            split at z
            · cases z
            · split at z
              · exact nx_newt _ _ _ _ z
              · cases z
          · split at e
            · cases e
              unfold dInt at z
              split at z
              · cases z
              · cases z
              · split at z
                · split at z <;> cases z
                · cases z
              · cases z
            · split at e
              · cases e
                unfold dRepr at z
                split at z <;> cases z
              · split at e
                · cases e
                  unfold dSort at z
                  split at z
                  · split at z
                    · split at z
                      · exact nx_newl _ _ _ _ z
                      · cases z
                    · cases z
                  · split at z
                    · split at z
                      · split at z
                        · exact nx_newl _ _ _ _ z
                        · cases z
                      · cases z
                    · cases z
                · split at e
                  · cases e
                    exact nx_best _ _ _ _ _ _ z
                  · split at e
                    · cases e
                      exact nx_best _ _ _ _ _ _ z
                    · split at e
                      · cases e
                        exact nx_dict _ _ _ _ z
                      · cases e
theorem nx_b1 {f : Str} {h : D → Ev D} (e : builtin1 f = some h) (x : D) : Nx (h x) := by
  unfold builtin1 at e
  split at e
  · cases e
    intro M c M' z
    unfold dStr at z
    split at z
    · split at z <;> cases z
    · cases z
  · exact nx_b1a e x
theorem b1a_rule (ok : OKX S Phi ga W X) {f : Str} {h : D → Ev D} (e : builtin1a f = some h) : ∃ id, ((∃ n, id = .builtin n) ∨ ∃ n, id = .type n) ∧ bootBuiltins f = some id ∧ CallR X id (c1 X.K ga h) := by
  unfold builtin1a at e
  split at e
  · rename_i q; cases e; have q' := eq_of_beq q; subst q'; exact ⟨_, .inl ⟨_, rfl⟩, PySem.boot_len, cLen⟩
  · split at e
    · rename_i q; cases e; have q' := eq_of_beq q; subst q'; exact ⟨.builtin "all", .inl ⟨_, rfl⟩, by decide +kernel, cAll ok.calm⟩
    · split at e
      · rename_i q; cases e; have q' := eq_of_beq q; subst q'; exact ⟨.builtin "any", .inl ⟨_, rfl⟩, by decide +kernel, cAny ok.calm⟩
      · split at e
        · rename_i q; cases e; have q' := eq_of_beq q; subst q'; exact ⟨.builtin "sum", .inl ⟨_, rfl⟩, by decide +kernel, cSum ok.calm⟩
        · split at e
          · rename_i q; cases e; have q' := eq_of_beq q; subst q'; exact ⟨.type "tuple", .inr ⟨_, rfl⟩, by decide +kernel, cTuple⟩
          · split at e
            · rename_i q; cases e; have q' := eq_of_beq q; subst q'; exact ⟨.type "int", .inr ⟨_, rfl⟩, by decide +kernel, cInt⟩
            · split at e
              · rename_i q; cases e; have q' := eq_of_beq q; subst q'
                exact ⟨.builtin "repr", .inl ⟨_, rfl⟩, by decide +kernel, cRepr ok.sysm ok.gds (by have := ok.rm.un; omega)⟩
              · split at e
                · rename_i q; cases e; have q' := eq_of_beq q; subst q'
                  exact ⟨.builtin "sorted", .inl ⟨_, rfl⟩, by decide +kernel, cSort ok.calm ok.sysm (by have := ok.rm.un; omega)⟩
                · split at e
                  · rename_i q; cases e; have q' := eq_of_beq q; subst q'
                    exact ⟨.builtin "min", .inl ⟨_, rfl⟩, by decide +kernel, cMin1 ok.calm ok.sysm (by have := ok.rm.un; omega)⟩
                  · split at e
                    · rename_i q; cases e; have q' := eq_of_beq q; subst q'
                      exact ⟨.builtin "max", .inl ⟨_, rfl⟩, by decide +kernel, cMax1 ok.calm ok.sysm (by have := ok.rm.un; omega)⟩
                    · split at e
                      · rename_i q; cases e; have q' := eq_of_beq q; subst q'
                        exact ⟨.type "dict", .inr ⟨_, rfl⟩, by decide +kernel, cDict ok.calm⟩
                      · cases e
theorem b1_rule (ok : OKX S Phi ga W X) {f : Str} {h : D → Ev D} (e : builtin1 f = some h) : ∃ id, ((∃ n, id = .builtin n) ∨ ∃ n, id = .type n) ∧ bootBuiltins f = some id ∧ CallR X id (c1 X.K ga h) := by
  unfold builtin1 at e
  split at e
  · rename_i q; cases e; have q' := eq_of_beq q; subst q'
    exact ⟨.type "str", .inr ⟨_, rfl⟩, by decide +kernel, cStr⟩
  · exact b1a_rule ok e
theorem b2_rule (ok : OKX S Phi ga W X) {f : Str} {h : D → D → Ev D} (e : builtin2 f = some h) : ∃ n, bootBuiltins f = some (.builtin n) ∧ CallR X (.builtin n) (c2 X.K ga h) ∧ ∀ x y, Nx (h x y) := by
  unfold builtin2 at e
  split at e
  · rename_i q; cases e; have q' := eq_of_beq q; subst q'
    exact ⟨"max", by decide +kernel, cMax ok.calm, fun x y M c M' z => by unfold dMax2 at z; split at z <;> cases z⟩
  · split at e
    · rename_i q; cases e; have q' := eq_of_beq q; subst q'
      exact ⟨"min", by decide +kernel, cMin ok.calm, fun x y M c M' z => by unfold dMin2 at z; split at z <;> cases z⟩
    · cases e
/-- a call by one value -/
theorem pe_v1 (ok : OKX S Phi ga W X) {f : Str} {id : Value} {h : D → Ev D} {a : Expr} {p pos : Pos} {dE : Env → Ev D} (hi : (∃ n, id = .builtin n) ∨ ∃ n, id = .type n) (hv : bootBuiltins f = some id) (hc : CallR X id (c1 X.K ga h)) (hn : ∀ x, Nx (h x)) (hg : S.glb f = true) (hb : isBlt (S.G f) = true)
    (hst : isStar a = false) (ha : PE X a (tI X.K ga W dE)) : PE X (.Call (.Name f p) [a] [] pos) (tI X.K ga W (fun e => bnd (dE e) h)) := by
  refine PE.imp (pe_b (r := c1 X.K ga h) ok hi hv hc hg hb (by simp [hst]) (pa1 hst ha)) fun sg H Q z => ?_
  refine (tG.one (R := VR X.K ga) z).mono ?_
  rintro x H1 ⟨rho1, d, M1, e, at1, rd, z1⟩
  exact ⟨x, rfl, rho1, M1, d, at1.m, rd, z1.op (fun c M' q => hn d M1 c M' q)⟩
theorem pe_v2 (ok : OKX S Phi ga W X) {f : Str} {n : String} {h : D → D → Ev D} {a b : Expr} {p pos : Pos} {dE dF : Env → Ev D} (hv : bootBuiltins f = some (.builtin n)) (hc : CallR X (.builtin n) (c2 X.K ga h)) (hn : ∀ x y, Nx (h x y)) (hg : S.glb f = true) (hb : isBlt (S.G f) = true)
    (hst : isStar a = false) (hst2 : isStar b = false) (ha : PE X a (tI X.K ga W dE)) (hB : PE X b (tI X.K ga W dF)) : PE X (.Call (.Name f p) [a, b] [] pos) (tI X.K ga W (fun e => bnd (dE e) fun x => bnd (dF e) fun y => h x y)) := by
  refine PE.imp (pe_b (r := c2 X.K ga h) ok (.inl ⟨_, rfl⟩) hv hc hg hb (by simp [hst, hst2]) (pa2 hst hst2 ha hB)) fun sg H Q z => ?_
  refine (tG.one (R := VR X.K ga) z).mono ?_
  rintro x H1 ⟨rho1, d, M1, e, at1, rd, z1⟩
  refine (At.nxt (R2 := VR X.K ga) at1 z1).mono ?_
  rintro y H2 ⟨rho2, d2, M2, x2, at2, rd2, z2⟩
  exact ⟨x, y, rfl, rho2, M2, d, d2, at2.m, rd.ext x2, rd2, z2.op (fun c M' q => hn d d2 M2 c M' q)⟩
/-- min(a, default=c), max(a, default=c) -/
theorem pe_bk (ok : OKX S Phi ga W X) {f : Str} {h : D → D → Ev D} {a c : Expr} {p pos kp : Pos} {dE dF : Env → Ev D} (e : builtinK f = some h) (hg : S.glb f = true) (hb : isBlt (S.G f) = true) (hst : isStar a = false) (ha : PE X a (tI X.K ga W dE)) (hB : PE X c (tI X.K ga W dF)) :
    PE X (.Call (.Name f p) [a] [⟨some (Str.ofString "default"), c, kp⟩] pos) (tI X.K ga W (fun e => bnd (dE e) fun x => bnd (dF e) fun y => h x y)) := by
  obtain ⟨h1, h2, h3⟩ := blt_of ok hb
  have go : ∀ (n : String), bootBuiltins f = some (.builtin n) → CallRK X (.builtin n) [Str.ofString "default"] (ck X.K ga h) → (∀ x y, Nx (h x y)) → PE X (.Call (.Name f p) [a] [⟨some (Str.ofString "default"), c, kp⟩] pos) (tI X.K ga W (fun e => bnd (dE e) fun x => bnd (dF e) fun y => h x y)) := by
    intro n hv hc hn
    refine PE.imp (pe_callBK hc (gl_of ok hg) h1 hv (pa1 hst ha) (pk_cons hB pk_nil) h3 h2 (by rw [star_cons hst]; rfl) (by rw [star_cons hst]; rfl)) fun sg H Q z => ?_
    refine (tG.one (R := VR X.K ga) z).mono ?_
    rintro x H1 ⟨rho1, d, M1, e, at1, rd, z1⟩
    refine (At.nxt (R2 := VR X.K ga) at1 z1).mono ?_
    rintro y H2 ⟨rho2, d2, M2, x2, at2, rd2, z2⟩
    exact ⟨x, y, rfl, rfl, rho2, M2, d, d2, at2.m, rd.ext x2, rd2, z2.op (fun c M' q => hn d d2 M2 c M' q)⟩
  unfold builtinK at e
  split at e
  · rename_i q; cases e; have q' := eq_of_beq q; subst q'
    exact go "max" (by decide +kernel) (cMaxK ok.calm ok.sysm (by have := ok.rm.un; omega)) fun x y => nx_best _ _ _
  · split at e
    · rename_i q; cases e; have q' := eq_of_beq q; subst q'
      exact go "min" (by decide +kernel) (cMinK ok.calm ok.sysm (by have := ok.rm.un; omega)) fun x y => nx_best _ _ _
    · cases e
/-- a call of a part: [f, g][i](a, ..) -/
theorem pe_cv (ok : OKX S Phi ga W X) {o i : Expr} {a : Expr} {r : List Expr} {p pos : Pos} {dF : Env → Ev D} {dA : Env → Ev (List D)} (hst : (a :: r).any isStar = false) (hf : PE X (.Subscript o i p) (tI X.K ga W dF)) (ha : PA X (a :: r) (tL X.K ga W dA)) :
    PE X (.Call (.Subscript o i p) (a :: r) [] pos) (tI X.K ga W (fun e => bnd (dF e) fun x => bnd (chkF S.G x) fun f => bnd (dA e) fun vs => Phi f vs)) := by
  refine ⟨fun pins s sg H Q I h => ?_⟩
  simp only [List.any_cons, Bool.or_eq_false_iff] at hst
  refine Call_ (thn (hf.run pins s sg H _ I (tG.one h)) ?_) rfl
  rintro u s1 ⟨y, H1, I1, ry, rho1, d, M1, e, at1, rd, z1⟩
  cases ec : chkF S.G d M1 with
  | no => unfold Pf.bnd at z1; rw [ec] at z1; exact z1.elim
  | ex c M' =>
    unfold chkF at ec
    split at ec
    · split at ec <;> cases ec
    · cases ec
  | ok f M' =>
    have z2 : RG X.K ga W e.length (VR X.K ga) rho1 H1 (bnd (dA e) (fun vs => Phi f vs) M') Q := by
      unfold Pf.bnd at z1; rw [ec] at z1; exact z1
    unfold chkF at ec
    split at ec
    · rename_i f'
      split at ec
      · rename_i hfn
        cases ec
        simp only [VR] at rd
        subst rd
        cases ry
        have hG : S.G f = .fn := by
          cases q : S.G f <;> rw [q] at hfn <;> first | rfl | cases hfn
        have c := ok.fns f hG
        refine PySem.W.callWith_K (h₀ := X.base) I1.ok.mod.kin c.kp (thn (ha.run pos pins s1 sg H1 _ I1 (At.nxt (R2 := VRs X.K ga) at1 z2)) ?_) (star_cons hst.1) (back_plain hst.2)
        rintro us s2 ⟨vs, H2, I2, r2, rho2, ds, M2, x2, at2, rv, z3⟩
        exact ⟨I2.kIn, run_G ok c.toCalM I2 r2 at2.m rv at2.n.len z3⟩
      · cases ec
    · cases ec
/-- isinstance(a, T) -/
theorem pe_isi (ok : OKX S Phi ga W X) {f T : Str} {a : Expr} {p p2 pos : Pos} {dE : Env → Ev D} (hf : f = "isinstance") (hg : S.glb f = true) (hb : isBlt (S.G f) = true) (hgT : S.glb T = true) (hbT : isBlt (S.G T) = true) (hT : (isiT "int" T).isSome = true)
    (hst : isStar a = false) (ha : PE X a (tI X.K ga W dE)) : PE X (.Call (.Name f p) [a, .Name T p2] [] pos) (tI X.K ga W (fun e => bnd (dE e) (isiE T))) := by
  subst hf
  obtain ⟨t1, t2, t3⟩ := blt_of ok hbT
  obtain ⟨b0, hb0⟩ := Option.isSome_iff_exists.mp hT
  obtain ⟨n, hn, _⟩ := boot_ty hb0
  refine PE.imp (pe_b (r := rIsi X.K) ok (.inl ⟨"isinstance", rfl⟩) (by decide +kernel) call_isi hg hb (by simp only [List.any_cons, List.any_nil, hst]; rfl) (pa_cons ha (pa_cons (pe_bltn (v := .ty n) (gl_of ok hgT) t1 hn rfl t3 t2) pa_nil rfl) (star_cons hst))) fun sg H Q z => ?_
  refine (tG.one (R := VR X.K ga) z).mono ?_
  rintro x H1 ⟨rho1, d, M1, e, at1, rd, z1⟩
  have z2 := z1.op (fun c M' q => nx_isi T d M1 c M' q)
  unfold isiE at z2
  split at z2
  · rename_i b eb
    unfold dIsi at eb
    simp only [Option.bind_eq_some_iff] at eb
    obtain ⟨t, et, eb⟩ := eb
    obtain ⟨k, hk, hkb⟩ := boot_ty eb
    rw [hn] at hk
    cases hk
    obtain ⟨ht, hty⟩ := ty_of at1.m rd et
    exact ⟨x, .ty n, .type t, .type n, b, rfl, .ty n, hty, kit_ty (hkb ht), z2.here at1.m (by simp only [VR])⟩
  · exact z2.elim

theorem tyArg_ok {S : SI} {a : Expr} {p : Pos} {T : Str} (h : tyArg S a = some (T, p)) : a = .Name T p ∧ S.glb T = true ∧ isBlt (S.G T) = true ∧ (isiT "int" T).isSome = true := by
  unfold tyArg at h
  split at h
  · split at h
    · rename_i q
      cases h
      simp only [Bool.and_eq_true] at q
      exact ⟨rfl, q.1.1, q.1.2, q.2⟩
    · cases h
  · cases h
theorem tysArg_ok {S : SI} {a : Expr} {Ts : List Str} (h : tysArg S a = some Ts) : ∃ es k pp, a = .Tuple es k pp ∧ es.length ≤ 16 ∧ tyArgs S es = some Ts := by
  unfold tysArg at h
  split at h
  · split at h
    · exact ⟨_, _, _, rfl, by assumption, h⟩
    · cases h
  · cases h
def tyP (t : String) : Prop := t = "NoneType" ∨ t = "bool" ∨ t = "int" ∨ t = "str" ∨ t = "tuple" ∨ t = "list" ∨ t = "dict"
theorem pa_tys (ok : OKX S Phi ga W X) : ∀ {es : List Expr} {Ts : List Str}, tyArgs S es = some Ts → ∃ ns : List String, ns.length = es.length ∧ PA X es (fun _ H R => R (ns.map V.ty) H) ∧ Paired ClsV (ns.map V.ty) (ns.map Value.type) ∧
    ∀ t, tyP t → ∀ b, isiTs t Ts = some b → PySem.W.kitAny X.K (.type t) (ns.map Value.type) = some b
  | [], Ts, h => by
    cases h
    exact ⟨[], rfl, pa_nil, .nil, fun t _ b e => by cases e; rfl⟩
  | a :: r, Ts, h => by
    unfold tyArgs at h
    split at h
    · rename_i T p e
      rw [Option.map_eq_some_iff] at h
      obtain ⟨Ts', e2, rfl⟩ := h
      obtain ⟨rfl, hgT, hbT, hT⟩ := tyArg_ok e
      obtain ⟨t1, t2, t3⟩ := blt_of ok hbT
      obtain ⟨b0, hb0⟩ := Option.isSome_iff_exists.mp hT
      obtain ⟨n, hn, _⟩ := boot_ty hb0
      obtain ⟨ns, nl, hp, hc, hk⟩ := pa_tys ok e2
      refine ⟨n :: ns, by simp [nl], PA.imp (pa_cons (pe_bltn (v := .ty n) (gl_of ok hgT) t1 hn rfl t3 t2) hp (star_cons rfl)) fun sg H Q z => z, .cons (.ty n) hc, fun t ht b eb => ?_⟩
      unfold isiTs at eb
      split at eb
      · rename_i e3
        cases eb
        obtain ⟨k, hk', hkb⟩ := boot_ty e3
        rw [hn] at hk'
        cases hk'
        exact kitAny_cons (kit_ty (hkb ht)) nofun fun _ => rfl
      · rename_i e3
        obtain ⟨k, hk', hkb⟩ := boot_ty e3
        rw [hn] at hk'
        cases hk'
        exact kitAny_cons (kit_ty (hkb ht)) (fun _ => hk t ht b eb) nofun
      · cases eb
    · cases h
/-- isinstance(a, (T1, ..)) -/
theorem pe_isT (ok : OKX S Phi ga W X) {f : Str} {a : Expr} {es : List Expr} {Ts : List Str} {kk : Nat} {p pp pos : Pos} {dE : Env → Ev D} (hf : f = "isinstance") (hg : S.glb f = true) (hb : isBlt (S.G f) = true) (hl : es.length ≤ 16) (hT : tyArgs S es = some Ts)
    (hst : isStar a = false) (ha : PE X a (tI X.K ga W dE)) : PE X (.Call (.Name f p) [a, .Tuple es kk pp] [] pos) (tI X.K ga W (fun e => bnd (dE e) (isiA Ts))) := by
  subst hf
  obtain ⟨ns, nl, hp, hc, hk⟩ := pa_tys ok hT
  refine PE.imp (pe_b (r := rIsiT X.K) ok (.inl ⟨"isinstance", rfl⟩) (by decide +kernel) call_isiT hg hb (by simp only [List.any_cons, List.any_nil, hst]; rfl) (pa_cons ha (pa_cons (pe_tup hp) pa_nil rfl) (star_cons hst))) fun sg H Q z => ?_
  refine (tG.one (R := VR X.K ga) z).mono ?_
  rintro x H1 ⟨rho1, d, M1, e, at1, rd, z1⟩
  have z2 := z1.op (fun c M' q => nx_isA Ts d M1 c M' q)
  unfold isiA at z2
  split at z2
  · rename_i b eb
    unfold dIsA at eb
    simp only [Option.bind_eq_some_iff] at eb
    obtain ⟨t, et, eb⟩ := eb
    refine ⟨by rw [List.length_map, sizeLine_eq]; omega, fun q hq => ?_⟩
    obtain ⟨ht, hty⟩ := ty_of (at1.m.laid hq) (rd.ext (Ext.laid hq)) et
    exact ⟨x, q, ns.map V.ty, .type t, ns.map Value.type, b, rfl, upd_same, hc, hty, hk t ht b eb, z2 rho1 _ _ (Ext.laid hq) (at1.m.laid hq) (by simp only [VR])⟩
  · exact z2.elim

/-! ### ranges -/
theorem inR_ok {i : Int} (h : inR i = true) : -(2 ^ 62) ≤ i ∧ i < 2 ^ 62 := by
  unfold inR at h
  rw [RB_eq] at h
  simp only [Bool.and_eq_true, decide_eq_true_eq] at h
  have e : (2 : Int) ^ 62 = 4611686018427387904 := by decide
  rw [e]; exact h
/-- what srcR says of its arguments -/
theorem srcR_inv {ds : List D} {M M' : Mem} {s : Src} (h : srcR ds M = .ok s M') : M' = M ∧ ((∃ j, ds = [.int j] ∧ inR j = true ∧ s = .rng 0 1 j.toNat) ∨ (∃ i j, ds = [.int i, .int j] ∧ inR i = true ∧ inR j = true ∧ s = .rng i 1 (j - i).toNat) ∨
    ∃ i j, ds = [.int i, .int j, .int (-1)] ∧ inR i = true ∧ inR j = true ∧ s = .rng i (-1) (i - j).toNat) := by
  unfold srcR at h
  split at h
  · rename_i j
    split at h
    · rename_i hj; cases h; exact ⟨rfl, .inl ⟨j, rfl, hj, rfl⟩⟩
    · cases h
  · rename_i i j
    split at h
    · rename_i hj; cases h; exact ⟨rfl, .inr (.inl ⟨i, j, rfl, hj.1, hj.2, rfl⟩)⟩
    · cases h
  · rename_i i j c
    split at h
    · rename_i hj
      obtain ⟨h1, h2, rfl⟩ := hj
      cases h
      exact ⟨rfl, .inr (.inr ⟨i, j, rfl, h1, h2, rfl⟩)⟩
    · cases h
  · cases h
theorem srcR_nx {ds : List D} {M M' : Mem} {c : Str} (h : srcR ds M = .ex c M') : False := by
  unfold srcR at h
  split at h
  · split at h <;> cases h
  · split at h <;> cases h
  · split at h <;> cases h
  · cases h
/-- a range object is made -/
theorem run_rng {A : Around} {E : Value → Shared → Prop} {Q : Value → Shared → Prop} {rho : List Addr} {H : Hp} {M M' : Mem} {ds : List D} {vs : List V} {us : List Value} {s : Src} {sh : Shared} (h : srcR ds M = .ok s M') (rv : VRs X.K ga rho H ds vs) (r : Vals vs us)
    (k : ∀ (lo hi c : Int) (n : Nat) (t u v : Tok) (tk : Nat), s = .rng lo c n → Builtin.Range.small lo hi c = true → Builtin.Range.rangeSize lo hi c = n → (c = 1 ∨ c = -1) →
      Q (.ref sh.heap.objs.size) { sh with heap := sh.heap.push { cls := .type "range", data := .fields #[.int lo t, .int hi u, .int c v] }, toks := tk }) :
    wpAny (model X.prog X.w) A (call (.type "range") us) Q E sh := by
  obtain ⟨_, h⟩ := srcR_inv h
  rcases h with ⟨j, rfl, hj, rfl⟩ | ⟨i, j, rfl, hi, hj, rfl⟩ | ⟨i, j, rfl, hi, hj, rfl⟩
  · simp only [VRs] at rv
    obtain ⟨v, _, rfl, r1, rfl⟩ := rv
    cases r1.intE
    obtain ⟨u, rfl, t, rfl⟩ := vals1 r
    obtain ⟨b1, b2⟩ := inR_ok hj
    refine call_range_1 (k 0 j 1 _ _ _ _ _ rfl (small_one (by omega) (by omega) b1 b2) ?_ (.inl rfl))
    have := rangeSize_nat 0 j
    simpa using this
  · simp only [VRs] at rv
    obtain ⟨v, _, rfl, r1, v2, _, rfl, r2, rfl⟩ := rv
    cases r1.intE; cases r2.intE
    obtain ⟨u, u2, rfl, ⟨t, rfl⟩, ⟨t2, rfl⟩⟩ := vals2 r
    obtain ⟨b1, b2⟩ := inR_ok hi
    obtain ⟨b3, b4⟩ := inR_ok hj
    exact call_range_2 (k i j 1 _ _ _ _ _ rfl (small_one b1 b2 b3 b4) (rangeSize_nat i j) (.inl rfl))
  · simp only [VRs] at rv
    obtain ⟨v, _, rfl, r1, v2, _, rfl, r2, v3, _, rfl, r3, rfl⟩ := rv
    cases r1.intE; cases r2.intE; cases r3.intE
    obtain ⟨b1, b2⟩ := inR_ok hi
    obtain ⟨b3, b4⟩ := inR_ok hj
    cases r with
    | cons q1 r =>
      cases r with
      | cons q2 r =>
        cases r with
        | cons q3 r =>
          cases r
          obtain ⟨t, rfl⟩ := q1
          obtain ⟨t2, rfl⟩ := q2
          obtain ⟨t3, rfl⟩ := q3
          obtain ⟨c0, c1, c2, c3⟩ := RgC.neg b1 b2 b3 b4
          exact call_range_3 c0 (k i j (-1) _ _ _ _ _ rfl c2 c3 (.inr rfl)) (.inl (PyProof.noPylong_small c1))
theorem vals_rgc {lo c : Int} {n : Nat} {acc : Array Value} (h : ItemsOf (fun i v => ∃ t, v = .int (lo + i * c) t) acc n) : Vals ((List.range n).map fun (i : Nat) => V.int (lo + (i : Int) * c)) acc.toList := by
  have e : acc.toList.length = n := by rw [Array.length_toList]; exact h.1
  rw [← e]
  refine vals_of_get acc.toList (fun (i : Nat) => V.int (lo + (i : Int) * c)) fun j u hj => ?_
  exact h.2 j u (by rw [← hj, Array.getElem?_toList])
theorem vrs_rgc {rho : List Addr} {H : Hp} {lo c : Int} : ∀ l : List Nat, VRs X.K ga rho H (l.map fun (i : Nat) => D.int (lo + (i : Int) * c)) (l.map fun (i : Nat) => V.int (lo + (i : Int) * c))
  | [] => by simp [VRs]
  | i :: l => by
    simp only [List.map_cons, VRs]
    exact ⟨_, _, rfl, by simp only [VR], vrs_rgc l⟩
theorem srcW_inv {ds : List D} {M M' : Mem} {s : Src} (h : srcW ds M = .ok s M') : M' = M ∧ ((∃ i j, ds = [.int i, .int j] ∧ s = .rng i 1 (j - i).toNat) ∨ srcR ds M = .ok s M') := by
  unfold srcW at h
  split at h
  · cases h; exact ⟨rfl, .inl ⟨_, _, rfl, rfl⟩⟩
  · exact ⟨(srcR_inv h).1, .inr h⟩
theorem srcW_nx {ds : List D} {M M' : Mem} {c : Str} (h : srcW ds M = .ex c M') : False := by
  unfold srcW at h
  split at h
  · cases h
  · exact srcR_nx h
theorem run_rngW {A : Around} {E : Value → Shared → Prop} {Q : Value → Shared → Prop} {rho : List Addr} {H : Hp} {M M' : Mem} {ds : List D} {vs : List V} {us : List Value} {s : Src} {sh : Shared} (h : srcW ds M = .ok s M') (rv : VRs X.K ga rho H ds vs) (r : Vals vs us)
    (k : ∀ (lo hi c : Int) (n : Nat) (t u v : Tok) (tk : Nat), s = .rng lo c n → Builtin.Range.rangeSize lo hi c = n →
      Q (.ref sh.heap.objs.size) { sh with heap := sh.heap.push { cls := .type "range", data := .fields #[.int lo t, .int hi u, .int c v] }, toks := tk }) :
    wpAny (model X.prog X.w) A (call (.type "range") us) Q E sh := by
  rcases (srcW_inv h).2 with ⟨i, j, rfl, rfl⟩ | h2
  · simp only [VRs] at rv
    obtain ⟨v, _, rfl, r1, v2, _, rfl, r2, rfl⟩ := rv
    cases r1.intE; cases r2.intE
    obtain ⟨u, u2, rfl, ⟨t, rfl⟩, ⟨t2, rfl⟩⟩ := vals2 r
    exact call_range_2 (k i j 1 _ _ _ _ _ rfl (rangeSize_nat i j))
  · exact run_rng h2 rv r fun lo hi c n t u v tk e _ e2 _ => k lo hi c n t u v tk e e2
/-- list(range(..)) -/
theorem pe_lrg (ok : OKX S Phi ga W X) {f g : Str} {b : Expr} {r : List Expr} {p p2 p3 pos : Pos} {dA : Env → Ev (List D)} (hf : f = "list") (hg : S.glb f = true) (hb : isBlt (S.G f) = true) (hr : g = "range") (hgr : S.glb g = true) (hbr : isBlt (S.G g) = true)
    (hst : (b :: r).any isStar = false) (ha : PA X (b :: r) (tL X.K ga W dA)) : PE X (.Call (.Name f p) [.Call (.Name g p2) (b :: r) [] p3] [] pos) (tI X.K ga W (fun e => bnd (dA e) fun vs => bnd (srcW vs) unRng)) := by
  subst hf; subst hr
  obtain ⟨l1, l2, l3⟩ := blt_of ok hb
  obtain ⟨t1, t2, t3⟩ := blt_of ok hbr
  refine ⟨fun pins s sg H Q I z => ?_⟩
  refine Call_ (ld_blt I (gl_of ok hg) l1 (u := .type "list") (by decide +kernel) (PyProof.Rows.callWith_type1 ?_ rfl rfl) l3 l2)
  refine args_cons ?_ rfl
  simp only [List.any_cons, Bool.or_eq_false_iff] at hst
  refine Call_ (ld_blt I (gl_of ok hgr) t1 boot_range (PyProof.Rows.callWith_type1 (thn (ha.run _ pins s sg H _ I (tG.one (R := VRs X.K ga) z)) ?_) (star_cons hst.1) (back_plain hst.2)) t3 t2)
  rintro us s1 ⟨vs, H1, I1, r1, rho1, ds, M1, e, at1, rv, z1⟩
  unfold Pf.bnd at z1
  split at z1
  · rename_i src M2 es
    obtain ⟨hM, _⟩ := srcW_inv es
    subst hM
    refine run_rngW es rv r1 fun lo hi c n t u v tk hsrc hsz => ?_
    subst hsrc
    refine args_nil ?_
    have z2 : Op X.K ga rho1 H1 (newl ((List.range n).map fun (i : Nat) => D.int (lo + (i : Int) * c)) M2) Q := RG.op z1 fun c' M' q => nx_newl _ _ _ _ q
    obtain ⟨hz, z3⟩ := z2.newl at1.m (vrs_rgc (List.range n))
    rw [List.length_map, List.length_range, sizeLine_eq] at hz
    have I2 : Inv X pins sg H1 { s1 with heap := s1.heap.push { cls := .type "range", data := .fields #[.int lo t, .int hi u, .int c v] }, toks := tk } := I1.kept fun b o q => Heap.get?_push_of_some _ q
    by_cases hsm : Builtin.Range.small lo hi c = true
    · refine call_list_range (n := n) (I1.ok.hd ok.calm) (IsRange.new s1.heap lo hi c t u v) hsm hsz (by omega) fun h' tk' acc c' hk e' hi' => ?_
      refine ⟨.ref (s1.heap.push _).objs.size, upd H1 _ (.lst _), I2.laid hk (Nat.le_refl _) (show ObjOk X.prog X.w _ _ _ (.lst ((List.range n).map fun (i : Nat) => V.int (lo + (i : Int) * c))) from ⟨?_, acc.toList, c', vals_rgc hi', ?_⟩), rfl, z3 _ (I2.hok.fresh (Nat.le_refl _))⟩
      · rw [List.length_map, List.length_range, sizeLine_eq]; exact hz
      · rw [Array.toArray_toList]; exact e'
    · refine call_list_long (n := n) (I1.ok.hd ok.calm) (IsRange.new s1.heap lo hi c t u v) (Bool.eq_false_iff.mpr hsm) hsz (by omega) fun h' tk' acc c' hk e' hi' => ?_
      refine ⟨.ref (s1.heap.push _).objs.size, upd H1 _ (.lst _), I2.laid hk (Nat.le_refl _) (show ObjOk X.prog X.w _ _ _ (.lst ((List.range n).map fun (i : Nat) => V.int (lo + (i : Int) * c))) from ⟨?_, acc.toList, c', vals_rgc hi', ?_⟩), rfl, z3 _ (I2.hok.fresh (Nat.le_refl _))⟩
      · rw [List.length_map, List.length_range, sizeLine_eq]; exact hz
      · rw [Array.toArray_toList]; exact e'
  · rename_i c M2 es
    exact (srcW_nx es).elim
  · exact z1.elim
theorem pe_trg (ok : OKX S Phi ga W X) {f g : Str} {b : Expr} {r : List Expr} {p p2 p3 pos : Pos} {dA : Env → Ev (List D)} (hf : f = "tuple") (hg : S.glb f = true) (hb : isBlt (S.G f) = true) (hr : g = "range") (hgr : S.glb g = true) (hbr : isBlt (S.G g) = true)
    (hst : (b :: r).any isStar = false) (ha : PA X (b :: r) (tL X.K ga W dA)) : PE X (.Call (.Name f p) [.Call (.Name g p2) (b :: r) [] p3] [] pos) (tI X.K ga W (fun e => bnd (dA e) fun vs => bnd (srcR vs) unTup)) := by
  subst hf; subst hr
  obtain ⟨l1, l2, l3⟩ := blt_of ok hb
  obtain ⟨t1, t2, t3⟩ := blt_of ok hbr
  refine ⟨fun pins s sg H Q I z => ?_⟩
  refine Call_ (ld_blt I (gl_of ok hg) l1 (u := .type "tuple") (by decide +kernel) (PyProof.Rows.callWith_type1 ?_ rfl rfl) l3 l2)
  refine args_cons ?_ rfl
  simp only [List.any_cons, Bool.or_eq_false_iff] at hst
  refine Call_ (ld_blt I (gl_of ok hgr) t1 boot_range (PyProof.Rows.callWith_type1 (thn (ha.run _ pins s sg H _ I (tG.one (R := VRs X.K ga) z)) ?_) (star_cons hst.1) (back_plain hst.2)) t3 t2)
  rintro us s1 ⟨vs, H1, I1, r1, rho1, ds, M1, e, at1, rv, z1⟩
  unfold Pf.bnd at z1
  split at z1
  · rename_i src M2 es
    obtain ⟨hM, _⟩ := srcR_inv es
    subst hM
    refine run_rng es rv r1 fun lo hi c n t u v tk hsrc hsm hsz hcc => ?_
    subst hsrc
    refine args_nil ?_
    have z2 : Op X.K ga rho1 H1 (newt ((List.range n).map fun (i : Nat) => D.int (lo + (i : Int) * c)) M2) Q := RG.op z1 fun c' M' q => nx_newt _ _ _ _ q
    obtain ⟨hz, z3⟩ := z2.newt at1.m (vrs_rgc (List.range n))
    rw [List.length_map, List.length_range, sizeLine_eq] at hz
    have I2 : Inv X pins sg H1 { s1 with heap := s1.heap.push { cls := .type "range", data := .fields #[.int lo t, .int hi u, .int c v] }, toks := tk } := I1.kept fun b o q => Heap.get?_push_of_some _ q
    refine call_tuple_range (n := n) (I1.ok.hd ok.calm) (IsRange.new s1.heap lo hi c t u v) hsm hsz (by omega) fun h' tk' acc hk hi' => ?_
    have I3 : Inv X pins sg H1 { s1 with heap := h', toks := tk' } := I2.kept hk
    exact ⟨.ref h'.objs.size, _, laidT (s := { s1 with heap := h', toks := tk' }) I3 tk' (by rw [List.length_map, List.length_range, sizeLine_eq]; exact hz) (vals_rgc hi'), rfl, z3 _ _ (I3.hok.fresh (Nat.le_refl _)) rfl⟩
  · rename_i c M2 es
    exact (srcR_nx es).elim
  · exact z1.elim
theorem ints_vs {K : PySem.W.Frag} {rho : List Addr} {H : Hp} : ∀ {ds : List D} {ns : List Int} {xs : List V}, intsOf ds = some ns → VRs K ga rho H ds xs → xs = ns.map V.int
  | [], ns, xs, e, r => by
    simp only [intsOf, Option.some.injEq] at e
    subst e
    simp only [VRs] at r
    subst r; rfl
  | d :: ds, ns, xs, e, r => by
    cases d with
    | int i =>
      simp only [intsOf, Option.map_eq_some_iff] at e
      obtain ⟨ns', e, rfl⟩ := e
      simp only [VRs] at r
      obtain ⟨v, r', rfl, h1, h2⟩ := r
      rw [h1.intE, ints_vs e h2]; rfl
    | _ => simp only [intsOf] at e; cases e
def ddp {α : Type} [DecidableEq α] : List α → List α
  | [] => []
  | x :: r => if x ∈ r then ddp r else x :: ddp r
theorem ddp_mem {α : Type} [DecidableEq α] : ∀ {l : List α} {k : α}, k ∈ ddp l ↔ k ∈ l
  | [], k => by simp [ddp]
  | x :: r, k => by
    unfold ddp
    split
    · rename_i h
      rw [ddp_mem, List.mem_cons]
      exact ⟨.inr, fun z => z.elim (fun e => e ▸ h) id⟩
    · rw [List.mem_cons, List.mem_cons, ddp_mem]
theorem ddp_nd {α : Type} [DecidableEq α] : ∀ {l : List α}, (ddp l).Nodup
  | [] => List.nodup_nil
  | x :: r => by
    unfold ddp
    split
    · exact ddp_nd
    · rename_i h
      exact List.nodup_cons.mpr ⟨fun z => h (ddp_mem.mp z), ddp_nd⟩
theorem ddp_len {α : Type} [DecidableEq α] : ∀ {l : List α}, (ddp l).length = dset l
  | [] => rfl
  | x :: r => by
    unfold ddp dset
    split
    · rw [ddp_len]; omega
    · rw [List.length_cons, ddp_len]; omega
theorem dset_len {α : Type} [DecidableEq α] {L ns : List α} (hn : L.Nodup) (hm : ∀ k, k ∈ L ↔ k ∈ ns) : L.length = dset ns := by
  rw [← ddp_len]
  refine (List.Perm.length_eq ?_)
  exact (List.perm_ext_iff_of_nodup hn ddp_nd).mpr fun k => by rw [hm, ddp_mem]
theorem nx_lset (x : D) : Nx (dLSet x) := fun M c M' h => by
  unfold dLSet at h
  split at h
  · split at h
    · split at h <;> cases h
    · cases h
  · split at h
    · split at h
      · split at h <;> cases h
      · cases h
    · cases h
  · cases h
theorem rowsI_vs {rho : List Addr} {H : Hp} : ∀ {ds : List D} {rs : List (List Int)} {xs : List V}, rowsI ds = some rs → VRs X.K ga rho H ds xs → ∃ ks : List (Addr × List Int), xs = ks.map (fun p => V.ref p.1) ∧ (∀ p ∈ ks, SqT X.K H p.1 (p.2.map V.int)) ∧ ks.map (·.2) = rs
  | [], rs, xs, e, r => by
    simp only [rowsI, Option.some.injEq] at e
    simp only [VRs] at r
    subst e; subst r
    exact ⟨[], rfl, by simp, rfl⟩
  | d :: ds, rs, xs, e, r => by
    unfold rowsI at e
    split at e
    · rename_i z; cases z
    · rename_i es r' z
      cases z
      split at e
      · rename_i k hk
        simp only [Option.map_eq_some_iff] at e
        obtain ⟨rs', e1, rfl⟩ := e
        simp only [VRs] at r
        obtain ⟨x, xs', rfl, r1, r2⟩ := r
        obtain ⟨ks, rfl, q1, q2⟩ := rowsI_vs e1 r2
        obtain ⟨q, xv, rfl, hx, rx'⟩ := r1.tupE
        have exv := ints_vs hk rx'
        subst exv
        refine ⟨(q, k) :: ks, rfl, fun p hp => ?_, by rw [List.map_cons, q2]⟩
        rcases List.mem_cons.mp hp with rfl | hp
        · exact hx
        · exact q1 p hp
      · cases e
    · cases e
theorem pe_lset (ok : OKX S Phi ga W X) {f g : Str} {a : Expr} {p p2 p3 pos : Pos} {dA : Env → Ev D} (hf : f = "len") (hg : S.glb f = true) (hb : isBlt (S.G f) = true) (hr : g = "set") (hgr : S.glb g = true) (hbr : isBlt (S.G g) = true)
    (hst : isStar a = false) (ha : PE X a (tI X.K ga W dA)) : PE X (.Call (.Name f p) [.Call (.Name g p2) [a] [] p3] [] pos) (tI X.K ga W (fun e => bnd (dA e) dLSet)) := by
  subst hf; subst hr
  obtain ⟨l1, l2, l3⟩ := blt_of ok hb
  obtain ⟨t1, t2, t3⟩ := blt_of ok hbr
  refine ⟨fun pins s sg H Q I z => ?_⟩
  refine Call_ (ld_blt I (gl_of ok hg) l1 PySem.boot_len (PyProof.Rows.callWith_builtin1 (PyProof.Rows.args_cons ?_ rfl) rfl rfl) l3 l2)
  refine Call_ (ld_blt I (gl_of ok hgr) t1 PyProof.Rows.boot_set (PyProof.Rows.callWith_type1 (PyProof.Rows.args_cons (thn (ha.run pins s sg H _ I (tG.one (R := VR X.K ga) z)) fun v s1 ⟨x, H1, I1, r1, q1⟩ => PyProof.Rows.args_nil ?_) (star_cons hst)) (star_cons hst) rfl) t3 t2)
  obtain ⟨rho1, d, M1, e, at1, rd, z1⟩ := q1
  have z2 : Op X.K ga rho1 H1 (dLSet d M1) Q := RG.op z1 fun c' M' q => nx_lset _ _ _ _ q
  unfold dLSet at z2
  split at z2
  · rename_i ds
    split at z2
    · rename_i ns hns
      split at z2
      · rename_i hle
        obtain ⟨q, xv, rfl, hx, rx'⟩ := rd.tupE
        have exv := ints_vs hns rx'
        subst exv
        cases r1
        obtain ⟨its, r, pl, hz⟩ := I1.tuple hx
        refine call_set_tupI ns (I1.ok.hd ok.calm) pl (by simpa using r.ints) (by unfold scanBound; omega) fun h' tk c hS hc hk => PyProof.Rows.args_nil ?_
        obtain ⟨o, es, ep, t, ho, hex, hd, _, hnd, hmem, hsz, hf, hn, _⟩ := hS
        have I2 : Inv X pins sg H1 { s1 with heap := h', toks := tk } := I1.kept hk
        have hcn : es.size = dset ns := by
          have e1 := dset_len hnd (ns := ns) (fun k => by rw [← hmem k, decide_eq_true_eq])
          rw [← e1, List.length_map, Array.length_toList]
        refine call_len_set ho hex hd hf (by unfold scanBound at hsz; omega) ⟨.int (dset ns : Nat), H1, I2.tok _, ⟨_, by rw [hcn]⟩, z2.here at1.m (by simp only [VR])⟩
      · exact z2.elim
    · exact z2.elim
  · rename_i n
    split at z2
    · rename_i ds hM
      split at z2
      · rename_i rs hrs
        split at z2
        · rename_i hlt
          obtain ⟨l, xv, rfl, hp, hx, rx⟩ := rd.lref at1.m hM
          obtain ⟨ks, rfl, hks, rfl⟩ := rowsI_vs hrs rx
          cases r1
          obtain ⟨its, rv, pl, hz⟩ := I1.list (SqL.of hx)
          rw [List.length_map] at hlt
          refine call_set_tups (P := X.prog) (w := X.w) ks (I1.ok.hd ok.calm) pl.isList (by simpa using refs_of_vals rv) (fun p hp => I1.isT (hks p hp)) hlt (by have := ok.rm.un; omega) fun h' tk L es ep t R g k => PyProof.Rows.args_nil ?_
          obtain ⟨o, ho, hex, hd⟩ := R.ob
          have I2 : Inv X pins sg H1 { s1 with heap := h', toks := tk } := I1.kept k
          have hcn : es.size = dset (ks.map (·.2)) := by
            have e1 := dset_len R.nd (ns := ks.map (·.2)) (fun q => ⟨fun hq => ?_, fun hq => ?_⟩)
            · rw [← e1, List.length_map, SetTR.size (s := { s1 with heap := h', toks := tk }) R]
            · obtain ⟨p, hp, rfl⟩ := List.mem_map.mp hq
              exact List.mem_map_of_mem (List.mem_of_mem_take (g.sub p hp))
            · obtain ⟨p, hp, rfl⟩ := List.mem_map.mp hq
              exact g.all p (by rw [List.take_length]; exact hp)
          have few := R.few
          have sz := SetTR.size (s := { s1 with heap := h', toks := tk }) R
          refine call_len_set ho hex hd (SetTR.fits (s := { s1 with heap := h', toks := tk }) R) (by omega) ⟨.int (dset (ks.map (·.2)) : Nat), H1, I2.tok _, ⟨_, by rw [hcn]⟩, z2.here at1.m (by simp only [VR])⟩
        · exact z2.elim
      · exact z2.elim
    · exact z2.elim
  · exact z2.elim
/-- list(dict(x)) -/
theorem pe_ldic (ok : OKX S Phi ga W X) {f g : Str} {a : Expr} {p p2 p3 pos : Pos} {dA : Env → Ev D} (hf : f = "list") (hg : S.glb f = true) (hb : isBlt (S.G f) = true) (hr : g = "dict") (hgr : S.glb g = true) (hbr : isBlt (S.G g) = true)
    (hst : isStar a = false) (ha : PE X a (tI X.K ga W dA)) : PE X (.Call (.Name f p) [.Call (.Name g p2) [a] [] p3] [] pos) (tI X.K ga W (fun e => bnd (dA e) dDedup)) := by
  subst hf; subst hr
  obtain ⟨l1, l2, l3⟩ := blt_of ok hb
  obtain ⟨t1, t2, t3⟩ := blt_of ok hbr
  refine ⟨fun pins s sg H Q I z => ?_⟩
  refine Call_ (ld_blt I (gl_of ok hg) l1 (u := .type "list") (by decide +kernel) (PyProof.Rows.callWith_type1 (PyProof.Rows.args_cons ?_ rfl) rfl rfl) l3 l2)
  refine Call_ (ld_blt I (gl_of ok hgr) t1 (u := .type "dict") (by decide +kernel) (PyProof.Rows.callWith_type1 (PyProof.Rows.args_cons (thn (ha.run pins s sg H _ I (tG.one (R := VR X.K ga) z)) fun v s1 ⟨x, H1, I1, r1, q1⟩ => PyProof.Rows.args_nil ?_) (star_cons hst)) (star_cons hst) rfl) t3 t2)
  obtain ⟨rho1, d, M1, e, at1, rd, z1⟩ := q1
  have z2 : Op X.K ga rho1 H1 (dDedup d M1) Q := RG.op z1 fun c' M' q => nx_dedup _ _ _ _ q
  unfold dDedup at z2
  split at z2
  · rename_i n
    split at z2
    · rename_i ds hM
      split at z2
      · rename_i prs hprs
        obtain ⟨l, xv, rfl, hp, hx, rx⟩ := rd.lref at1.m hM
        obtain ⟨ps, ts, rfl, q1, q2⟩ := rows_vr hprs rx
        cases r1
        refine call_rows I1 (I1.ok.hd ok.calm) (by have := ok.rm.un; omega) (SqL.of hx) q1 fun h' tk rw r1 hd hz k => PyProof.Rows.args_nil ?_
        obtain ⟨o, es, ep, ho, hex, hdt, he, _, hn⟩ := hd
        have I2 : Inv X pins sg H1 { s1 with heap := h', toks := tk } := I1.kept k
        have q3 := paired_comp (R := fun d (v : List Key × Addr × Value) => RowV X ga rho1 H1 d v.1 v.2.1) (fun a b c f g => by rw [← g.1, ← g.2]; exact f) q2 r1
        have q4 := first_all q3 (acc := []) (xs := []) .nil
        have rv := first_vrs q4
        have hsz := storedAllH_length rw []
        have l1 : es.size = (storedAllH [] rw).length := size_of_entries he
        refine PySem.W.kdl_call (kdl_raw (beq_eq_false_iff_ne.mpr (Nat.ne_of_gt I1.big)) hex hdt) (I2.ok.hd ok.calm) ho (by rw [l1]; simp at hsz; omega) fun h2 tk2 acc' c' kp e it => ?_
        have ea : acc'.toList = ((storedAllH [] rw).map fun x => x.2.1).map Value.ref := by
          have hl : acc'.toList.length = (storedAllH [] rw).length := by rw [Array.length_toList, it.1]; exact l1
          apply List.ext_getElem?
          intro j
          rw [List.getElem?_map, List.getElem?_map]
          cases hj : acc'.toList[j]? with
          | none =>
            have h1 := List.getElem?_eq_none_iff.mp hj
            rw [List.getElem?_eq_none (by omega)]; rfl
          | some v =>
            obtain ⟨en, hen, hv⟩ := it.2 j v (by rw [← Array.getElem?_toList]; exact hj)
            have qe := entry_at he j
            rw [hen] at qe
            cases hb : (storedAllH [] rw)[j]? with
            | none =>
              rw [hb] at qe; cases qe
            | some b =>
              rw [hb] at qe
              have e2 : en = entryOfKey (tupleKind (mixKind X.prog X.w)) b := Option.some.inj qe
              rw [hv, e2]; rfl
        have rvs : Vals (((storedAllH [] rw).map fun x => x.2.1).map V.ref) acc'.toList := by rw [ea]; exact vals_refs _
        have nl := z2.newl at1.m rv
        exact ⟨.ref h'.objs.size, _, I2.laid (t' := tk2) (o := .lst (((storedAllH [] rw).map fun x => x.2.1).map V.ref)) kp (Nat.le_refl _) ⟨nl.1, acc'.toList, c', rvs, by rw [Array.toArray_toList]; exact e⟩, rfl, nl.2 _ (I2.hok.fresh (Nat.le_refl _))⟩
      · exact z2.elim
    · exact z2.elim
  · exact z2.elim
end
end Pf
set_option maxHeartbeats 4000000
/-! Pf: enumerate(a tuple); what a for walks. -/
namespace Pf
open PySem PySem.Spec PyProof.Rows L2
section
open Sem (wp)
open PySem.AutoSeq1 (wpAny_loadPart')
theorem meets_enumT (l : Addr) (items : Array Value) (n : Nat) (dct : Option Addr) (sl : Array (Option Value)) :
    Meets (Builtin.«enumerate.__new__» ⟨[.type "enumerate", .ref l], []⟩) (fun _ R s => s.heap.get? l = some { cls := .type "tuple", dict := dct, data := .seq items n, slots := sl } ∧
      R (.ok (.ret (.ref (s.heap.push { cls := .type "tuple_iterator", data := .fields #[.ref l, .int 0 0] }).objs.size)))
        { s with heap := (s.heap.push { cls := .type "tuple_iterator", data := .fields #[.ref l, .int 0 0] }).push { cls := .type "enumerate", data := .fields #[.none, .bool false, .ref s.heap.objs.size, rawInt 0, .none, .none] } }) := by
  refine Meets.of_wp fun prog w A R s h => ?_
  obtain ⟨hp, g, d, tk, os⟩ := s
  obtain ⟨hl, h⟩ := h
  have hsub := sub_enumerate
  have hT : Heap.IsTuple (Shared.heap ⟨hp, g, d, tk, os⟩) l items := ⟨_, hl, rfl, n, rfl⟩
  wp_walk using wpAny_loadPart' hl
  refine wpAny_stack_any fun st => wpAny_pure ?_
  split
  · rename_i c _ _ _ _ _
    cases (c == Value.type "enumerate")
    · wp_walk using wpAny_loadPart' hl, wpAny_pyIter_tuple hT
      exact ⟨_, rfl, h⟩
    · wp_walk using wpAny_loadPart' hl, wpAny_pyIter_tuple hT
      exact ⟨_, rfl, h⟩
  · wp_walk using wpAny_loadPart' hl, wpAny_pyIter_tuple hT
    exact ⟨_, rfl, h⟩
end
section
variable {prog : Program} {w : World} {A : Around} {E : Value → Shared → Prop} {s : Shared}
theorem call_enumT {l : Addr} {items : Array Value} {Q : Value → Shared → Prop} (hL : IsTup s.heap l items)
    (h : ∀ h', IsEnum h' (s.heap.objs.size + 1) s.heap.objs.size 0 .none → h'.IsTupleIter s.heap.objs.size l 0 → (∀ b o, s.heap.get? b = some o → h'.get? b = some o) → Q (.ref (s.heap.objs.size + 1)) { s with heap := h' }) :
    wpAny (model prog w) A (call (.type "enumerate") [.ref l]) Q E s := by
  obtain ⟨⟨c, dct, dt, sl⟩, hl, hc, n, hd⟩ := hL
  simp only at hc hd
  subst hc; subst hd
  refine callType_new F.called_enumerate (by decide) (F.typeCall_enumerate_1 _) (F.newCall_enumerate_1 _) (fun obj => F.args_object_init_2 obj _) F.entry_enumerate_new (meets_enumT l items n dct sl) ⟨hl, ?_⟩
  have hz : (s.heap.push { cls := .type "tuple_iterator", data := .fields #[.ref l, .int 0 0] }).objs.size = s.heap.objs.size + 1 := Heap.size_push ..
  show _ ∧ _
  rw [hz]
  have q := Heap.get?_push_size (s.heap.push { cls := .type "tuple_iterator", data := .fields #[.ref l, .int 0 0] }) (o := { cls := .type "enumerate", data := .fields #[.none, .bool false, .ref s.heap.objs.size, rawInt 0, .none, .none] }) rfl
  rw [hz] at q
  exact ⟨⟨_, q, rfl⟩, h _ q ⟨_, Heap.get?_push_of_some _ (Heap.get?_push_size _ rfl), rfl, rfl⟩ fun b o x => Heap.get?_push_of_some _ (Heap.get?_push_of_some _ x)⟩
theorem drawsT (hh : A.handled = none) (it l : Addr) (hne : l ≠ it) (items : Array Value) :
    Draws prog w A it [it, l] items.size (fun i v => items[i]? = some v) (fun i h => h.IsTupleIter it l i ∧ h.IsTuple l items) where
  live := fun _ _ st => let ⟨o, ho, _⟩ := st.1; ⟨o, ho⟩
  frame := fun _ _ _ st hk => ⟨st.1.at fun o e => hk it (by simp) o e, st.2.at fun o e => hk l (by simp) o e⟩
  item := fun i s Q E hi st hQ => by
    refine RZ.nextOf_tuple_item st.1 st.2 (x := items[i]) (by simp [hi]) fun h' hit' hs' => ?_
    exact hQ _ h' s.toks (by simp [hi]) ⟨hit', st.2.extBut hs'.extBut hne⟩ hs'
  done := fun s Q E st hE => RZ.nextOf_tuple_end hh st.1 st.2 (by simp) hE
end
theorem turn_enumT {P : Program} {w : World} {K : PySem.W.Frag} {elts : List Expr} {kk : Nat} {tpos : Pos} (a e it : Addr) :
    Turn P w K (.Tuple elts kk tpos) (IteT K a) [e, it] e (fun i h => (∃ old, IsEnum h e it ((i : Nat) : Int) old) ∧ h.IsTupleIter it a i ∧ e ≠ it ∧ a ≠ it ∧ a ≠ e) where
  mem := by simp
  obj := fun i h st b hb => by
    obtain ⟨⟨old, he⟩, ⟨o, ho, hc, hd⟩, _⟩ := st
    have e' : b = e ∨ b = it := by simpa using hb
    rcases e' with rfl | rfl
    · exact ⟨_, he, fun v q => nomatch q⟩
    · exact ⟨o, ho, fun v q => by rw [hd] at q; cases q⟩
  keep := fun i h h' st k => let ⟨⟨old, he⟩, hi, hne⟩ := st; ⟨⟨old, k e (by simp) _ he⟩, hi.at fun o q => k it (by simp) o q, hne⟩
  item := by
    intro X hP hw hK hc i pins s sg H E I hf st hg
    subst hP hw hK
    obtain ⟨⟨old, he⟩, hit, hne, na, nae⟩ := st
    obtain ⟨xs, x, hq, hx⟩ := hg
    obtain ⟨its, rv, p, hz⟩ := I.tuple hq
    obtain ⟨u, hu, ru⟩ := rv.get hx
    have hel : e < s.heap.objs.size := Heap.lt_size he
    have hil : it < s.heap.objs.size := by obtain ⟨_, q, _⟩ := hit; exact Heap.lt_size q
    have hil' : i < its.toArray.size := by
      have := (List.getElem?_eq_some_iff.mp hu).1
      simpa using this
    refine wpAny_pyNext_enum_itemD (drawsT (A := X.A.in1) (I.ok.hd hc) it a na its.toArray) he ⟨hit, p⟩ hil' hne (by simp [hne, Ne.symm nae]) fun y h' tk hy ho hst hT hsz hk => ?_
    have ey : y = u := by
      have q : its.toArray[i]? = some u := by simpa using hu
      rw [hy] at q; exact Option.some.inj q
    subst ey
    refine ⟨_, rfl, wpAny_letOwnedTupleGo_enum (s := { s with heap := h', toks := tk + 1 }) ho fun h'' he' sb => ?_⟩
    have hT2 : h''.get? s.heap.objs.size = some { cls := .type "tuple", data := .seq #[.int i tk, y] } := (sb.2 _ (Nat.ne_of_gt hel)).trans hT
    have new : ObjOk X.prog X.w (upd H s.heap.objs.size (.tup [.int (i : Nat), x])) h'' s.heap.objs.size (.tup [.int (i : Nat), x]) :=
      ⟨by show 2 ≤ sizeLine; decide, [.int i tk, y], .cons ⟨_, rfl⟩ (.cons ru .nil), ⟨_, hT2, rfl, _, rfl⟩⟩
    have I1 : Inv X pins sg (upd H s.heap.objs.size (.tup [.int (i : Nat), x])) { s with heap := h'', toks := tk + 1 } :=
      I.turnedNew (ch := [e, it]) (fun b ob hb q => (sb.2 b (fun z => hb (by simp [z]))).trans (hk b ob (fun z => hb (by simp [z])) (fun z => hb (by simp [z])) q)) hf (Nat.le_refl _) new
    refine ⟨.ref s.heap.objs.size, _, I1, rfl, ⟨_, x, rfl, I.hok.fresh (Nat.le_refl _), rfl, fun ys hy' => by rw [I.tuple_inj hy' hq]; exact hx⟩, ⟨⟨y, ?_⟩, hst.1.at fun o q => (sb.2 it (Ne.symm hne)).trans q, hne, na, nae⟩, fun b hb => ?_⟩
    · have e1 : ((i + 1 : Nat) : Int) = (i : Int) + 1 := by omega
      rw [e1]; exact he'
    · have hb' : b < s.heap.objs.size := by
        have e' : b = e ∨ b = it := by simpa using hb
        rcases e' with rfl | rfl
        · exact hel
        · exact hil
      rw [upd_ne (Nat.ne_of_lt hb')]
      exact (hf b hb).1
  done := by
    intro X hP hw hK hc i pins s sg H E I hf st hg
    subst hP hw hK
    obtain ⟨⟨old, he⟩, hit, hne, na, nae⟩ := st
    obtain ⟨xs, hq, hx⟩ := hg
    obtain ⟨its, rv, p, hz⟩ := I.tuple hq
    obtain ⟨f0, f1, f2, f3, f4, f5⟩ := hf it (by simp)
    have hl : i = its.toArray.size := by rw [List.size_toArray, ← rv.length, hx]
    subst hl
    exact wpAny_pyNext_enum_endD (drawsT (A := X.A.in1) (I.ok.hd hc) it a na its.toArray) he ⟨hit, p⟩ fun h' eb => ⟨rfl, I.turned (t' := s.toks) (fun b o hb q => eb b o hb q) f0 f1 f3 f4 f5⟩
  self := fun A i s Q E st h => let ⟨⟨_, he⟩, _⟩ := st; wpAny_pyIter_enum he h
section
variable {X : Cx} {S : SI} {Phi : Tab} {ga : Str → Addr} {W : WX}
theorem pi_ent {e : Expr} {ta : TA} {p pos tpos : Pos} {elts : List Expr} {kk : Nat} (hg : Gl X "enumerate") (hm : X.mg "enumerate" = none) (ha : PA X [e] ta) (hs : starEach [e] X.env = (false, eval e X.env) :: starEach [] X.env) :
    PI X (.Tuple elts kk tpos) (.Call (.Name "enumerate" p) [e] [] pos) (fun sg H R => ta sg H fun vs H1 => ∃ a xs, vs = [.ref a] ∧ SqT X.K H1 a xs ∧ R (IteT X.K a) H1) := by
  refine ⟨fun pins s sg H R I h => ?_⟩
  refine Call_ (ld_blt I hg hm boot_enumerate (PyProof.Rows.callWith_type1 (thn (ha.run pos pins s sg H _ I h) fun us s1 ⟨vs, H1, I1, r1, q1⟩ => ?_) hs rfl))
  obtain ⟨a, xs, ex, hq, q⟩ := q1
  subst ex
  obtain ⟨u, rfl, r⟩ := vals1 r1
  cases r
  obtain ⟨its, rv, p', hz⟩ := I1.tuple hq
  refine call_enumT p' fun h' he hit hk => wpAny_pyIter_enum he ?_
  have I2 : Inv X pins sg H1 { s1 with heap := h' } := I1.kept (t' := s1.toks) hk
  have ha' : a < s1.heap.objs.size := by obtain ⟨o, e1, _⟩ := p'; exact Heap.lt_size e1
  refine ⟨s1.heap.objs.size + 1, [s1.heap.objs.size + 1, s1.heap.objs.size], _, _, H1, rfl, I2, turn_enumT a (s1.heap.objs.size + 1) s1.heap.objs.size, ⟨⟨.none, he⟩, hit, Nat.succ_ne_self _, Nat.ne_of_lt ha', Nat.ne_of_lt (Nat.lt_succ_of_lt ha')⟩, fun b hb => ?_, q⟩
  have e' : b = s1.heap.objs.size + 1 ∨ b = s1.heap.objs.size := by simpa using hb
  have hle : s1.heap.objs.size ≤ b := by
    rcases e' with rfl | rfl
    · exact Nat.le_add_right _ _
    · exact Nat.le_refl _
  exact I1.fpOk hle (I1.hok.fresh hle)
/-- the value of an expression, walked -/
theorem pi_val (it tg : Expr) {dE : Env → Ev D} (he : PE X it (tI X.K ga W dE)) : PI X tg it (tG X.K ga W (RSrc X.K ga) (fun e => bnd (dE e) srcOf)) := by
  refine ⟨fun pins s sg H R I h => ?_⟩
  refine thn (he.run pins s sg H _ I (tG.one (R := VR X.K ga) h)) ?_
  rintro v s1 ⟨x, H1, I1, r1, rho1, d, M1, e, at1, rd, z⟩
  unfold srcOf at z
  split at z
  · rename_i n
    split at z
    · rename_i ds e1
      obtain ⟨p, xv, rfl, hp, hx, rx'⟩ := rd.lref at1.m e1
      cases r1
      obtain ⟨its, rv, pl, hz⟩ := I1.list (SqL.of (K := X.K) hx)
      exact wpAny_pyIter_list pl.isList (pi_one (tk := s1.toks) I1 _ (turn_list p _) ⟨_, Heap.get?_push_size _ rfl, rfl, rfl⟩ (z rho1 H1 _ .refl at1.m ⟨p, hp, rfl⟩))
    · exact z.elim
  · rename_i ds
    obtain ⟨p, xv, rfl, hx, rx'⟩ := rd.tupE
    cases r1
    obtain ⟨its, rv, pl, hz⟩ := I1.tuple hx
    exact wpAny_pyIter_tuple (show s1.heap.IsTuple p its.toArray from pl) (pi_one (tk := s1.toks) I1 _ (turn_tuple p _) ⟨_, Heap.get?_push_size _ rfl, rfl, rfl⟩ (z rho1 H1 _ .refl at1.m ⟨p, xv, hx, rx', rfl⟩))
  · rename_i ds
    simp only [VR] at rd
    obtain ⟨p, xv, rfl, hx, rx'⟩ := rd
    cases r1
    obtain ⟨its, rv, pl, hz⟩ := I1.list (stS hx)
    exact wpAny_pyIter_list pl.isList (pi_one (tk := s1.toks) I1 _ (turn_list p _) ⟨_, Heap.get?_push_size _ rfl, rfl, rfl⟩ (z rho1 H1 _ .refl at1.m ⟨p, xv, hx, rx', rfl⟩))
  · rename_i x
    simp only [VR] at rd
    subst rd
    obtain ⟨t, rfl⟩ := r1
    cases ha : x.cps.all (· < 128)
    · exact wpAny_pyIter_wide ha (pi_one (tk := s1.toks) I1 _ (turn_str _ x t "str_iterator" (.inr rfl)) ⟨_, Heap.get?_push_size _ rfl, rfl, rfl⟩ (z rho1 H1 _ .refl at1.m rfl))
    · exact wpAny_pyIter_ascii ha (pi_one (tk := s1.toks) I1 _ (turn_str _ x t "str_ascii_iterator" (.inl rfl)) ⟨_, Heap.get?_push_size _ rfl, rfl, rfl⟩ (z rho1 H1 _ .refl at1.m rfl))
  · exact z.elim
/-! ranges whose ends are too big for a word -/
def atLong (it : Addr) (lo c : Int) (n : Nat) : Nat → Heap → Prop := fun i h => IsLongIter h it (lo + (i : Nat) * c) ((n : Int) - (i : Nat)) c
theorem turnLong {P : Program} {w : World} {K : PySem.W.Frag} {tg : Expr} (it : Addr) (lo c : Int) (n : Nat) : Turn P w K tg (Itc lo c n) [it] it (atLong it lo c n) where
  mem := List.mem_singleton.mpr rfl
  obj := fun _ _ there b hb => by
    rw [List.mem_singleton] at hb
    rw [hb]
    exact ⟨_, there, fun _ z => nomatch z⟩
  keep := fun _ _ _ there k => k it (List.mem_singleton.mpr rfl) _ there
  item := by
    intro X eP eW eK calm i pins s sg H E I free there more
    subst eP eW eK
    obtain ⟨a0, a1, a2, a3, a4, a5⟩ := free it (List.mem_singleton.mpr rfl)
    refine (Walks.longrange (prog := X.prog) (w := X.w) (I.ok.hd calm) it lo c n).item i s _ _ more there fun v h' tk hv there' old => ?_
    obtain ⟨t, rfl⟩ := hv
    have I1 : Inv X pins sg H { s with heap := h', toks := tk } := I.turned (fun b o nb e => old b o (by simpa using nb) e) a0 a1 a3 a4 a5
    have rel : RelV (.int (lo + (i : Nat) * c)) (Value.int (lo + (i : Nat) * c) t) := ⟨t, rfl⟩
    exact ⟨_, rfl, go_of (n := "longrange_iterator") (s := { s with heap := h', toks := tk }) there' rfl rfl (by decide) ⟨_, H, I1, rel, ⟨rfl, rfl⟩, there', fun b nb => (free b nb).1⟩⟩
  done := by
    intro X eP eW eK calm i pins s sg H E I free there over
    subst eP eW eK
    obtain ⟨a0, a1, a2, a3, a4, a5⟩ := free it (List.mem_singleton.mpr rfl)
    have le : n ≤ i := over
    exact wpAny_pyNext_long_end (I.ok.hd calm) there (by omega) fun h' ex => ⟨rfl, I.turned (t' := s.toks) (fun b o nb e => ex b o nb e) a0 a1 a3 a4 a5⟩
  self := fun _ _ _ _ _ there h => wpAny_pyIter_longiter there h
/-- range(..), walked -/
theorem pi_rng (ok : OKX S Phi ga W X) (tg : Expr) {f : Str} {a : Expr} {r : List Expr} {p pos : Pos} {dA : Env → Ev (List D)} (hf : f = "range") (hg : S.glb f = true) (hb : isBlt (S.G f) = true) (hst : (a :: r).any isStar = false) (ha : PA X (a :: r) (tL X.K ga W dA)) :
    PI X tg (.Call (.Name f p) (a :: r) [] pos) (tG X.K ga W (RSrc X.K ga) (fun e => bnd (dA e) srcW)) := by
  subst hf
  obtain ⟨t1, t2, t3⟩ := blt_of ok hb
  simp only [List.any_cons, Bool.or_eq_false_iff] at hst
  refine ⟨fun pins s sg H R I h => ?_⟩
  refine Call_ (ld_blt I (gl_of ok hg) t1 boot_range (PyProof.Rows.callWith_type1 (thn (ha.run _ pins s sg H _ I (tG.one (R := VRs X.K ga) h)) ?_) (star_cons hst.1) (back_plain hst.2)) t3 t2)
  rintro us s1 ⟨vs, H1, I1, r1, rho1, ds, M1, e, at1, rv, z⟩
  cases es : srcW ds M1 with
  | no => rw [es] at z; exact z.elim
  | ex c M2 => exact (srcW_nx es).elim
  | ok src M2 =>
    rw [es] at z
    obtain ⟨hM, _⟩ := srcW_inv es
    subst hM
    refine run_rngW es rv r1 fun lo hi c n t u v tk hsrc hsz => ?_
    subst hsrc
    have I2 : Inv X pins sg H1 { s1 with heap := s1.heap.push { cls := .type "range", data := .fields #[.int lo t, .int hi u, .int c v] }, toks := tk } := I1.kept fun b o q => Heap.get?_push_of_some _ q
    have e1 : lo + ((0 : Nat) : Int) * c = lo := by simp
    have e2 : (n : Int) - ((0 : Nat) : Int) = Builtin.Range.rangeSize lo hi c := by rw [hsz]; simp
    by_cases hsm : Builtin.Range.small lo hi c = true
    · refine wpAny_pyIter_range (IsRange.new ..) hsm ?_
      refine pi_one (tk := tk) I2 _ (turn_rangeC _ lo c n) ?_ (z rho1 H1 _ .refl at1.m rfl)
      show IsRangeIter _ _ (lo + ((0 : Nat) : Int) * c) ((n : Int) - ((0 : Nat) : Int)) c
      rw [e1, e2]
      exact Heap.get?_push_size _ rfl
    · refine wpAny_pyIter_longrange (IsRange.new ..) (Bool.eq_false_iff.mpr hsm) ?_
      refine pi_one (tk := tk) I2 _ (turnLong _ lo c n) ?_ (z rho1 H1 _ .refl at1.m rfl)
      show IsLongIter _ _ (lo + ((0 : Nat) : Int) * c) ((n : Int) - ((0 : Nat) : Int)) c
      rw [e1, e2]
      exact Heap.get?_push_size _ rfl
/-- enumerate(..), walked -/
theorem pi_enm (ok : OKX S Phi ga W X) {f : Str} {a : Expr} {p pos tpos : Pos} {elts : List Expr} {kk : Nat} {dA : Env → Ev (List D)} (hf : f = "enumerate") (hg : S.glb f = true) (hb : isBlt (S.G f) = true) (hst : isStar a = false) (ha : PA X [a] (tL X.K ga W dA)) :
    PI X (.Tuple elts kk tpos) (.Call (.Name f p) [a] [] pos) (tG X.K ga W (RSrc X.K ga) (fun e => bnd (dA e) srcE)) := by
  subst hf
  obtain ⟨t1, t2, t3⟩ := blt_of ok hb
  refine ⟨fun pins s sg H R I h => ?_⟩
  refine Call_ (ld_blt I (gl_of ok hg) t1 boot_enumerate (PyProof.Rows.callWith_type1 (thn (ha.run _ pins s sg H _ I (tG.one (R := VRs X.K ga) h)) ?_) (star_cons hst) rfl) t3 t2)
  rintro us s1 ⟨vs, H1, I1, r1, rho1, ds, M1, e, at1, rv, z⟩
  have fr : ∀ b, (b = s1.heap.objs.size + 1 ∨ b = s1.heap.objs.size) → FpOk X pins H1 b := fun b hb => by
    have hle : s1.heap.objs.size ≤ b := by
      rcases hb with rfl | rfl
      · exact Nat.le_add_right _ _
      · exact Nat.le_refl _
    exact I1.fpOk hle (I1.hok.fresh hle)
  unfold srcE at z
  split at z
  · rename_i n
    split at z
    · rename_i es e1
      simp only [VRs] at rv
      obtain ⟨v, _, rfl, rd, rfl⟩ := rv
      obtain ⟨q, xv, rfl, hp, hx, rx'⟩ := rd.lref at1.m e1
      obtain ⟨u, rfl, r⟩ := vals1 r1
      cases r
      obtain ⟨its, rv, p', hz⟩ := I1.list (SqL.of (K := X.K) hx)
      refine call_enumerate_list p'.isList fun h' he hit hsz hk => wpAny_pyIter_enum he ?_
      have I2 : Inv X pins sg H1 { s1 with heap := h' } := I1.kept (t' := s1.toks) hk
      exact ⟨s1.heap.objs.size + 1, [s1.heap.objs.size + 1, s1.heap.objs.size], _, _, H1, rfl, I2, turn_enum q (s1.heap.objs.size + 1) s1.heap.objs.size, ⟨⟨.none, he⟩, hit, Nat.succ_ne_self _⟩, fun b hb => fr b (by simpa using hb), z rho1 H1 _ .refl at1.m ⟨q, hp, rfl⟩⟩
    · exact z.elim
  · rename_i es
    simp only [VRs] at rv
    obtain ⟨v, _, rfl, rd, rfl⟩ := rv
    obtain ⟨q, xv, rfl, hx, rx'⟩ := rd.tupE
    obtain ⟨u, rfl, r⟩ := vals1 r1
    cases r
    obtain ⟨its, rv, p', hz⟩ := I1.tuple hx
    refine call_enumT p' fun h' he hit hk => wpAny_pyIter_enum he ?_
    have I2 : Inv X pins sg H1 { s1 with heap := h' } := I1.kept (t' := s1.toks) hk
    have ha' : q < s1.heap.objs.size := by obtain ⟨o, e1, _⟩ := p'; exact Heap.lt_size e1
    exact ⟨s1.heap.objs.size + 1, [s1.heap.objs.size + 1, s1.heap.objs.size], _, _, H1, rfl, I2, turn_enumT q (s1.heap.objs.size + 1) s1.heap.objs.size, ⟨⟨.none, he⟩, hit, Nat.succ_ne_self _, Nat.ne_of_lt ha', Nat.ne_of_lt (Nat.lt_succ_of_lt ha')⟩, fun b hb => fr b (by simpa using hb), z rho1 H1 _ .refl at1.m ⟨q, xv, hx, rx', rfl⟩⟩
  · exact z.elim
/-- zip(..), walked -/
theorem pi_zip2 (ok : OKX S Phi ga W X) {f : Str} {a b : Expr} {p pos tpos : Pos} {elts : List Expr} {kk : Nat} {dA : Env → Ev (List D)} (hf : f = "zip") (hg : S.glb f = true) (hb : isBlt (S.G f) = true) (hst : isStar a = false) (hst2 : isStar b = false) (ha : PA X [a, b] (tL X.K ga W dA)) :
    PI X (.Tuple elts kk tpos) (.Call (.Name f p) [a, b] [] pos) (tG X.K ga W (RSrc X.K ga) (fun e => bnd (dA e) srcZ)) := by
  subst hf
  obtain ⟨t1, t2, t3⟩ := blt_of ok hb
  refine PI.imp (pi_zipM (gl_of ok hg) t1 ha (star_cons hst) (by rw [star_cons hst2]; rfl)) fun sg H R z => ?_
  refine (tG.one (R := VRs X.K ga) z).mono ?_
  rintro vs H1 ⟨rho1, ds, M1, e, at1, rv, z⟩
  unfold srcZ at z
  split at z
  · rename_i n k
    split at z
    · rename_i xs ys e1 e2
      simp only [VRs] at rv
      obtain ⟨v, _, rfl, r1, v2, _, rfl, r2, rfl⟩ := rv
      obtain ⟨q1, xv, rfl, hp1, hx1, _⟩ := r1.lref at1.m e1
      obtain ⟨q2, yv, rfl, hp2, hx2, _⟩ := r2.lref at1.m e2
      exact ⟨q1, q2, xv, yv, rfl, .inl ⟨SqL.of hx1, SqL.of hx2, z rho1 H1 _ .refl at1.m ⟨q1, q2, hp1, hp2, rfl⟩⟩⟩
    · exact z.elim
  · rename_i xs ys
    simp only [VRs] at rv
    obtain ⟨v, _, rfl, r1, v2, _, rfl, r2, rfl⟩ := rv
    obtain ⟨q1, xv, rfl, hx1, rx1⟩ := r1.tupE
    obtain ⟨q2, yv, rfl, hx2, rx2⟩ := r2.tupE
    exact ⟨q1, q2, xv, yv, rfl, .inr (.inl ⟨hx1, hx2, z rho1 H1 _ .refl at1.m ⟨q1, q2, xv, yv, hx1, hx2, rx1, rx2, rfl⟩⟩)⟩
  · rename_i n ys
    split at z
    · rename_i xs e1
      simp only [VRs] at rv
      obtain ⟨v, _, rfl, r1, v2, _, rfl, r2, rfl⟩ := rv
      obtain ⟨q1, xv, rfl, hp1, hx1, _⟩ := r1.lref at1.m e1
      obtain ⟨q2, yv, rfl, hx2, rx2⟩ := r2.tupE
      exact ⟨q1, q2, xv, yv, rfl, .inr (.inr ⟨SqL.of hx1, hx2, z rho1 H1 _ .refl at1.m ⟨q1, q2, yv, hp1, hx2, rx2, rfl⟩⟩)⟩
    · exact z.elim
  · exact z.elim
/-- enumerate(zip(..)), walked -/
theorem pi_enz2 (ok : OKX S Phi ga W X) {f f2 : Str} {a b : Expr} {p p2 pos pos2 tpos : Pos} {elts : List Expr} {kk : Nat} {dA : Env → Ev (List D)} (hf : f = "enumerate") (hf2 : f2 = "zip") (hg : S.glb f = true) (hb : isBlt (S.G f) = true) (hg2 : S.glb f2 = true) (hb2 : isBlt (S.G f2) = true) (hst : isStar a = false) (hst2 : isStar b = false) (ha : PA X [a, b] (tL X.K ga W dA)) :
    PI X (.Tuple elts kk tpos) (.Call (.Name f p) [.Call (.Name f2 p2) [a, b] [] pos2] [] pos) (tG X.K ga W (RSrc X.K ga) (fun e => bnd (dA e) srcEZ)) := by
  subst hf; subst hf2
  obtain ⟨t1, t2, t3⟩ := blt_of ok hb
  obtain ⟨u1, u2, u3⟩ := blt_of ok hb2
  refine PI.imp (pi_enz (gl_of ok hg2) u1 (gl_of ok hg) t1 ha (star_cons hst) (by rw [star_cons hst2]; rfl)) fun sg H R z => ?_
  refine (tG.one (R := VRs X.K ga) z).mono ?_
  rintro vs H1 ⟨rho1, ds, M1, e, at1, rv, z⟩
  unfold srcEZ at z
  split at z
  · rename_i n k
    split at z
    · rename_i xs ys e1 e2
      simp only [VRs] at rv
      obtain ⟨v, _, rfl, r1, v2, _, rfl, r2, rfl⟩ := rv
      obtain ⟨q1, xv, rfl, hp1, hx1, _⟩ := r1.lref at1.m e1
      obtain ⟨q2, yv, rfl, hp2, hx2, _⟩ := r2.lref at1.m e2
      exact ⟨q1, q2, xv, yv, rfl, SqL.of hx1, SqL.of hx2, z rho1 H1 _ .refl at1.m ⟨q1, q2, hp1, hp2, rfl⟩⟩
    · exact z.elim
  · exact z.elim
end
end Pf
set_option maxHeartbeats 4000000
/-! Pf: every expression. -/
namespace Pf
open PySem PySem.Spec PyProof.Rows L2
section
variable {X : Cx} {S : SI} {Phi : Tab} {ga : Str → Addr} {W : WX}
theorem chk_ok {x : D} {M M' : Mem} {u : Unit} (h : chkL x M = .ok u M') : M' = M ∧ ∃ n ds, x = .ref n ∧ M[n]? = some (.lst ds) := by
  unfold chkL at h
  split at h
  · split at h
    · rename_i e; cases h; exact ⟨rfl, _, _, rfl, e⟩
    · cases h
  · cases h
theorem chk_nx {x : D} {M M' : Mem} {c : Str} (h : chkL x M = .ex c M') : False := by
  unfold chkL at h
  split at h
  · split at h <;> cases h
  · cases h
theorem ty_list {rho : List Addr} {H : Hp} {M M' : Mem} {u : Unit} {a : D} {x : V} (h : chkL a M = .ok u M') (m : MR X.K ga rho H M) (r : VR X.K ga rho H a x) : tyV X.K "list" x H := by
  obtain ⟨_, n, ds, rfl, e⟩ := chk_ok h
  obtain ⟨p, xs, rfl, _, hx, _⟩ := r.lref m e
  exact .inl ⟨rfl, xs, SqL.of hx⟩
theorem m1_rule (hu : X.A.units + 65 < cLine) {m : Str} {h : D → D → Ev D} (e : meth1 m = some h) : ∃ id, Slot "list" m id ∧ typeOf (.builtin id) = pure (.type "method_descriptor") ∧ MtR X id (m1 X.K ga h) ∧ ∀ x y, Nx (h x y) := by
  unfold meth1 at e
  split at e
  · rename_i q; cases e; have q' := eq_of_beq q; subst q'
    exact ⟨_, PySem.F.slot_list_append, PySem.F.type_list_append, mAppendR, fun x y M c M' z => by
      unfold mAppend at z
      split at z
      · split at z
        · split at z <;> cases z
        · cases z
      · cases z⟩
  · split at e
    · rename_i q; cases e; have q' := eq_of_beq q; subst q'
      exact ⟨_, PySem.F.slot_list_extend, PySem.F.type_list_extend, mExtendR, fun x y M c M' z => by
        unfold mExtend at z
        split at z
        · split at z
          · split at z <;> cases z
          · cases z
        · cases z⟩
    · split at e
      · rename_i q; cases e; have q' := eq_of_beq q; subst q'
        exact ⟨_, PySem.F.slot_list_pop, PySem.F.type_list_pop, mPopAtR, fun x y M c M' z => by
          unfold mPopAt at z
          split at z
          · split at z
            · split at z
              · split at z
                · split at z <;> cases z
                · cases z
              · cases z
            · cases z
          · cases z⟩
      · split at e
        · rename_i q; cases e; have q' := eq_of_beq q; subst q'
          exact ⟨_, PySem.F.slot_list_index, PySem.F.type_list_index, mIndexR hu, fun x y M c M' z => by
            unfold mIndex at z
            split at z
            · split at z
              · split at z <;> cases z
              · cases z
            · cases z⟩
        · split at e
          · rename_i q; cases e; have q' := eq_of_beq q; subst q'
            exact ⟨_, PySem.F.slot_list_count, PySem.F.type_list_count, mCountR hu, fun x y M c M' z => by
              unfold mCount at z
              split at z
              · split at z <;> cases z
              · cases z⟩
          · cases e
theorem pe_m1 {o a : Expr} {m : Str} {h : D → D → Ev D} {dO dA : Env → Ev D} {apos pos : Pos} (hu : X.A.units + 65 < cLine) (hl : (apos.endLine == pos.line) = true) (e : meth1 m = some h) (hc : isCall0 o = false) (hs : isStar a = false) (ho : PE X o (tI X.K ga W dO)) (ha : PE X a (tI X.K ga W dA)) :
    PE X (.Call (.Attribute o m apos) [a] [] pos) (tI X.K ga W (fun e => bnd (dO e) fun x => bnd (chkL x) fun _ => bnd (dA e) fun y => h x y)) := by
  obtain ⟨id, hsl, hty, hm, hn⟩ := m1_rule (X := X) (ga := ga) hu e
  refine PE.imp (pe_bm PySem.F.plainAttrs_list hsl hty hm ho (pa1 hs ha) (attr_plain hc) (by rw [star_cons hs]; rfl) hl (star_cons hs) rfl) fun sg H Q z => ?_
  refine (tG.one (R := VR X.K ga) z).mono ?_
  rintro x H1 ⟨rho1, d, M1, e, at1, rd, z1⟩
  cases ec : chkL d M1 with
  | no => unfold Pf.bnd at z1; rw [ec] at z1; exact z1.elim
  | ex c M' => exact (chk_nx ec).elim
  | ok u M' =>
    have hty := ty_list ec at1.m rd
    obtain ⟨eM, _⟩ := chk_ok ec
    subst eM
    have z2 : RG X.K ga W e.length (VR X.K ga) rho1 H1 (bnd (dA e) (fun y => h d y) M') Q := by
      unfold Pf.bnd at z1; rw [ec] at z1; exact z1
    refine ⟨hty, (At.nxt (R2 := VR X.K ga) at1 z2).mono ?_⟩
    rintro y H2 ⟨rho2, d2, M2, x2, at2, rd2, z3⟩
    exact ⟨y, rfl, rho2, M2, d, d2, at2.m, rd.ext x2, rd2, z3.op (fun c M' q => hn d d2 M2 c M' q)⟩
theorem vrs_strs {rho : List Addr} {H : Hp} : ∀ ys : List Str, VRs X.K ga rho H (ys.map D.str) (ys.map V.str)
  | [] => by simp only [List.map_nil, VRs]
  | y :: ys => by
    simp only [List.map_cons, VRs]
    exact ⟨_, _, rfl, by simp only [VR], vrs_strs ys⟩
theorem pe_sp {o a : Expr} {dO dA : Env → Ev D} {apos pos : Pos} (hl : (apos.endLine == pos.line) = true) (hc : isCall0 o = false) (hs : isStar a = false) (ho : PE X o (tI X.K ga W dO)) (ha : PE X a (tI X.K ga W dA)) :
    PE X (.Call (.Attribute o "split" apos) [a] [] pos) (tI X.K ga W (fun e => bnd (dO e) fun x => bnd (chkS x) fun _ => bnd (dA e) fun y => dSplit x y)) := by
  refine PE.imp (pe_split ho ha (by rw [star_cons hs]; rfl) (attr_plain hc) hl) fun sg H Q z => ?_
  refine (tG.one (R := VR X.K ga) z).mono ?_
  rintro x H1 ⟨rho1, d, M1, e, at1, rd, z1⟩
  unfold Pf.bnd chkS at z1
  cases d with
  | str sx =>
    simp only [VR] at rd
    subst rd
    refine ⟨⟨_, rfl⟩, (At.nxt (R2 := VR X.K ga) at1 z1).mono ?_⟩
    rintro y H2 ⟨rho2, d2, M2, x2, at2, rd2, z3⟩
    have z4 := z3.op (fun c M' q => nx_split _ _ M2 c M' q)
    unfold dSplit at z4
    split at z4
    · rename_i a' b' ea
      cases ea
      split at z4
      · rename_i hz
        simp only [VR] at rd2
        subst rd2
        exact ⟨_, _, rfl, rfl, hz.1, by rw [sizeLine_eq]; exact hz.2, (z4.newl at2.m (vrs_strs _)).2⟩
      · exact z4.elim
    · exact z4.elim
  | _ => exact z1.elim
theorem nx_pop (x : D) : Nx (mPop x) := fun M c M' z => by
  unfold mPop at z
  split at z
  · split at z
    · split at z <;> cases z
    · cases z
  · cases z
theorem pe_p0 {o : Expr} {dO : Env → Ev D} {apos pos : Pos} (hl : (apos.endLine == pos.line) = true) (hc : isCall0 o = false) (ho : PE X o (tI X.K ga W dO)) :
    PE X (.Call (.Attribute o "pop" apos) [] [] pos) (tI X.K ga W (fun e => bnd (dO e) fun x => bnd (chkL x) fun _ => mPop x)) := by
  refine PE.imp (pe_bm0 PySem.F.plainAttrs_list PySem.F.slot_list_pop PySem.F.type_list_pop (mPopR (X := X) (ga := ga)) ho (attr_plain hc) hl) fun sg H Q z => ?_
  refine (tG.one (R := VR X.K ga) z).mono ?_
  rintro x H1 ⟨rho1, d, M1, e, at1, rd, z1⟩
  cases ec : chkL d M1 with
  | no => unfold Pf.bnd at z1; rw [ec] at z1; exact z1.elim
  | ex c M' => exact (chk_nx ec).elim
  | ok u M' =>
    have hty := ty_list ec at1.m rd
    obtain ⟨eM, _⟩ := chk_ok ec
    subst eM
    have z2 : RG X.K ga W e.length (VR X.K ga) rho1 H1 (mPop d M') Q := by
      unfold Pf.bnd at z1; rw [ec] at z1; exact z1
    exact ⟨hty, rfl, rho1, M', d, at1.m, rd, z2.op (fun c M'' q => nx_pop d M' c M'' q)⟩
theorem chkD_inv {x : D} {M : Mem} {r : Res Unit} (e : chkD x M = r) : (r = .no) ∨ (r = .ok () M ∧ ∃ kvs, dctOf x M = some kvs) := by
  unfold chkD at e
  split at e
  · rename_i kvs h; exact .inr ⟨e.symm, kvs, h⟩
  · exact .inl e.symm
theorem nx_get (x y z : D) : Nx (dGet x y z) := by
  intro M c M' h
  unfold dGet at h
  split at h
  · split at h <;> cases h
  · cases h
theorem get_op {rho : List Addr} {H : Hp} {M : Mem} {Q : VK} (m : MR X.K ga rho H M) {a b c : D} {x y z : V} (ra : VR X.K ga rho H a x) (rb : VR X.K ga rho H b y) (rc : VR X.K ga rho H c z) (h : Op X.K ga rho H (dGet a b c M) Q) : ∃ p o, x = .ref p ∧ DGet H p y o ∧ Q (o.getD z) H := by
  unfold dGet at h
  split at h
  · rename_i kvs e
    split at h
    · rename_i k ek
      obtain ⟨n, p, xs, rfl, _, rfl, _, hx, rx⟩ := dct_at m e ra
      rw [key_vr rb ek]
      refine ⟨p, _, rfl, DGet.k hx, ?_⟩
      obtain ⟨h1, h2⟩ := rx.val k
      cases ev : valD kvs k with
      | none =>
        rw [ev] at h1 h
        cases ex : valV xs k with
        | none => exact h.here m rc
        | some v => rw [ex] at h1; cases h1
      | some d =>
        rw [ev] at h
        obtain ⟨v, e1, r1⟩ := h2 d ev
        rw [e1]
        exact h.here m r1
    · exact h.elim
  · exact h.elim
theorem pe_g1 {o a : Expr} {dO dA : Env → Ev D} {apos pos : Pos} (hu : X.A.units + 65 < cLine) (hl : (apos.endLine == pos.line) = true) (hc : isCall0 o = false) (hs : isStar a = false) (ho : PE X o (tI X.K ga W dO)) (ha : PE X a (tI X.K ga W dA)) :
    PE X (.Call (.Attribute o "get" apos) [a] [] pos) (tI X.K ga W (fun e => bnd (dO e) fun x => bnd (chkD x) fun _ => bnd (dA e) fun y => dGet x y .non)) := by
  refine PE.imp (pe_dget1 (by omega) ho ha ⟨attr_plain hc, by rw [star_cons hs]; rfl, hl, by rw [star_cons hs]; rfl⟩) fun sg H Q z => ?_
  refine (tG.one (R := VR X.K ga) z).mono ?_
  rintro x H1 ⟨rho1, d, M1, e, at1, rd, z1⟩
  rcases chkD_inv (x := d) (M := M1) rfl with ec | ⟨ec, kvs, ek⟩
  · unfold Pf.bnd at z1; rw [ec] at z1; exact z1.elim
  · have z2 : RG X.K ga W e.length (VR X.K ga) rho1 H1 (bnd (dA e) (fun y => dGet d y .non) M1) Q := by
      unfold Pf.bnd at z1; rw [ec] at z1; exact z1
    obtain ⟨n, p, xs, rfl, _, rfl, _, hx, rx⟩ := dct_at at1.m ek rd
    refine ⟨p, rfl, .inl ⟨xs, .inl hx⟩, (At.nxt (R2 := VR X.K ga) at1 z2).mono ?_⟩
    rintro y H2 ⟨rho2, d2, M2, x2, at2, rd2, z3⟩
    obtain ⟨p', o, e1, e2, e3⟩ := get_op at2.m (rd.ext x2) rd2 (c := .non) (z := .non) (by simp only [VR]) (z3.op (fun c M' q => nx_get _ d2 .non M2 c M' q))
    cases e1
    exact ⟨o, e2, e3⟩
theorem pe_g2 {o a b : Expr} {dO dA dB : Env → Ev D} {apos pos : Pos} (hu : X.A.units + 65 < cLine) (hl : (apos.endLine == pos.line) = true) (hc : isCall0 o = false) (hs : isStar a = false) (hs2 : isStar b = false) (ho : PE X o (tI X.K ga W dO)) (ha : PE X a (tI X.K ga W dA)) (hb : PE X b (tI X.K ga W dB)) :
    PE X (.Call (.Attribute o "get" apos) [a, b] [] pos) (tI X.K ga W (fun e => bnd (dO e) fun x => bnd (chkD x) fun _ => bnd (dA e) fun y => bnd (dB e) fun z => dGet x y z)) := by
  refine PE.imp (pe_dget2 (by omega) ho ha hb ⟨attr_plain hc, by rw [star_cons hs, star_cons hs2]; rfl, hl, by rw [star_cons hs, star_cons hs2]; rfl⟩) fun sg H Q z => ?_
  refine (tG.one (R := VR X.K ga) z).mono ?_
  rintro x H1 ⟨rho1, d, M1, e, at1, rd, z1⟩
  rcases chkD_inv (x := d) (M := M1) rfl with ec | ⟨ec, kvs, ek⟩
  · unfold Pf.bnd at z1; rw [ec] at z1; exact z1.elim
  · have z2 : RG X.K ga W e.length (VR X.K ga) rho1 H1 (bnd (dA e) (fun y => bnd (dB e) fun z => dGet d y z) M1) Q := by
      unfold Pf.bnd at z1; rw [ec] at z1; exact z1
    obtain ⟨n, p, xs, rfl, _, rfl, _, hx, rx⟩ := dct_at at1.m ek rd
    refine ⟨p, rfl, .inl ⟨xs, .inl hx⟩, (At.nxt (R2 := VR X.K ga) at1 z2).mono ?_⟩
    rintro y H2 ⟨rho2, d2, M2, x2, at2, rd2, z3⟩
    refine (At.nxt (R2 := VR X.K ga) at2 z3).mono ?_
    rintro y3 H3 ⟨rho3, d3, M3, x3, at3, rd3, z4⟩
    obtain ⟨p', o, e1, e2, e3⟩ := get_op at3.m ((rd.ext x2).ext x3) (rd2.ext x3) rd3 (z4.op (fun c M' q => nx_get _ d2 d3 M3 c M' q))
    cases e1
    exact ⟨o, e2, e3⟩
theorem pe_m2 {o a b : Expr} {m : Str} {h : D → D → D → Ev D} {dO dA dB : Env → Ev D} {apos pos : Pos} (hl : (apos.endLine == pos.line) = true) (e : meth2 m = some h) (hc : isCall0 o = false) (hs : isStar a = false) (hs2 : isStar b = false) (ho : PE X o (tI X.K ga W dO)) (ha : PE X a (tI X.K ga W dA)) (hb : PE X b (tI X.K ga W dB)) :
    PE X (.Call (.Attribute o m apos) [a, b] [] pos) (tI X.K ga W (fun e => bnd (dO e) fun x => bnd (chkL x) fun _ => bnd (dA e) fun y => bnd (dB e) fun z => h x y z)) := by
  unfold meth2 at e
  split at e
  · rename_i q; cases e; have q' := eq_of_beq q; subst q'
    refine PE.imp (pe_bm PySem.F.plainAttrs_list PySem.F.slot_list_insert PySem.F.type_list_insert (mInsertR (ga := ga)) ho (pa2 hs hs2 ha hb) (attr_plain hc) (by rw [star_cons hs, star_cons hs2]; rfl) hl (star_cons hs) (by rw [star_cons hs2]; rfl)) fun sg H Q z => ?_
    refine (tG.one (R := VR X.K ga) z).mono ?_
    rintro x H1 ⟨rho1, d, M1, e, at1, rd, z1⟩
    cases ec : chkL d M1 with
    | no => unfold Pf.bnd at z1; rw [ec] at z1; exact z1.elim
    | ex c M' => exact (chk_nx ec).elim
    | ok u M' =>
      have hty := ty_list ec at1.m rd
      obtain ⟨eM, _⟩ := chk_ok ec
      subst eM
      have z2 : RG X.K ga W e.length (VR X.K ga) rho1 H1 (bnd (dA e) (fun y => bnd (dB e) fun z => mInsert d y z) M') Q := by
        unfold Pf.bnd at z1; rw [ec] at z1; exact z1
      refine ⟨hty, (At.nxt (R2 := VR X.K ga) at1 z2).mono ?_⟩
      rintro y H2 ⟨rho2, d2, M2, x2, at2, rd2, z3⟩
      refine (At.nxt (R2 := VR X.K ga) at2 z3).mono ?_
      rintro w H3 ⟨rho3, d3, M3, x3, at3, rd3, z4⟩
      refine ⟨y, w, rfl, rho3, M3, d, d2, d3, at3.m, (rd.ext x2).ext x3, rd2.ext x3, rd3, z4.op fun c M' q => ?_⟩
      unfold mInsert at q
      split at q
      · split at q
        · split at q <;> cases q
        · cases q
      · cases q
  · cases e
/-- [..], (..) -/
theorem pe_lstD {es : List Expr} {dA : Env → Ev (List D)} {pos : Pos} (ha : PA X es (tL X.K ga W dA)) : PE X (.List es pos) (tI X.K ga W (fun e => bnd (dA e) newl)) := by
  refine PE.imp (pe_lst ha) fun sg H Q z => ?_
  refine (tG.one (R := VRs X.K ga) z).mono ?_
  rintro vs H1 ⟨rho1, ds, M1, e, at1, rd, z1⟩
  exact (RG.op z1 fun c M' q => nx_newl _ _ _ _ q).newl at1.m rd
theorem pe_tupD {es : List Expr} {dA : Env → Ev (List D)} {k : Nat} {pos : Pos} (ha : PA X es (tL X.K ga W dA)) : PE X (.Tuple es k pos) (tI X.K ga W (fun e => bnd (dA e) newt)) := by
  refine PE.imp (pe_tupF ha) fun sg H Q z => ?_
  refine (tG.one (R := VRs X.K ga) z).mono ?_
  rintro vs H1 ⟨rho1, ds, M1, e, at1, rd, z1⟩
  exact (RG.op z1 fun c M' q => nx_newt _ _ _ _ q).newt at1.m rd
theorem RG.newD {l : Nat} {rho : List Addr} {H : Hp} {M : Mem} {kvs : List (Key × D)} {xs : List (Key × V)} {Q : VK} (h : RG X.K ga W l (VR X.K ga) rho H (newD kvs M) Q) (m : MR X.K ga rho H M) (r : KVR X.K ga rho H kvs xs) : ∀ p, H p = none → Q (.ref p) (upd H p (.dK xs)) := fun p hp =>
  h (rho ++ [p]) _ _ (Ext.alloc hp) (m.alloc hp ⟨xs, upd_same, r.ext (Ext.alloc hp)⟩) (by simp only [VR]; exact ⟨p, rfl, by rw [← m.len]; simp⟩)
theorem pe_dict0 {pos : Pos} : PE X (.Dict [] [] pos) (tI X.K ga W (fun _ => newD [])) := by
  refine PE.imp pe_dnewK fun sg H Q z => ?_
  obtain ⟨rho, M, e, m, n, z⟩ := z
  exact fun d hd => RG.newD z m (xs := []) rfl d hd
theorem MR.adoptC {rho : List Addr} {H : Hp} {M : Mem} (m : MR X.K ga rho H M) {p : Addr} {c : Cell} (hp : p ∉ rho) (h : CR X.K ga rho H p c) : MR X.K ga (rho ++ [p]) H (M ++ [c]) := by
  refine ⟨by simp [m.len], ?_, fun n c' e => ?_⟩
  · rw [List.nodup_append]
    refine ⟨m.nd, by simp, fun a ha b hb z => hp ?_⟩
    rw [List.mem_singleton] at hb
    subst hb; subst z; exact ha
  · by_cases hn : n < M.length
    · rw [List.getElem?_append_left hn] at e
      obtain ⟨a, h1, h2⟩ := m.cell n c' e
      exact ⟨a, by rw [List.getElem?_append_left (by rw [m.len]; exact hn)]; exact h1, h2.mono Mono.more rfl⟩
    · have hlt := (List.getElem?_eq_some_iff.mp e).1
      have hn' : n = M.length := by simp at hlt; omega
      subst hn'
      simp at e
      subst e
      exact ⟨p, by rw [← m.len]; simp, h.mono Mono.more rfl⟩
theorem pe_dict1 {k : Int} {j : Nat} {v : Expr} {dV : Env → Ev D} {p pos : Pos} (hv : PE X v (tI X.K ga W dV)) : PE X (.Dict [some (.Constant (.int k) j p)] [v] pos) (tI X.K ga W (fun e => bnd (dV e) fun x => newD [(.inl k, x)])) := by
  refine PE.imp (pe_disp (pps_cons pe_int hv pps_nil) rfl rfl (by simp) (by simp)) fun sg H Q z => ?_
  intro p hp
  obtain ⟨rho, M, e, m, n, z⟩ := z
  have np : p ∉ rho := fun h => by obtain ⟨o, h, _⟩ := m.mem h; rw [hp] at h; cases h
  have xl : Ext rho H rho (upd H p (.dK [])) := Ext.laid hp
  refine ⟨rho, M, e, m.laid hp, n.ext xl, ?_⟩
  cases ev : dV e M with
  | no => simp only [Pf.bnd, ev] at z; exact z.elim
  | ex c M' =>
    simp only [Pf.bnd, ev] at z ⊢
    exact fun rho' H' sg' x => z rho' H' sg' (xl.trans x)
  | ok d M1 =>
    simp only [Pf.bnd, ev] at z ⊢
    intro rho' H' b x m1 r
    have hk : H' p = some (.dK []) := x.keep p _ upd_same np
    have np' : p ∉ rho' := fun h => (x.new p h).elim np fun z => by rw [upd_same] at z; cases z
    refine ⟨hk, [(.inl k, b)], rfl, by simp, ?_⟩
    have im : ∀ u, H' p = some u → imm u = false := fun u z => by rw [hk] at z; cases z; rfl
    have mo : Mono rho' H' rho' (upd H' p (.dK [(.inl k, b)])) := Mono.side im
    have mm : CR X.K ga rho' (upd H' p (.dK [(.inl k, b)])) p (.dct [(.inl k, d)]) := ⟨_, upd_same, (.inl k, b), [], rfl, rfl, VR.mono mo r, rfl⟩
    have m2 := (m1.side np' im (o := .dK [(.inl k, b)])).adoptC np' mm
    exact z (rho' ++ [p]) _ (.ref p) (((xl.trans x).side hp).adopt hp) m2 (by simp only [VR]; exact ⟨p, rfl, by rw [← m1.len]; simp⟩)
theorem keyD_vr2 {rho : List Addr} {H : Hp} {d : D} {k : Key} {v : V} (e : keyD d = some k) (r : VR X.K ga rho H d v) : v = kV k := by
  unfold keyD at e
  split at e
  · cases e; exact r.intE
  · cases e; simp only [VR] at r; exact r
  · cases e
/-- the pairs made so far -/
def PRs (X : Cx) (ga : Str → Addr) (rho : List Addr) (H : Hp) : List (D × D) → List (V × V) → Prop
  | [], ps => ps = []
  | d :: ds, ps => ∃ x y r, ps = (x, y) :: r ∧ VR X.K ga rho H d.1 x ∧ VR X.K ga rho H d.2 y ∧ PRs X ga rho H ds r
theorem prs_kv {rho : List Addr} {H : Hp} : ∀ {ds : List (D × D)} {ps : List (V × V)} {kvs : List (Key × D)}, keysP ds = some kvs → PRs X ga rho H ds ps → ∃ kv2 : List (Key × V), ps = kv2.map (fun kv => (kV kv.1, kv.2)) ∧ kv2.length = ds.length ∧ KVR X.K ga rho H kvs kv2
  | [], ps, kvs, e, r => by
    simp only [keysP, Option.some.injEq] at e
    subst e
    exact ⟨[], r, rfl, rfl⟩
  | d :: ds, ps, kvs, e, r => by
    unfold keysP at e
    split at e
    · rename_i k hk
      simp only [Option.map_eq_some_iff] at e
      obtain ⟨kvs', e1, rfl⟩ := e
      obtain ⟨x, y, r', rfl, rx, ry, rr⟩ := r
      obtain ⟨kv2, rfl, hl, q⟩ := prs_kv e1 rr
      cases keyD_vr2 hk rx
      exact ⟨(k, y) :: kv2, rfl, by simp [hl], (k, y), kv2, rfl, rfl, ry, q⟩
    · cases e
theorem kvGo_len {f : Expr → Ev D} : ∀ {ps : List (Expr × Expr)} {M M1 : Mem} {ds : List (D × D)}, kvGo f ps M = .ok ds M1 → ds.length = ps.length
  | [], M, M1, ds, h => by cases h; rfl
  | p :: r, M, M1, ds, h => by
    simp only [kvGo, Pf.bnd] at h
    cases h1 : f p.1 M with
    | ok a M2 =>
      simp only [h1] at h
      cases h2 : f p.2 M2 with
      | ok b M3 =>
        simp only [h2] at h
        cases h3 : kvGo f r M3 with
        | ok c M4 => simp only [h3] at h; cases h; simp [kvGo_len h3]
        | ex c M4 => simp only [h3] at h; cases h
        | no => simp only [h3] at h; cases h
      | ex c M4 => simp only [h2] at h; cases h
      | no => simp only [h2] at h; cases h
    | ex c M4 => simp only [h1] at h; cases h
    | no => simp only [h1] at h; cases h
theorem pps_all {f : Env → Expr → Ev D} {pos : Pos} (hf : ∀ x, PE X x (tI X.K ga W fun e => f e x)) : ∀ ps : List (Expr × Expr), PPs X pos (ps.map fun p => some p.1) (ps.map (·.2)) (ps.map fun p => (tI X.K ga W (fun e => f e p.1), tI X.K ga W (fun e => f e p.2)))
  | [] => pps_nil
  | p :: r => pps_cons (hf p.1) (hf p.2) (pps_all hf r)
theorem kv_read {f : Env → Expr → Ev D} : ∀ (ps : List (Expr × Expr)) {rho : List Addr} {M : Mem} {e : Env} {sg : L2.St} {H : Hp} {Q : List (V × V) → Hp → Prop},
    At X ga e sg rho M H → RG X.K ga W e.length (PRs X ga) rho H (kvGo (f e) ps M) Q → tPairs (ps.map fun p => (tI X.K ga W (fun e => f e p.1), tI X.K ga W (fun e => f e p.2))) sg H Q
  | [], rho, M, e, sg, H, Q, at0, z => z rho H [] Ext.refl at0.m rfl
  | p :: r, rho, M, e, sg, H, Q, at0, z => by
    refine (At.nxt (rb := fun e => f e p.1) (R2 := VR X.K ga) (g := fun x => bnd (f e p.2) fun y => bnd (kvGo (f e) r) fun ps => ret ((x, y) :: ps)) at0 z).mono ?_
    rintro x H1 ⟨rho1, d1, M1, x1, at1, rd1, z1⟩
    refine (At.nxt (rb := fun e => f e p.2) (R2 := VR X.K ga) (g := fun y => bnd (kvGo (f e) r) fun ps => ret ((d1, y) :: ps)) at1 z1).mono ?_
    rintro y H2 ⟨rho2, d2, M2, x2, at2, rd2, z2⟩
    refine kv_read r at2 ?_
    unfold Pf.bnd at z2
    cases hk : kvGo (f e) r M2 with
    | no => rw [hk] at z2; exact z2
    | ex c M3 => rw [hk] at z2; exact z2
    | ok ds M3 =>
      rw [hk] at z2
      intro rho' H' b x' m' rr
      exact z2 rho' H' ((x, y) :: b) x' m' ⟨x, y, b, rfl, rd1.ext (x2.trans x'), rd2.ext x', rr⟩
theorem pe_dictG {f : Env → Expr → Ev D} {ps : List (Expr × Expr)} {pos : Pos} (hf : ∀ x, PE X x (tI X.K ga W fun e => f e x)) (h0 : ps ≠ []) (h15 : ps.length ≤ 15) :
    PE X (.Dict (ps.map fun p => some p.1) (ps.map (·.2)) pos) (tI X.K ga W (fun e => bnd (kvGo (f e) ps) mkDict)) := by
  refine PE.imp (pe_disp (pps_all hf ps) (by simp) (by simp) (by simpa using h0) (by simpa using h15)) fun sg H Q z => ?_
  intro p hp
  obtain ⟨rho, M, e, m, n, z⟩ := z
  have np : p ∉ rho := fun h => by obtain ⟨o, h, _⟩ := m.mem h; rw [hp] at h; cases h
  have xl : Ext rho H rho (upd H p (.dK [])) := Ext.laid hp
  refine kv_read (f := f) ps ⟨m.laid hp, n.ext xl⟩ ?_
  cases ev : kvGo (f e) ps M with
  | no => simp only [Pf.bnd, ev] at z; exact z.elim
  | ex c M' =>
    simp only [Pf.bnd, ev] at z ⊢
    exact fun rho' H' sg' x => z rho' H' sg' (xl.trans x)
  | ok ds M1 =>
    simp only [Pf.bnd, ev] at z
    intro rho' H' b x m1 rr
    unfold mkDict at z
    cases hk : keysP ds with
    | none => rw [hk] at z; exact z.elim
    | some kvs =>
      rw [hk] at z
      obtain ⟨kv2, rfl, hl, q⟩ := prs_kv hk rr
      have hk : H' p = some (.dK []) := x.keep p _ upd_same np
      have np' : p ∉ rho' := fun h => (x.new p h).elim np fun z => by rw [upd_same] at z; cases z
      have l15 : kv2.length ≤ 15 := by rw [hl, kvGo_len ev]; exact h15
      refine ⟨hk, kv2, rfl, l15, ?_⟩
      have im : ∀ u, H' p = some u → imm u = false := fun u z => by rw [hk] at z; cases z; rfl
      have mo : Mono rho' H' rho' (upd H' p (.dK (mergeK [] kv2))) := Mono.side im
      have kr : KVR X.K ga rho' H' (mergeD [] kvs) (mergeK [] kv2) := KVR.merge q (by simp only [KVR])
      have mm : CR X.K ga rho' (upd H' p (.dK (mergeK [] kv2))) p (.dct (mergeD [] kvs)) := ⟨_, upd_same, KVR.mono mo kr⟩
      have m2 := (m1.side np' im (o := .dK (mergeK [] kv2))).adoptC np' mm
      exact z (rho' ++ [p]) _ (.ref p) (((xl.trans x).side hp).adopt hp) m2 (by simp only [VR]; exact ⟨p, rfl, by rw [← m1.len]; simp⟩)
theorem strs_vs {K : PySem.W.Frag} {rho : List Addr} {H : Hp} : ∀ {ds : List D} {ns : List Str} {xs : List V}, strsOf ds = some ns → VRs K ga rho H ds xs → xs = ns.map V.str
  | [], ns, xs, e, r => by
    simp only [strsOf, Option.some.injEq] at e
    subst e
    simp only [VRs] at r
    subst r; rfl
  | d :: ds, ns, xs, e, r => by
    cases d with
    | str i =>
      simp only [strsOf, Option.map_eq_some_iff] at e
      obtain ⟨ns', e, rfl⟩ := e
      simp only [VRs] at r
      obtain ⟨v, r', rfl, h1, h2⟩ := r
      rw [h1.strE, strs_vs e h2]; rfl
    | _ => simp only [strsOf] at e; cases e
theorem nx_join (s : Str) (x : D) : Nx (dJoin s x) := fun M c M' h => by
  unfold dJoin at h
  split at h
  · split at h
    · split at h <;> cases h
    · cases h
  · cases h
theorem pe_jn {s : Str} {j : Nat} {a : Expr} {p0 ap pos : Pos} {dA : Env → Ev D} (hl : (ap.endLine == pos.line) = true) (hs : isStar a = false) (ha : PE X a (tI X.K ga W dA)) : PE X (.Call (.Attribute (.Constant (.str s) j p0) "join" ap) [a] [] pos) (tI X.K ga W (fun e => bnd (dA e) (dJoin s))) := by
  refine PE.imp (pe_join (o := .Constant (.str s) j p0) (to := tC (.str s)) pe_str ha (by rw [star_cons hs]; rfl) rfl hl) fun sg H Q z => ?_
  refine ⟨⟨s, rfl⟩, ?_⟩
  refine (tG.one (R := VR X.K ga) z).mono ?_
  rintro x H1 ⟨rho1, d, M1, e, at1, rd, z1⟩
  have z2 := z1.op (fun c M' q => nx_join s d M1 c M' q)
  unfold dJoin at z2
  split at z2
  · rename_i ds e1
    split at z2
    · rename_i ys e2
      split at z2
      · rename_i hz
        obtain ⟨p, xv, rfl, hx, rx'⟩ := items_sq at1.m rd e1
        have ev := strs_vs e2 rx'
        subst ev
        exact ⟨s, p, ys, rfl, rfl, .inl hx, hz, z2.here at1.m (by simp only [VR])⟩
      · exact z2.elim
    · exact z2.elim
  · exact z2.elim
end
end Pf
set_option maxHeartbeats 2000000
/-! Pf: instances: fields, methods, making. -/
namespace Pf
open PySem PySem.Spec PyProof.Rows L2
section
variable {X : Cx} {S : SI} {Phi : Tab} {ga : Str → Addr} {W : WX}
/-- f(a, ..), f a local that holds a def -/
theorem pe_lv (ok : OKX S Phi ga W X) {x : Str} {a : Expr} {r : List Expr} {p pos : Pos} {dF : Env → Ev D} {dA : Env → Ev (List D)} (hst : (a :: r).any isStar = false) (hf : PE X (.Name x p) (tI X.K ga W dF)) (ha : PA X (a :: r) (tL X.K ga W dA)) :
    PE X (.Call (.Name x p) (a :: r) [] pos) (tI X.K ga W (fun e => bnd (dF e) fun x => bnd (chkF S.G x) fun f => bnd (dA e) fun vs => Phi f vs)) := by
  refine ⟨fun pins s sg H Q I h => ?_⟩
  simp only [List.any_cons, Bool.or_eq_false_iff] at hst
  refine wpAny_Call_Name_kw (thn (hf.run pins s sg H _ I (tG.one h)) ?_)
  rintro u s1 ⟨y, H1, I1, ry, rho1, d, M1, e, at1, rd, z1⟩
  cases ec : chkF S.G d M1 with
  | no => unfold Pf.bnd at z1; rw [ec] at z1; exact z1.elim
  | ex c M' =>
    unfold chkF at ec
    split at ec
    · split at ec <;> cases ec
    · cases ec
  | ok f M' =>
    have z2 : RG X.K ga W e.length (VR X.K ga) rho1 H1 (bnd (dA e) (fun vs => Phi f vs) M') Q := by
      unfold Pf.bnd at z1; rw [ec] at z1; exact z1
    unfold chkF at ec
    split at ec
    · rename_i f'
      split at ec
      · rename_i hfn
        cases ec
        simp only [VR] at rd
        subst rd
        cases ry
        have hG : S.G f = .fn := by
          cases q : S.G f <;> rw [q] at hfn <;> first | rfl | cases hfn
        have c := ok.fns f hG
        refine PySem.W.callWith_K (h₀ := X.base) I1.ok.mod.kin c.kp (thn (ha.run pos pins s1 sg H1 _ I1 (At.nxt (R2 := VRs X.K ga) at1 z2)) ?_) (star_cons hst.1) (back_plain hst.2)
        rintro us s2 ⟨vs, H2, I2, r2, rho2, ds, M2, x2, at2, rv, z3⟩
        exact ⟨I2.kIn, run_G ok c.toCalM I2 r2 at2.m rv at2.n.len z3⟩
      · cases ec
    · cases ec
theorem objOf_ok {d : D} {M : Mem} {C : Str} {fs : List (Str × D)} (h : objOf d M = some (C, fs)) : ∃ n, d = .ref n ∧ M[n]? = some (.obj C fs) := by
  unfold objOf at h
  split at h
  · rename_i n
    split at h
    · rename_i c fs' hM
      cases h
      exact ⟨n, rfl, hM⟩
    · cases h
  · cases h
/-- what stands for an instance -/
theorem obj_at {rho : List Addr} {H : Hp} {M : Mem} {d : D} {v : V} {C : Str} {fs : List (Str × D)} (h : objOf d M = some (C, fs)) (m : MR X.K ga rho H M) (r : VR X.K ga rho H d v) :
    ∃ n a dx xs, d = .ref n ∧ M[n]? = some (.obj C fs) ∧ rho[n]? = some a ∧ v = .ref a ∧ H a = some (.ins (ga C) dx xs) ∧ FVR X.K ga rho H fs xs := by
  obtain ⟨n, rfl, hM⟩ := objOf_ok h
  obtain ⟨a, dx, xs, h1, h2, h3⟩ := m.obj hM
  simp only [VR] at r
  obtain ⟨a', rfl, h4⟩ := r
  rw [h1] at h4
  cases h4
  exact ⟨n, a, dx, xs, rfl, hM, h1, rfl, h2, h3⟩
/-- o.f -/
theorem pe_at (ok : OKX S Phi ga W X) {o : Expr} {f : Str} {pos : Pos} {dO : Env → Ev D} (hc : isCall0 o = false) (ho : PE X o (tI X.K ga W dO)) : PE X (.Attribute o f pos) (tI X.K ga W (fun e => bnd (dO e) (dFld S.fld f))) := by
  refine PE.imp (pe_fld (f := f) ho (attr_plain hc)) fun sg H Q z => ?_
  refine (tG.one (R := VR X.K ga) (g := fun x e => dFld S.fld f x) z).mono ?_
  rintro x H1 ⟨rho1, d, M1, e, at1, rd, z1⟩
  unfold dFld at z1
  cases ho : objOf d M1 with
  | none => rw [ho] at z1; exact z1.elim
  | some p =>
    obtain ⟨C, fs⟩ := p
    rw [ho] at z1
    dsimp only at z1
    split at z1
    · rename_i hf
      cases hl : fs.lookup f with
      | none => rw [hl] at z1; exact z1.elim
      | some v =>
        rw [hl] at z1
        obtain ⟨n, a, dx, xs, rfl, hM, h1, rfl, h2, h3⟩ := obj_at ho at1.m rd
        obtain ⟨u, hu, ru⟩ := (FVR.look h3).2 v hl
        obtain ⟨c1, c2⟩ := ok.flds C f hf
        exact ⟨a, ga C, dx, xs, u, rfl, h2, c1, c2, hu, z1 rho1 H1 u Ext.refl at1.m ru⟩
    · exact z1.elim
theorem nx_setF {fl : Str → Str → Bool} {f : Str} {x v : D} {M M' : Mem} {c : Str} : setF fl f x v M ≠ .ex c M' := by
  intro h
  unfold setF at h
  split at h
  · split at h
    · split at h <;> cases h
    · cases h
  · cases h
/-- a method's def, told of what it is called on -/
theorem chkM_ok {d : D} {m k : Str} {M M' : Mem} (h : chkM S.mth m d M = .ok k M') : M' = M ∧ ∃ C fs, objOf d M = some (C, fs) ∧ S.mth C m = some k ∧ fs.lookup m = none := by
  unfold chkM at h
  cases ho : objOf d M with
  | none => rw [ho] at h; cases h
  | some p =>
    obtain ⟨C, fs⟩ := p
    rw [ho] at h
    dsimp only at h
    split at h
    · rename_i k' h1 h2
      cases h
      exact ⟨rfl, C, fs, rfl, h1, h2⟩
    · cases h
theorem chkM_nx {d : D} {m c : Str} {M M' : Mem} : chkM S.mth m d M ≠ .ex c M' := by
  intro h
  unfold chkM at h
  split at h
  · split at h <;> cases h
  · cases h
theorem few_ok {pos : Pos} {env : PySem.Env} : ∀ {r : List Expr}, r.any isStar = false → (backTo pos (starEach r env)).all (fun x => !x.1) = true
  | [], _ => rfl
  | x :: r, h => by
    simp only [List.any_cons, Bool.or_eq_false_iff] at h
    rw [star_cons h.1]
    show (!false && (backTo pos (starEach r env)).all (fun x => !x.1)) = true
    rw [few_ok h.2]; rfl
/-- o.m(..) -/
theorem own_call {M : Model} {A : Around} {env : PySem.Env} {o : Expr} {name : Str} {apos pos : Pos} {args : List Expr} {Q : Value → Shared → Prop} {E : Value → Shared → Prop} {s : Shared}
    (hbase : attributeBase o name env (eval o env) = eval o env) (hfew : methodCallForm (args.length + ([] : List Keyword).length) (backTo pos (starEach args env)) (backToKw pos (keywordEach [] env)) = true) (hline : (apos.endLine == pos.line) = true)
    (h : wpAny M A (eval o env) (fun ov s₁ => wpAny M A (getMethod ov name (do return (← importBound o env).getD true)) (fun fx s₂ => wpAny M A (callWith pos fx.1 fx.2 (backTo pos (starEach args env)) (backToKw pos (keywordEach [] env))) Q E s₂) E s₁) E s) :
    wpAny M A (eval (.Call (.Attribute o name apos) args [] pos) env) Q E s := by
  rw [arm_eval_Call, hbase]
  refine wpAny_bind (wpAny_mono h (fun ov s₁ h₁ => ?_) fun _ _ e => e)
  refine wpAny_bind (wpAny_standAt ?_)
  have hpos : methodCallPos true o env apos pos = pure pos := by unfold methodCallPos; simp [hline]
  unfold methodCall
  rw [hfew]
  refine wpAny_bind (wpAny_holding (wpAny_mono h₁ (fun fx s₂ h₂ => ?_) fun _ _ x => x))
  exact wpAny_bind (wpAny_of_eq hpos h₂)
theorem mo_few {as : List Expr} {pos : Pos} {env : PySem.Env} (hst : as.any isStar = false) (h2 : as.length ≤ 2) : methodCallForm (as.length + ([] : List Keyword).length) (backTo pos (starEach as env)) (backToKw pos (keywordEach [] env)) = true := by
  unfold methodCallForm
  rw [few_ok hst]
  show (true && true && decide (as.length + 0 + 0 < 30)) = true
  rw [Bool.and_self, Bool.true_and]
  exact decide_eq_true (by omega)
theorem pe_mo (ok : OKX S Phi ga W X) {o : Expr} {m : Str} {x : Expr} {r : List Expr} {apos pos : Pos} {dO : Env → Ev D} {dA : Env → Ev (List D)} (hl : (apos.endLine == pos.line) = true) (hc : isCall0 o = false) (hst : (x :: r).any isStar = false) (h2 : (x :: r).length ≤ 2)
    (ho : PE X o (tI X.K ga W dO)) (ha : PA X (x :: r) (tL X.K ga W dA)) : PE X (.Call (.Attribute o m apos) (x :: r) [] pos) (tI X.K ga W (fun e => bnd (dO e) fun x => bnd (chkM S.mth m x) fun k => bnd (dA e) fun vs => Phi k (x :: vs))) := by
  refine ⟨fun pins s sg H Q I h => ?_⟩
  refine own_call (attr_plain hc) (mo_few hst h2) hl (thn (ho.run pins s sg H _ I (tG.one h)) ?_)
  rintro u s1 ⟨y, H1, I1, ry, rho1, d, M1, e, at1, rd, z1⟩
  cases ec : chkM S.mth m d M1 with
  | no => unfold Pf.bnd at z1; rw [ec] at z1; exact z1.elim
  | ex c M' => exact absurd ec chkM_nx
  | ok k M' =>
    have z2 : RG X.K ga W e.length (VR X.K ga) rho1 H1 (bnd (dA e) (fun vs => Phi k (d :: vs)) M') Q := by
      unfold Pf.bnd at z1; rw [ec] at z1; exact z1
    obtain ⟨rfl, C, fs, ho', hk, hn⟩ := chkM_ok ec
    obtain ⟨n, a, dx, xs, rfl, hM, h1, rfl, h2', h3⟩ := obj_at ho' at1.m rd
    obtain ⟨c1, c2, c3⟩ := ok.mths C m k hk
    obtain rfl : u = Value.ref a := ry
    refine getmeth_ok I1 h2' c1 c2 ((FVR.look h3).1 hn) ?_
    simp only [List.any_cons, Bool.or_eq_false_iff] at hst
    refine PySem.W.callWith_K (first := [.ref a]) (h₀ := X.base) I1.ok.mod.kin c2.kp (thn (ha.run pos pins s1 sg H1 _ I1 (At.nxt (R2 := VRs X.K ga) at1 z2)) ?_) (star_cons hst.1) (back_plain hst.2)
    rintro us s2 ⟨vs, H2, I2, r2, rho2, ds, M2, x2, at2, rv, z3⟩
    exact ⟨I2.kIn, run_G ok c3 (us := .ref a :: us) (vs := .ref a :: vs) (ds := .ref n :: ds) I2 (.cons rfl r2) at2.m (by simp only [VRs]; exact ⟨_, _, rfl, rd.ext x2, rv⟩) at2.n.len z3⟩
theorem pe_mo0 (ok : OKX S Phi ga W X) {o : Expr} {m : Str} {apos pos : Pos} {dO : Env → Ev D} (hl : (apos.endLine == pos.line) = true) (hc : isCall0 o = false)
    (ho : PE X o (tI X.K ga W dO)) : PE X (.Call (.Attribute o m apos) [] [] pos) (tI X.K ga W (fun e => bnd (dO e) fun x => bnd (chkM S.mth m x) fun k => Phi k [x])) := by
  refine ⟨fun pins s sg H Q I h => ?_⟩
  refine own_call (attr_plain hc) (mo_few rfl (by decide)) hl (thn (ho.run pins s sg H _ I (tG.one (g := fun x e => bnd (chkM S.mth m x) fun k => Phi k [x]) h)) ?_)
  rintro u s1 ⟨y, H1, I1, ry, rho1, d, M1, e, at1, rd, z1⟩
  cases ec : chkM S.mth m d M1 with
  | no => unfold Pf.bnd at z1; rw [ec] at z1; exact z1.elim
  | ex c M' => exact absurd ec chkM_nx
  | ok k M' =>
    have z2 : RG X.K ga W e.length (VR X.K ga) rho1 H1 (Phi k [d] M') Q := by
      unfold Pf.bnd at z1; rw [ec] at z1; exact z1
    obtain ⟨rfl, C, fs, ho', hk, hn⟩ := chkM_ok ec
    obtain ⟨n, a, dx, xs, rfl, hM, h1, rfl, h2', h3⟩ := obj_at ho' at1.m rd
    obtain ⟨c1, c2, c3⟩ := ok.mths C m k hk
    obtain rfl : u = Value.ref a := ry
    refine getmeth_ok I1 h2' c1 c2 ((FVR.look h3).1 hn) ?_
    exact PySem.W.callWith_K0 (first := [.ref a]) I1.kIn c2.kp (run_G ok c3 (us := [.ref a]) (vs := [.ref a]) (ds := [.ref n]) I1 (.cons rfl .nil) at1.m (by simp only [VRs]; exact ⟨_, _, rfl, rd, rfl⟩) at1.n.len z2)
/-! ### making -/
theorem MR.made {rho : List Addr} {H : Hp} {M : Mem} {p : Addr} {C : Str} (m : MR X.K ga rho H M) (h1 : H p = none) (h2 : H (p + 1) = none) :
    MR X.K ga (rho ++ [p + 1]) (upd (upd H p (.own (p + 1))) (p + 1) (.ins (ga C) p [])) (M ++ [.obj C []]) ∧ Ext rho H (rho ++ [p + 1]) (upd (upd H p (.own (p + 1))) (p + 1) (.ins (ga C) p [])) := by
  have m1 := m.laid (o := .own (p + 1)) h1
  have e1 : upd H p (.own (p + 1)) (p + 1) = none := by rw [upd_ne (Nat.succ_ne_self p)]; exact h2
  exact ⟨m1.alloc (c := .obj C []) e1 ⟨p, [], by rw [upd_same], rfl⟩, (Ext.laid h1).trans (Ext.alloc e1)⟩
theorem run_mk (ok : OKX S Phi ga W X) {C k : Str} (hG : S.G C = .kls) (hk : S.mth C "__init__" = some k) {pins : List (Addr × Obj)} {sg : L2.St} {H : Hp} {s : Shared} {us : List Value} {vs : List V} {Q : VK} {rho : List Addr} {M : Mem} {ds : List D} {l : Nat}
    (I : Inv X pins sg H s) (r : Vals vs us) (m : MR X.K ga rho H M) (rv : VRs X.K ga rho H ds vs) (hl : sg.length = l) (h : RG X.K ga W l (VR X.K ga) rho H (mkObj Phi C k ds M) Q) :
    wpAny (model X.prog X.w) X.A (call (.ref (ga C)) us) (EP X pins sg Q) X.xe s := by
  obtain ⟨c1, c2, c3⟩ := ok.mths C _ k hk
  obtain ⟨k1, k2⟩ := ok.kls C k hG hk
  obtain ⟨n, fd, ps, fn, hr, hn, hb⟩ := c3.fn
  have f0 := I.hok.fresh (Nat.le_refl _)
  have f1 := I.hok.fresh (Nat.le_succ _)
  obtain ⟨m2, x2⟩ := m.made (C := C) f0 f1
  have I2 := Inv.made (C := ga C) I
  have rf : VR X.K ga (rho ++ [s.heap.objs.size + 1]) (upd (upd H s.heap.objs.size (.own (s.heap.objs.size + 1))) (s.heap.objs.size + 1) (.ins (ga C) s.heap.objs.size [])) (.ref M.length) (.ref (s.heap.objs.size + 1)) := by
    simp only [VR]
    exact ⟨_, rfl, by rw [← m.len]; simp⟩
  have rv2 : VRs X.K ga (rho ++ [s.heap.objs.size + 1]) (upd (upd H s.heap.objs.size (.own (s.heap.objs.size + 1))) (s.heap.objs.size + 1) (.ins (ga C) s.heap.objs.size [])) (.ref M.length :: ds) (.ref (s.heap.objs.size + 1) :: vs) := by
    simp only [VRs]
    exact ⟨_, _, rfl, rf, rv.ext x2⟩
  have hds : (Pf.D.ref M.length :: ds).length = ps.length := by
    by_cases q : (Pf.D.ref M.length :: ds).length = ps.length
    · exact q
    · unfold mkObj at h
      rw [hn _ _ q] at h
      exact h.elim
  have r2 : Vals (V.ref (s.heap.objs.size + 1) :: vs) (Value.ref (s.heap.objs.size + 1) :: us) := .cons rfl r
  have hus : (Value.ref (s.heap.objs.size + 1) :: us).length = ps.length := by rw [← r2.length, rv2.length, hds]
  refine wpAny_call (make_map (f := ga k) I.kIn k2.makes k2.init (beq_iff_eq.mp k2.fn) (codeAny_mono (fn.run _ X.stack _ _ ⟨Value.ref (s.heap.objs.size + 1) :: us, []⟩ (Value.ref (s.heap.objs.size + 1) :: us) _
    (fun v H2 => v = .non ∧ ∃ rho2 M2, Ext rho H rho2 H2 ∧ MR X.K ga rho2 H2 M2 ∧ VR X.K ga rho2 H2 (.ref M.length) (.ref (s.heap.objs.size + 1)) ∧ Q (.ref (s.heap.objs.size + 1)) H2)
    (fun cls d H' => ∀ sg' : L2.St, sg'.length = l → W cls d sg' H') (hr.make (ga C) us []) ?_ (I2.env0.make (ga C) us []) (hb _ _ I2.kIn hus) r2 ?_) fun r s' hq => ?_))
  · exact ok.gds
  · refine ⟨_, _, _, m2, rv2, hds, ?_⟩
    unfold mkObj at h
    cases e : Phi k (.ref M.length :: ds) (M ++ [.obj C []]) with
    | no => rw [e] at h; exact h.elim
    | ex cc M' =>
      rw [e] at h
      exact fun rho' H' x m' sg' z => h rho' H' sg' (x2.trans x) m' z
    | ok d M' =>
      rw [e] at h
      intro rho' H' v x m' rd
      cases d with
      | non =>
        simp only [VR] at rd
        subst rd
        have rf' := rf.ext x
        exact ⟨rfl, rho', M', x2.trans x, m', rf', h rho' H' _ (x2.trans x) m' rf'⟩
      | _ => exact h.elim
  · cases r with
    | error e => exact ok.tk _ _ (XE.of_call I2 (fun cls d H' z => z sg hl) hq)
    | ok fl =>
      cases fl with
      | ret u =>
        obtain ⟨v, H', I3, rv, ev, rho2, M2, x3, m3, r3, q3⟩ := I2.after hq
        subst ev
        exact ⟨rv, ⟨V.ref (s.heap.objs.size + 1), H', I3, rfl, q3⟩⟩
      | next => exact False.elim hq
      | brk => exact False.elim hq
      | cont => exact False.elim hq
theorem pe_kc (ok : OKX S Phi ga W X) {C k : Str} {x : Expr} {r : List Expr} {p pos : Pos} {dA : Env → Ev (List D)} (hg : S.glb C = true) (hG : S.G C = .kls) (hk : S.mth C "__init__" = some k) (hst : (x :: r).any isStar = false) (ha : PA X (x :: r) (tL X.K ga W dA)) :
    PE X (.Call (.Name C p) (x :: r) [] pos) (tI X.K ga W (fun e => bnd (dA e) fun vs => mkObj Phi C k vs)) := by
  refine ⟨fun pins s sg H Q I h => ?_⟩
  obtain ⟨k1, k2⟩ := ok.kls C k hG hk
  simp only [List.any_cons, Bool.or_eq_false_iff] at hst
  refine wpAny_Call_Name_kw (ld_glob I (gl_of ok hg) k1 ?_ (ok.nG C (by rw [hG]; trivial)).1)
  refine PySem.W.callWith_K (h₀ := X.base) I.ok.mod.kin k2.kp (thn (ha.run pos pins s sg H _ I (tG.one h)) ?_) (star_cons hst.1) (back_plain hst.2)
  rintro us s1 ⟨vs, H1, I1, r1, rho1, ds, M1, e, at1, rv, z⟩
  exact ⟨I1.kIn, run_mk ok hG hk I1 r1 at1.m rv at1.n.len z⟩
theorem pe_kc0 (ok : OKX S Phi ga W X) {C k : Str} {p pos : Pos} (hg : S.glb C = true) (hG : S.G C = .kls) (hk : S.mth C "__init__" = some k) :
    PE X (.Call (.Name C p) [] [] pos) (tI X.K ga W (fun _ => mkObj Phi C k [])) := by
  refine ⟨fun pins s sg H Q I h => ?_⟩
  obtain ⟨k1, k2⟩ := ok.kls C k hG hk
  obtain ⟨rho, M, e, at0, z⟩ := h.get
  refine wpAny_Call_Name_kw (ld_glob I (gl_of ok hg) k1 ?_ (ok.nG C (by rw [hG]; trivial)).1)
  exact PySem.W.callWith_K0 I.kIn k2.kp (run_mk ok hG hk (us := []) (ds := []) I .nil at0.m rfl at0.n.len z)
end
end Pf
set_option maxHeartbeats 4000000
/-! Pf: the expressions, all. -/
namespace Pf
open PySem PySem.Spec PyProof.Rows L2
/-! ### shapes, read back -/
def CSok (S : SI) (g : Expr) (as : List Expr) (ks : List Keyword) (cp : Pos) : CS → Prop
  | .fn f a r => ∃ p, g = .Name f p ∧ as = a :: r ∧ ks = [] ∧ S.glb f = true ∧ S.G f = .fn ∧ (a :: r).any isStar = false
  | .lrg _ bs => ∃ f p h p2 p3 b r, bs = b :: r ∧ g = .Name f p ∧ as = [.Call (.Name h p2) (b :: r) [] p3] ∧ ks = [] ∧ f = "list" ∧ S.glb f = true ∧ isBlt (S.G f) = true ∧ h = "range" ∧ S.glb h = true ∧ isBlt (S.G h) = true ∧ (b :: r).any isStar = false
  | .trg _ bs => ∃ f p h p2 p3 b r, bs = b :: r ∧ g = .Name f p ∧ as = [.Call (.Name h p2) (b :: r) [] p3] ∧ ks = [] ∧ f = "tuple" ∧ S.glb f = true ∧ isBlt (S.G f) = true ∧ h = "range" ∧ S.glb h = true ∧ isBlt (S.G h) = true ∧ (b :: r).any isStar = false
  | .lset _ a => ∃ f p h p2 p3, g = .Name f p ∧ as = [.Call (.Name h p2) [a] [] p3] ∧ ks = [] ∧ f = "len" ∧ S.glb f = true ∧ isBlt (S.G f) = true ∧ h = "set" ∧ S.glb h = true ∧ isBlt (S.G h) = true ∧ isStar a = false
  | .ldic _ a => ∃ f p h p2 p3, g = .Name f p ∧ as = [.Call (.Name h p2) [a] [] p3] ∧ ks = [] ∧ f = "list" ∧ S.glb f = true ∧ isBlt (S.G f) = true ∧ h = "dict" ∧ S.glb h = true ∧ isBlt (S.G h) = true ∧ isStar a = false
  | .jn s a => ∃ j p0 p, g = .Attribute (.Constant (.str s) j p0) "join" p ∧ as = [a] ∧ ks = [] ∧ (p.endLine == cp.line) = true ∧ isStar a = false
  | .b1 f h a => ∃ p, g = .Name f p ∧ as = [a] ∧ ks = [] ∧ S.glb f = true ∧ isBlt (S.G f) = true ∧ isStar a = false ∧ ((f = "list" ∧ h = dList) ∨ (f = "tuple" ∧ h = dTuple) ∨ builtin1 f = some h)
  | .isi a T _ => ∃ f p p2, g = .Name f p ∧ as = [a, .Name T p2] ∧ ks = [] ∧ f = "isinstance" ∧ S.glb f = true ∧ isBlt (S.G f) = true ∧ S.glb T = true ∧ isBlt (S.G T) = true ∧ (isiT "int" T).isSome = true ∧ isStar a = false
  | .isT a Ts => ∃ f p es kk pp, g = .Name f p ∧ as = [a, .Tuple es kk pp] ∧ ks = [] ∧ f = "isinstance" ∧ S.glb f = true ∧ isBlt (S.G f) = true ∧ es.length ≤ 16 ∧ tyArgs S es = some Ts ∧ isStar a = false
  | .b2 f h a b => ∃ p, g = .Name f p ∧ as = [a, b] ∧ ks = [] ∧ S.glb f = true ∧ isBlt (S.G f) = true ∧ isStar a = false ∧ isStar b = false ∧ builtin2 f = some h
  | .sp o a => ∃ p, g = .Attribute o "split" p ∧ as = [a] ∧ ks = [] ∧ (p.endLine == cp.line) = true ∧ isStar a = false ∧ isCall0 o = false
  | .m1 o m h a => ∃ p, g = .Attribute o m p ∧ as = [a] ∧ ks = [] ∧ (p.endLine == cp.line) = true ∧ isStar a = false ∧ isCall0 o = false ∧ meth1 m = some h
  | .m2 o m h a b => ∃ p, g = .Attribute o m p ∧ as = [a, b] ∧ ks = [] ∧ (p.endLine == cp.line) = true ∧ isStar a = false ∧ isStar b = false ∧ isCall0 o = false ∧ meth2 m = some h
  | .p0 o => ∃ p, g = .Attribute o "pop" p ∧ as = [] ∧ ks = [] ∧ (p.endLine == cp.line) = true ∧ isCall0 o = false
  | .g1 o a => ∃ p, g = .Attribute o "get" p ∧ as = [a] ∧ ks = [] ∧ (p.endLine == cp.line) = true ∧ isStar a = false ∧ isCall0 o = false
  | .g2 o a b => ∃ p, g = .Attribute o "get" p ∧ as = [a, b] ∧ ks = [] ∧ (p.endLine == cp.line) = true ∧ isStar a = false ∧ isStar b = false ∧ isCall0 o = false
  | .kc C as2 => ∃ p, g = .Name C p ∧ as = as2 ∧ ks = [] ∧ S.glb C = true ∧ S.G C = .kls ∧ as.any isStar = false
  | .mo o m as2 => ∃ p, g = .Attribute o m p ∧ as = as2 ∧ ks = [] ∧ (p.endLine == cp.line) = true ∧ as.any isStar = false ∧ isCall0 o = false ∧ as.length ≤ 2
  | .lv x p a r => g = .Name x p ∧ as = a :: r ∧ ks = [] ∧ (a :: r).any isStar = false
  | .cv o i p a r => g = .Subscript o i p ∧ as = a :: r ∧ ks = [] ∧ (a :: r).any isStar = false
  | .bk f h a c kp => ∃ p, g = .Name f p ∧ as = [a] ∧ ks = [⟨some (Str.ofString "default"), c, kp⟩] ∧ S.glb f = true ∧ isBlt (S.G f) = true ∧ isStar a = false ∧ builtinK f = some h
  | .bad => True
theorem rngArg_ok {S : SI} {a : Expr} {p : Pos} {bs : List Expr} (h : rngArg S a = some (p, bs)) : ∃ g p2 p3 b r, bs = b :: r ∧ a = .Call (.Name g p2) (b :: r) [] p3 ∧ g = "range" ∧ S.glb g = true ∧ isBlt (S.G g) = true ∧ (b :: r).any isStar = false := by
  unfold rngArg at h
  split at h
  · split at h
    · rename_i q
      cases h
      simp only [Bool.and_eq_true, Bool.not_eq_true'] at q
      exact ⟨_, _, _, _, _, rfl, rfl, eq_of_beq q.1.1.1, q.1.1.2, q.1.2, q.2⟩
    · cases h
  · cases h
theorem setArg_ok {S : SI} {a b : Expr} {p : Pos} (h : setArg S a = some (p, b)) : ∃ g p2 p3, a = .Call (.Name g p2) [b] [] p3 ∧ g = "set" ∧ S.glb g = true ∧ isBlt (S.G g) = true ∧ isStar b = false := by
  unfold setArg at h
  split at h
  · split at h
    · rename_i q
      cases h
      simp only [Bool.and_eq_true, Bool.not_eq_true'] at q
      exact ⟨_, _, _, rfl, eq_of_beq q.1.1.1, q.1.1.2, q.1.2, q.2⟩
    · cases h
  · cases h
theorem dicArg_ok {S : SI} {a b : Expr} {p : Pos} (h : dicArg S a = some (p, b)) : ∃ g p2 p3, a = .Call (.Name g p2) [b] [] p3 ∧ g = "dict" ∧ S.glb g = true ∧ isBlt (S.G g) = true ∧ isStar b = false := by
  unfold dicArg at h
  split at h
  · split at h
    · rename_i q
      cases h
      simp only [Bool.and_eq_true, Bool.not_eq_true'] at q
      exact ⟨_, _, _, rfl, eq_of_beq q.1.1.1, q.1.1.2, q.1.2, q.2⟩
    · cases h
  · cases h
theorem bltSh_ok {S : SI} {f : Str} {p cp : Pos} {as : List Expr} (hg : S.glb f = true) (hb : isBlt (S.G f) = true) : CSok S (.Name f p) as [] cp (bltSh S f as) := by
  unfold bltSh
  split
  · split
    · trivial
    · rename_i hs
      have hs := Bool.eq_false_iff.mpr hs
      split
      · rename_i q
        split
        · rename_i e
          obtain ⟨g, p2, p3, b, r, e1, e2, e3, e4, e5, e6⟩ := rngArg_ok e
          exact ⟨f, _, g, p2, p3, b, r, e1, rfl, by rw [e2], rfl, eq_of_beq q, hg, hb, e3, e4, e5, e6⟩
        · split
          · rename_i e
            obtain ⟨g, p2, p3, e2, e3, e4, e5, e6⟩ := dicArg_ok e
            exact ⟨f, _, g, p2, p3, rfl, by rw [e2], rfl, eq_of_beq q, hg, hb, e3, e4, e5, e6⟩
          · exact ⟨_, rfl, rfl, rfl, hg, hb, hs, .inl ⟨eq_of_beq q, rfl⟩⟩
      · split
        · rename_i q
          split
          · rename_i e
            obtain ⟨g, p2, p3, b, r, e1, e2, e3, e4, e5, e6⟩ := rngArg_ok e
            exact ⟨f, _, g, p2, p3, b, r, e1, rfl, by rw [e2], rfl, eq_of_beq q, hg, hb, e3, e4, e5, e6⟩
          · exact ⟨_, rfl, rfl, rfl, hg, hb, hs, .inr (.inl ⟨eq_of_beq q, rfl⟩)⟩
        · split
          · rename_i q
            split
            · rename_i e
              obtain ⟨g, p2, p3, e2, e3, e4, e5, e6⟩ := setArg_ok e
              exact ⟨f, _, g, p2, p3, rfl, by rw [e2], rfl, eq_of_beq q, hg, hb, e3, e4, e5, e6⟩
            · have hq := eq_of_beq q
              subst hq
              exact ⟨_, rfl, rfl, rfl, hg, hb, hs, .inr (.inr rfl)⟩
          · split
            · rename_i e; exact ⟨_, rfl, rfl, rfl, hg, hb, hs, .inr (.inr e)⟩
            · trivial
  · split
    · trivial
    · rename_i hs
      simp only [Bool.or_eq_true, not_or, Bool.not_eq_true] at hs
      split
      · rename_i q
        split
        · rename_i e
          obtain ⟨rfl, e2, e3, e4⟩ := tyArg_ok e
          exact ⟨f, _, _, rfl, rfl, rfl, eq_of_beq q, hg, hb, e2, e3, e4, hs.1⟩
        · split
          · rename_i e
            obtain ⟨es, k, pp, rfl, e2, e3⟩ := tysArg_ok e
            exact ⟨f, _, es, k, pp, rfl, rfl, rfl, eq_of_beq q, hg, hb, e2, e3, hs.1⟩
          · trivial
      · split
        · rename_i e; exact ⟨_, rfl, rfl, rfl, hg, hb, hs.1, hs.2, e⟩
        · trivial
  · trivial
theorem callSh_ok (S : SI) (g : Expr) (as : List Expr) (ks : List Keyword) (cp : Pos) : CSok S g as ks cp (callSh S g as ks cp) := by
  unfold callSh
  split
  · split
    · split
      · rename_i hg
        split
        · rename_i hf
          split
          · split
            · trivial
            · rename_i hs
              exact ⟨_, rfl, rfl, rfl, hg, hf, Bool.eq_false_iff.mpr hs⟩
          · trivial
        · rename_i hf
          exact bltSh_ok hg (by rw [hf]; rfl)
        · rename_i hf
          split
          · trivial
          · rename_i hs
            exact ⟨_, rfl, rfl, rfl, hg, hf, Bool.eq_false_iff.mpr hs⟩
        · trivial
      · split
        · split
          · trivial
          · rename_i hs
            exact ⟨rfl, rfl, rfl, Bool.eq_false_iff.mpr hs⟩
        · trivial
    · split
      · trivial
      · split
        · split
          · trivial
          · rename_i hs; exact ⟨rfl, rfl, rfl, Bool.eq_false_iff.mpr hs⟩
        · trivial
    · split
      · rename_i hl
        split
        · split
          · trivial
          · rename_i hc0
            have hc0 := Bool.eq_false_iff.mpr hc0
            split
            · rename_i q
              have q' := eq_of_beq q
              subst q'
              exact ⟨_, rfl, rfl, rfl, hl, hc0⟩
            · exact ⟨_, rfl, rfl, rfl, hl, rfl, hc0, by simp⟩
        · split
          · trivial
          · rename_i hs
            simp only [Bool.or_eq_true, not_or, Bool.not_eq_true] at hs
            split
            · rename_i q
              have q' := eq_of_beq q
              subst q'
              exact ⟨_, rfl, rfl, rfl, hl, hs.1, hs.2⟩
            · split
              · rename_i q
                have q' := eq_of_beq q
                subst q'
                split
                · exact ⟨_, _, _, rfl, rfl, rfl, hl, hs.1⟩
                · trivial
              · split
                · rename_i q
                  have q' := eq_of_beq q
                  subst q'
                  exact ⟨_, rfl, rfl, rfl, hl, hs.1, hs.2⟩
                · split
                  · rename_i e; exact ⟨_, rfl, rfl, rfl, hl, hs.1, hs.2, e⟩
                  · exact ⟨_, rfl, rfl, rfl, hl, by simp [hs.1], hs.2, by simp⟩
        · split
          · trivial
          · rename_i hs
            simp only [Bool.or_eq_true, not_or, Bool.not_eq_true] at hs
            split
            · rename_i q
              have q' := eq_of_beq q
              subst q'
              exact ⟨_, rfl, rfl, rfl, hl, hs.1.1, hs.1.2, hs.2⟩
            · split
              · rename_i e; exact ⟨_, rfl, rfl, rfl, hl, hs.1.1, hs.1.2, hs.2, e⟩
              · exact ⟨_, rfl, rfl, rfl, hl, by simp [hs.1.1, hs.1.2], hs.2, by simp⟩
        · trivial
      · trivial
    · trivial
  · split
    · split
      · rename_i q
        simp only [Bool.and_eq_true] at q
        obtain ⟨⟨q1, q2⟩, q3⟩ := q
        have q4 := eq_of_beq q3
        split
        · split
          · trivial
          · rename_i hs
            split
            · rename_i e
              subst q4
              exact ⟨_, rfl, rfl, rfl, q1, q2, Bool.eq_false_iff.mpr hs, e⟩
            · trivial
        · trivial
      · trivial
    · trivial
  · trivial
def CmOk (ops : List CmpOp) (bs : List Expr) : CmS → Prop
  | .isC neg c => (∃ j p, bs = [.Constant c j p] ∧ ops = [if neg then .IsNot else .Is]) ∧ (c = .none ∨ ∃ k, c = .bool k)
  | .one op b => ops = [op] ∧ bs = [b] ∧ isSetD b = false
  | .two op op2 b c => ops = [op, op2] ∧ bs = [b, c] ∧ isSetD b = false ∧ isSetD c = false
  | .three op op2 op3 b c d => ops = [op, op2, op3] ∧ bs = [b, c, d] ∧ isSetD d = false
  | .bad => True
theorem cmpSh_ok (ops : List CmpOp) (bs : List Expr) : CmOk ops bs (cmpSh ops bs) := by
  unfold cmpSh
  split
  · split
    · split
      · exact ⟨⟨_, _, rfl, rfl⟩, .inl rfl⟩
      · exact ⟨⟨_, _, rfl, rfl⟩, .inr ⟨_, rfl⟩⟩
      · trivial
    · split
      · exact ⟨⟨_, _, rfl, rfl⟩, .inl rfl⟩
      · exact ⟨⟨_, _, rfl, rfl⟩, .inr ⟨_, rfl⟩⟩
      · trivial
    · split
      · trivial
      · rename_i h; exact ⟨rfl, rfl, Bool.eq_false_iff.mpr h⟩
  · split
    · trivial
    · rename_i h
      simp only [Bool.or_eq_true, not_or, Bool.not_eq_true] at h
      exact ⟨rfl, rfl, h.1.2, h.2⟩
  · split
    · trivial
    · rename_i h
      simp only [Bool.or_eq_true, not_or, Bool.not_eq_true] at h
      exact ⟨rfl, rfl, h.2⟩
  · trivial
def ItOk (S : SI) (it : Expr) (pr : Bool) : ItS → Prop
  | .rng as => ∃ f p q, it = .Call (.Name f p) as [] q ∧ f = "range" ∧ S.glb f = true ∧ isBlt (S.G f) = true ∧ as.any isStar = false
  | .enm a => ∃ f p q, it = .Call (.Name f p) [a] [] q ∧ f = "enumerate" ∧ S.glb f = true ∧ isBlt (S.G f) = true ∧ isStar a = false ∧ pr = true
  | .zip a b => ∃ f p q, it = .Call (.Name f p) [a, b] [] q ∧ f = "zip" ∧ S.glb f = true ∧ isBlt (S.G f) = true ∧ isStar a = false ∧ isStar b = false ∧ pr = true
  | .val => True
  | .enz a b => ∃ f p q f2 p2 q2, it = .Call (.Name f p) [.Call (.Name f2 p2) [a, b] [] q2] [] q ∧ f = "enumerate" ∧ f2 = "zip" ∧ S.glb f = true ∧ isBlt (S.G f) = true ∧ S.glb f2 = true ∧ isBlt (S.G f2) = true ∧ isStar a = false ∧ isStar b = false ∧ pr = true
theorem zipSh_ok {S : SI} {e x y : Expr} (h : zipSh S e = some (x, y)) : ∃ f p q, e = .Call (.Name f p) [x, y] [] q ∧ f = "zip" ∧ S.glb f = true ∧ isBlt (S.G f) = true ∧ isStar x = false ∧ isStar y = false := by
  unfold zipSh at h
  split at h
  · split at h
    · rename_i f p a b q hc
      cases h
      simp only [Bool.and_eq_true, Bool.not_eq_true'] at hc
      exact ⟨_, _, _, rfl, eq_of_beq hc.1.1.1.1, hc.1.1.1.2, hc.1.1.2, hc.1.2, hc.2⟩
    · cases h
  · cases h
theorem itSh_ok (S : SI) (it : Expr) (pr : Bool) : ItOk S it pr (itSh S it pr) := by
  unfold itSh
  split
  · split
    · rename_i h
      simp only [Bool.and_eq_true] at h
      split
      · rename_i q
        split
        · trivial
        · rename_i hs; exact ⟨_, _, _, rfl, eq_of_beq q, h.1, h.2, Bool.eq_false_iff.mpr hs⟩
      · split
        · rename_i q
          simp only [Bool.and_eq_true] at q
          split
          · split
            · trivial
            · rename_i hs
              split
              · rename_i x y hz
                obtain ⟨f2, p2, q2, rfl, z1, z2, z3, z4, z5⟩ := zipSh_ok hz
                exact ⟨_, _, _, _, _, _, rfl, eq_of_beq q.1, z1, h.1, h.2, z2, z3, z4, z5, q.2⟩
              · exact ⟨_, _, _, rfl, eq_of_beq q.1, h.1, h.2, Bool.eq_false_iff.mpr hs, q.2⟩
          · trivial
        · split
          · rename_i q
            simp only [Bool.and_eq_true] at q
            split
            · split
              · trivial
              · rename_i hs
                simp only [Bool.or_eq_true, not_or, Bool.not_eq_true] at hs
                exact ⟨_, _, _, rfl, eq_of_beq q.1, h.1, h.2, hs.1, hs.2, q.2⟩
            · trivial
          · trivial
    · trivial
  · trivial
def DiOk (ks : List (Option Expr)) (vs : List Expr) : DiS → Prop
  | .nil => ks = [] ∧ vs = []
  | .one k v => ∃ j p, ks = [some (.Constant (.int k) j p)] ∧ vs = [v]
  | .gen ps => ks = ps.map (fun p => some p.1) ∧ vs = ps.map (·.2) ∧ ps ≠ [] ∧ ps.length ≤ 15
  | .bad => True
theorem zipKV_ok : ∀ {ks : List (Option Expr)} {vs : List Expr} {ps : List (Expr × Expr)}, zipKV ks vs = some ps → ks = ps.map (fun p => some p.1) ∧ vs = ps.map (·.2)
  | [], [], ps, h => by simp only [zipKV, Option.some.injEq] at h; subst h; exact ⟨rfl, rfl⟩
  | some k :: ks, v :: vs, ps, h => by
    simp only [zipKV, Option.map_eq_some_iff] at h
    obtain ⟨r, h, rfl⟩ := h
    obtain ⟨rfl, rfl⟩ := zipKV_ok h
    exact ⟨rfl, rfl⟩
  | [], _ :: _, ps, h => by simp only [zipKV] at h; cases h
  | none :: _, [], ps, h => by simp only [zipKV] at h; cases h
  | none :: _, _ :: _, ps, h => by simp only [zipKV] at h; cases h
  | some _ :: _, [], ps, h => by simp only [zipKV] at h; cases h
theorem dicSh_ok (ks : List (Option Expr)) (vs : List Expr) : DiOk ks vs (dicSh ks vs) := by
  unfold dicSh
  split
  · exact ⟨rfl, rfl⟩
  · exact ⟨_, _, rfl, rfl⟩
  · split
    · rename_i hl
      split
      · rename_i ps h
        obtain ⟨h1, h2⟩ := zipKV_ok h
        have l := congrArg List.length h1
        simp only [List.length_cons, List.length_map] at l
        exact ⟨h1, h2, fun z => by rw [z] at l; simp at l, by omega⟩
      · trivial
    · trivial
  · trivial
def LcOk (gs : List Comprehension) : LcS → Prop
  | .one tg it none => gs = [⟨tg, it, [], 0⟩] ∧ isSetD it = false
  | .one tg it (some c) => gs = [⟨tg, it, [c], 0⟩] ∧ isSetD it = false
  | .bad => True
theorem lcSh_ok (gs : List Comprehension) : LcOk gs (lcSh gs) := by
  unfold lcSh
  split
  · split
    · trivial
    · rename_i h; exact ⟨rfl, Bool.eq_false_iff.mpr h⟩
  · split
    · trivial
    · rename_i h; exact ⟨rfl, Bool.eq_false_iff.mpr h⟩
  · trivial
theorem slSh_ok {i : Expr} {lo hi : Option Expr} (h : slSh i = some (lo, hi)) : ∃ p, i = .Slice lo hi none p := by
  unfold slSh at h
  split at h
  · cases h; exact ⟨_, rfl⟩
  · cases h
theorem rvSh_ok {i : Expr} (h : rvSh i = true) : ∃ k p1 p2 p3, i = .Slice none none (some (.UnaryOp .USub (.Constant (.int 1) k p1) p2)) p3 := by
  unfold rvSh at h
  split at h
  · rename_i j k p1 p2 p3
    have e := eq_of_beq h
    subst e
    exact ⟨_, _, _, _, rfl⟩
  · cases h
/-! ### readings -/
section
variable {X : Cx} {S : SI} {Phi : Tab} {ga : Str → Addr} {W : WX}
theorem PE.by {ex : Expr} {r r' : Env → Ev D} (h : PE X ex (tI X.K ga W r')) (k : ∀ e, r e = r' e) : PE X ex (tI X.K ga W r) := by rw [funext k]; exact h
theorem PT.by {ex : Expr} {r r' : Env → Ev Bool} (h : PT X ex (tT X.K ga W r')) (k : ∀ e, r e = r' e) : PT X ex (tT X.K ga W r) := by rw [funext k]; exact h
theorem PE.stop {ex : Expr} {r : Env → Ev D} (k : ∀ e, r e = stop) : PE X ex (tI X.K ga W r) := PE.none _ (stop_no k)
theorem PT.stop {ex : Expr} {r : Env → Ev Bool} (k : ∀ e, r e = stop) : PT X ex (tT X.K ga W r) := PT.none _ (stop_no k)
theorem PW.imp {e : Expr} {t t' : TT} (h : PW X e t) (k : ∀ sg H Q, t' sg H Q → t sg H Q) : PW X e t' := ⟨fun w pins s sg H Q I z => h.run w pins s sg H Q I (k _ _ _ z)⟩
theorem PO.imp {e : Option Expr} {t t' : TO} (h : PO X e t) (k : ∀ sg H Q, t' sg H Q → t sg H Q) : PO X e t' := ⟨fun pins s sg H Q I z => h.run pins s sg H Q I (k _ _ _ z)⟩
theorem PTs.imp {e : List Expr} {t t' : TT} (h : PTs X e t) (k : ∀ sg H Q, t' sg H Q → t sg H Q) : PTs X e t' := ⟨fun pins s sg H Q I z => h.run pins s sg H Q I (k _ _ _ z)⟩
abbrev tP (K : PySem.W.Frag) (ga : Str → Addr) (W : WX) (r : Env → Ev (Option Int)) : TO := tG K ga W (REq (Option Int)) r
theorem toB_inv {l : Nat} {rho : List Addr} {H : Hp} {α β : Type} {R : List Addr → Hp → α → β → Prop} {d : D} {f : Bool → Ev α} {M : Mem} {Q : β → Hp → Prop} {x : V} (r : VR X.K ga rho H d x) (h : RG X.K ga W l R rho H (bnd (toB d) f M) Q) : ∃ c, x = .bl c ∧ RG X.K ga W l R rho H (f c M) Q := by
  unfold bnd toB at h
  cases d <;> try exact h.elim
  rename_i b
  exact ⟨b, r.blE, h⟩
theorem read_ret {d : D} {v : V} (hv : ∀ rho H, VR X.K ga rho H d v) : ∀ sg H Q, tI X.K ga W (fun _ => ret d) sg H Q → tC v sg H Q := by
  rintro sg H Q ⟨rho, M, e, m, n, z⟩
  exact z rho H v Ext.refl m (hv _ _)
theorem read_un {f : D → Ev D} (hn : ∀ x, Nx (f x)) {dA : Env → Ev D} : ∀ sg H Q, tI X.K ga W (fun e => bnd (dA e) f) sg H Q → tUn (r1 X.K ga f) (tI X.K ga W dA) sg H Q := by
  intro sg H Q z
  refine (tG.one (R := VR X.K ga) z).mono ?_
  rintro x H1 ⟨rho1, d, M1, e, at1, rd, z1⟩
  exact ⟨rho1, M1, d, at1.m, rd, z1.op (fun c M' q => hn d M1 c M' q)⟩
theorem read_bin {f : D → D → Ev D} (hn : ∀ x y, Nx (f x y)) {dA dB : Env → Ev D} : ∀ sg H Q, tI X.K ga W (fun e => bnd (dA e) fun x => bnd (dB e) fun y => f x y) sg H Q → tOp (r2 X.K ga f) (tI X.K ga W dA) (tI X.K ga W dB) sg H Q := by
  intro sg H Q z
  refine (tG.one (R := VR X.K ga) z).mono ?_
  rintro x H1 ⟨rho1, d, M1, e, at1, rd, z1⟩
  refine (At.nxt (R2 := VR X.K ga) at1 z1).mono ?_
  rintro y H2 ⟨rho2, d2, M2, x2, at2, rd2, z2⟩
  exact ⟨rho2, M2, d, d2, at2.m, rd.ext x2, rd2, z2.op (fun c M' q => hn d d2 M2 c M' q)⟩
theorem read_chain {op op2 : CmpOp} {dA dB dC : Env → Ev D} : ∀ sg H Q, tI X.K ga W (fun e => bnd (dA e) fun x => bnd (dB e) fun y => bnd (dCmp op x y) fun z => bnd (toB z) fun k =>
          if k = true then bnd (dC e) fun w => dCmp op2 y w else ret (.bl false)) sg H Q → tChain (r2 X.K ga (dCmp op)) (r2 X.K ga (dCmp op2)) (tI X.K ga W dA) (tI X.K ga W dB) (tI X.K ga W dC) sg H Q := by
  intro sg H Q z
  refine (tG.one (R := VR X.K ga) z).mono ?_
  rintro x H1 ⟨rho1, d, M1, e, at1, rd, z1⟩
  refine (At.nxt (R2 := VR X.K ga) at1 z1).mono ?_
  rintro y H2 ⟨rho2, d2, M2, x2, at2, rd2, z2⟩
  refine ⟨rho2, M2, d, d2, at2.m, rd.ext x2, rd2, ?_⟩
  have z3 := (RG.bnd (R := VR X.K ga) z2).op (fun c M' q => nx_cmp op d d2 M2 c M' q)
  cases ec : dCmp op d d2 M2 with
  | no => rw [ec] at z3; exact z3.elim
  | ex c M' => rw [ec] at z3; exact z3.elim
  | ok q M' =>
    rw [ec] at z3
    intro rho' H' v x3 m3 rv
    obtain ⟨rho4, q', M4, x4, m4, rv4, z4⟩ := z3 rho' H' v x3 m3 rv
    obtain ⟨k, rfl, z5⟩ := toB_inv rv4 z4
    refine ⟨k, rfl, ?_⟩
    cases k with
    | false =>
      rw [if_neg Bool.false_ne_true]
      rw [if_neg Bool.false_ne_true] at z5
      exact z5 rho4 H' _ Ext.refl m4 (by simp only [VR])
    | true =>
      rw [if_pos rfl]
      rw [if_pos rfl] at z5
      have at4 : At X ga e sg rho4 M4 H' := ⟨m4, at2.n.ext x4⟩
      refine (At.nxt (R2 := VR X.K ga) at4 z5).mono ?_
      rintro w H5 ⟨rho5, d5, M5, x5, at5, rd5, z6⟩
      exact ⟨rho5, M5, d2, d5, at5.m, (rd2.ext x4).ext x5, rd5, z6.op (fun c M' q => nx_cmp op2 d2 d5 M5 c M' q)⟩
theorem read_chain3 {op op2 op3 : CmpOp} {dA dB dC dE : Env → Ev D} : ∀ sg H Q, tI X.K ga W (fun e => bnd (dA e) fun x => bnd (dB e) fun y => bnd (dCmp op x y) fun z => bnd (toB z) fun k =>
          if k = true then bnd (dC e) fun w => bnd (dCmp op2 y w) fun z2 => bnd (toB z2) fun k2 => if k2 = true then bnd (dE e) fun v => dCmp op3 w v else ret (.bl false) else ret (.bl false)) sg H Q → tChain3 (r2 X.K ga (dCmp op)) (r2 X.K ga (dCmp op2)) (r2 X.K ga (dCmp op3)) (tI X.K ga W dA) (tI X.K ga W dB) (tI X.K ga W dC) (tI X.K ga W dE) sg H Q := by
  intro sg H Q z
  refine (tG.one (R := VR X.K ga) z).mono ?_
  rintro x H1 ⟨rho1, d, M1, e, at1, rd, z1⟩
  refine (At.nxt (R2 := VR X.K ga) at1 z1).mono ?_
  rintro y H2 ⟨rho2, d2, M2, x2, at2, rd2, z2⟩
  refine ⟨rho2, M2, d, d2, at2.m, rd.ext x2, rd2, ?_⟩
  have z3 := (RG.bnd (R := VR X.K ga) z2).op (fun c M' q => nx_cmp op d d2 M2 c M' q)
  cases ec : dCmp op d d2 M2 with
  | no => rw [ec] at z3; exact z3.elim
  | ex c M' => rw [ec] at z3; exact z3.elim
  | ok q M' =>
    rw [ec] at z3
    intro rho' H' v x3 m3 rv
    obtain ⟨rho4, q', M4, x4, m4, rv4, z4⟩ := z3 rho' H' v x3 m3 rv
    obtain ⟨k, rfl, z5⟩ := toB_inv rv4 z4
    refine ⟨k, rfl, ?_⟩
    cases k with
    | false =>
      rw [if_neg Bool.false_ne_true]
      rw [if_neg Bool.false_ne_true] at z5
      exact z5 rho4 H' _ Ext.refl m4 (by simp only [VR])
    | true =>
      rw [if_pos rfl]
      rw [if_pos rfl] at z5
      have at4 : At X ga e sg rho4 M4 H' := ⟨m4, at2.n.ext x4⟩
      refine (At.nxt (R2 := VR X.K ga) at4 z5).mono ?_
      rintro w H5 ⟨rho5, d5, M5, x5, at5, rd5, z6⟩
      refine ⟨rho5, M5, d2, d5, at5.m, (rd2.ext x4).ext x5, rd5, ?_⟩
      have z7 := (RG.bnd (R := VR X.K ga) z6).op (fun c M' q => nx_cmp op2 d2 d5 M5 c M' q)
      cases ec2 : dCmp op2 d2 d5 M5 with
      | no => rw [ec2] at z7; exact z7.elim
      | ex c M' => rw [ec2] at z7; exact z7.elim
      | ok q2 M6 =>
        rw [ec2] at z7
        intro rho' H' v x6 m6 rv6
        obtain ⟨rho7, q7, M7, x7, m7, rv7, z8⟩ := z7 rho' H' v x6 m6 rv6
        obtain ⟨k2, rfl, z9⟩ := toB_inv rv7 z8
        refine ⟨k2, rfl, ?_⟩
        cases k2 with
        | false =>
          rw [if_neg Bool.false_ne_true]
          rw [if_neg Bool.false_ne_true] at z9
          exact z9 rho7 H' _ Ext.refl m7 (by simp only [VR])
        | true =>
          rw [if_pos rfl]
          rw [if_pos rfl] at z9
          have at7 : At X ga e sg rho7 M7 H' := ⟨m7, at5.n.ext x7⟩
          refine (At.nxt (R2 := VR X.K ga) at7 z9).mono ?_
          rintro w8 H8 ⟨rho8, d8, M8, x8, at8, rd8, z10⟩
          exact ⟨rho8, M8, d5, d8, at8.m, (rd5.ext x7).ext x8, rd8, z10.op (fun c M' q => nx_cmp op3 d5 d8 M8 c M' q)⟩
theorem nx_is (neg : Bool) (c : Const) (x : D) : Nx (isE neg c x) := fun M c' M' h => by
  unfold isE opt at h
  cases e : dIs x c <;> rw [e] at h <;> cases h
theorem read_is {neg : Bool} {c : Const} {cv : V} {dA : Env → Ev D} : ∀ sg H Q, tI X.K ga W (fun e => bnd (dA e) (isE neg c)) sg H Q →
    tOp (fun x y H Q => y = cv ∧ ∃ rho M a b, MR X.K ga rho H M ∧ VR X.K ga rho H a x ∧ dIs a c = some b ∧ Q (.bl (if neg then !b else b)) H) (tI X.K ga W dA) (tC cv) sg H Q := by
  intro sg H Q z
  refine (tG.one (R := VR X.K ga) z).mono ?_
  rintro x H1 ⟨rho1, d, M1, e, at1, rd, z1⟩
  have z2 := z1.op (fun c' M' q => nx_is neg c d M1 c' M' q)
  unfold isE opt at z2
  cases eb : dIs d c with
  | none => rw [eb] at z2; exact z2.elim
  | some b =>
    rw [eb] at z2
    exact ⟨rfl, rho1, M1, d, b, at1.m, rd, eb, Op.here z2 at1.m (by simp only [VR])⟩
theorem read_test {m : Env → Ev D} {t : TE} (k : ∀ sg H Q, tI X.K ga W m sg H Q → t sg H Q) : ∀ sg H Q, tT X.K ga W (fun e => bnd (m e) toB) sg H Q → tTest t sg H Q := by
  intro sg H Q z
  refine k _ _ _ ((tG.one (R := VR X.K ga) z).mono ?_)
  rintro x H1 ⟨rho1, d, M1, e, at1, rd, z1⟩
  unfold toB at z1
  cases d <;> try exact z1.elim
  rename_i b
  exact ⟨b, rd.blE, z1 rho1 H1 b Ext.refl at1.m rfl⟩
end
end Pf
set_option maxHeartbeats 4000000
/-! Pf: every expression has its meaning. -/
namespace Pf
open PySem PySem.Spec PyProof.Rows L2
structure AllE (Phi : Tab) (ga : Str → Addr) (n : Nat) : Prop where
  E : ∀ {X : Cx} {S : SI} {W : WX}, OKX S Phi ga W X → ∀ ex, PE X ex (tI X.K ga W (denE Phi n S ex))
  P : ∀ {X : Cx} {S : SI} {W : WX}, OKX S Phi ga W X → ∀ o, PO X o (tP X.K ga W (denP Phi n S o))
  T : ∀ {X : Cx} {S : SI} {W : WX}, OKX S Phi ga W X → ∀ ex, PT X ex (tT X.K ga W (denT Phi n S ex))
  B : ∀ {X : Cx} {S : SI} {W : WX}, OKX S Phi ga W X → ∀ op as p, PW X (.BoolOp op as p) (tT X.K ga W (denT Phi n S (.BoolOp op as p)))
  A : ∀ {X : Cx} {S : SI} {W : WX}, OKX S Phi ga W X → ∀ as, as.any isStar = false → PA X as (tL X.K ga W (denA Phi n S as))
  I : ∀ {X : Cx} {S : SI} {W : WX}, OKX S Phi ga W X → ∀ tg it, PI X tg it (tG X.K ga W (RSrc X.K ga) (denI Phi n S it (isTupE tg)))
section
variable {Phi : Tab} {ga : Str → Addr}
theorem allE_0 : AllE Phi ga 0 where
  E _ ex := PE.stop fun e => by simp only [denE]
  P _ ex := ⟨fun pins s sg H Q I z => (stop_no (R := REq (Option Int)) (fun e => by simp only [denP]) _ _ _ z).elim⟩
  T _ ex := PT.stop fun e => by simp only [denT]
  B _ op as p := ⟨fun w pins s sg H Q I z => (stop_no (R := REq Bool) (fun e => by simp only [denT]) _ _ _ z).elim⟩
  A _ as _ := PA.none _ (stop_no fun e => by simp only [denA])
  I _ tg it := PI.none _ (stop_no fun e => by simp only [denI])
variable {X : Cx} {S : SI} {W : WX} {n : Nat}
theorem vis_of (ok : OKX S Phi ga W X) {x : Str} (h : S.vis x = true) : Vis X.env.scope x := by
  unfold SI.vis at h
  unfold Vis
  rw [ok.sc]
  split at h
  · rename_i e; exact .inl e
  · rename_i e; exact .inr (.inl e)
  · rename_i e; exact .inr (.inr e)
  · cases h
theorem e_name (ok : OKX S Phi ga W X) (x : Str) (p : Pos) : PE X (.Name x p) (tI X.K ga W (denE Phi (n + 1) S (.Name x p))) := by
  by_cases hv : S.vis x = true
  · cases hi : S.ix x with
    | none => exact PE.stop fun e => by simp only [denE, hv, hi, if_true]
    | some i =>
      have hN := ix_get hi
      have hm : x ∈ S.N := List.mem_of_getElem? hN
      obtain ⟨d1, d2⟩ := ok.nN x hm
      refine PE.by (r' := fun e => getS i e) (PE.imp (pe_var (by rw [ok.N]; exact hN) (vis_of ok hv) d1 d2) ?_) fun e => by simp only [denE, hv, hi, if_true]
      rintro sg H Q ⟨rho, M, e, m, n, z⟩
      dsimp only [getS] at z
      split at z
      · rename_i d hd
        obtain ⟨v, q, r⟩ := n.at_ i d hd
        exact ⟨v, q, z rho H v Ext.refl m r⟩
      · exact z.elim
  · by_cases hg : S.glb x = true
    · cases hG : S.G x with
      | int i =>
        obtain ⟨t, hm⟩ := ok.intg x i hG
        refine PE.by (r' := fun e => ret (.int i)) (PE.imp (pe_glob (v := .int i) (gl_of ok hg) hm ⟨t, rfl⟩ (ok.nG x (by rw [hG]; trivial)).1) (read_ret (v := .int i) fun _ _ => by simp only [VR])) fun e => by simp only [denE, hv, hg, hG, if_true, if_false, Bool.false_eq_true]
      | txt z =>
        obtain ⟨t, hm⟩ := ok.txtg x z hG
        refine PE.by (r' := fun e => ret (.str z)) (PE.imp (pe_glob (v := .str z) (gl_of ok hg) hm ⟨t, rfl⟩ (ok.nG x (by rw [hG]; trivial)).1) (read_ret (v := .str z) fun _ _ => by simp only [VR])) fun e => by simp only [denE, hv, hg, hG, if_true, if_false, Bool.false_eq_true]
      | fn =>
        refine PE.by (r' := fun e => ret (.fn x)) (PE.imp (pe_glob (v := .ref (ga x)) (gl_of ok hg) (ok.fns x hG).mg rfl (ok.nG x (by rw [hG]; trivial)).1) (read_ret (v := .ref (ga x)) fun _ _ => by simp only [VR])) fun e => by simp only [denE, hv, hg, hG, if_true, if_false, Bool.false_eq_true]
      | unk => exact PE.stop fun e => by simp only [denE, hv, hg, hG, if_true, if_false, Bool.false_eq_true]
      | blt => exact PE.stop fun e => by simp only [denE, hv, hg, hG, if_true, if_false, Bool.false_eq_true]
      | cls => exact PE.stop fun e => by simp only [denE, hv, hg, hG, if_true, if_false, Bool.false_eq_true]
      | wrd => exact PE.stop fun e => by simp only [denE, hv, hg, hG, if_true, if_false, Bool.false_eq_true]
      | kls => exact PE.stop fun e => by simp only [denE, hv, hg, hG, if_true, if_false, Bool.false_eq_true]
    · exact PE.stop fun e => by simp only [denE, hv, hg, if_false, Bool.false_eq_true]
theorem e_const (c : Const) (j : Nat) (p : Pos) : PE X (.Constant c j p) (tI X.K ga W (denE Phi (n + 1) S (.Constant c j p))) := by
  cases c with
  | none => exact PE.by (r' := fun e => ret .non) (PE.imp pe_non (read_ret (v := .non) fun _ _ => by simp only [VR])) fun e => by simp only [denE]
  | bool b => exact PE.by (r' := fun e => ret (.bl b)) (PE.imp pe_bl (read_ret (v := .bl b) fun _ _ => by simp only [VR])) fun e => by simp only [denE]
  | int b => exact PE.by (r' := fun e => ret (.int b)) (PE.imp pe_int (read_ret (v := .int b) fun _ _ => by simp only [VR])) fun e => by simp only [denE]
  | str b => exact PE.by (r' := fun e => ret (.str b)) (PE.imp pe_str (read_ret (v := .str b) fun _ _ => by simp only [VR])) fun e => by simp only [denE]
  | _ => exact PE.stop fun e => by simp only [denE]
theorem r_if {dT : Env → Ev Bool} {dA dB : Env → Ev D} : ∀ sg H Q, tI X.K ga W (fun e => bnd (dT e) fun c => if c = true then dA e else dB e) sg H Q → tIf (tT X.K ga W dT) (tI X.K ga W dA) (tI X.K ga W dB) sg H Q := by
  intro sg H Q z
  refine (tG.one (R := REq Bool) z).mono ?_
  rintro c H1 ⟨rho1, d, M1, e, at1, rfl, z1⟩
  cases d with
  | true => rw [if_pos rfl] at z1 ⊢; exact .of at1 z1
  | false => rw [if_neg Bool.false_ne_true] at z1 ⊢; exact .of at1 z1
theorem r_and {dA dB : Env → Ev D} : ∀ sg H Q, tI X.K ga W (fun e => bnd (dA e) fun x => bnd (toB x) fun c => if c = true then dB e else ret (.bl false)) sg H Q → tAndV (tI X.K ga W dA) (tI X.K ga W dB) sg H Q := by
  intro sg H Q z
  refine (tG.one (R := VR X.K ga) z).mono ?_
  rintro x H1 ⟨rho1, d, M1, e, at1, rd, z1⟩
  obtain ⟨c, rfl, z2⟩ := toB_inv rd z1
  refine ⟨c, rfl, ?_⟩
  cases c with
  | true => rw [if_pos rfl] at z2 ⊢; exact .of at1 z2
  | false => rw [if_neg Bool.false_ne_true] at z2 ⊢; exact z2 rho1 H1 _ Ext.refl at1.m (by simp only [VR])
theorem pe_orS {a b : Expr} {rest : List Expr} {pos : Pos} {ta tb : TE} (ha : PE X a ta) (hb : PE X (.BoolOp .Or (b :: rest) pos) tb) : PE X (.BoolOp .Or (a :: b :: rest) pos) (fun sg H Q => ta sg H fun x H1 => ∃ c, TruV X.K x H1 c ∧ if c = true then Q x H1 else tb sg H1 Q) := by
  refine ⟨fun pins s sg H Q I h => ?_⟩
  refine BoolOp_or (thn (ha.run pins s sg H _ I h) fun v s1 ⟨x, H1, I1, r1, q1⟩ => ?_)
  obtain ⟨c, tc, q1⟩ := q1
  refine thn (tru_ok pins s1 sg H1 x v (fun c' H' => c' = c ∧ H' = H1) I1 r1 ⟨c, tc, rfl, rfl⟩) fun c' s2 ⟨H2, I2, e1, e2⟩ => ?_
  subst e1 e2
  cases c' with
  | false => exact hb.run pins s2 sg H2 Q I2 q1
  | true => exact ⟨x, H2, I2, r1, q1⟩
theorem toS_inv {l : Nat} {rho : List Addr} {H : Hp} {M : Mem} {d : D} {x : V} {g : Bool → Ev D} {Q : VK} (rd : VR X.K ga rho H d x) (z : RG X.K ga W l (VR X.K ga) rho H (Pf.bnd (toS d) g M) Q) : ∃ c, TruV X.K x H c ∧ RG X.K ga W l (VR X.K ga) rho H (g c M) Q := by
  unfold Pf.bnd toS at z
  cases d with
  | bl b =>
    simp only [VR] at rd
    subst rd
    exact ⟨b, rfl, z⟩
  | str s =>
    simp only [VR] at rd
    subst rd
    dsimp only at z
    by_cases h : s.length ≤ 16777216
    · rw [if_pos h] at z
      exact ⟨_, ⟨by rw [sizeLine_eq]; exact h, rfl⟩, z⟩
    · rw [if_neg h] at z
      exact z.elim
  | _ => exact z.elim
theorem r_or {dA dB : Env → Ev D} : ∀ sg H Q, tI X.K ga W (fun e => bnd (dA e) fun x => bnd (toS x) fun c => if c = true then ret x else dB e) sg H Q → (tI X.K ga W dA) sg H (fun x H1 => ∃ c, TruV X.K x H1 c ∧ if c = true then Q x H1 else (tI X.K ga W dB) sg H1 Q) := by
  intro sg H Q z
  refine (tG.one (R := VR X.K ga) z).mono ?_
  rintro x H1 ⟨rho1, d, M1, e, at1, rd, z1⟩
  obtain ⟨c, tc, z2⟩ := toS_inv rd z1
  refine ⟨c, tc, ?_⟩
  cases c with
  | false => rw [if_neg Bool.false_ne_true] at z2 ⊢; exact .of at1 z2
  | true => rw [if_pos rfl] at z2 ⊢; exact z2 rho1 H1 _ Ext.refl at1.m rd
theorem r_not {dA : Env → Ev D} : ∀ sg H Q, tI X.K ga W (fun e => bnd (dA e) fun x => bnd (toB x) fun c => ret (.bl (!c))) sg H Q → tNotV (tI X.K ga W dA) sg H Q := by
  intro sg H Q z
  refine (tG.one (R := VR X.K ga) z).mono ?_
  rintro x H1 ⟨rho1, d, M1, e, at1, rd, z1⟩
  obtain ⟨c, rfl, z2⟩ := toB_inv rd z1
  exact ⟨c, rfl, z2 rho1 H1 _ Ext.refl at1.m (by simp only [VR])⟩
theorem rt_and {dA dB : Env → Ev Bool} : ∀ sg H Q, tT X.K ga W (fun e => bnd (dA e) fun c => if c = true then dB e else ret false) sg H Q → tAnd (tT X.K ga W dA) (tT X.K ga W dB) sg H Q := by
  intro sg H Q z
  refine (tG.one (R := REq Bool) z).mono ?_
  rintro c H1 ⟨rho1, d, M1, e, at1, rfl, z1⟩
  cases d with
  | true => rw [if_pos rfl] at z1 ⊢; exact .of at1 z1
  | false => rw [if_neg Bool.false_ne_true] at z1 ⊢; exact z1 rho1 H1 _ Ext.refl at1.m rfl
theorem rt_or {dA dB : Env → Ev Bool} : ∀ sg H Q, tT X.K ga W (fun e => bnd (dA e) fun c => if c = true then ret true else dB e) sg H Q → tOr (tT X.K ga W dA) (tT X.K ga W dB) sg H Q := by
  intro sg H Q z
  refine (tG.one (R := REq Bool) z).mono ?_
  rintro c H1 ⟨rho1, d, M1, e, at1, rfl, z1⟩
  cases d with
  | false => rw [if_neg Bool.false_ne_true] at z1 ⊢; exact .of at1 z1
  | true => rw [if_pos rfl] at z1 ⊢; exact z1 rho1 H1 _ Ext.refl at1.m rfl
theorem rt_not {dA : Env → Ev Bool} : ∀ sg H Q, tT X.K ga W (fun e => bnd (dA e) fun c => ret (!c)) sg H Q → tNot (tT X.K ga W dA) sg H Q := by
  intro sg H Q z
  refine (tG.one (R := REq Bool) z).mono ?_
  rintro c H1 ⟨rho1, d, M1, e, at1, rfl, z1⟩
  exact z1 rho1 H1 _ Ext.refl at1.m rfl
theorem rt_val {dA : Env → Ev D} : ∀ sg H Q, tT X.K ga W (fun e => bnd (dA e) toB) sg H Q → tB (tI X.K ga W dA) sg H Q := read_test fun _ _ _ h => h
theorem room_u (ok : OKX S Phi ga W X) : X.A.units + 65 < cLine := by
  have h := ok.rm.un
  omega
/-- comparisons, as a value -/
theorem e_cmp (ok : OKX S Phi ga W X) (ih : AllE Phi ga n) {a : Expr} {ops : List CmpOp} {bs : List Expr} {p : Pos} : PE X (.Compare a ops bs p) (tI X.K ga W (denE Phi (n + 1) S (.Compare a ops bs p))) := by
  have h := cmpSh_ok ops bs
  cases hc : cmpSh ops bs with
  | isC neg c =>
    rw [hc] at h
    obtain ⟨⟨j, p2, rfl, rfl⟩, hk⟩ := h
    have key : ∀ cv, PE X (.Constant c j p2) (tC cv) → ((c = .none ∧ cv = .non) ∨ ∃ b, c = .bool b ∧ cv = .bl b) → PE X (.Compare a [if neg = true then .IsNot else .Is] [.Constant c j p2] p) (tI X.K ga W fun e => bnd (denE Phi n S a e) (isE neg c)) := by
      intro cv hcv hc'
      cases neg with
      | false => exact PE.imp (pe_cmpR (opIs cv hc') (ih.E ok a) hcv rfl) (read_is (neg := false))
      | true => exact PE.imp (pe_cmpR (opIsNot cv hc') (ih.E ok a) hcv rfl) (read_is (neg := true))
    refine PE.by (r' := fun e => bnd (denE Phi n S a e) (isE neg c)) ?_ fun e => by simp only [denE, hc]
    rcases hk with rfl | ⟨k, rfl⟩
    · exact key .non pe_non (.inl ⟨rfl, rfl⟩)
    · exact key (.bl k) pe_bl (.inr ⟨k, rfl, rfl⟩)
  | one op b =>
    rw [hc] at h
    obtain ⟨rfl, rfl, hs⟩ := h
    exact PE.by (PE.imp (pe_cmpR (opCmp op (room_u ok)) (ih.E ok a) (ih.E ok b) (mark_plain hs)) (read_bin (nx_cmp op))) fun e => by simp only [denE, hc]
  | two op op2 b c =>
    rw [hc] at h
    obtain ⟨rfl, rfl, hs, hs2⟩ := h
    exact PE.by (PE.imp (pe_chain (opCmp op (room_u ok)) (opCmp op2 (room_u ok)) (ih.E ok a) (ih.E ok b) (ih.E ok c) (mark_plain hs2)) read_chain) fun e => by simp only [denE, hc]
  | three op op2 op3 b c d =>
    rw [hc] at h
    obtain ⟨rfl, rfl, hs⟩ := h
    exact PE.by (PE.imp (pe_chain3 (opCmp op (room_u ok)) (opCmp op2 (room_u ok)) (opCmp op3 (room_u ok)) (ih.E ok a) (ih.E ok b) (ih.E ok c) (ih.E ok d) (mark_plain hs)) read_chain3) fun e => by simp only [denE, hc]
  | bad => exact PE.stop fun e => by simp only [denE, hc]
theorem t_cmp (ok : OKX S Phi ga W X) (ih : AllE Phi ga n) {a : Expr} {ops : List CmpOp} {bs : List Expr} {p : Pos} : PT X (.Compare a ops bs p) (tT X.K ga W (denT Phi (n + 1) S (.Compare a ops bs p))) := by
  have h := cmpSh_ok ops bs
  cases hc : cmpSh ops bs with
  | isC neg c =>
    rw [hc] at h
    obtain ⟨⟨j, p2, rfl, rfl⟩, hk⟩ := h
    have key : ∀ cv, PE X (.Constant c j p2) (tC cv) → ((c = .none ∧ cv = .non) ∨ ∃ b, c = .bool b ∧ cv = .bl b) → PT X (.Compare a [if neg = true then .IsNot else .Is] [.Constant c j p2] p) (tT X.K ga W fun e => bnd (bnd (denE Phi n S a e) (isE neg c)) toB) := by
      intro cv hcv hc'
      cases neg with
      | false => exact PT.imp (pt_cmpR (opIs cv hc') (ih.E ok a) hcv rfl) (read_test (read_is (neg := false)))
      | true => exact PT.imp (pt_cmpR (opIsNot cv hc') (ih.E ok a) hcv rfl) (read_test (read_is (neg := true)))
    refine PT.by (r' := fun e => bnd (bnd (denE Phi n S a e) (isE neg c)) toB) ?_ fun e => by simp only [denT, hc, plainT, if_false, Bool.false_eq_true]
    rcases hk with rfl | ⟨k, rfl⟩
    · exact key .non pe_non (.inl ⟨rfl, rfl⟩)
    · exact key (.bl k) pe_bl (.inr ⟨k, rfl, rfl⟩)
  | one op b =>
    rw [hc] at h
    obtain ⟨rfl, rfl, hs⟩ := h
    exact PT.by (PT.imp (pt_cmpR (opCmp op (room_u ok)) (ih.E ok a) (ih.E ok b) (mark_plain hs)) (read_test (read_bin (nx_cmp op)))) fun e => by simp only [denT, hc, plainT, if_false, Bool.false_eq_true]
  | two op op2 b c =>
    rw [hc] at h
    obtain ⟨rfl, rfl, hs, hs2⟩ := h
    exact PT.by (PT.imp (pt_chain (opCmp op (room_u ok)) (opCmp op2 (room_u ok)) (ih.E ok a) (ih.E ok b) (ih.E ok c) (mark_plain hs2)) (read_test read_chain)) fun e => by simp only [denT, hc, plainT, if_false, Bool.false_eq_true]
  | three op op2 op3 b c d =>
    rw [hc] at h
    obtain ⟨rfl, rfl, hs⟩ := h
    exact PT.by (PT.imp (pt_chain3 (opCmp op (room_u ok)) (opCmp op2 (room_u ok)) (opCmp op3 (room_u ok)) (ih.E ok a) (ih.E ok b) (ih.E ok c) (ih.E ok d) (mark_plain hs)) (read_test read_chain3)) fun e => by simp only [denT, hc, plainT, if_false, Bool.false_eq_true]
  | bad => exact PT.stop fun e => by simp only [denT, hc, plainT, if_false, Bool.false_eq_true]
theorem bnd_stop {α β : Type} {f : α → Ev β} : bnd stop f = stop := rfl
theorem bnd_ret {α β : Type} {a : α} {f : α → Ev β} : bnd (ret a) f = f a := rfl
theorem e_call (ok : OKX S Phi ga W X) (ih : AllE Phi ga n) {g : Expr} {as : List Expr} {ks : List Keyword} {p : Pos} : PE X (.Call g as ks p) (tI X.K ga W (denE Phi (n + 1) S (.Call g as ks p))) := by
  have h := callSh_ok S g as ks p
  cases hc : callSh S g as ks p with
  | fn f a r =>
    rw [hc] at h
    obtain ⟨p1, rfl, rfl, rfl, h1, h2, h3⟩ := h
    exact PE.by (pe_fn ok h1 h2 h3 (ih.A ok _ h3)) fun e => by simp only [denE, hc]
  | lrg q bs =>
    rw [hc] at h
    obtain ⟨f, p1, g2, p2, p3, b, r, rfl, rfl, rfl, rfl, h1, h2, h3, h4, h5, h6, h7⟩ := h
    exact PE.by (pe_lrg ok h1 h2 h3 h4 h5 h6 h7 (ih.A ok _ h7)) fun e => by simp only [denE, hc]
  | trg q bs =>
    rw [hc] at h
    obtain ⟨f, p1, g2, p2, p3, b, r, rfl, rfl, rfl, rfl, h1, h2, h3, h4, h5, h6, h7⟩ := h
    exact PE.by (pe_trg ok h1 h2 h3 h4 h5 h6 h7 (ih.A ok _ h7)) fun e => by simp only [denE, hc]
  | lset q a =>
    rw [hc] at h
    obtain ⟨f, p1, g2, p2, p3, rfl, rfl, rfl, h1, h2, h3, h4, h5, h6, h7⟩ := h
    exact PE.by (pe_lset ok h1 h2 h3 h4 h5 h6 h7 (ih.E ok a)) fun e => by simp only [denE, hc]
  | ldic q a =>
    rw [hc] at h
    obtain ⟨f, p1, g2, p2, p3, rfl, rfl, rfl, h1, h2, h3, h4, h5, h6, h7⟩ := h
    exact PE.by (pe_ldic ok h1 h2 h3 h4 h5 h6 h7 (ih.E ok a)) fun e => by simp only [denE, hc]
  | jn s a =>
    rw [hc] at h
    obtain ⟨j, p0, p1, rfl, rfl, rfl, h1, h2⟩ := h
    exact PE.by (pe_jn h1 h2 (ih.E ok a)) fun e => by simp only [denE, hc]
  | sp o a =>
    rw [hc] at h
    obtain ⟨p1, rfl, rfl, rfl, h1, h2, h3⟩ := h
    exact PE.by (pe_sp h1 h3 h2 (ih.E ok o) (ih.E ok a)) fun e => by simp only [denE, hc]
  | b1 f h0 a =>
    rw [hc] at h
    obtain ⟨p1, rfl, rfl, rfl, h1, h2, h3, h4⟩ := h
    refine PE.by (r' := fun e => bnd (denE Phi n S a e) h0) ?_ fun e => by simp only [denE, hc]
    rcases h4 with ⟨rfl, rfl⟩ | ⟨rfl, rfl⟩ | h4
    · refine pe_v1 ok (id := .type "list") (.inr ⟨_, rfl⟩) (by decide +kernel) (cList ok.calm) (fun x M c M' z => ?_) h1 h2 h3 (ih.E ok a)
      unfold dList at z
      split at z
      · exact nx_newl _ _ _ _ z
      · split at z
        · exact nx_newl _ _ _ _ z
        · split at z
          · exact nx_newl _ _ _ _ z
          · cases z
    · exact pe_v1 ok (id := .type "tuple") (.inr ⟨_, rfl⟩) (by decide +kernel) cTuple (nx_b1 (f := "tuple") (by rfl)) h1 h2 h3 (ih.E ok a)
    · obtain ⟨id, i1, i2, i3⟩ := b1_rule ok h4
      exact pe_v1 ok i1 i2 i3 (nx_b1 h4) h1 h2 h3 (ih.E ok a)
  | isi a T q =>
    rw [hc] at h
    obtain ⟨f, p1, p2, rfl, rfl, rfl, h1, h2, h3, h4, h5, h6, h7⟩ := h
    exact PE.by (pe_isi ok h1 h2 h3 h4 h5 h6 h7 (ih.E ok a)) fun e => by simp only [denE, hc]
  | isT a Ts =>
    rw [hc] at h
    obtain ⟨f, p1, es, kk, pp, rfl, rfl, rfl, h1, h2, h3, h4, h5, h6⟩ := h
    exact PE.by (pe_isT ok h1 h2 h3 h4 h5 h6 (ih.E ok a)) fun e => by simp only [denE, hc]
  | b2 f h0 a b =>
    rw [hc] at h
    obtain ⟨p1, rfl, rfl, rfl, h1, h2, h3, h4, h5⟩ := h
    obtain ⟨id, i2, i3, i4⟩ := b2_rule ok h5
    exact PE.by (pe_v2 ok i2 i3 i4 h1 h2 h3 h4 (ih.E ok a) (ih.E ok b)) fun e => by simp only [denE, hc]
  | m1 o m h0 a =>
    rw [hc] at h
    obtain ⟨p1, rfl, rfl, rfl, h1, h2, h3, h4⟩ := h
    exact PE.by (pe_m1 (room_u ok) h1 h4 h3 h2 (ih.E ok o) (ih.E ok a)) fun e => by simp only [denE, hc]
  | m2 o m h0 a b =>
    rw [hc] at h
    obtain ⟨p1, rfl, rfl, rfl, h1, h2, h3, h4, h5⟩ := h
    exact PE.by (pe_m2 h1 h5 h4 h2 h3 (ih.E ok o) (ih.E ok a) (ih.E ok b)) fun e => by simp only [denE, hc]
  | p0 o =>
    rw [hc] at h
    obtain ⟨p1, rfl, rfl, rfl, h1, h2⟩ := h
    exact PE.by (pe_p0 h1 h2 (ih.E ok o)) fun e => by simp only [denE, hc]
  | g1 o a =>
    rw [hc] at h
    obtain ⟨p1, rfl, rfl, rfl, h1, h2, h3⟩ := h
    exact PE.by (pe_g1 (room_u ok) h1 h3 h2 (ih.E ok o) (ih.E ok a)) fun e => by simp only [denE, hc]
  | g2 o a b =>
    rw [hc] at h
    obtain ⟨p1, rfl, rfl, rfl, h1, h2, h3, h4⟩ := h
    exact PE.by (pe_g2 (room_u ok) h1 h4 h2 h3 (ih.E ok o) (ih.E ok a) (ih.E ok b)) fun e => by simp only [denE, hc]
  | kc C as2 =>
    rw [hc] at h
    obtain ⟨p1, rfl, rfl, rfl, h1, h2, h3⟩ := h
    cases hk : S.mth C "__init__" with
    | none => exact PE.stop fun e => by simp only [denE, hc, hk, Pf.opt]
    | some k =>
      cases as with
      | nil =>
        cases n with
        | zero => exact PE.stop fun e => by simp only [denE, hc, hk, Pf.opt, denA, bnd_stop]
        | succ n => exact PE.by (pe_kc0 ok h1 h2 hk) fun e => by simp only [denE, hc, hk, Pf.opt, denA, bnd_ret]
      | cons x r => exact PE.by (pe_kc ok h1 h2 hk h3 (ih.A ok _ h3)) fun e => by simp only [denE, hc, hk, Pf.opt]
  | mo o m as2 =>
    rw [hc] at h
    obtain ⟨p1, rfl, rfl, rfl, h1, h2, h3, h4⟩ := h
    cases as with
    | nil =>
      cases n with
      | zero => exact PE.stop fun e => by simp only [denE, hc, bnd_stop]
      | succ n => exact PE.by (pe_mo0 ok h1 h3 (ih.E ok o)) fun e => by simp only [denE, hc, denA, bnd_ret]
    | cons x r => exact PE.by (pe_mo ok h1 h3 h2 h4 (ih.E ok o) (ih.A ok _ h2)) fun e => by simp only [denE, hc]
  | lv x q a r =>
    rw [hc] at h
    obtain ⟨rfl, rfl, rfl, h1⟩ := h
    exact PE.by (pe_lv ok h1 (ih.E ok (.Name x q)) (ih.A ok _ h1)) fun e => by simp only [denE, hc]
  | cv o i q a r =>
    rw [hc] at h
    obtain ⟨rfl, rfl, rfl, h1⟩ := h
    exact PE.by (pe_cv ok h1 (ih.E ok (.Subscript o i q)) (ih.A ok _ h1)) fun e => by simp only [denE, hc]
  | bk f h0 a c kp =>
    rw [hc] at h
    obtain ⟨p1, rfl, rfl, rfl, h1, h2, h3, h4⟩ := h
    exact PE.by (pe_bk ok h4 h1 h2 h3 (ih.E ok a) (ih.E ok c)) fun e => by simp only [denE, hc]
  | bad => exact PE.stop fun e => by simp only [denE, hc]
/-- the dict that stands at i, walked -/
theorem pi_dck {X : Cx} {ga : Str → Addr} {W : WX} {i : Nat} {tg it : Expr} (he : PE X it (tI X.K ga W (fun e => getS i e))) : PI X tg it (tG X.K ga W (RSrc X.K ga) (dckI i)) := by
  refine PI.imp (pi_keys he) fun sg H R z => ?_
  obtain ⟨rho, M, e, m, n, z⟩ := z
  refine ⟨rho, M, e, m, n, ?_⟩
  unfold dckI at z
  split at z
  · rename_i k hk
    split at z
    · rename_i kvs hM
      have g : getS i e M = .ok (.ref k) M := by unfold getS; rw [hk]
      show RG _ _ _ _ _ _ _ (getS i e M) _
      rw [g]
      intro rho' H' b x m' rv
      obtain ⟨a, o, xs, h1, h2, h3⟩ := m'.fdc hM
      simp only [VR] at rv
      obtain ⟨a', rfl, h4⟩ := rv
      rw [h1] at h4; cases h4
      exact ⟨a, o, rfl, .inl ⟨xs, h2, z rho' H' _ x m' ⟨a, o, xs, h1, h2, rfl⟩⟩⟩
    · exact z.elim
  · exact z.elim
theorem pi_dckD {X : Cx} {ga : Str → Addr} {W : WX} {r : Env → Ev D} {tg it : Expr} (he : PE X it (tI X.K ga W r)) : PI X tg it (tG X.K ga W (RSrc X.K ga) (fun e => bnd (r e) dckD)) := by
  refine PI.imp (pi_keys he) fun sg H R z => ?_
  refine (tG.one (R := VR X.K ga) z).mono ?_
  rintro b H1 ⟨rho1, d, M1, e, at1, rd, z1⟩
  unfold dckD at z1
  split at z1
  · rename_i k
    split at z1
    · rename_i kvs hM
      obtain ⟨a, o, xs, h1, h2, h3⟩ := at1.m.fdc hM
      simp only [VR] at rd
      obtain ⟨a', rfl, h4⟩ := rd
      rw [h1] at h4; cases h4
      exact ⟨a, o, rfl, .inl ⟨xs, h2, z1 rho1 H1 _ Ext.refl at1.m ⟨a, o, xs, h1, h2, rfl⟩⟩⟩
    · exact z1.elim
  · exact z1.elim
theorem lck_readS {X : Cx} {ga : Str → Addr} {W : WX} {rit : Env → Ev D} {r : Env → Ev Out} {E : Ends} {sg : L2.St} {H : Hp} (z : tS X.K ga W (lckS rit r) E sg H) : L2.tLock (tS X.K ga W r) E sg H := by
  obtain ⟨rho, M, e, m, n, z⟩ := z
  unfold lckS at z
  split at z
  · rename_i k _ he
    split at z
    · rename_i kvs hk
      obtain ⟨a, xs, h1, h2, h3⟩ := m.dct hk
      refine ⟨a, .dK xs, h2, trivial, fun od => ?_⟩
      have hz : ∀ o u, H a ≠ some (.frz o (.dK u)) := fun o u q => by rw [h2] at q; cases q
      have x := Ext.write (o := .frz od (.dK xs)) m h1 hz
      have m2 := m.write (o := .frz od (.dK xs)) (c := .fdc kvs) h1 ⟨od, xs, upd_same, h3.ext x⟩
      refine ⟨rho, M.set k (.fdc kvs), e, m2, n.ext x, ?_⟩
      cases hr : r e (M.set k (.fdc kvs)) with
      | no => rw [hr] at z; exact z.elim
      | ex c M2 => rw [hr] at z; exact z.elim
      | ok o M2 =>
        rw [hr] at z
        dsimp only at z
        split at z
        · rename_i kvs2 hk2
          have hin : a ∈ rho := List.mem_of_getElem? h1
          have key : ∀ rho' H', Ext rho (upd H a (.frz od (.dK xs))) rho' H' → MR X.K ga rho' H' M2 →
              H' a = some (.frz od (.dK xs)) ∧ Ext rho H rho' (upd H' a (.dK xs)) ∧ MR X.K ga rho' (upd H' a (.dK xs)) (M2.set k (.dct kvs2)) ∧ Mono rho' H' rho' (upd H' a (.dK xs)) := fun rho' H' x' m' => by
            have ha : H' a = some (.frz od (.dK xs)) := x'.fz _ _ _ upd_same
            have h1' := x'.get h1
            have kv2 := m'.fref hk2 h1' ha
            have mo : Mono rho' H' rho' (upd H' a (.dK xs)) := Mono.side fun u hu => by rw [ha] at hu; cases hu; rfl
            refine ⟨ha, ⟨x'.pre, fun c u q nc => ?_, fun c hc => ?_, fun c u q iu => ?_, fun c o u q => ?_⟩, m'.write h1' ⟨xs, upd_same, KVR.mono mo kv2⟩, mo⟩
            · have ne : c ≠ a := fun w => nc (by rw [w]; exact hin)
              rw [upd_ne ne]; exact x'.keep c u (by rw [upd_ne ne]; exact q) nc
            · refine (x'.new c hc).imp id fun w => ?_
              have ne : c ≠ a := fun w' => by rw [w', upd_same] at w; cases w
              rwa [upd_ne ne] at w
            · have ne : c ≠ a := fun w => by rw [w, h2] at q; cases q; cases iu
              rw [upd_ne ne]; exact x'.im c u (by rw [upd_ne ne]; exact q) iu
            · have ne : c ≠ a := fun w => by rw [w, h2] at q; cases q
              rw [upd_ne ne]; exact x'.fz c o u (by rw [upd_ne ne]; exact q)
          cases o with
          | nx e2 =>
            intro rho' H' sg' x' m' n'
            obtain ⟨ha, x2, m2', mo⟩ := key rho' H' x' m'
            exact ⟨ha, z rho' _ sg' x2 m2' (n'.mono mo)⟩
          | bk e2 =>
            intro rho' H' sg' x' m' n'
            obtain ⟨ha, x2, m2', mo⟩ := key rho' H' x' m'
            exact ⟨ha, z rho' _ sg' x2 m2' (n'.mono mo)⟩
          | ct e2 =>
            intro rho' H' sg' x' m' n'
            obtain ⟨ha, x2, m2', mo⟩ := key rho' H' x' m'
            exact ⟨ha, z rho' _ sg' x2 m2' (n'.mono mo)⟩
          | rt d =>
            intro rho' H' v x' m' rv
            obtain ⟨ha, x2, m2', mo⟩ := key rho' H' x' m'
            exact ⟨ha, z rho' _ v x2 m2' (VR.mono mo rv)⟩
        · exact z.elim
    · exact z.elim
  · exact z.elim
theorem lck_read {X : Cx} {ga : Str → Addr} {W : WX} {i : Nat} {r : Env → Ev D} {sg : L2.St} {H : Hp} {Q : VK} (z : tI X.K ga W (lckE i r) sg H Q) : L2.tLockE (tI X.K ga W r) sg H Q := by
  obtain ⟨rho, M, e, m, n, z⟩ := z
  unfold lckE at z
  split at z
  · rename_i k he
    split at z
    · rename_i kvs hk
      obtain ⟨a, xs, h1, h2, h3⟩ := m.dct hk
      refine ⟨a, .dK xs, h2, trivial, fun od => ?_⟩
      have hz : ∀ o u, H a ≠ some (.frz o (.dK u)) := fun o u q => by rw [h2] at q; cases q
      have x := Ext.write (o := .frz od (.dK xs)) m h1 hz
      have m2 := m.write (o := .frz od (.dK xs)) (c := .fdc kvs) h1 ⟨od, xs, upd_same, h3.ext x⟩
      refine ⟨rho, M.set k (.fdc kvs), e, m2, n.ext x, ?_⟩
      show RG _ _ _ _ _ _ _ (r e (M.set k (.fdc kvs))) _
      cases hr : r e (M.set k (.fdc kvs)) with
      | no => rw [hr] at z; exact z.elim
      | ex c M2 => rw [hr] at z; exact z.elim
      | ok v M2 =>
        rw [hr] at z
        dsimp only at z
        split at z
        · rename_i kvs2 hk2
          intro rho' H' b x' m' rv
          have ha : H' a = some (.frz od (.dK xs)) := x'.fz _ _ _ upd_same
          have h1' := x'.get h1
          have kv2 := m'.fref hk2 h1' ha
          have mo : Mono rho' H' rho' (upd H' a (.dK xs)) := Mono.side fun u hu => by rw [ha] at hu; cases hu; rfl
          have hin : a ∈ rho := List.mem_of_getElem? h1
          refine ⟨ha, z rho' _ b ?_ (m'.write h1' ⟨xs, upd_same, KVR.mono mo kv2⟩) (VR.mono mo rv)⟩
          refine ⟨x'.pre, fun c u q nc => ?_, fun c hc => ?_, fun c u q iu => ?_, fun c o u q => ?_⟩
          · have ne : c ≠ a := fun w => nc (by rw [w]; exact hin)
            rw [upd_ne ne]; exact x'.keep c u (by rw [upd_ne ne]; exact q) nc
          · refine (x'.new c hc).imp id fun w => ?_
            have ne : c ≠ a := fun w' => by rw [w', upd_same] at w; cases w
            rwa [upd_ne ne] at w
          · have ne : c ≠ a := fun w => by rw [w, h2] at q; cases q; cases iu
            rw [upd_ne ne]; exact x'.im c u (by rw [upd_ne ne]; exact q) iu
          · have ne : c ≠ a := fun w => by rw [w, h2] at q; cases q
            rw [upd_ne ne]; exact x'.fz c o u (by rw [upd_ne ne]; exact q)
        · exact z.elim
    · exact z.elim
  · exact z.elim
theorem dkSh_ok {S : SI} {tg it elt : Expr} {x : Str} {i : Nat} (h : dkSh S tg it elt = some (x, i)) : ∃ p, it = .Name x p ∧ S.vis x = true ∧ S.ix x = some i := by
  unfold dkSh at h
  split at h
  · rename_i a p b q
    simp only [Option.ite_none_right_eq_some, Bool.and_eq_true, Option.map_eq_some_iff, Prod.mk.injEq] at h
    obtain ⟨⟨_, hv⟩, j, h1, rfl, rfl⟩ := h
    exact ⟨_, rfl, hv, h1⟩
  · cases h
theorem e_lc (ok : OKX S Phi ga W X) (ih : AllE Phi ga n) {elt : Expr} {gs : List Comprehension} {sc : Scope} {p : Pos} : PE X (.ListComp elt gs sc p) (tI X.K ga W (denE Phi (n + 1) S (.ListComp elt gs sc p))) := by
  have h := lcSh_ok gs
  cases hc : lcSh gs with
  | one tg it ifs =>
    rw [hc] at h
    by_cases hb : blkC S.N { kind := .function, names := S.sc, isGenerator := false, isCoroutine := false, more := [] } sc (ownOf S sc.names) = true ∧ tgOwn (ownOf S sc.names) tg = true
    · have bo := blk_ok ok hb.1
      cases hk : dkSh S tg it elt with
      | none =>
        cases ifs with
        | none =>
          obtain ⟨rfl, hs⟩ := h
          refine PE.by (r' := fun e => bnd (denI Phi n S it (isTupE tg) e) fun s =>
              lcS s (tgO (S.blk sc.names) tg) (fun e1 => ret true) (fun e1 => denE Phi n (S.blk sc.names) elt e1) (wipeE e ((ownOf S sc.names).map (·.2)))) ?_ fun e => by simp only [denE, hc, hb, hk, if_true, and_self]
          refine PE.imp (pe_lc (tt := tT X.K ga W0 fun e1 => ret true) ok.calm (by rw [ok.N]; exact ok.nd) (ih.I ok tg it) bo (fun s H C cl fp => pgO (okBlk ok bo.kind s H C cl fp) tg) (fun s H C cl fp => PTs.imp pts_nil ?_) (fun s H C cl fp => ih.E (okBlk ok bo.kind s H C cl fp) elt) (set_plain hs)) fun sg H Q z => lc_read hb.2 z
          rintro sg' H' Q' ⟨rho, M, e, m, n, z⟩
          exact z rho H' true Ext.refl m rfl
        | some c =>
          obtain ⟨rfl, hs⟩ := h
          refine PE.by (r' := fun e => bnd (denI Phi n S it (isTupE tg) e) fun s =>
              lcS s (tgO (S.blk sc.names) tg) (fun e1 => denT Phi n (S.blk sc.names) c e1) (fun e1 => denE Phi n (S.blk sc.names) elt e1) (wipeE e ((ownOf S sc.names).map (·.2)))) ?_ fun e => by simp only [denE, hc, hb, hk, if_true, and_self]
          exact PE.imp (pe_lc ok.calm (by rw [ok.N]; exact ok.nd) (ih.I ok tg it) bo (fun s H C cl fp => pgO (okBlk ok bo.kind s H C cl fp) tg) (fun s H C cl fp => pts_one (ih.T (okBlk ok bo.kind s H C cl fp) c)) (fun s H C cl fp => ih.E (okBlk ok bo.kind s H C cl fp) elt) (set_plain hs)) fun sg H Q z => lc_read hb.2 z
      | some xi =>
        obtain ⟨x, i⟩ := xi
        obtain ⟨p', rfl, hv, hi⟩ := dkSh_ok hk
        have he : PE X (.Name x p') (tI X.K ga W (fun e => getS i e)) := PE.by (e_name (n := 0) ok x p') fun e => by simp only [denE, hv, hi, if_true]
        cases ifs with
        | none =>
          obtain ⟨rfl, hs⟩ := h
          refine PE.by (r' := fun e => lckE i (fun e => bnd (dckI i e) fun s =>
              lcS s (tgO (S.blk sc.names) tg) (fun e1 => ret true) (fun e1 => denE Phi n (S.blk sc.names) elt e1) (wipeE e ((ownOf S sc.names).map (·.2)))) e) ?_ fun e => by simp only [denE, hc, hb, hk, if_true, and_self]
          refine PE.imp (pe_lock (PE.imp (pe_lc (tt := tT X.K ga W0 fun e1 => ret true) ok.calm (by rw [ok.N]; exact ok.nd) (pi_dck he) bo (fun s H C cl fp => pgO (okBlk ok bo.kind s H C cl fp) tg) (fun s H C cl fp => PTs.imp pts_nil ?_) (fun s H C cl fp => ih.E (okBlk ok bo.kind s H C cl fp) elt) (set_plain hs)) fun sg H Q z => lc_read hb.2 z)) fun sg H Q z => lck_read z
          rintro sg' H' Q' ⟨rho, M, e, m, n, z⟩
          exact z rho H' true Ext.refl m rfl
        | some c =>
          obtain ⟨rfl, hs⟩ := h
          refine PE.by (r' := fun e => lckE i (fun e => bnd (dckI i e) fun s =>
              lcS s (tgO (S.blk sc.names) tg) (fun e1 => denT Phi n (S.blk sc.names) c e1) (fun e1 => denE Phi n (S.blk sc.names) elt e1) (wipeE e ((ownOf S sc.names).map (·.2)))) e) ?_ fun e => by simp only [denE, hc, hb, hk, if_true, and_self]
          exact PE.imp (pe_lock (PE.imp (pe_lc ok.calm (by rw [ok.N]; exact ok.nd) (pi_dck he) bo (fun s H C cl fp => pgO (okBlk ok bo.kind s H C cl fp) tg) (fun s H C cl fp => pts_one (ih.T (okBlk ok bo.kind s H C cl fp) c)) (fun s H C cl fp => ih.E (okBlk ok bo.kind s H C cl fp) elt) (set_plain hs)) fun sg H Q z => lc_read hb.2 z)) fun sg H Q z => lck_read z
    · exact PE.stop fun e => by simp only [denE, hc, hb, if_false]
  | bad => exact PE.stop fun e => by simp only [denE, hc]
theorem e_sub (ok : OKX S Phi ga W X) (ih : AllE Phi ga n) {o i : Expr} {p : Pos} : PE X (.Subscript o i p) (tI X.K ga W (denE Phi (n + 1) S (.Subscript o i p))) := by
  cases hc : slSh i with
  | some w =>
    obtain ⟨lo, hi⟩ := w
    obtain ⟨p2, rfl⟩ := slSh_ok hc
    refine PE.by (r' := fun e => bnd (denE Phi n S o e) fun x => bnd (denP Phi n S lo e) fun l => bnd (denP Phi n S hi e) fun h => dSlice x l h) (PE.imp (pe_slice (slD (ga := ga)) (ih.E ok o) (ih.P ok lo) (ih.P ok hi)) ?_) fun e => by simp only [denE, hc]
    intro sg H Q z
    refine (tG.one (R := VR X.K ga) z).mono ?_
    rintro x H1 ⟨rho1, d, M1, e, at1, rd, z1⟩
    refine (At.nxt (R2 := REq (Option Int)) at1 z1).mono ?_
    rintro y H2 ⟨rho2, d2, M2, x2, at2, rfl, z2⟩
    refine (At.nxt (R2 := REq (Option Int)) at2 z2).mono ?_
    rintro y3 H3 ⟨rho3, d3, M3, x3, at3, rfl, z3⟩
    exact ⟨rho3, M3, d, at3.m, (rd.ext x2).ext x3, z3.op (fun c M' q => nx_slice d _ _ M3 c M' q)⟩
  | none =>
    by_cases hr : rvSh i = true
    · obtain ⟨kk, p1, p2, p3, rfl⟩ := rvSh_ok hr
      refine PE.by (r' := fun e => bnd (denE Phi n S o e) dRev) (PE.imp (pe_revD (ga := ga) (ih.E ok o)) ?_) fun e => by simp only [denE, hc, hr, if_true]
      exact read_un nx_rev
    · by_cases hs : isSlice i = true
      · exact PE.stop fun e => by simp only [denE, hc, hr, hs, if_true, if_false, Bool.false_eq_true]
      · refine PE.by (PE.imp (pe_ix (ixD (by have := room_u ok; omega)) (ih.E ok o) (ih.E ok i) (sub_plain (Bool.eq_false_iff.mpr hs))) (read_bin nx_idx)) fun e => by simp only [denE, hc, hr, hs, if_false, Bool.false_eq_true]
theorem e_un (ok : OKX S Phi ga W X) (ih : AllE Phi ga n) {op : UnaryOp} {a : Expr} {p : Pos} : PE X (.UnaryOp op a p) (tI X.K ga W (denE Phi (n + 1) S (.UnaryOp op a p))) := by
  cases op with
  | USub => exact PE.by (PE.imp (pe_un unNeg (ih.E ok a)) (read_un nx_neg)) fun e => by simp only [denE]
  | Not => exact PE.by (PE.imp (pe_not (ih.E ok a)) r_not) fun e => by simp only [denE]
  | _ => exact PE.stop fun e => by simp only [denE]
theorem boSh_more {as : List Expr} {a b : Expr} {r : List Expr} (h : boSh as = .more a b r) : as = a :: b :: r := by
  unfold boSh at h
  split at h <;> cases h
  rfl
theorem boSh_one {as : List Expr} {a : Expr} (h : boSh as = .one a) : as = [a] := by
  unfold boSh at h
  split at h <;> cases h
  rfl
theorem e_bool (ok : OKX S Phi ga W X) (ih : AllE Phi ga n) {op : BoolOp} {as : List Expr} {p : Pos} : PE X (.BoolOp op as p) (tI X.K ga W (denE Phi (n + 1) S (.BoolOp op as p))) := by
  cases hc : boSh as with
  | one a =>
    have h := boSh_one hc
    subst h
    exact PE.by (pe_one (ih.E ok a)) fun e => by simp only [denE, hc]
  | more a b r =>
    have h := boSh_more hc
    subst h
    cases op with
    | And => exact PE.by (PE.imp (pe_and (ih.E ok a) (ih.E ok (.BoolOp .And (b :: r) p))) r_and) fun e => by simp only [denE, hc]
    | Or => exact PE.by (PE.imp (pe_orS (ih.E ok a) (ih.E ok (.BoolOp .Or (b :: r) p))) r_or) fun e => by simp only [denE, hc]
  | bad => exact PE.stop fun e => by simp only [denE, hc]
theorem t_bool (ok : OKX S Phi ga W X) (ih : AllE Phi ga n) {op : BoolOp} {as : List Expr} {p : Pos} : PW X (.BoolOp op as p) (tT X.K ga W (denT Phi (n + 1) S (.BoolOp op as p))) := by
  have PWby : ∀ {op as} {r r' : Env → Ev Bool}, PW X (.BoolOp op as p) (tT X.K ga W r') → (∀ e, r e = r' e) → PW X (.BoolOp op as p) (tT X.K ga W r) := fun h k => by rw [funext k]; exact h
  cases hc : boSh as with
  | one a =>
    have h := boSh_one hc
    subst h
    cases op with
    | And => exact PWby (pw_and1 (ih.T ok a)) fun e => by simp only [denT, hc, plainT, if_false, Bool.false_eq_true]
    | Or => exact PWby (pw_or1 (ih.T ok a)) fun e => by simp only [denT, hc, plainT, if_false, Bool.false_eq_true]
  | more a b r =>
    have h := boSh_more hc
    subst h
    cases op with
    | And => exact PWby (PW.imp (pw_and (ih.T ok a) (ih.B ok .And (b :: r) p)) rt_and) fun e => by simp only [denT, hc, plainT, if_false, Bool.false_eq_true]
    | Or => exact PWby (PW.imp (pw_or (ih.T ok a) (ih.B ok .Or (b :: r) p)) rt_or) fun e => by simp only [denT, hc, plainT, if_false, Bool.false_eq_true]
  | bad => exact ⟨fun w pins s sg H Q I z => (stop_no (R := REq Bool) (fun e => by simp only [denT, hc, plainT, if_false, Bool.false_eq_true]) _ _ _ z).elim⟩
theorem e_all (ok : OKX S Phi ga W X) (ih : AllE Phi ga n) (ex : Expr) : PE X ex (tI X.K ga W (denE Phi (n + 1) S ex)) := by
  cases ex with
  | Name x p => exact e_name ok x p
  | Constant c j p => exact e_const c j p
  | BinOp a op b p => exact PE.by (PE.imp (pe_op (opBin op) (ih.E ok a) (ih.E ok b)) (read_bin (nx_bin op))) fun e => by simp only [denE]
  | UnaryOp op a p => exact e_un ok ih
  | BoolOp op as p => exact e_bool ok ih
  | IfExp t a b p => exact PE.by (PE.imp (pe_ifExp (ih.T ok t) (ih.E ok a) (ih.E ok b)) r_if) fun e => by simp only [denE]
  | Compare a ops bs p => exact e_cmp ok ih
  | Call g as ks p => exact e_call ok ih
  | Subscript o i p => exact e_sub ok ih
  | Attribute o f p =>
    by_cases hs : isCall0 o = true
    · exact PE.stop fun e => by simp only [denE, hs, if_true]
    · exact PE.by (pe_at ok (Bool.eq_false_iff.mpr hs) (ih.E ok o)) fun e => by simp only [denE, hs, if_false, Bool.false_eq_true]
  | List es p =>
    by_cases hs : es.any isStar = true
    · exact PE.stop fun e => by simp only [denE, hs, if_true]
    · exact PE.by (pe_lstD (ih.A ok es (Bool.eq_false_iff.mpr hs))) fun e => by simp only [denE, hs, if_false, Bool.false_eq_true]
  | Tuple es k p =>
    by_cases hs : es.any isStar = true
    · exact PE.stop fun e => by simp only [denE, hs, if_true]
    · exact PE.by (pe_tupD (ih.A ok es (Bool.eq_false_iff.mpr hs))) fun e => by simp only [denE, hs, if_false, Bool.false_eq_true]
  | Dict ks vs p =>
    have h := dicSh_ok ks vs
    cases hc : dicSh ks vs with
    | nil => rw [hc] at h; obtain ⟨rfl, rfl⟩ := h; exact PE.by pe_dict0 fun e => by simp only [denE, hc]
    | one k v => rw [hc] at h; obtain ⟨j, p2, rfl, rfl⟩ := h; exact PE.by (pe_dict1 (ih.E ok v)) fun e => by simp only [denE, hc]
    | gen ps => rw [hc] at h; obtain ⟨rfl, rfl, h0, h15⟩ := h; exact PE.by (pe_dictG (f := fun e x => denE Phi n S x e) (fun x => ih.E ok x) h0 h15) fun e => by simp only [denE, hc]
    | bad => exact PE.stop fun e => by simp only [denE, hc]
  | ListComp elt gs sc p => exact e_lc ok ih
  | _ => exact PE.stop fun e => by simp only [denE]
theorem t_plain (ok : OKX S Phi ga W X) (ih : AllE Phi ga n) {ex : Expr} (h : plainT ex = true) : PT X ex (tT X.K ga W (denT Phi (n + 1) S ex)) :=
  PT.by (PT.imp (pt_val (ih.E ok ex) (true_plain h)) rt_val) fun e => by simp only [denT, h, if_true]
theorem t_all (ok : OKX S Phi ga W X) (ih : AllE Phi ga n) (ex : Expr) : PT X ex (tT X.K ga W (denT Phi (n + 1) S ex)) := by
  cases ex with
  | UnaryOp op a p =>
    cases op with
    | Not => exact PT.by (PT.imp (pt_not (ih.T ok a)) rt_not) fun e => by simp only [denT, plainT, if_false, Bool.false_eq_true]
    | _ => exact t_plain ok ih rfl
  | BoolOp op as p => exact (t_bool ok ih).pt
  | Compare a ops bs p => exact t_cmp ok ih
  | IfExp t a b p => exact PT.stop fun e => by simp only [denT, plainT, if_false, Bool.false_eq_true]
  | _ => exact t_plain ok ih rfl
theorem allE : ∀ n, AllE Phi ga n
  | 0 => allE_0
  | n + 1 => by
    have ih := allE n
    refine ⟨fun ok ex => e_all ok ih ex, fun {X S W} ok o => ?_, fun ok ex => t_all ok ih ex, fun ok op as p => t_bool ok ih, fun {X S W} ok as hs => ?_, fun {X S W} ok tg it => ?_⟩
    · cases o with
      | none =>
        refine PO.imp po_none ?_
        rintro sg H Q ⟨rho, M, e, m, n', z⟩
        simp only [denP] at z
        exact z rho H none Ext.refl m rfl
      | some x =>
        refine PO.imp (po_some (ih.E ok x)) fun sg H Q z => ?_
        have z' : tP X.K ga W (fun e => bnd (denE Phi n S x e) toPart) sg H Q := by simpa only [denP] using z
        refine (tG.one (R := VR X.K ga) z').mono ?_
        rintro y H1 ⟨rho1, d, M1, e, at1, rd, z1⟩
        unfold toPart at z1
        cases d <;> try exact z1.elim
        rename_i i
        exact ⟨i, rd.intE, z1 rho1 H1 _ Ext.refl at1.m rfl⟩
    · cases as with
      | nil =>
        refine PA.imp pa_nil ?_
        rintro sg H Q ⟨rho, M, e, m, n', z⟩
        simp only [denA] at z
        exact z rho H [] Ext.refl m (by simp only [VRs])
      | cons x r =>
        simp only [List.any_cons, Bool.or_eq_false_iff] at hs
        refine PA.imp (pa_cons (ih.E ok x) (ih.A ok r hs.2) (star_cons hs.1)) fun sg H Q z => ?_
        have z' : tL X.K ga W (fun e => bnd (denE Phi n S x e) fun d => bnd (denA Phi n S r e) fun ds => ret (d :: ds)) sg H Q := by simpa only [denA, hs.1, if_false, Bool.false_eq_true] using z
        refine (tG.one (R := VR X.K ga) z').mono ?_
        rintro y H1 ⟨rho1, d, M1, e, at1, rd, z1⟩
        refine (At.nxt (R2 := VRs X.K ga) at1 z1).mono ?_
        rintro ys H2 ⟨rho2, ds, M2, x2, at2, rds, z2⟩
        exact z2 rho2 H2 _ Ext.refl at2.m (by simp only [VRs]; exact ⟨y, ys, rfl, rd.ext x2, rds⟩)
    · have h := itSh_ok S it (isTupE tg)
      have PIby : ∀ {it : Expr} {r r' : Env → Ev Src}, PI X tg it (tG X.K ga W (RSrc X.K ga) r') → (∀ e, r e = r' e) → PI X tg it (tG X.K ga W (RSrc X.K ga) r) := fun h k => by rw [funext k]; exact h
      cases hc : itSh S it (isTupE tg) with
      | rng as =>
        rw [hc] at h
        obtain ⟨f, p, q, rfl, h1, h2, h3, h4⟩ := h
        cases as with
        | nil =>
          refine PI.none _ (stop_no fun e => ?_)
          simp only [denI, hc]
          cases n with
          | zero => simp only [denA]; rfl
          | succ n => simp only [denA]; rfl
        | cons a r => exact PIby (pi_rng ok tg h1 h2 h3 h4 (ih.A ok _ h4)) fun e => by simp only [denI, hc]
      | enm a =>
        rw [hc] at h
        obtain ⟨f, p, q, rfl, h1, h2, h3, h4, h5⟩ := h
        cases tg <;> try (simp [isTupE] at h5; done)
        exact PIby (pi_enm ok h1 h2 h3 h4 (ih.A ok _ (by simp [h4]))) fun e => by simp only [denI, hc]
      | zip a b =>
        rw [hc] at h
        obtain ⟨f, p, q, rfl, h1, h2, h3, h4, h5, h6⟩ := h
        cases tg <;> try (simp [isTupE] at h6; done)
        exact PIby (pi_zip2 ok h1 h2 h3 h4 h5 (ih.A ok _ (by simp [h4, h5]))) fun e => by simp only [denI, hc]
      | enz a b =>
        rw [hc] at h
        obtain ⟨f, p, q, f2, p2, q2, rfl, h1, h2, h3, h4, h5, h6, h7, h8, h9⟩ := h
        cases tg <;> try (simp [isTupE] at h9; done)
        exact PIby (pi_enz2 ok h1 h2 h3 h4 h5 h6 h7 h8 (ih.A ok _ (by simp [h7, h8]))) fun e => by simp only [denI, hc]
      | val =>
        by_cases hs : isSetD it = true
        · exact PI.none _ (stop_no fun e => by simp only [denI, hc, hs, if_true])
        · exact PIby (pi_val it tg (ih.E ok it)) fun e => by simp only [denI, hc, hs, if_false, Bool.false_eq_true]
end
end Pf
set_option maxHeartbeats 4000000
/-! Pf: statements. -/
namespace Pf
open PySem PySem.Spec PyProof.Rows L2
/-! ### the environment keeps its length -/
def LenO (l : Nat) : Res Out → Prop
  | .ok (.nx e) _ => e.length = l
  | .ok (.bk e) _ => e.length = l
  | .ok (.ct e) _ => e.length = l
  | _ => True
theorem LenO.bnd {α : Type} {l : Nat} {f : Ev α} {g : α → Ev Out} {M : Mem} (h : ∀ a M1, LenO l (g a M1)) : LenO l (bnd f g M) := by
  unfold Pf.bnd
  cases f M with
  | ok a M1 => exact h a M1
  | ex c M1 => trivial
  | no => trivial
theorem LenO.opt {α : Type} {l : Nat} {o : Option α} {g : α → Ev Out} {M : Mem} (h : ∀ a, o = some a → LenO l (g a M)) : LenO l (opt o g M) := by
  unfold Pf.opt
  cases e : o with
  | some a => exact h a e
  | none => trivial
theorem forGo_len {s : Src} {tg : D → Env → Option Env} {body : Env → Ev Out} {l : Nat} (ht : ∀ d e e', tg d e = some e' → e'.length = e.length) (hb : ∀ e M, e.length = l → LenO l (body e M)) : ∀ (k i : Nat) (e : Env) (M : Mem), e.length = l → LenO l (forGo s tg body k i e M)
  | 0, i, e, M, h => by
    unfold forGo
    split
    · exact h
    · trivial
  | k + 1, i, e, M, h => by
    unfold forGo
    split
    · split
      · rename_i d hd e1 h1
        have l1 : e1.length = l := (ht _ _ _ h1).trans h
        have hb1 := hb e1 M l1
        split
        · rename_i e2 M2 q; rw [q] at hb1; exact forGo_len ht hb k (i + 1) e2 M2 hb1
        · rename_i e2 M2 q; rw [q] at hb1; exact forGo_len ht hb k (i + 1) e2 M2 hb1
        · rename_i e2 M2 q; rw [q] at hb1; exact hb1
        · trivial
        · trivial
        · trivial
      · trivial
    · trivial
theorem whileGo_len {t : Env → Ev Bool} {body : Env → Ev Out} {l : Nat} (hb : ∀ e M, e.length = l → LenO l (body e M)) : ∀ (k : Nat) (e : Env) (M : Mem), e.length = l → LenO l (whileGo t body k e M)
  | 0, e, M, h => trivial
  | k + 1, e, M, h => by
    unfold whileGo
    split
    · exact h
    · rename_i M1 q
      have hb1 := hb e M1 h
      split
      · rename_i e2 M2 q; rw [q] at hb1; exact whileGo_len hb k e2 M2 hb1
      · rename_i e2 M2 q; rw [q] at hb1; exact whileGo_len hb k e2 M2 hb1
      · rename_i e2 M2 q; rw [q] at hb1; exact hb1
      · trivial
      · trivial
      · trivial
    · trivial
    · trivial
theorem den_len (Phi : Tab) : ∀ n, (∀ (S : SI) (st : Stmt) (e : Env) (M : Mem), LenO e.length (denS Phi n S st e M)) ∧ ∀ (S : SI) (sts : List Stmt) (e : Env) (M : Mem), LenO e.length (denB Phi n S sts e M)
  | 0 => ⟨fun S st e M => by simp only [denS]; trivial, fun S st e M => by simp only [denB]; trivial⟩
  | n + 1 => by
    obtain ⟨ihS, ihB⟩ := den_len Phi n
    constructor
    · intro S st e M
      cases st with
      | Return o p =>
        cases o with
        | some x => simp only [denS]; exact LenO.bnd fun _ _ => trivial
        | none => simp only [denS]; trivial
      | Expr x p =>
        simp only [denS]
        by_cases h : isComp x = true
        · rw [if_pos h]; trivial
        · rw [if_neg h]; exact LenO.bnd fun _ _ => rfl
      | Assign ts v p =>
        simp only [denS]
        cases asSh S ts v with
        | sub o i => exact LenO.bnd fun _ _ => LenO.bnd fun _ _ => LenO.bnd fun _ _ => LenO.bnd fun _ _ => rfl
        | fld o f => exact LenO.bnd fun _ _ => LenO.bnd fun _ _ => LenO.bnd fun _ _ => rfl
        | sw o i o2 i2 => exact LenO.bnd fun _ _ => LenO.bnd fun _ _ => LenO.bnd fun _ _ => LenO.bnd fun _ _ => LenO.bnd fun _ _ => LenO.bnd fun _ _ => LenO.bnd fun _ _ => LenO.bnd fun _ _ => rfl
        | tg t => exact LenO.bnd fun _ _ => LenO.opt fun a ha => tgO_len ha
        | p2 x y a b =>
          refine LenO.opt fun i _ => LenO.opt fun j _ => LenO.bnd fun vs M1 => ?_
          unfold set2
          split
          · simp [ret, LenO]
          · trivial
        | p3 x y z a b c =>
          refine LenO.opt fun i _ => LenO.opt fun j _ => LenO.opt fun k _ => LenO.bnd fun vs M1 => ?_
          unfold set3
          split
          · simp [ret, LenO]
          · trivial
        | bad => trivial
      | If t a b p =>
        simp only [denS]
        refine LenO.bnd fun c M1 => ?_
        cases c with
        | true => exact ihB _ _ _ _
        | false => exact ihB _ _ _ _
      | For tg it body els p =>
        simp only [denS]
        by_cases h : els.isEmpty = true
        · rw [if_pos h]
          have fl : ∀ (s : Src) (M1 : Mem), LenO e.length (forS s (tgO S tg) (denB Phi n S body) e M1) := fun s M1 => by
            unfold forS
            split
            · exact forGo_len (fun d e e' h => tgO_len h) (fun e' M' h => by rw [← h]; exact ihB _ _ _ _) _ _ _ _ rfl
            · trivial
          by_cases hd : dkF it = true
          · rw [if_pos hd]
            unfold lckS
            split
            · rename_i k _ _
              split
              · rename_i kvs hk
                have hl := LenO.bnd (l := e.length) (f := bnd (denE Phi n S it e) dckD) (g := fun s => forS s (tgO S tg) (denB Phi n S body) e) (M := M.set k (.fdc kvs)) fl
                split
                · rename_i o M2 q
                  dsimp only at q
                  rw [q] at hl
                  split
                  · cases o with
                    | nx e2 => exact hl
                    | bk e2 => exact hl
                    | ct e2 => exact hl
                    | rt d => trivial
                  · trivial
                · trivial
              · trivial
            · trivial
          · rw [if_neg hd]
            exact LenO.bnd fl
        · rw [if_neg h]; trivial
      | While t body els p =>
        simp only [denS]
        by_cases h : els.isEmpty = true
        · rw [if_pos h]; exact whileGo_len (fun e' M' h => by rw [← h]; exact ihB _ _ _ _) _ _ _ rfl
        · rw [if_neg h]; trivial
      | Raise x c p => simp only [denS]; exact LenO.opt fun _ _ => LenO.bnd fun _ _ => trivial
      | Try body hs els fin p =>
        simp only [denS]
        by_cases h : (els.isEmpty && fin.isEmpty) = true
        · rw [if_pos h]
          cases hndl S hs with
          | none => trivial
          | some w =>
            show LenO e.length (tryW S.Wd (denB Phi n S body e) M)
            have hb := ihB S body e M
            unfold tryW
            cases hq : denB Phi n S body e M with
            | ok o M1 => rw [hq] at hb; exact hb
            | no => trivial
            | ex c M1 =>
              dsimp only
              split <;> trivial
        · rw [if_neg h]; trivial
      | Pass p => simp only [denS]; exact rfl
      | Break p => simp only [denS]; exact rfl
      | Continue p => simp only [denS]; exact rfl
      | _ => simp only [denS]; trivial
    · intro S sts e M
      cases sts with
      | nil => simp only [denB]; exact rfl
      | cons st r =>
        simp only [denB]
        have h := ihS S st e M
        cases rplSh st r with
        | none =>
          dsimp only
          split
          · rename_i e1 M1 q
            rw [q] at h
            have h' : e1.length = e.length := h
            rw [← h']
            exact ihB _ _ _ _
          · exact h
        | some k =>
          obtain ⟨t, y, rs, r2⟩ := k
          dsimp only
          split
          · rename_i e1 M1 q
            rw [q] at h
            have h' : e1.length = e.length := h
            rw [← h']
            have h2 : LenO e1.length (denRS Phi n S t y rs e1 M1) := LenO.bnd fun _ _ => LenO.opt fun a ha => tgO_len ha
            split
            · rename_i e2 M2 q2
              rw [q2] at h2
              have h3 : e2.length = e1.length := h2
              rw [← h3]
              exact ihB _ _ _ _
            · exact h2
          · exact h
/-! ### shapes -/
theorem sw_pure {env : PySem.Env} {sc : List (Str × NameKind)} {ts vs : List Expr} {k k2 : Nat} {p p2 : Pos} {o : Option (List Str)} (hb : env.blockKind = .function) (hsc : env.scope.names = sc) (h : swP sc ts vs = some o) :
    swappedStores [.Tuple ts k p] (.Tuple vs k2 p2) env = pure o := by
  subst hsc
  unfold swP at h
  unfold swappedStores
  have e1 : (env.blockKind != ScopeKind.function) = false := by rw [hb]; rfl
  dsimp only
  rw [e1, Bool.or_false]
  split at h
  · rename_i c
    cases h
    exact (if_pos c)
  · rename_i c
    refine (if_neg c).trans ?_
    split at h
    · rename_i c
      cases h
      exact (if_pos c)
    · rename_i c
      refine (if_neg c).trans ?_
      split at h
      · rename_i c
        cases h
        exact (if_pos c)
      · rename_i c
        refine (if_neg c).trans ?_
        split at h
        · rename_i c
          cases h
          exact (if_pos c)
        · rename_i c
          refine (if_neg c).trans ?_
          split at h
          · cases h
          · rename_i c
            cases h
            exact (if_neg c)
end Pf
set_option maxHeartbeats 4000000
/-! Pf: every statement has its meaning. -/
namespace Pf
open PySem PySem.Spec PyProof.Rows L2
def AsOk (S : SI) (ts : List Expr) (v : Expr) : AsS → Prop
  | .sub o i => ∃ p, ts = [.Subscript o i p] ∧ isSlice i = false
  | .sw o i o2 i2 => ∃ q q2 k p vs k2 p2, ts = [.Tuple [.Subscript o i q, .Subscript o2 i2 q2] k p] ∧ v = .Tuple vs k2 p2 ∧ swP S.sc [.Subscript o i q, .Subscript o2 i2 q2] vs = some none ∧ isSlice i = false ∧ isSlice i2 = false
  | .tg t => ts = [t] ∧ ((∃ x p, t = .Name x p ∧ S.loc x = true ∧ (S.ix x).isSome = true ∧ lckV S v = false) ∨ ∃ es k p, t = .Tuple es k p ∧ (isTupE v = false ∨ ∃ vs k2 p2, v = .Tuple vs k2 p2 ∧ swP S.sc es vs = some none))
  | .p2 x y a b => ∃ px py kt pt k2 p2, ts = [.Tuple [.Name x px, .Name y py] kt pt] ∧ v = .Tuple [a, b] k2 p2 ∧ swP S.sc [.Name x px, .Name y py] [a, b] = some (some [x, y]) ∧ S.sc.lookup x = some .local ∧ S.sc.lookup y = some .local ∧ x ≠ y ∧ isStar a = false ∧ isStar b = false
  | .p3 x y z a b c => ∃ px py pz kt pt k2 p2, ts = [.Tuple [.Name x px, .Name y py, .Name z pz] kt pt] ∧ v = .Tuple [a, b, c] k2 p2 ∧ swP S.sc [.Name x px, .Name y py, .Name z pz] [a, b, c] = some (some [x, y, z]) ∧ S.sc.lookup x = some .local ∧ S.sc.lookup y = some .local ∧ S.sc.lookup z = some .local ∧
      x ≠ y ∧ x ≠ z ∧ y ≠ z ∧ isStar a = false ∧ isStar b = false ∧ isStar c = false
  | .fld o f => ∃ p, ts = [.Attribute o f p] ∧ isCall0 o = false
  | .bad => True
theorem kind_beq {a : Option NameKind} {b : NameKind} (h : (a == some b) = true) : a = some b := by
  cases a with
  | none => cases h
  | some a => cases a <;> cases b <;> first | rfl | cases h
theorem isLoc_ok {S : SI} {x : Str} (h : isLoc S x = true) : S.sc.lookup x = some .local := kind_beq h
theorem asSh_ok (S : SI) (ts : List Expr) (v : Expr) : AsOk S ts v (asSh S ts v) := by
  unfold asSh
  split
  · split
    · trivial
    · rename_i h; exact ⟨_, rfl, Bool.eq_false_iff.mpr h⟩
  · split
    · trivial
    · rename_i h; exact ⟨_, rfl, Bool.eq_false_iff.mpr h⟩
  · split
    · rename_i h
      simp only [Bool.and_eq_true] at h
      exact ⟨rfl, .inl ⟨_, _, rfl, h.1, h.2.1, by simpa using h.2.2⟩⟩
    · trivial
  · split
    · split
      · rename_i h
        split
        · split
          · trivial
          · rename_i q
            simp only [Bool.or_eq_true, not_or, Bool.not_eq_true] at q
            exact ⟨_, _, _, _, _, _, _, rfl, rfl, h, q.1, q.2⟩
        · exact ⟨rfl, .inr ⟨_, _, _, rfl, .inr ⟨_, _, _, rfl, h⟩⟩⟩
      · rename_i ns h
        split
        · split
          · rename_i q
            simp only [Bool.and_eq_true, Bool.not_eq_true'] at q
            obtain ⟨⟨⟨⟨⟨q1, q2⟩, q3⟩, q4⟩, q5⟩, q6⟩ := q
            have e := eq_of_beq q1
            subst e
            exact ⟨_, _, _, _, _, _, rfl, rfl, h, isLoc_ok q2, isLoc_ok q3, by simpa using q4, q5, q6⟩
          · trivial
        · split
          · rename_i q
            simp only [Bool.and_eq_true, Bool.not_eq_true'] at q
            obtain ⟨⟨⟨⟨⟨⟨⟨⟨⟨q1, q2⟩, q3⟩, q4⟩, q5⟩, q6⟩, q7⟩, q8⟩, q9⟩, q10⟩ := q
            have e := eq_of_beq q1
            subst e
            exact ⟨_, _, _, _, _, _, _, rfl, rfl, h, isLoc_ok q2, isLoc_ok q3, isLoc_ok q4, by simpa using q5, by simpa using q6, by simpa using q7, q8, q9, q10⟩
          · trivial
        · trivial
      · trivial
    · rename_i h
      refine ⟨rfl, .inr ⟨_, _, _, rfl, .inl ?_⟩⟩
      cases v <;> first | rfl | exact (h _ _ _ rfl).elim
  · trivial
theorem rsSh_ok {S : SI} {x c : Option Expr} {C : Str} {a : Expr} (h : rsSh S x c = some (C, a)) : ∃ p pos, x = some (.Call (.Name C p) [a] [] pos) ∧ c = none ∧ S.glb C = true ∧ S.G C = .cls ∧ isStar a = false := by
  unfold rsSh at h
  split at h
  · split at h
    · rename_i q
      cases h
      simp only [Bool.and_eq_true, Bool.not_eq_true'] at q
      refine ⟨_, _, rfl, rfl, q.1.1, ?_, q.2⟩
      have q2 := q.1.2
      cases e : S.G _ <;> rw [e] at q2 <;> first | rfl | cases q2
    · cases h
  · cases h
structure OKS (S : SI) (Phi : Tab) (ga : Str → Addr) (W : WX) (X : Cx) : Prop where
  x : OKX S Phi ga W X
  po : PassesOwn (model X.prog X.w) X.A X.env X.xe
  stk : X.stack = X.env :: X.outer
  frm : X.env.frame = some X.env.locals
section
variable {X : Cx} {S : SI} {Phi : Tab} {ga : Str → Addr} {W : WX} {n : Nat}
theorem PS.imp {e : Stmt} {t t' : TS} (h : PS X e t) (k : ∀ E sg H, t' E sg H → t E sg H) : PS X e t' := ⟨fun pins s sg H Q I z => h.run pins s sg H Q I (k _ _ _ z)⟩
theorem PSs.imp {e : List Stmt} {t t' : TS} (h : PSs X e t) (k : ∀ E sg H, t' E sg H → t E sg H) : PSs X e t' := ⟨fun pins s sg H Q I z => h.run pins s sg H Q I (k _ _ _ z)⟩
theorem PS.by {st : Stmt} {r r' : Env → Ev Out} (h : PS X st (tS X.K ga W r')) (k : ∀ e, r e = r' e) : PS X st (tS X.K ga W r) := by rw [funext k]; exact h
theorem PS.stop {st : Stmt} {r : Env → Ev Out} (k : ∀ e, r e = stop) : PS X st (tS X.K ga W r) := ⟨fun pins s sg H E I z => by
  obtain ⟨rho, M, e, m, n, z⟩ := z
  rw [k] at z
  exact z.elim⟩
theorem RS.bnd {α β : Type} {R : List Addr → Hp → α → β → Prop} {l : Nat} {rho : List Addr} {H : Hp} {M : Mem} {f : Ev α} {g : α → Ev Out} {E : Ends} (h : RS X.K ga W l rho H (bnd f g M) E) :
    RG X.K ga W l R rho H (f M) (fun b H1 => ∃ rho1 a M1, Ext rho H rho1 H1 ∧ MR X.K ga rho1 H1 M1 ∧ R rho1 H1 a b ∧ RS X.K ga W l rho1 H1 (g a M1) E) := by
  unfold Pf.bnd at h
  cases e : f M with
  | ok a M1 => rw [e] at h; exact fun rho' H' b x m r => ⟨rho', a, M1, x, m, r, h.re x⟩
  | ex c M1 => rw [e] at h; exact h
  | no => rw [e] at h; exact h
theorem tS.one {α β : Type} {R : List Addr → Hp → α → β → Prop} {ra : Env → Ev α} {g : α → Env → Ev Out} {sg : L2.St} {H : Hp} {E : Ends} (h : tS X.K ga W (fun e => bnd (ra e) fun a => g a e) E sg H) :
    tG X.K ga W R ra sg H (fun b H1 => ∃ rho1 a M1 e, At X ga e sg rho1 M1 H1 ∧ R rho1 H1 a b ∧ RS X.K ga W e.length rho1 H1 (g a e M1) E) := by
  obtain ⟨rho, M, e, m, n, z⟩ := h
  exact .of ⟨m, n⟩ ((RS.bnd (R := R) z).mono fun b H1 ⟨rho1, a, M1, x, m1, r, z1⟩ => ⟨rho1, a, M1, e, ⟨m1, n.ext x⟩, r, z1⟩)
theorem At.nxtS {α β : Type} {R2 : List Addr → Hp → α → β → Prop} {rb : Env → Ev α} {g : α → Ev Out} {sg : L2.St} {H : Hp} {E : Ends} {rho : List Addr} {M : Mem} {e : Env} (a : At X ga e sg rho M H)
    (h : RS X.K ga W e.length rho H (Pf.bnd (rb e) g M) E) :
    tG X.K ga W R2 rb sg H (fun b H1 => ∃ rho1 v M1, Ext rho H rho1 H1 ∧ At X ga e sg rho1 M1 H1 ∧ R2 rho1 H1 v b ∧ RS X.K ga W e.length rho1 H1 (g v M1) E) :=
  .of a ((RS.bnd (R := R2) h).mono fun b H1 ⟨rho1, v, M1, x, m, r, z⟩ => ⟨rho1, v, M1, x, ⟨m, a.n.ext x⟩, r, z⟩)
theorem s_ret (ok : OKX S Phi ga W X) {o : Option Expr} {p : Pos} : PS X (.Return o p) (tS X.K ga W (denS Phi (n + 1) S (.Return o p))) := by
  cases o with
  | none =>
    refine PS.by (r' := fun e => ret (.rt .non)) (PS.imp ps_retN ?_) fun e => by simp only [denS]
    rintro E sg H ⟨rho, M, e, m, n', z⟩
    exact z rho H .non Ext.refl m (by simp only [VR])
  | some x =>
    refine PS.by (r' := fun e => bnd (denE Phi n S x e) fun d => ret (.rt d)) (PS.imp (ps_ret ((allE n).E ok x)) fun E sg H z => ?_) fun e => by simp only [denS]
    refine (tS.one (R := VR X.K ga) z).mono ?_
    rintro b H1 ⟨rho1, d, M1, e, at1, rd, z1⟩
    exact z1 rho1 H1 b Ext.refl at1.m rd
theorem s_expr (ok : OKX S Phi ga W X) {x : Expr} {p : Pos} : PS X (.Expr x p) (tS X.K ga W (denS Phi (n + 1) S (.Expr x p))) := by
  by_cases h : isComp x = true
  · exact PS.stop fun e => by simp only [denS, h, if_true]
  · refine PS.by (r' := fun e => bnd (denE Phi n S x e) fun _ => ret (.nx e)) (PS.imp (ps_expr ((allE n).E ok x) (swaps_plain (Bool.eq_false_iff.mpr h))) fun E sg H z => ?_) fun e => by simp only [denS, h, if_false, Bool.false_eq_true]
    refine (tS.one (R := VR X.K ga) (g := fun _ e => ret (.nx e)) z).mono ?_
    rintro b H1 ⟨rho1, d, M1, e, at1, rd, z1⟩
    exact z1 rho1 H1 sg Ext.refl at1.m at1.n
theorem s_raise (ok : OKX S Phi ga W X) {x c : Option Expr} {p : Pos} : PS X (.Raise x c p) (tS X.K ga W (denS Phi (n + 1) S (.Raise x c p))) := by
  cases h : rsSh S x c with
  | none => exact PS.stop fun e => by simp only [denS, h, Pf.opt]
  | some w =>
    obtain ⟨C, a⟩ := w
    obtain ⟨p1, pos, rfl, rfl, hg, hG, hs⟩ := rsSh_ok h
    obtain ⟨c1, c2, c3, c4⟩ := ok.cls C hG
    refine PS.by (r' := fun e => bnd (denE Phi n S a e) fun _ => fun M => .ex C M) (PS.imp (ps_raise ok.calm ok.tk (SkE.pmk_own1 PySem.F.excBase_ValueError c1 c2 c3 c4 (gl_of ok hg) ((allE n).E ok a) (star_cons hs) (ok.nG C (by rw [hG]; trivial)).1)) fun E sg H z => ?_) fun e => by simp only [denS, h, Pf.opt]
    refine (tS.one (R := VR X.K ga) (g := fun _ e => fun M => .ex C M) z).mono ?_
    rintro b H1 ⟨rho1, d, M1, e, at1, rd, z1⟩
    exact z1 rho1 H1 sg Ext.refl at1.m at1.n.len
theorem r_set {tg : Expr} {dV : Env → Ev D} : ∀ E sg H, tS X.K ga W (fun e => bnd (dV e) fun d => Pf.opt (tgO S tg d e) fun e' => ret (.nx e')) E sg H → tAsg (tI X.K ga W dV) (gT X.K ga S tg) E sg H := by
  intro E sg H z
  refine (tS.one (R := VR X.K ga) (g := fun d e => Pf.opt (tgO S tg d e) fun e' => ret (.nx e')) z).mono ?_
  rintro b H1 ⟨rho1, d, M1, e, at1, rd, z1⟩
  cases ht : tgO S tg d e with
  | none => rw [ht] at z1; exact z1.elim
  | some e' =>
    rw [ht] at z1
    exact ⟨rho1, M1, d, e, e', at1.m, rd, at1.n, ht, fun sg' n' _ => z1 rho1 H1 sg' Ext.refl at1.m n'⟩
theorem s_asgT (ok : OKX S Phi ga W X) {t v : Expr} {p : Pos} (hs : swapsWithSole [t] v p.line X.env = pure false) (hw : swappedStores [t] v X.env = pure none) (h1 : (assignEach [t] X.env).map (·.2) = [assign t X.env]) :
    PS X (.Assign [t] v p) (tS X.K ga W fun e => bnd (denE Phi n S v e) fun d => Pf.opt (tgO S t d e) fun e' => ret (.nx e')) :=
  PS.imp (ps_asg ((allE n).E ok v) (pgO ok t) hs hw h1) r_set
theorem name_gT (ok : OKX S Phi ga W X) {x : Str} {p : Pos} {i : Nat} (hl : S.loc x = true) (hi : S.ix x = some i) : ∀ v sg H Q, gT X.K ga S (.Name x p) v sg H Q → gName i v sg H Q := by
  rintro v sg H Q ⟨rho, M, d, e, e', m, r, n', ht, k⟩
  have ht' : tgA S (.Name x p) d e = some e' := ht
  simp only [tgA, hl, if_true, hi, Option.map_some, Option.some.injEq] at ht'
  subst ht'
  refine k _ (n'.set r i) fun j hj => ?_
  have : j ≠ i := fun z => hj (by simp [tgIxs, tgIa, hi, z])
  exact List.getElem?_set_ne (Ne.symm this)
theorem swS (t v : Expr) (l : Nat) (env : PySem.Env) : swapsWithSole [t] v l env = swapsWith v (some t) l env := by
  simp only [swapsWithSole]
theorem swP_off (t v : Expr) (l : Nat) (env : PySem.Env) (h : ∀ x p, t ≠ .Name x p) : swapsWith v (some t) l env = pure false := by
  cases v <;> cases t <;> first | rfl | exact absurd rfl (h _ _)
theorem sw_lc (ok : OKX S Phi ga W X) {elt : Expr} {gs : List Comprehension} {sc : Scope} {vp : Pos} {x : Str} {p2 : Pos} {l : Nat} :
    swapsWith (.ListComp elt gs sc vp) (some (.Name x p2)) l X.env = pure ((S.sc.lookup x == some .local) && p2.line == vp.line && !(sc.names.any fun (n, k) => n == x && (k == .local || k == .cell))) := by
  have e1 : X.env.kindOf x = S.sc.lookup x := by rw [← ok.sc]; rfl
  unfold swapsWith
  simp only [ok.bk, e1, Expr.pos]
  rfl
theorem s_name (ok : OKX S Phi ga W X) {x : Str} {p2 : Pos} {v : Expr} {p : Pos} (hl : S.loc x = true) (hix : (S.ix x).isSome = true) (hlk : lckV S v = false) :
    PS X (.Assign [.Name x p2] v p) (tS X.K ga W fun e => bnd (denE Phi n S v e) fun d => Pf.opt (tgO S (.Name x p2) d e) fun e' => ret (.nx e')) := by
  by_cases hv : isComp v = true
  · have fin : ∀ {v : Expr}, swapsWith v (some (.Name x p2)) p.line X.env = pure false → PS X (.Assign [.Name x p2] v p) (tS X.K ga W fun e => bnd (denE Phi n S v e) fun d => Pf.opt (tgO S (.Name x p2) d e) fun e' => ret (.nx e')) := fun h => s_asgT ok (by rw [swS]; exact h) rfl rfl
    cases v with
    | ListComp elt gs sc vp =>
      cases hb : (S.sc.lookup x == some .local) && p2.line == vp.line && !(sc.names.any fun (n, k) => n == x && (k == .local || k == .cell)) with
      | false => exact fin (by rw [sw_lc ok, hb])
      | true =>
        have hsw : swapsWith (.ListComp elt gs sc vp) (some (.Name x p2)) p.line X.env = pure true := by rw [sw_lc ok, hb]
        simp only [Bool.and_eq_true] at hb
        have hxl := kind_beq hb.1.1
        have hl : S.loc x = true := by unfold SI.loc; rw [hxl]
        cases n with
        | zero => exact PS.stop fun e => by simp only [denE]; rfl
        | succ n =>
          have h := lcSh_ok gs
          cases hc : lcSh gs with
          | bad => exact PS.stop fun e => by simp only [denE, hc]; rfl
          | one tg it ifs =>
            rw [hc] at h
            have hd : dkSh S tg it elt = none := by
              unfold lckV at hlk
              dsimp only at hlk
              rw [hc] at hlk
              cases hd : dkSh S tg it elt with
              | none => rfl
              | some w => dsimp only at hlk; rw [hd] at hlk; cases hlk
            by_cases hk : blkC S.N { kind := .function, names := S.sc, isGenerator := false, isCoroutine := false, more := [] } sc (ownOf S sc.names) = true ∧ tgOwn (ownOf S sc.names) tg = true
            · obtain ⟨i, hi⟩ := Option.isSome_iff_exists.mp hix
              have bo := blk_ok ok hk.1
              have hN : X.N.Nodup := by rw [ok.N]; exact ok.nd
              have hy : X.N[i]? = some x := by rw [ok.N]; exact ix_get hi
              have hyl : X.env.scope.names.lookup x = some .local := by rw [ok.sc]; exact hxl
              cases ifs with
              | none =>
                obtain ⟨rfl, hs⟩ := h
                refine PS.imp (ps_setLc (te := tI X.K ga W0 (denE Phi n (S.blk sc.names) elt)) (g := gT X.K ga (S.blk sc.names) tg) (tt := tT X.K ga W0 fun e1 => ret true) ok.calm hN hy hyl hsw ((allE n).I ok tg it) bo (fun s H C cl fp => pgO (okBlk ok bo.kind s H C cl fp) tg) (fun s H C cl fp => PTs.imp pts_nil ?_) (fun s H C cl fp => (allE n).E (okBlk ok bo.kind s H C cl fp) elt) (set_plain hs)) fun E sg H z => ?_
                · rintro sg' H' Q' ⟨rho, M, e, m, n, z⟩
                  exact z rho H' true Ext.refl m rfl
                · have z1 := (r_set _ _ _ z : tI X.K ga W _ sg H _)
                  refine lc_read hk.2 ?_
                  have z2 := z1.mono fun v H1 q => name_gT ok hl hi v sg H1 E.nx q
                  simpa only [denE, hc, hk, hd, if_true, and_self] using z2
              | some c =>
                obtain ⟨rfl, hs⟩ := h
                refine PS.imp (ps_setLc (te := tI X.K ga W0 (denE Phi n (S.blk sc.names) elt)) (g := gT X.K ga (S.blk sc.names) tg) (tt := tT X.K ga W0 (denT Phi n (S.blk sc.names) c)) ok.calm hN hy hyl hsw ((allE n).I ok tg it) bo (fun s H C cl fp => pgO (okBlk ok bo.kind s H C cl fp) tg) (fun s H C cl fp => pts_one ((allE n).T (okBlk ok bo.kind s H C cl fp) c)) (fun s H C cl fp => (allE n).E (okBlk ok bo.kind s H C cl fp) elt) (set_plain hs)) fun E sg H z => ?_
                have z1 := (r_set _ _ _ z : tI X.K ga W _ sg H _)
                refine lc_read hk.2 ?_
                have z2 := z1.mono fun v H1 q => name_gT ok hl hi v sg H1 E.nx q
                simpa only [denE, hc, hk, hd, if_true, and_self] using z2
            · exact PS.stop fun e => by simp only [denE, hc, hk, if_false]; rfl
    | SetComp elt gs sc vp => exact PS.stop fun e => by cases n <;> simp only [denE] <;> rfl
    | DictComp a b gs sc vp => exact PS.stop fun e => by cases n <;> simp only [denE] <;> rfl
    | _ => cases hv
  · exact s_asgT ok (by rw [swS]; exact swaps_plain (Bool.eq_false_iff.mpr hv)) rfl rfl
theorem s_asg (ok : OKX S Phi ga W X) {ts : List Expr} {v : Expr} {p : Pos} : PS X (.Assign ts v p) (tS X.K ga W (denS Phi (n + 1) S (.Assign ts v p))) := by
  have h := asSh_ok S ts v
  cases hc : asSh S ts v with
  | sub o i =>
    rw [hc] at h
    obtain ⟨p2, rfl, hs⟩ := h
    refine PS.by (r' := fun e => bnd (denE Phi n S v e) fun d => bnd (denE Phi n S o e) fun x => bnd (denE Phi n S i e) fun k => bnd (setIx x k d) fun _ => ret (.nx e))
      (PS.imp (ps_asg ((allE n).E ok v) (pg_sub ((allE n).E ok o) ((allE n).E ok i) (setR (ga := ga) (by have := room_u ok; omega)) ?_) ?_ ?_ rfl) ?_) fun e => by simp only [denS, hc]
    · intro w
      cases i <;> first | rfl | cases hs
    · rw [swS]
      exact swP_off _ _ _ _ fun _ _ => nofun
    · cases v <;> rfl
    · intro E sg H z
      refine (tS.one (R := VR X.K ga) (g := fun d e => bnd (denE Phi n S o e) fun x => bnd (denE Phi n S i e) fun k => bnd (setIx x k d) fun _ => ret (.nx e)) z).mono ?_
      rintro b H1 ⟨rho1, d, M1, e, at1, rd, z1⟩
      refine (At.nxtS (R2 := VR X.K ga) at1 z1).mono ?_
      rintro b2 H2 ⟨rho2, d2, M2, x2, at2, rd2, z2⟩
      refine (At.nxtS (R2 := VR X.K ga) at2 z2).mono ?_
      rintro b3 H3 ⟨rho3, d3, M3, x3, at3, rd3, z3⟩
      refine ⟨rho3, M3, d2, d3, d, at3.m, rd2.ext x3, rd3, (rd.ext x2).ext x3, ?_⟩
      unfold Pf.bnd at z3
      cases hx : setIx d2 d3 d M3 with
      | ok u M' =>
        rw [hx] at z3
        intro rho' H' x4 m4
        exact z3 rho' H' sg x4 m4 (at3.n.ext x4)
      | ex c M' =>
        exfalso
        exact nx_set _ _ _ _ _ _ hx
      | no => rw [hx] at z3; exact z3
  | fld o f =>
    rw [hc] at h
    obtain ⟨p2, rfl, hs⟩ := h
    refine PS.by (r' := fun e => bnd (denE Phi n S v e) fun d => bnd (denE Phi n S o e) fun x => bnd (setF S.fld f x d) fun _ => ret (.nx e))
      (PS.imp (ps_fld ((allE n).E ok o) ((allE n).E ok v) (swP_off _ _ _ _ fun _ _ => nofun)) ?_) fun e => by simp only [denS, hc]
    intro E sg H z
    refine (tS.one (R := VR X.K ga) (g := fun d e => bnd (denE Phi n S o e) fun x => bnd (setF S.fld f x d) fun _ => ret (.nx e)) z).mono ?_
    rintro b H1 ⟨rho1, d, M1, e, at1, rd, z1⟩
    refine (At.nxtS (R2 := VR X.K ga) at1 z1).mono ?_
    rintro b2 H2 ⟨rho2, d2, M2, x2, at2, rd2, z2⟩
    unfold Pf.bnd at z2
    cases hx : setF S.fld f d2 d M2 with
    | no => rw [hx] at z2; exact z2.elim
    | ex c M' => exact absurd hx nx_setF
    | ok u M' =>
      rw [hx] at z2
      unfold setF at hx
      split at hx
      · rename_i k
        split at hx
        · rename_i C fs hM
          split at hx
          · rename_i hf
            cases hx
            obtain ⟨n', a, dx, xs, e1, hM2, h1, rfl, h2, h3⟩ := obj_at (C := C) (fs := fs) (by unfold objOf; dsimp only; rw [hM]) at2.m rd2
            cases e1
            obtain ⟨c1, c2⟩ := ok.flds C f hf.1
            refine ⟨a, ga C, dx, xs, rfl, h2, c1, c2, by rw [h3.length]; exact hf.2, ?_⟩
            have rd3 := rd.ext x2
            have xw : Ext rho2 H2 rho2 (upd H2 a (.ins (ga C) dx (putF f b xs))) := Ext.write at2.m h1 (fun o u => by rw [h2]; nofun)
            have mw : MR X.K ga rho2 (upd H2 a (.ins (ga C) dx (putF f b xs))) (M2.set k (.obj C (putO f d fs))) := at2.m.write h1 ⟨dx, putF f b xs, by rw [upd_same], (h3.put rd3).ext xw⟩
            exact z2 rho2 _ sg xw mw (at2.n.ext xw)
          · cases hx
        · cases hx
      · cases hx
  | sw o i o2 i2 =>
    rw [hc] at h
    obtain ⟨q, q2, k, p2, vs, k2, p3, rfl, rfl, hk, hs, hs2⟩ := h
    have hu : X.A.units + 1 < cLine := by have := room_u ok; omega
    refine PS.by (r' := fun e => bnd (denE Phi n S (.Tuple vs k2 p3) e) fun d => bnd (dTwo d) fun ab => bnd (denE Phi n S o e) fun x => bnd (denE Phi n S i e) fun k => bnd (setIx x k ab.1) fun _ => bnd (denE Phi n S o2 e) fun y => bnd (denE Phi n S i2 e) fun m => bnd (setIx y m ab.2) fun _ => ret (.nx e))
      (PS.imp (ps_asg ((allE n).E ok (.Tuple vs k2 p3)) (pg_tup (n := 2) ok.calm (pgs_cons (pg_sub ((allE n).E ok o) ((allE n).E ok i) (setR (ga := ga) hu) ?_) (pgs_cons (pg_sub ((allE n).E ok o2) ((allE n).E ok i2) (setR (ga := ga) hu) ?_) pgs_nil rfl) rfl) rfl rfl) ?_ ?_ rfl) ?_) fun e => by simp only [denS, hc]
    · intro w
      cases i <;> first | rfl | cases hs
    · intro w
      cases i2 <;> first | rfl | cases hs2
    · rw [swS]
      exact swP_off _ _ _ _ fun _ _ => nofun
    · exact sw_pure ok.bk ok.sc hk
    · intro E sg H z
      refine (tS.one (R := VR X.K ga) (g := fun d e => bnd (dTwo d) fun ab => bnd (denE Phi n S o e) fun x => bnd (denE Phi n S i e) fun k => bnd (setIx x k ab.1) fun _ => bnd (denE Phi n S o2 e) fun y => bnd (denE Phi n S i2 e) fun m => bnd (setIx y m ab.2) fun _ => ret (.nx e)) z).mono ?_
      rintro b H1 ⟨rho1, d, M1, e, at1, rd, z1⟩
      have two : ∃ d1 d2, d = .tup [d1, d2] := by
        cases hd : dTwo d M1 with
        | ok ab M' =>
          unfold dTwo at hd
          split at hd
          · exact ⟨_, _, rfl⟩
          · cases hd
        | ex c M' =>
          exfalso
          unfold dTwo at hd
          split at hd <;> cases hd
        | no =>
          unfold Pf.bnd at z1
          rw [hd] at z1
          exact z1.elim
      obtain ⟨d1, d2, rfl⟩ := two
      obtain ⟨a, xs, rfl, hx, rx⟩ := rd.tupE
      have xl := rx.length
      match xs, xl, rx, hx with
      | [x1, x2], _, rx, hx =>
        simp only [VRs] at rx
        obtain ⟨w1, w2, e1, r1, e2⟩ := rx
        obtain ⟨w3, w4, e3, r2, e4⟩ := e2
        cases e1
        cases e3
        refine ⟨a, [x1, x2], rfl, hx, rfl, x1, [x2], rfl, ?_⟩
        refine (At.nxtS (R2 := VR X.K ga) at1 z1).mono ?_
        rintro b2 H2 ⟨rho2, y2, M2, x2', at2, rd2, z2⟩
        refine (At.nxtS (R2 := VR X.K ga) at2 z2).mono ?_
        rintro b3 H3 ⟨rho3, y3, M3, x3', at3, rd3, z3⟩
        refine ⟨rho3, M3, y2, y3, d1, at3.m, rd2.ext x3', rd3, (r1.ext x2').ext x3', ?_⟩
        unfold Pf.bnd at z3
        cases hset : setIx y2 y3 d1 M3 with
        | ex c M' => exact (nx_set _ _ _ _ _ _ hset).elim
        | no => simp only [hset] at z3; exact z3
        | ok u M' =>
          simp only [hset] at z3
          intro rho4 H4 x4 m4
          refine ⟨x2, [], rfl, ?_⟩
          have at4 : At X ga e sg rho4 M' H4 := ⟨m4, at3.n.ext x4⟩
          refine (At.nxtS (R2 := VR X.K ga) at4 (z3.re x4)).mono ?_
          rintro b5 H5 ⟨rho5, y5, M5, x5', at5, rd5, z5⟩
          refine (At.nxtS (R2 := VR X.K ga) at5 z5).mono ?_
          rintro b6 H6 ⟨rho6, y6, M6, x6', at6, rd6, z6⟩
          refine ⟨rho6, M6, y5, y6, d2, at6.m, rd5.ext x6', rd6, (((((r2.ext x2').ext x3').ext x4).ext x5').ext x6'), ?_⟩
          try unfold Pf.bnd at z6
          cases hset2 : setIx y5 y6 d2 M6 with
          | ex c M'' => exact (nx_set _ _ _ _ _ _ hset2).elim
          | no => simp only [hset2] at z6; exact z6
          | ok u2 M'' =>
            simp only [hset2] at z6
            intro rho7 H7 x7 m7
            exact ⟨rfl, z6 rho7 H7 sg x7 m7 (at6.n.ext x7)⟩
  | tg t =>
    rw [hc] at h
    refine PS.by (r' := fun e => bnd (denE Phi n S v e) fun d => Pf.opt (tgO S t d e) fun e' => ret (.nx e')) ?_ fun e => by simp only [denS, hc]
    obtain ⟨rfl, ⟨x, p2, rfl, hl, hi, hlk⟩ | ⟨es, k, p2, rfl, hk⟩⟩ := h
    · exact s_name ok hl hi hlk
    · refine s_asgT ok (by rw [swS]; exact swP_off _ _ _ _ fun _ _ => nofun) ?_ rfl
      rcases hk with hk | ⟨vs, k2, p3, rfl, hk⟩
      · cases v <;> first | rfl | cases hk
      · exact sw_pure ok.bk ok.sc hk
  | p2 x y a b =>
    rw [hc] at h
    obtain ⟨px, py, kt, pt, k2, p2, rfl, rfl, hw, hx, hy, hxy, ha, hb⟩ := h
    cases hi : S.ix x with
    | none => exact PS.stop fun e => by simp only [denS, hc, hi, Pf.opt]
    | some i =>
      cases hj : S.ix y with
      | none => exact PS.stop fun e => by simp only [denS, hc, hi, hj, Pf.opt]
      | some j =>
        have h1 := ix_get hi
        have h2 := ix_get hj
        have hij : i ≠ j := by
          rintro rfl
          rw [h1] at h2
          exact hxy (Option.some.inj h2)
        refine PS.by (r' := fun e => bnd (denA Phi n S [a, b] e) (set2 i j e)) (PS.imp (ps_par ok.calm (by rw [ok.N]; exact ok.nd) (by rw [ok.N]; exact h1) (by rw [ok.N]; exact h2) hij (by rw [ok.sc]; exact hx) (by rw [ok.sc]; exact hy) ((allE n).A ok [a, b] (by simp [ha, hb])) (sw_pure ok.bk ok.sc hw)
          (by rw [swS]; exact swP_off _ _ _ _ fun _ _ => nofun)) ?_) fun e => by simp only [denS, hc, hi, hj, Pf.opt]
        intro E sg H z
        refine (tS.one (R := VRs X.K ga) (g := fun vs e => set2 i j e vs) z).mono ?_
        rintro b H1 ⟨rho1, ds, M1, e, at1, rd, z1⟩
        unfold set2 at z1
        split at z1
        · simp only [VRs] at rd
          obtain ⟨v1, r1, rfl, q1, v2, r2, rfl, q2, rfl⟩ := rd
          exact ⟨v1, v2, rfl, z1 rho1 H1 _ Ext.refl at1.m ((at1.n.set q1 i).set q2 j)⟩
        · exact z1.elim
  | p3 x y w a b c =>
    rw [hc] at h
    obtain ⟨px, py, pz, kt, pt, k2, p2, rfl, rfl, hw, hx, hy, hz, hxy, hxz, hyz, ha, hb, hc'⟩ := h
    cases hi : S.ix x with
    | none => exact PS.stop fun e => by simp only [denS, hc, hi, Pf.opt]
    | some i =>
      cases hj : S.ix y with
      | none => exact PS.stop fun e => by simp only [denS, hc, hi, hj, Pf.opt]
      | some j =>
        cases hk : S.ix w with
        | none => exact PS.stop fun e => by simp only [denS, hc, hi, hj, hk, Pf.opt]
        | some k =>
          have h1 := ix_get hi
          have h2 := ix_get hj
          have h3 := ix_get hk
          have hij : i ≠ j := by rintro rfl; rw [h1] at h2; exact hxy (Option.some.inj h2)
          have hik : i ≠ k := by rintro rfl; rw [h1] at h3; exact hxz (Option.some.inj h3)
          have hjk : j ≠ k := by rintro rfl; rw [h2] at h3; exact hyz (Option.some.inj h3)
          refine PS.by (r' := fun e => bnd (denA Phi n S [a, b, c] e) (set3 i j k e)) (PS.imp (ps_par3 ok.calm (by rw [ok.N]; exact ok.nd) (by rw [ok.N]; exact h1) (by rw [ok.N]; exact h2) (by rw [ok.N]; exact h3) hij hik hjk (by rw [ok.sc]; exact hx) (by rw [ok.sc]; exact hy) (by rw [ok.sc]; exact hz) ((allE n).A ok [a, b, c] (by simp [ha, hb, hc'])) (sw_pure ok.bk ok.sc hw)
            (by rw [swS]; exact swP_off _ _ _ _ fun _ _ => nofun)) ?_) fun e => by simp only [denS, hc, hi, hj, hk, Pf.opt]
          intro E sg H z
          refine (tS.one (R := VRs X.K ga) (g := fun vs e => set3 i j k e vs) z).mono ?_
          rintro b H1 ⟨rho1, ds, M1, e, at1, rd, z1⟩
          unfold set3 at z1
          split at z1
          · simp only [VRs] at rd
            obtain ⟨v1, r1, rfl, q1, v2, r2, rfl, q2, v3, r3, rfl, q3, rfl⟩ := rd
            exact ⟨v1, v2, v3, rfl, z1 rho1 H1 _ Ext.refl at1.m (((at1.n.set q1 i).set q2 j).set q3 k)⟩
          · exact z1.elim
  | bad => exact PS.stop fun e => by simp only [denS, hc]
end
end Pf
set_option maxHeartbeats 1000000
/-! Pf: a text's replace, behind a statement that has made a text. -/
namespace Pf
open PySem PySem.Spec PyProof.Rows L2
section
variable {X : Cx} {e : Expr} {es : List Expr} {te : TE} {ta : TA}
def PAp (X : Cx) (es : List Expr) (t : TA) : Prop :=
  ∀ (pos : Pos) (pins : List (Addr × Obj)) (s : Shared) (sg : L2.St) (H : Hp) (Q : List V → Hp → Prop), Inv X pins sg H s → t sg H Q → wpAny (model X.prog X.w) X.A (spliced (backTo pos (starEach es X.env))) (fun us s' => 1 ≤ s'.toks ∧ AP X pins sg Q us s') X.xe s
def PEp (X : Cx) (e : Expr) (t : TE) : Prop :=
  ∀ (pins : List (Addr × Obj)) (s : Shared) (sg : L2.St) (H : Hp) (Q : VK), Inv X pins sg H s → t sg H Q → wpAny (model X.prog X.w) X.A (eval e X.env) (fun v s' => 1 ≤ s'.toks ∧ EP X pins sg Q v s') X.xe s
def PSp (X : Cx) (st : Stmt) (t : TS) : Prop :=
  ∀ (pins : List (Addr × Obj)) (s : Shared) (sg : L2.St) (H : Hp) (D : Ends), Inv X pins sg H s → t D sg H → wpAny (model X.prog X.w) X.A (exec st X.env) (fun f s' => 1 ≤ s'.toks ∧ SP X pins D f s') X.xe s
theorem PAp.imp {t' : TA} (h : PAp X es ta) (k : ∀ sg H Q, t' sg H Q → ta sg H Q) : PAp X es t' := fun pos pins s sg H Q I z => h pos pins s sg H Q I (k _ _ _ z)
theorem PEp.imp {t' : TE} (h : PEp X e te) (k : ∀ sg H Q, t' sg H Q → te sg H Q) : PEp X e t' := fun pins s sg H Q I z => h pins s sg H Q I (k _ _ _ z)
theorem PSp.imp {st : Stmt} {t t' : TS} (h : PSp X st t) (k : ∀ E sg H, t' E sg H → t E sg H) : PSp X st t' := fun pins s sg H D I z => h pins s sg H D I (k _ _ _ z)
theorem PETi {t' : TE} (h : PET X e te) (k : ∀ sg H Q, t' sg H Q → te sg H Q) : PET X e t' := fun pins s sg H Q h0 I z => h pins s sg H Q h0 I (k _ _ _ z)
theorem PATi {t' : TA} (h : PAT X es ta) (k : ∀ sg H Q, t' sg H Q → ta sg H Q) : PAT X es t' := fun pos pins s sg H Q h0 I z => h pos pins s sg H Q h0 I (k _ _ _ z)
theorem pap_cons (ha : PE X e te) (hr : PAp X es ta) (hs : starEach (e :: es) X.env = (false, eval e X.env) :: starEach es X.env) : PAp X (e :: es) (tCons te ta) := by
  intro pos pins s sg H Q I h
  rw [hs]
  show wpAny _ _ (spliced ((false, eval e X.env) :: backTo pos (starEach es X.env))) _ _ s
  refine Calls.spliced_cons (thn (ha.run pins s sg H _ I h) fun v s1 ⟨x, H1, I1, r1, q1⟩ => ?_)
  exact thn (hr pos pins s1 sg H1 _ I1 q1) fun us s2 ⟨k, xs, H2, I2, r2, q2⟩ => ⟨k, x :: xs, H2, I2, .cons r1 r2, q2⟩
theorem pap_const {c : Str} {j : Nat} {p : Pos} (hr : PA X es ta) (hs : starEach (.Constant (.str c) j p :: es) X.env = (false, eval (.Constant (.str c) j p) X.env) :: starEach es X.env) : PAp X (.Constant (.str c) j p :: es) (tCons (tC (.str c)) ta) := by
  intro pos pins s sg H Q I h
  rw [hs]
  show wpAny _ _ (spliced ((false, eval (.Constant (.str c) j p) X.env) :: backTo pos (starEach es X.env))) _ _ s
  refine Calls.spliced_cons (Calls.Constant_str ?_)
  refine wpAny_mono (PySem.wpAny_toks (hr.run pos pins { s with toks := s.toks + 1 } sg H _ (I.tok _) h)) (fun us s2 q => ?_) fun _ _ z => z.2
  obtain ⟨hk, xs, H2, I2, r2, q2⟩ := q
  exact ⟨Nat.le_trans (show 1 ≤ s.toks + 1 by omega) hk, .str c :: xs, H2, I2, .cons ⟨_, rfl⟩ r2, q2⟩
theorem pep_lst {pos : Pos} (h : PAp X es ta) : PEp X (.List es pos) (tLst ta) := by
  intro pins s sg H Q I hq
  refine wpAny_List_spliced (thn (h pos pins s sg H _ I hq) fun us s1 ⟨k, xs, H1, I1, r, z, q⟩ => ⟨by rw [← r.length]; exact z, ?_⟩)
  have hf : H1 s1.heap.objs.size = none := I1.hok.fresh (Nat.le_refl _)
  refine ⟨k, .ref s1.heap.objs.size, upd H1 s1.heap.objs.size (.lst xs), I1.laid (t' := s1.toks) (fun b u e => Heap.get?_push_of_some _ e) (Nat.le_refl _) ?_, rfl, q _ hf⟩
  exact ⟨z, us, 0, r, Heap.get?_push_size _ rfl⟩
theorem psp_asg {tg : Expr} {g : TG} {pos : Pos} (he : PEp X e te) (hg : PG X tg g) (hs : swapsWithSole [tg] e pos.line X.env = pure false) (hw : swappedStores [tg] e X.env = pure none)
    (h1 : (assignEach [tg] X.env).map (·.2) = [assign tg X.env]) : PSp X (.Assign [tg] e pos) (tAsg te g) := by
  intro pins s sg H D I h
  refine wpAny_Assign_stores (thn (he pins s sg H _ I h) fun v s1 ⟨k, x, H1, I1, r1, q1⟩ => ?_) hs hw
  rw [h1]
  refine wpAny_mono (PySem.wpAny_toks (hg.run pins s1 sg H1 x v _ I1 r1 q1)) (fun _ s2 q => ?_) fun _ _ z => z.2
  exact ⟨Nat.le_trans k q.1, q.2⟩
theorem pst_asg {tg : Expr} {g : TG} {pos : Pos} (he : PET X e te) (hg : PG X tg g) (hs : swapsWithSole [tg] e pos.line X.env = pure false) (hw : swappedStores [tg] e X.env = pure none)
    (h1 : (assignEach [tg] X.env).map (·.2) = [assign tg X.env]) : PST X (.Assign [tg] e pos) (tAsg te g) := by
  intro pins s sg H D h0 I h
  refine wpAny_Assign_stores (thn (he pins s sg H _ h0 I h) fun v s1 ⟨x, H1, I1, r1, q1⟩ => ?_) hs hw
  rw [h1]
  exact thn (hg.run pins s1 sg H1 x v _ I1 r1 q1) fun _ s2 q => q
theorem pss_p {st : Stmt} {rest : List Stmt} {t u : TS} (h1 : PSp X st t) (h2 : PSsT X rest u) : PSs X (st :: rest) (tSeq t u) := by
  refine ⟨fun pins s sg H D I h => ?_⟩
  refine wpAny_execs_cons (wpAny_mono (h1 pins s sg H { D with nx := u D } I h) (fun f s1 q => ?_) fun _ _ x => x)
  obtain ⟨hk, q⟩ := q
  cases f with
  | next =>
    obtain ⟨sg', H', I', q⟩ := q
    exact h2 pins s1 sg' H' D hk I' q
  | ret v => exact q
  | brk => exact q
  | cont => exact q
end
section
variable {X : Cx} {S : SI} {Phi : Tab} {ga : Str → Addr} {W : WX}
theorem r_consA {dX : Env → Ev D} {dR : Env → Ev (List D)} : ∀ sg H Q, tL X.K ga W (fun e => bnd (dX e) fun d => bnd (dR e) fun ds => ret (d :: ds)) sg H Q → tCons (tI X.K ga W dX) (tL X.K ga W dR) sg H Q := by
  intro sg H Q z
  refine (tG.one (R := VR X.K ga) z).mono ?_
  rintro y H1 ⟨rho1, d, M1, e, at1, rd, z1⟩
  refine (At.nxt (R2 := VRs X.K ga) at1 z1).mono ?_
  rintro ys H2 ⟨rho2, ds, M2, x2, at2, rds, z2⟩
  exact z2 rho2 H2 _ Ext.refl at2.m (by simp only [VRs]; exact ⟨y, ys, rfl, rd.ext x2, rds⟩)
theorem papL (ok : OKX S Phi ga W X) : ∀ n (es : List Expr), es.any isSC = true → es.any isStar = false → PAp X es (tL X.K ga W (denA Phi n S es))
  | 0, es, _, _ => fun pos pins s sg H Q I z => (stop_no (fun e => by simp only [denA]) _ _ _ z).elim
  | n + 1, [], h, _ => absurd h (by simp)
  | n + 1, x :: r, h, hs => by
    simp only [List.any_cons, Bool.or_eq_false_iff] at hs
    have key : ∀ sg H Q, tL X.K ga W (denA Phi (n + 1) S (x :: r)) sg H Q → tCons (tI X.K ga W (denE Phi n S x)) (tL X.K ga W (denA Phi n S r)) sg H Q := fun sg H Q z => r_consA sg H Q (by simpa only [denA, hs.1, if_false, Bool.false_eq_true] using z)
    by_cases hx : isSC x = true
    · cases x <;> try cases hx
      rename_i c j p
      cases c <;> try cases hx
      rename_i b
      refine PAp.imp (pap_const ((allE n).A ok r hs.2) (star_cons hs.1)) fun sg H Q z => ?_
      have z1 := key sg H Q z
      cases n with
      | zero => exact (stop_no (fun e => by simp only [denE]) _ _ _ z1).elim
      | succ n =>
        have e : (denE Phi (n + 1) S (.Constant (.str b) j p)) = fun _ => ret (.str b) := by funext e; simp only [denE]
        rw [e] at z1
        exact read_ret (v := .str b) (fun _ _ => by simp only [VR]) sg H _ z1
    · have hr : r.any isSC = true := by
        rw [List.any_cons, Bool.or_eq_true] at h
        exact h.resolve_left hx
      exact PAp.imp (pap_cons ((allE n).E ok x) (papL ok n r hr hs.2) (star_cons hs.1)) key
theorem repSh_ok {x z : Expr} {p q : Str} (h : repSh x = some (z, p, q)) : ∃ n np ap j1 j2 c1 c2 cp, x = .Call (.Attribute (.Name n np) "replace" ap) [.Constant (.str p) j1 c1, .Constant (.str q) j2 c2] [] cp ∧ z = .Name n np ∧ (p == q) = false ∧ (ap.endLine == cp.line) = true := by
  unfold repSh at h
  split at h
  · split at h
    · rename_i hc
      cases h
      simp only [Bool.and_eq_true, Bool.not_eq_true'] at hc
      have e := eq_of_beq hc.1.1
      subst e
      exact ⟨_, _, _, _, _, _, _, _, rfl, rfl, hc.1.2, hc.2⟩
    · cases h
  · cases h
theorem r_repl {dZ : Env → Ev D} {p q : Str} : ∀ sg H Q, tI X.K ga W (fun e => bnd (dZ e) fun d => dRepl d p q) sg H Q → CwR.tReplC (tI X.K ga W dZ) p q sg H Q := by
  intro sg H Q z
  refine (tG.one (R := VR X.K ga) z).mono ?_
  rintro y H1 ⟨rho1, d, M1, e, at1, rd, z1⟩
  unfold dRepl at z1
  cases d <;> try exact z1.elim
  rename_i x
  dsimp only at z1
  split at z1
  · rename_i hb
    refine ⟨x, rd.strE, hb, ?_⟩
    exact z1 rho1 H1 _ Ext.refl at1.m (by simp only [VR])
  · exact z1.elim
theorem patR (ok : OKX S Phi ga W X) (n : Nat) : ∀ (es : List Expr), es.any isStar = false → PAT X es (tL X.K ga W (denR Phi n S es))
  | [], _ => PATi pat_nil (by
    rintro sg H Q ⟨rho, M, e, m, n', z⟩
    simp only [denR] at z
    exact z rho H [] Ext.refl m (by simp only [VRs]))
  | x :: r, hs => by
    simp only [List.any_cons, Bool.or_eq_false_iff] at hs
    cases hc : repSh x with
    | none =>
      refine PATi (pat_cons (CwR.PET.of ((allE n).E ok x)) (patR ok n r hs.2) (star_cons hs.1)) fun sg H Q z => r_consA sg H Q ?_
      have e : denR Phi n S (x :: r) = fun e => bnd (denE Phi n S x e) fun d => bnd (denR Phi n S r e) fun ds => ret (d :: ds) := by funext e; simp only [denR, hc]
      rwa [e] at z
    | some k =>
      obtain ⟨z0, p, q⟩ := k
      obtain ⟨nm, np, ap, j1, j2, c1, c2, cp, rfl, rfl, hpq, hl⟩ := repSh_ok hc
      refine PATi (pat_cons (PETi (CwR.pet_replC ((allE n).E ok (.Name nm np)) hpq rfl rfl hl) r_repl) (patR ok n r hs.2) (star_cons hs.1)) fun sg H Q z => r_consA sg H Q ?_
      have e : denR Phi n S (.Call (.Attribute (.Name nm np) "replace" ap) [.Constant (.str p) j1 c1, .Constant (.str q) j2 c2] [] cp :: r) = fun e => bnd (bnd (denE Phi n S (.Name nm np) e) fun d => dRepl d p q) fun d => bnd (denR Phi n S r e) fun ds => ret (d :: ds) := by funext e; simp only [denR, hc]
      rwa [e] at z
theorem petR (ok : OKX S Phi ga W X) (n : Nat) {y : Expr} {rs : List Expr} {p4 p5 : Pos} (hs : rs.any isStar = false) : PET X (.BinOp y .Add (.List rs p4) p5) (tI X.K ga W fun e => bnd (denE Phi n S y e) fun l => bnd (bnd (denR Phi n S rs e) newl) fun k => dAdd l k) := by
  refine PETi (CwR.pet_op (opBin (X := X) (ga := ga) .Add) (CwR.PET.of ((allE n).E ok y)) (PETi (pet_lst (patR ok n rs hs)) (t' := tI X.K ga W fun e => bnd (denR Phi n S rs e) newl) fun sg H Q z => ?_)) (read_bin (nx_bin .Add))
  refine (tG.one (R := VRs X.K ga) z).mono ?_
  rintro vs H1 ⟨rho1, ds, M1, e, at1, rd, z1⟩
  exact (RG.op z1 fun c M' q => nx_newl _ _ _ _ q).newl at1.m rd
theorem pstR (ok : OKX S Phi ga W X) (n : Nat) {x : Str} {p2 p4 p5 p6 : Pos} {y : Expr} {rs : List Expr} (hs : rs.any isStar = false) : PST X (.Assign [.Name x p2] (.BinOp y .Add (.List rs p4) p5) p6) (tS X.K ga W (denRS Phi n S (.Name x p2) y rs)) := by
  intro pins s sg H D h0 I z
  exact pst_asg (petR ok n hs) (pgO ok (.Name x p2)) (by rw [swS]; exact swaps_plain rfl) rfl rfl pins s sg H D h0 I (r_set D sg H z)
theorem pspL (ok : OKX S Phi ga W X) (n : Nat) {x : Str} {p2 p4 p6 : Pos} {es : List Expr} (h : es.any isSC = true) (hs : es.any isStar = false) : PSp X (.Assign [.Name x p2] (.List es p4) p6) (tS X.K ga W (denS Phi n S (.Assign [.Name x p2] (.List es p4) p6))) := by
  cases n with
  | zero =>
    rintro pins s sg H D I ⟨rho, M, e, m, n', z⟩
    simp only [denS] at z
    exact z.elim
  | succ n =>
    have hk := asSh_ok S [.Name x p2] (.List es p4)
    cases hc : asSh S [.Name x p2] (.List es p4) with
    | tg t =>
      rw [hc] at hk
      obtain ⟨ht, _⟩ := hk
      cases ht
      refine PSp.imp (psp_asg (te := tI X.K ga W (denE Phi n S (.List es p4))) ?_ (pgO ok (.Name x p2)) (by rw [swS]; exact swaps_plain rfl) rfl rfl) fun E sg H z => r_set E sg H ?_
      · cases n with
        | zero => exact fun pins s sg H Q I z => (stop_no (fun e => by simp only [denE]) _ _ _ z).elim
        | succ n =>
          have e : denE Phi (n + 1) S (.List es p4) = fun e => bnd (denA Phi n S es e) newl := by funext e; simp only [denE, hs, if_false, Bool.false_eq_true]
          rw [e]
          refine PEp.imp (pep_lst (papL ok n es h hs)) fun sg H Q z => ?_
          refine (tG.one (R := VRs X.K ga) z).mono ?_
          rintro vs H1 ⟨rho1, ds, M1, e, at1, rd, z1⟩
          exact (RG.op z1 fun c M' q => nx_newl _ _ _ _ q).newl at1.m rd
      · have e : denS Phi (n + 1) S (.Assign [.Name x p2] (.List es p4) p6) = fun e => bnd (denE Phi n S (.List es p4) e) fun d => Pf.opt (tgO S (.Name x p2) d e) fun e' => ret (.nx e') := by funext e; simp only [denS, hc]
        rwa [e] at z
    | _ =>
      rw [hc] at hk
      first
        | (exfalso; revert hk; simp [AsOk]; done)
        | (rintro pins s sg H D I ⟨rho, M, e, m, n', z⟩
           simp only [denS, hc] at z
           exact z.elim)
theorem rplSh_ok {st : Stmt} {r : List Stmt} {t y : Expr} {rs : List Expr} {r2 : List Stmt} (h : rplSh st r = some (t, y, rs, r2)) : ∃ x1 q1 es q2 q3 x p2 p4 p5 p6, st = .Assign [.Name x1 q1] (.List es q2) q3 ∧ r = .Assign [.Name x p2] (.BinOp y .Add (.List rs p4) p5) p6 :: r2 ∧ t = .Name x p2 ∧ es.any isSC = true ∧ es.any isStar = false ∧ rs.any isStar = false := by
  unfold rplSh at h
  split at h
  · split at h
    · rename_i hc
      cases h
      simp only [Bool.and_eq_true, Bool.not_eq_true'] at hc
      exact ⟨_, _, _, _, _, _, _, _, _, _, rfl, rfl, rfl, hc.1.1.1, hc.1.1.2, hc.2⟩
    · cases h
  · cases h
end
end Pf
set_option maxHeartbeats 4000000
/-! Pf: a def that tells a caught exception's word, within the suite that caught it. -/
namespace Pf
open PySem PySem.Spec PyProof.Rows L2
/-! ### its meaning: the exception is the value .fn "__name__" -/
inductive HS where
  | isx (x C : Str) | m1 (o : Expr) (m : Str) (h : D → D → Ev D) (a : Expr) | bad
def hm1 (m : Str) : Option (D → D → Ev D) := if m == "index" then some mIndex else if m == "count" then some mCount else none
def isVE (S : SI) (C : Str) : Bool := isCls (S.G C) || (C == "ValueError" && isBlt (S.G C))
def hcSh (S : SI) (g : Expr) (as : List Expr) (ks : List Keyword) (cp : Pos) : HS := match ks with
  | [] => (match g with
    | .Name f _ => (match as with
      | [.Name x _, .Name C _] => if f == "isinstance" && S.glb f && isBlt (S.G f) && S.vis x && (S.ix x).isSome && S.glb C && isVE S C then .isx x C else .bad
      | _ => .bad)
    | .Attribute o m ap => (match as with
      | [a] => if (ap.endLine == cp.line) && !isStar a && !isCall0 o then (match hm1 m with
        | some h => .m1 o m h a
        | none => .bad) else .bad
      | _ => .bad)
    | _ => .bad)
  | _ => .bad
def hIs (i : Nat) (b : Bool) (e : Env) : Ev D := fun M => match e[i]? with
  | some (some (.fn y)) => if y = "__name__" then .ok (.bl b) M else .no
  | _ => .no
mutual
def hE (isa : Str → Bool) : Nat → SI → Expr → Env → Ev D
  | 0, _, _, _ => stop
  | n + 1, S, ex, e => match ex with
    | .Name x _ => if S.vis x = true then (match S.ix x with
        | some i => getS i e
        | none => stop) else stop
    | .Constant c _ _ => (match c with
      | .bool b => ret (.bl b)
      | .int i => ret (.int i)
      | .str x => ret (.str x)
      | _ => stop)
    | .BinOp a op b _ => bnd (hE isa n S a e) fun x => bnd (hE isa n S b e) fun y => dBin op x y
    | .Compare a ops bs _ => (match cmpSh ops bs with
      | .one op b => bnd (hE isa n S a e) fun x => bnd (hE isa n S b e) fun y => dCmp op x y
      | _ => stop)
    | .Call g as ks cp => (match hcSh S g as ks cp with
      | .isx x C => (match S.ix x with
        | some i => hIs i (isa C) e
        | none => stop)
      | .m1 o _ h a => bnd (hE isa n S o e) fun x => bnd (chkL x) fun _ => bnd (hE isa n S a e) fun y => h x y
      | .bad => stop)
    | .Subscript o i _ => if isSlice i = true then stop else bnd (hE isa n S o e) fun x => bnd (hE isa n S i e) fun y => dIdx x y
    | .List es _ => if es.any isStar = true then stop else bnd (hA isa n S es e) newl
    | _ => stop
def hA (isa : Str → Bool) : Nat → SI → List Expr → Env → Ev (List D)
  | 0, _, _, _ => stop
  | n + 1, S, as, e => match as with
    | [] => ret []
    | x :: r => if isStar x = true then stop else bnd (hE isa n S x e) fun d => bnd (hA isa n S r e) fun ds => ret (d :: ds)
end
def hT (isa : Str → Bool) : Nat → SI → Expr → Env → Ev Bool
  | 0, _, _, _ => stop
  | n + 1, S, ex, e => match ex with
    | .UnaryOp .Not a _ => bnd (hT isa n S a e) fun b => ret (!b)
    | .BoolOp .Or [a, b] _ => bnd (hT isa n S a e) fun c => if c = true then ret true else hT isa n S b e
    | .Compare a ops bs _ => (match cmpSh ops bs with
      | .one op b => bnd (bnd (hE isa n S a e) fun x => bnd (hE isa n S b e) fun y => dCmp op x y) toB
      | _ => stop)
    | .Call g as ks cp => bnd (hE isa n S (.Call g as ks cp) e) toB
    | _ => stop
def asH : List Expr → Option Str
  | [.Name x _] => some x
  | _ => none
def ifH : List Stmt → List Stmt → Option Expr
  | [.Return (some x) _], [] => some x
  | _, _ => none
def hB (isa : Str → Bool) : Nat → SI → List Stmt → Env → Ev Out
  | 0, _, _, _ => stop
  | n + 1, S, sts, e => match sts with
    | [] => ret (.nx e)
    | st :: r => (match st with
      | .Return (some x) _ => bnd (hE isa n S x e) fun d => ret (.rt d)
      | .Assign ts v _ => (match asH ts with
        | some x => if S.loc x = true ∧ isComp v = false then (match S.ix x with
          | some i => bnd (hE isa n S v e) fun d => hB isa n S r (e.set i (some d))
          | none => stop) else stop
        | none => stop)
      | .If t a b _ => (match ifH a b with
        | some x => bnd (hT isa n S t e) fun c => if c = true then (bnd (hE isa n S x e) fun d => ret (.rt d)) else hB isa n S r e
        | none => stop)
      | _ => stop)
/-! ### it is what the def does -/
structure OKH (S : SI) (isa : Str → Bool) (ga : Str → Addr) (Dc : Addr) (X : Cx) : Prop where
  N : X.N = S.N
  nd : S.N.Nodup
  sc : X.env.scope.names = S.sc
  un : X.A.units + 66 < cLine
  fnc : ∀ x, X.fn x = true
  nN : ∀ x ∈ S.N, (x == ("__debug__" : Str)) = false ∧ (x == ("__classdict__" : Str)) = false
  nG : ∀ x, (match S.G x with | .unk => False | _ => True) → (x == ("__debug__" : Str)) = false ∧ x ≠ "__name__"
  blt : ∀ x, S.G x = .blt → X.mg x = none
  call : CallR X (.builtin "isinstance") (rIsE X.K Dc (ga "__name__"))
  cls : ∀ C, S.G C = .cls → X.mg C = some (.ref (ga C)) ∧ PySem.W.kitOne X.K (.ref Dc) (.ref (ga C)) = some (isa C)
  val : PySem.W.kitOne X.K (.ref Dc) (.type "ValueError") = some (isa "ValueError")
section
variable {X : Cx} {S : SI} {isa : Str → Bool} {ga : Str → Addr} {Dc : Addr} {W : WX}
theorem glh (ok : OKH S isa ga Dc X) {x : Str} (h : S.glb x = true) : Gl X x := by
  unfold SI.glb at h
  show X.env.scope.names.lookup x = some .globalImplicit
  rw [ok.sc]
  split at h
  · assumption
  · cases h
theorem vih (ok : OKH S isa ga Dc X) {x : Str} (h : S.vis x = true) : Vis X.env.scope x := by
  unfold SI.vis at h
  unfold Vis
  rw [ok.sc]
  split at h
  · rename_i e; exact .inl e
  · rename_i e; exact .inr (.inl e)
  · rename_i e; exact .inr (.inr e)
  · cases h
theorem isB {g : GV} (h : isBlt g = true) : g = .blt := by cases g <;> first | rfl | cases h
theorem isC {g : GV} (h : isCls g = true) : g = .cls := by cases g <;> first | rfl | cases h
theorem h_var (ok : OKH S isa ga Dc X) {x : Str} {p : Pos} {i : Nat} (hv : S.vis x = true) (hi : S.ix x = some i) : PE X (.Name x p) (tVar i) := by
  have hN : S.N[i]? = some x := ix_get hi
  obtain ⟨d1, d2⟩ := ok.nN x (List.mem_of_getElem? hN)
  exact pe_var (by rw [ok.N]; exact hN) (vih ok hv) d1 d2
theorem h_isx (ok : OKH S isa ga Dc X) {f x C : Str} {p p2 p3 pos : Pos} {i : Nat} (hf : f = "isinstance") (hg : S.glb f = true) (hb : isBlt (S.G f) = true) (hv : S.vis x = true) (hi : S.ix x = some i) (hC : S.glb C = true) (hV : isVE S C = true) :
    PE X (.Call (.Name f p) [.Name x p2, .Name C p3] [] pos) (tI X.K ga W (hIs i (isa C))) := by
  subst hf
  have eb := isB hb
  have key : ∀ (c : V) (cv : Value), PE X (.Name C p3) (tC c) → (∀ u, RelV c u → u = cv) → PySem.W.kitOne X.K (.ref Dc) cv = some (isa C) → PE X (.Call (.Name "isinstance" p) [.Name x p2, .Name C p3] [] pos) (tI X.K ga W (hIs i (isa C))) := by
    intro c cv hc hr hk
    refine PE.imp (pe_callB ok.call (glh ok hg) (ok.blt _ eb) (by decide +kernel) (pa_cons (h_var ok hv hi) (pa_cons hc pa_nil rfl) rfl) (by decide) (by decide) rfl rfl) fun sg H Q z => ?_
    obtain ⟨rho, M, e, m, n, z⟩ := z
    unfold hIs at z
    split at z
    · rename_i y hy
      split at z
      · rename_i e0
        subst e0
        obtain ⟨v, hsv, rv⟩ := n.at_ i _ hy
        simp only [VR] at rv
        subst rv
        exact ⟨_, hsv, c, cv, isa C, rfl, hr, hk, z rho H _ Ext.refl m (by simp only [VR])⟩
      · exact z.elim
    · exact z.elim
  unfold isVE at hV
  rw [Bool.or_eq_true] at hV
  rcases hV with h | h
  · obtain ⟨h1, h2⟩ := ok.cls C (isC h)
    exact key (.ref (ga C)) (.ref (ga C)) (pe_glob (glh ok hC) h1 rfl (ok.nG C (by rw [isC h]; trivial)).1) (fun u r => r) h2
  · rw [Bool.and_eq_true] at h
    have e := eq_of_beq h.1
    subst e
    have ev := isB h.2
    exact key (.ty "ValueError") (.type "ValueError") (pe_bltn (v := .ty "ValueError") (glh ok hC) (ok.blt _ ev) (by decide +kernel) rfl (by decide) (by decide)) (fun u r => r) ok.val
def HSok (S : SI) (g : Expr) (as : List Expr) (ks : List Keyword) (cp : Pos) : HS → Prop
  | .isx x C => ∃ f p p2 p3, g = .Name f p ∧ as = [.Name x p2, .Name C p3] ∧ ks = [] ∧ f = "isinstance" ∧ S.glb f = true ∧ isBlt (S.G f) = true ∧ S.vis x = true ∧ S.glb C = true ∧ isVE S C = true
  | .m1 o m h a => ∃ ap, g = .Attribute o m ap ∧ as = [a] ∧ ks = [] ∧ (ap.endLine == cp.line) = true ∧ isStar a = false ∧ isCall0 o = false ∧ meth1 m = some h
  | .bad => True
theorem hcSh_ok {g : Expr} {as : List Expr} {ks : List Keyword} {cp : Pos} : HSok S g as ks cp (hcSh S g as ks cp) := by
  unfold hcSh
  split
  · split
    · split
      · split
        · rename_i q
          simp only [Bool.and_eq_true] at q
          exact ⟨_, _, _, _, rfl, rfl, rfl, eq_of_beq q.1.1.1.1.1.1, q.1.1.1.1.1.2, q.1.1.1.1.2, q.1.1.1.2, q.1.2, q.2⟩
        · trivial
      · trivial
    · split
      · split
        · rename_i q
          simp only [Bool.and_eq_true, Bool.not_eq_true'] at q
          split
          · rename_i h hh
            refine ⟨_, rfl, rfl, rfl, q.1.1, q.1.2, q.2, ?_⟩
            unfold hm1 at hh
            unfold meth1
            split at hh
            · rename_i e
              have e' := eq_of_beq e
              subst e'
              cases hh
              rfl
            · split at hh
              · rename_i e
                have e' := eq_of_beq e
                subst e'
                cases hh
                rfl
              · cases hh
          · trivial
        · trivial
      · trivial
    · trivial
  · trivial
structure AllH (isa : Str → Bool) (ga : Str → Addr) (Dc : Addr) (n : Nat) : Prop where
  E : ∀ {X : Cx} {S : SI} {W : WX}, OKH S isa ga Dc X → ∀ ex, PE X ex (tI X.K ga W (hE isa n S ex))
  A : ∀ {X : Cx} {S : SI} {W : WX}, OKH S isa ga Dc X → ∀ as, as.any isStar = false → PA X as (tL X.K ga W (hA isa n S as))
theorem h_all : ∀ n, AllH isa ga Dc n
  | 0 => ⟨fun _ ex => PE.stop fun e => by simp only [hE], fun _ as _ => PA.none _ (stop_no fun e => by simp only [hA])⟩
  | n + 1 => by
    have ih := h_all n
    refine ⟨fun {X S W} ok ex => ?_, fun {X S W} ok as hs => ?_⟩
    · cases ex with
      | Name x p =>
        by_cases hv : S.vis x = true
        · cases hi : S.ix x with
          | none => exact PE.stop fun e => by simp only [hE, hv, hi, if_true]
          | some i =>
            refine PE.by (r' := fun e => getS i e) (PE.imp (h_var ok hv hi) ?_) fun e => by simp only [hE, hv, hi, if_true]
            rintro sg H Q ⟨rho, M, e, m, n, z⟩
            dsimp only [getS] at z
            split at z
            · rename_i d hd
              obtain ⟨v, q, r⟩ := n.at_ i d hd
              exact ⟨v, q, z rho H v Ext.refl m r⟩
            · exact z.elim
        · exact PE.stop fun e => by simp only [hE, hv, if_false, Bool.false_eq_true]
      | Constant c j p =>
        cases c with
        | bool b => exact PE.by (r' := fun e => ret (.bl b)) (PE.imp pe_bl (read_ret (v := .bl b) fun _ _ => by simp only [VR])) fun e => by simp only [hE]
        | int b => exact PE.by (r' := fun e => ret (.int b)) (PE.imp pe_int (read_ret (v := .int b) fun _ _ => by simp only [VR])) fun e => by simp only [hE]
        | str b => exact PE.by (r' := fun e => ret (.str b)) (PE.imp pe_str (read_ret (v := .str b) fun _ _ => by simp only [VR])) fun e => by simp only [hE]
        | _ => exact PE.stop fun e => by simp only [hE]
      | BinOp a op b p => exact PE.by (PE.imp (pe_op (opBin op) (ih.E ok a) (ih.E ok b)) (read_bin (nx_bin op))) fun e => by simp only [hE]
      | Compare a ops bs p =>
        have h := cmpSh_ok ops bs
        cases hc : cmpSh ops bs with
        | one op b =>
          rw [hc] at h
          obtain ⟨rfl, rfl, hs⟩ := h
          exact PE.by (PE.imp (pe_cmpR (opCmp op (by have := ok.un; omega)) (ih.E ok a) (ih.E ok b) (mark_plain hs)) (read_bin (nx_cmp op))) fun e => by simp only [hE, hc]
        | _ => exact PE.stop fun e => by simp only [hE, hc]
      | Call g as ks p =>
        have h := hcSh_ok (S := S) (g := g) (as := as) (ks := ks) (cp := p)
        cases hc : hcSh S g as ks p with
        | isx x C =>
          rw [hc] at h
          obtain ⟨f, p1, p2, p3, rfl, rfl, rfl, h1, h2, h3, h4, h5, h6⟩ := h
          cases hi : S.ix x with
          | none => exact PE.stop fun e => by simp only [hE, hc, hi]
          | some i => exact PE.by (h_isx ok h1 h2 h3 h4 hi h5 h6) fun e => by simp only [hE, hc, hi]
        | m1 o m h0 a =>
          rw [hc] at h
          obtain ⟨ap, rfl, rfl, rfl, h1, h2, h3, h4⟩ := h
          exact PE.by (pe_m1 (by have := ok.un; omega) h1 h4 h3 h2 (ih.E ok o) (ih.E ok a)) fun e => by simp only [hE, hc]
        | bad => exact PE.stop fun e => by simp only [hE, hc]
      | Subscript o i p =>
        by_cases hs : isSlice i = true
        · exact PE.stop fun e => by simp only [hE, hs, if_true]
        · exact PE.by (PE.imp (pe_ix (ixD (by have := ok.un; omega)) (ih.E ok o) (ih.E ok i) (sub_plain (Bool.eq_false_iff.mpr hs))) (read_bin nx_idx)) fun e => by simp only [hE, hs, if_false, Bool.false_eq_true]
      | List es p =>
        by_cases hs : es.any isStar = true
        · exact PE.stop fun e => by simp only [hE, hs, if_true]
        · exact PE.by (pe_lstD (ih.A ok es (Bool.eq_false_iff.mpr hs))) fun e => by simp only [hE, hs, if_false, Bool.false_eq_true]
      | _ => exact PE.stop fun e => by simp only [hE]
    · cases as with
      | nil =>
        refine PA.imp pa_nil ?_
        rintro sg H Q ⟨rho, M, e, m, n', z⟩
        simp only [hA] at z
        exact z rho H [] Ext.refl m (by simp only [VRs])
      | cons x r =>
        simp only [List.any_cons, Bool.or_eq_false_iff] at hs
        refine PA.imp (pa_cons (ih.E (W := W) ok x) (ih.A (W := W) ok r hs.2) (star_cons hs.1)) fun sg H Q z => ?_
        have z' : tL X.K ga W (fun e => bnd (hE isa n S x e) fun d => bnd (hA isa n S r e) fun ds => ret (d :: ds)) sg H Q := by simpa only [hA, hs.1, if_false, Bool.false_eq_true] using z
        refine (tG.one (R := VR X.K ga) z').mono ?_
        rintro y H1 ⟨rho1, d, M1, e, at1, rd, z1⟩
        refine (At.nxt (R2 := VRs X.K ga) at1 z1).mono ?_
        rintro ys H2 ⟨rho2, ds, M2, x2, at2, rds, z2⟩
        exact z2 rho2 H2 _ Ext.refl at2.m (by simp only [VRs]; exact ⟨y, ys, rfl, rd.ext x2, rds⟩)
theorem hT_ok (ok : OKH S isa ga Dc X) : ∀ (n : Nat) (ex : Expr), PT X ex (tT X.K ga W (hT isa n S ex))
  | 0, ex => PT.stop fun e => by simp only [hT]
  | n + 1, ex => by
    cases ex with
    | UnaryOp op a p =>
      cases op with
      | Not => exact PT.by (PT.imp (pt_not (hT_ok ok n a)) rt_not) fun e => by simp only [hT]
      | _ => exact PT.stop fun e => by simp only [hT]
    | BoolOp op as p =>
      cases op with
      | And => exact PT.stop fun e => by simp only [hT]
      | Or =>
        match as with
        | [a, b] => exact PT.by ((PW.imp (pw_or (hT_ok ok n a) (pw_or1 (hT_ok ok n b))) rt_or).pt) fun e => by simp only [hT]
        | [] => exact PT.stop fun e => by simp only [hT]
        | [a] => exact PT.stop fun e => by simp only [hT]
        | a :: b :: c :: r => exact PT.stop fun e => by simp only [hT]
    | Compare a ops bs p =>
      have h := cmpSh_ok ops bs
      cases hc : cmpSh ops bs with
      | one op b =>
        rw [hc] at h
        obtain ⟨rfl, rfl, hs⟩ := h
        exact PT.by (PT.imp (pt_cmpR (opCmp op (by have := ok.un; omega)) ((h_all n).E ok a) ((h_all n).E ok b) (mark_plain hs)) (read_test (read_bin (nx_cmp op)))) fun e => by simp only [hT, hc]
      | _ => exact PT.stop fun e => by simp only [hT, hc]
    | Call g as ks p => exact PT.by (PT.imp (pt_val ((h_all n).E ok (.Call g as ks p)) (true_plain rfl)) rt_val) fun e => by simp only [hT]
    | _ => exact PT.stop fun e => by simp only [hT]
end
end Pf
namespace Pf
open PySem PySem.Spec PyProof.Rows L2
section
variable {X : Cx} {S : SI} {isa : Str → Bool} {ga : Str → Addr} {Dc : Addr} {W : WX}
theorem PSs.stop {sts : List Stmt} {r : Env → Ev Out} (k : ∀ e, r e = stop) : PSs X sts (tS X.K ga W r) := ⟨fun pins s sg H E I z => by
  obtain ⟨rho, M, e, m, n, z⟩ := z
  rw [k] at z
  exact z.elim⟩
theorem PSs.by {sts : List Stmt} {r r' : Env → Ev Out} (h : PSs X sts (tS X.K ga W r')) (k : ∀ e, r e = r' e) : PSs X sts (tS X.K ga W r) := by rw [funext k]; exact h
theorem hret_ok (ok : OKH S isa ga Dc X) {n : Nat} {x : Expr} {p : Pos} : PS X (.Return (some x) p) (tS X.K ga W (fun e => bnd (hE isa n S x e) fun d => ret (.rt d))) := by
  refine PS.imp (ps_ret ((h_all n).E (W := W) ok x)) fun E sg H z => ?_
  refine (tS.one (R := VR X.K ga) z).mono ?_
  rintro b H1 ⟨rho1, d, M1, e, at1, rd, z1⟩
  exact z1 rho1 H1 b Ext.refl at1.m rd
theorem asH_ok {ts : List Expr} {x : Str} (h : asH ts = some x) : ∃ p, ts = [.Name x p] := by
  unfold asH at h
  split at h
  · cases h; exact ⟨_, rfl⟩
  · cases h
theorem ifH_ok {a b : List Stmt} {x : Expr} (h : ifH a b = some x) : ∃ p, a = [.Return (some x) p] ∧ b = [] := by
  unfold ifH at h
  split at h
  · cases h; exact ⟨_, rfl, rfl⟩
  · cases h
theorem hB_ok (ok : OKH S isa ga Dc X) : ∀ (n : Nat) (sts : List Stmt), PSs X sts (tS X.K ga W (hB isa n S sts))
  | 0, sts => PSs.stop fun e => by simp only [hB]
  | n + 1, [] => by
    refine PSs.imp pss_nil ?_
    rintro E sg H ⟨rho, M, e, m, n', z⟩
    simp only [hB] at z
    exact z rho H sg Ext.refl m n'
  | n + 1, st :: r => by
    have ih := fun r => hB_ok ok n r
    cases st with
    | Return o p =>
      cases o with
      | none => exact PSs.stop fun e => by simp only [hB]
      | some x =>
        refine PSs.by (r' := fun e => bnd (hE isa n S x e) fun d => ret (.rt d)) (PSs.imp (pss_cons (hret_ok (W := W) (n := n) ok) (ih r)) fun E sg H z => ?_) fun e => by simp only [hB]
        obtain ⟨rho, M, e, m, n', z⟩ := z
        refine ⟨rho, M, e, m, n', ?_⟩
        revert z
        dsimp only [Pf.bnd]
        cases hE isa n S x e M with
        | ok d M1 => exact id
        | ex c M1 => exact id
        | no => exact id
    | Assign ts v p =>
      cases hx : asH ts with
      | none => exact PSs.stop fun e => by simp only [hB, hx]
      | some x =>
        obtain ⟨p2, rfl⟩ := asH_ok hx
        by_cases hc : S.loc x = true ∧ isComp v = false
        · cases hi : S.ix x with
          | none => exact PSs.stop fun e => by simp only [hB, hx, hc, hi, and_self, if_true]
          | some i =>
            refine PSs.by (r' := fun e => bnd (hE isa n S v e) fun d => hB isa n S r (e.set i (some d))) ?_ fun e => by simp only [hB, hx, hc, hi, and_self, if_true]
            have hN : X.N.Nodup := by rw [ok.N]; exact ok.nd
            have hy : X.N[i]? = some x := by rw [ok.N]; exact ix_get hi
            have hL : L2.Loc X.env.scope x := by
              have h := hc.1
              unfold SI.loc at h
              unfold L2.Loc
              rw [ok.sc]
              split at h
              · rename_i e; exact .inl e
              · rename_i e; exact .inr e
              · cases h
            refine PSs.imp (pss_cons (ps_set (pos' := p2) hN hy hL ((h_all n).E (W := W) ok v) (swaps_plain hc.2) (.inl (ok.fnc x))) (ih r)) fun E sg H z => ?_
            refine (tS.one (R := VR X.K ga) (g := fun d e => hB isa n S r (e.set i (some d))) z).mono ?_
            rintro b H1 ⟨rho1, d, M1, e, at1, rd, z1⟩
            exact ⟨rho1, M1, e.set i (some d), at1.m, at1.n.set rd i, by simpa using z1⟩
        · exact PSs.stop fun e => by simp only [hB, hx, hc, if_false]
    | If t a b p =>
      cases hx : ifH a b with
      | none => exact PSs.stop fun e => by simp only [hB, hx]
      | some x =>
        obtain ⟨p2, rfl, rfl⟩ := ifH_ok hx
        refine PSs.by (r' := fun e => bnd (hT isa n S t e) fun c => if c = true then (bnd (hE isa n S x e) fun d => ret (.rt d)) else hB isa n S r e) ?_ fun e => by simp only [hB, hx]
        refine PSs.imp (pss_cons (ps_if (hT_ok (W := W) ok n t) (pss_cons (hret_ok (W := W) (n := n) ok) pss_nil) pss_nil) (ih r)) fun E sg H z => ?_
        refine (tS.one (R := REq Bool) (g := fun c e => if c = true then (bnd (hE isa n S x e) fun d => ret (.rt d)) else hB isa n S r e) z).mono ?_
        rintro c H1 ⟨rho1, d, M1, e, at1, rfl, z1⟩
        cases d with
        | true =>
          rw [if_pos rfl] at z1 ⊢
          refine ⟨rho1, M1, e, at1.m, at1.n, ?_⟩
          revert z1
          dsimp only [Pf.bnd]
          cases hE isa n S x e M1 with
          | ok d M1 => exact id
          | ex c M1 => exact id
          | no => exact id
        | false =>
          rw [if_neg Bool.false_ne_true] at z1 ⊢
          exact ⟨rho1, M1, e, at1.m, at1.n, z1⟩
    | _ => exact PSs.stop fun e => by simp only [hB]
end
end Pf
set_option maxHeartbeats 4000000
/-! Pf: what the def that tells a caught exception's word promises. -/
namespace Pf
open PySem PySem.Spec PyProof.Rows L2
theorem call_isX {X : Cx} {a Dc : Addr} {oe : Obj} (hp : (a, oe) ∈ X.pn) (C : ExcC X.K Dc) (hz : Zc (.ref Dc) none oe) (hf : ∃ vs, oe.data = .fields vs) : CallR X (.builtin "isinstance") (rIsE X.K Dc a) := by
  intro pins s sg H xs us Q I r h
  obtain ⟨c, cv, b, rfl, hcv, e, q⟩ := h
  cases r with
  | cons rx rr =>
    cases rr with
    | cons rt rr =>
      cases rr
      cases rx
      have ec := hcv _ rt
      subst ec
      obtain ⟨hget, _⟩ := I.pin (a, oe) (List.mem_append.mpr (.inl hp))
      obtain ⟨vs, hv⟩ := hf
      have J : PySem.W.InstAt s.heap a oe Dc none := by
        obtain ⟨oc, od, oda, osl⟩ := oe
        obtain ⟨h1, h2⟩ := hz
        dsimp only at h1 h2 hv
        subst h1 h2 hv
        exact ⟨hget, rfl, rfl, trivial⟩
      exact PySem.W.kia_one (PySem.W.handS_kitx_exc C.hg C.hk C.hs C.hd C.ha C.hn C.ht C.hm) I.kIn J e (fun z => nomatch z) fun tk => ⟨.bl b, H, I.kept (t' := tk) fun _ _ z => z, rfl, q⟩
/-- what is asked of a class, as a truth -/
def excB (K : PySem.W.Frag) (Dc : Addr) : Bool :=
  decide (PySem.W.findIn K (.ref Dc) "__getattribute__" = some (some (.builtin "BaseException.__getattribute__"))) && (decide (PySem.W.findIn K (.ref Dc) "__getattr__" = some none) && (decide (PySem.W.subIn K (.ref Dc) (.type "BaseException") = some true) &&
  (PySem.W.hasDictIn K Dc && (decide (PySem.W.findIn K (.ref Dc) "__class__" = some (some (.builtin "object.__class__"))) && (decide (PySem.W.specialIn K (.builtin "object.__class__") "__get__" = some (some (.builtin "getset_descriptor.__get__"))) &&
  (decide (PySem.W.takesIn K (.builtin "object.__class__") = some true) && decide (PySem.W.mroIn K Dc (.type "object") = some true)))))))
theorem excB_ok {K : PySem.W.Frag} {Dc : Addr} (h : excB K Dc = true) : ExcC K Dc := by
  unfold excB at h
  simp only [Bool.and_eq_true, decide_eq_true_eq] at h
  obtain ⟨h1, h2, h3, h4, h5, h6, h7, h8⟩ := h
  exact ⟨h1, h2, h3, h4, h5, h6, h7, h8⟩
section
variable {P : Program} {w : World} {K : PySem.W.Frag} {mg : Str → Option Value} {base : Heap} {k : Nat} {f : Addr} {name qual : Str} {params : Arguments} {body : List Stmt} {scope : Scope} {dV kV doc pm cdv ct oc : Value} {an od : Option Addr}
  {osl : Array (Option Value)} {N ps : List Str} {ga : Str → Addr} {word : Str → Option Str}
theorem fnX_of (lk : K.lookup f = some ⟨oc, od, .func (PySem.W.fnOf name qual params body scope dV kV doc pm an cdv ct), osl⟩) (hcd : PySem.W.codeIn K cdv qual = true) (S : FnScope N ps scope) (h1 : ps.length = 1)
    (go : ∀ (A : Around) (outer : List PySem.Env) (s : Shared) (H : Hp) (Q : VK) (E : XK) (p : Addr × Obj) (c x : Str), L2H.RoomH k (A.deeper (envOfC qual scope s.heap.objs.size f cdv)) → Zc (.ref (ga c)) none p.2 → (∃ vs, p.2.data = .fields vs) → word c = some x → (∀ H', (∀ a o, H a = some o → H' a = some o) → Q (.str x) H') →
      ∃ t, PSs (L2H.cxH (L2.CX P w) P w K mg base N qual scope f cdv A outer s H E p) body t ∧ t { nx := fun _ H' => Q .non H', rt := Q } (L2.start N [.ref p.1]) H) :
    FnX P w K mg base (k + 1) f (PySem.W.fnOf name qual params body scope dV kV doc pm an cdv ct) ps ga word where
  run A outer s H args Q E p c x room hpin ent bd hz hf hw hQ := by
    have keepB : ∀ b o, base.get? b = some o → s.heap.get? b = some o := fun b o z => (ent.bs b o z).1
    have inK : K.In s.heap := ent.mod.kin.keeps keepB
    have nl : s.heap.NoLimit := ent.mod.nolimit.keeps keepB
    have eqL : ([V.ref p.1] : List V).length = ps.length := by rw [h1]; rfl
    have kinds : ∀ y ∈ ps.zip [Value.ref p.1], scope.names.lookup y.1 = some .local ∨ (scope.names.lookup y.1 = some .cell ∧ ((cellsFrom (s.heap.objs.size + 1) scope.names []).lookup y.1).isSome = true) := by
      rintro ⟨n, v⟩ hy
      cases S.par n (List.of_mem_zip hy).1 with
      | inl q => exact .inl q
      | inr q => exact .inr ⟨q, PySem.W.cellsFrom_some _ _ _ (.inl q)⟩
    apply codeAny_call_function room.depth (inK _ _ lk) rfl S.co S.gen rfl (PySem.W.codeRec_of inK hcd) (bd _ _ _ _ ?_)
    apply wpAny_newFunctionEnv_cells S.kind kinds
    intro env he s1 x1
    cases he
    refine ⟨nl.keeps x1.toInCall.keep, codeAny_func ?_⟩
    obtain ⟨t, ht, hq⟩ := go A outer s H Q E p c x (room.deeper _) hz hf hw hQ
    have start := L2H.inv_startH (E := E) (CX := L2.CX P w) S hpin ent eqL (.cons rfl .nil) x1
    apply wpAny_mono (ht.run [] s1 (L2.start N [.ref p.1]) H _ start hq) ?_ (fun _ _ z => z)
    intro fl s' z
    cases fl with
    | next =>
      obtain ⟨_, Hn, J, q⟩ := z
      exact ⟨.non, Hn, J.os, J.bare, J.base, J.hok, rfl, q⟩
    | ret u =>
      obtain ⟨v, _, Hn, J, rv, q⟩ := z
      exact ⟨v, Hn, J.os, J.bare, J.base, J.hok, rv, q⟩
    | brk => exact z.elim fun _ z => z.elim fun _ z => z.2.elim
    | cont => exact z.elim fun _ z => z.elim fun _ z => z.2.elim
end
/-- the run of its text, for each class -/
def wordRun (isa : Str → Bool) (S : SI) (body : List Stmt) (x : Str) : Bool := match hB isa 40 S body ([some (.fn "__name__")] ++ List.replicate (S.N.length - 1) none) [] with
  | .ok (.rt (.str y)) _ => decide (y = x)
  | _ => false
end Pf
set_option maxHeartbeats 4000000
/-! Pf: every statement, every block. -/
namespace Pf
open PySem PySem.Spec PyProof.Rows L2
section
variable {X : Cx} {S : SI} {Phi : Tab} {ga : Str → Addr} {W : WX} {n : Nat}
theorem r_ifS {dT : Env → Ev Bool} {dA dB : Env → Ev Out} : ∀ E sg H, tS X.K ga W (fun e => bnd (dT e) fun c => if c = true then dA e else dB e) E sg H → tIfS (tT X.K ga W dT) (tS X.K ga W dA) (tS X.K ga W dB) E sg H := by
  intro E sg H z
  refine (tS.one (R := REq Bool) (g := fun c e => if c = true then dA e else dB e) z).mono ?_
  rintro c H1 ⟨rho1, d, M1, e, at1, rfl, z1⟩
  cases d with
  | true => rw [if_pos rfl] at z1 ⊢; exact ⟨rho1, M1, e, at1.m, at1.n, z1⟩
  | false => rw [if_neg Bool.false_ne_true] at z1 ⊢; exact ⟨rho1, M1, e, at1.m, at1.n, z1⟩
/-- a block behind a statement -/
theorem r_seq {dA dB : Env → Ev Out} (hl : ∀ e M, LenO e.length (dA e M)) : ∀ E sg H, tS X.K ga W (fun e M => match dA e M with
      | .ok (.nx e1) M1 => dB e1 M1
      | r => r) E sg H → tSeq (tS X.K ga W dA) (tS X.K ga W dB) E sg H := by
  rintro E sg H ⟨rho, M, e, m, n', z⟩
  refine ⟨rho, M, e, m, n', ?_⟩
  have hl' := hl e M
  dsimp only at z
  cases h : dA e M with
  | no => rw [h] at z; exact z
  | ex c M1 => rw [h] at z; exact z
  | ok o M1 =>
    rw [h] at z hl'
    cases o with
    | nx e1 =>
      intro rho' H' sg' x m1 n1
      refine ⟨rho', M1, e1, m1, n1, ?_⟩
      have hl2 : e1.length = e.length := hl'
      rw [hl2]
      exact RS.re z x
    | bk e1 => exact z
    | ct e1 => exact z
    | rt d => exact z
/-- a loop over what is walked -/
theorem r_for {tg : Expr} {dI : Env → Ev Src} {dB : Env → Ev Out} (hl : ∀ e M, LenO e.length (dB e M)) : ∀ E sg H, tS X.K ga W (fun e => bnd (dI e) fun s => forS s (tgO S tg) dB e) E sg H →
    tFor (tG X.K ga W (RSrc X.K ga) dI) (gT X.K ga S tg) (tS X.K ga W dB) E sg H := by
  intro E sg H z
  refine (tS.one (R := RSrc X.K ga) (g := fun s e => forS s (tgO S tg) dB e) z).mono ?_
  rintro J H1 ⟨rho1, s, M1, e, at1, rs, z1⟩
  unfold forS at z1
  cases hn : s.len M1 with
  | none => rw [hn] at z1; exact z1.elim
  | some n =>
    rw [hn] at z1
    have z2 : RS X.K ga W e.length rho1 H1 (forGo s (tgO S tg) dB n 0 e M1) E := z1
    refine ⟨fun i m sg H => ∃ rho M e', Ext rho1 H1 rho H ∧ MR X.K ga rho H M ∧ NR X.K ga rho H e' sg ∧ e'.length = e.length ∧ RS X.K ga W e.length rho H (forGo s (tgO S tg) dB m i e' M) E,
      ⟨n, rho1, M1, e, Ext.refl, at1.m, at1.n, rfl, z2⟩, ?_⟩
    rintro i m sg H ⟨rho, M, e', x, mr, nr, le, go⟩
    cases m with
    | zero =>
      unfold forGo at go
      split at go
      · rename_i hs
        exact .inl ⟨src_stop mr (rs.ext x) hs, go rho H sg Ext.refl mr nr⟩
      · exact go.elim
    | succ k =>
      unfold forGo at go
      split at go
      · rename_i d hd
        split at go
        · rename_i e1 he1
          obtain ⟨hgo, hy⟩ := src_go mr (rs.ext x) hd
          refine .inr ⟨hgo, fun sg' H' => ∃ rho M e', Ext rho1 H1 rho H' ∧ MR X.K ga rho H' M ∧ NR X.K ga rho H' e' sg' ∧ e'.length = e.length ∧ RS X.K ga W e.length rho H' (forGo s (tgO S tg) dB k (i + 1) e' M) E, fun sg' H' h => ⟨k, by omega, h⟩, ?_⟩
          intro v H' yv
          obtain ⟨x2, m2, rv⟩ := hy v H' yv
          refine ⟨rho, M, d, e', e1, m2, rv, nr.ext x2, he1, fun sg2 n2 _ => ⟨rho, M, e1, m2, n2, ?_⟩⟩
          have l1 : e1.length = e.length := (tgO_len he1).trans le
          have hb := hl e1 M
          rw [l1] at hb ⊢
          have go := RS.re go x2
          cases h : dB e1 M with
          | no => rw [h] at go; exact go
          | ex c M2 => rw [h] at go; exact go
          | ok o M2 =>
            rw [h] at go hb
            cases o with
            | nx e2 =>
              intro rho' H3 sg3 x3 m3 n3
              exact ⟨rho', M2, e2, (x.trans x2).trans x3, m3, n3, hb, RS.re go x3⟩
            | ct e2 =>
              intro rho' H3 sg3 x3 m3 n3
              exact ⟨rho', M2, e2, (x.trans x2).trans x3, m3, n3, hb, RS.re go x3⟩
            | bk e2 => exact go
            | rt d => exact go
        · exact go.elim
      · exact go.elim
theorem r_while {dT : Env → Ev Bool} {dB : Env → Ev Out} (hl : ∀ e M, LenO e.length (dB e M)) : ∀ E sg H, tS X.K ga W (fun e => whileGo dT dB WF e) E sg H → tWhile (tT X.K ga W dT) (tS X.K ga W dB) E sg H := by
  rintro E sg H ⟨rho0, M0, e, m0, n0, z⟩
  refine ⟨fun m sg H => ∃ rho M e', MR X.K ga rho H M ∧ NR X.K ga rho H e' sg ∧ e'.length = e.length ∧ RS X.K ga W e.length rho H (whileGo dT dB m e' M) E, ⟨WF, rho0, M0, e, m0, n0, rfl, z⟩, ?_⟩
  rintro m sg H ⟨rho, M, e', mr, nr, le, go⟩
  cases m with
  | zero => exact go.elim
  | succ k =>
    refine ⟨rho, M, e', mr, nr, ?_⟩
    unfold whileGo at go
    rw [le]
    cases h : dT e' M with
    | no => rw [h] at go; exact go
    | ex c M1 => rw [h] at go; exact go
    | ok b M1 =>
      rw [h] at go
      rintro rho1 H1 b' x1 m1 rfl
      have go := RS.re go x1
      cases b with
      | false =>
        rw [if_neg Bool.false_ne_true]
        exact go rho1 H1 sg Ext.refl m1 (nr.ext x1)
      | true =>
        rw [if_pos rfl]
        refine ⟨fun sg' H' => ∃ rho M e', MR X.K ga rho H' M ∧ NR X.K ga rho H' e' sg' ∧ e'.length = e.length ∧ RS X.K ga W e.length rho H' (whileGo dT dB k e' M) E, fun sg' H' h => ⟨k, by omega, h⟩, rho1, M1, e', m1, nr.ext x1, ?_⟩
        have hb := hl e' M1
        rw [le] at hb ⊢
        cases h2 : dB e' M1 with
        | no => simp only [h2] at go; exact go
        | ex c M2 => simp only [h2] at go; exact go
        | ok o M2 =>
          simp only [h2] at go
          rw [h2] at hb
          cases o with
          | nx e2 =>
            intro rho' H3 sg3 x3 m3 n3
            exact ⟨rho', M2, e2, m3, n3, hb, RS.re go x3⟩
          | ct e2 =>
            intro rho' H3 sg3 x3 m3 n3
            exact ⟨rho', M2, e2, m3, n3, hb, RS.re go x3⟩
          | bk e2 => exact go
          | rt d => exact go
end
/-! ### try -/
theorem hndl_ok {S : SI} {hs : List ExceptHandler} {en w : Str} (h : hndl S hs = some (en, w)) : ∃ np p1 p2 p3 p4 p5, hs = [.ExceptHandler (some (.Name "PuffError" np)) (some en) [.Return (some (.Call (.Name w p1) [.Name en p2] [] p3)) p4] p5] ∧ S.sc.lookup en = some .local ∧ (S.ix en).isSome = true ∧ S.glb "PuffError" = true ∧ S.G "PuffError" = .cls ∧ S.glb w = true ∧ S.G w = .wrd := by
  unfold hndl at h
  split at h
  · rename_i p np en' w' p1 en2 p2 p3 p4 p5
    simp only [Option.ite_none_right_eq_some, Option.some.injEq, Prod.mk.injEq] at h
    obtain ⟨q, rfl, rfl⟩ := h
    simp only [Bool.and_eq_true] at q
    obtain ⟨⟨⟨⟨⟨⟨⟨q1, q2⟩, q3⟩, q4⟩, q5⟩, q6⟩, q7⟩, q8⟩ := q
    have e1 := eq_of_beq q1
    have e2 := eq_of_beq q2
    subst e1 e2
    have e3 := kind_beq q3
    refine ⟨_, _, _, _, _, _, rfl, e3, q4, q5, ?_, q7, ?_⟩
    · cases g : S.G "PuffError" <;> rw [g] at q6 <;> first | rfl | cases q6
    · revert q8
      cases S.G w' <;> first | (intro _; rfl) | (intro q; cases q)
  · cases h
theorem MR.all {K : PySem.W.Frag} {ga : Str → Addr} {rho : List Addr} {H H' : Hp} {M : Mem} (m : MR K ga rho H M) (h : ∀ a o, H a = some o → H' a = some o) : MR K ga rho H' M := by
  refine ⟨m.len, m.nd, fun n c e => ?_⟩
  obtain ⟨a, h1, h2⟩ := m.cell n c e
  obtain ⟨o, h3, _⟩ := m.mem (List.mem_of_getElem? h1)
  exact ⟨a, h1, h2.mono ⟨List.prefix_refl _, fun a o e _ => h a o e⟩ ((h a o h3).trans h3.symm)⟩
theorem Ext.all {rho : List Addr} {H H' : Hp} (h : ∀ a o, H a = some o → H' a = some o) : Ext rho H rho H' := ⟨List.prefix_refl _, fun a o e _ => h a o e, fun _ z => .inl z, fun a o e _ => h a o e, fun a o u e => h a _ e⟩
/-- the suite's reading: it returns the word -/
def tWord (ga : Str → Addr) (Wd : Str → Option Str) (i : Nat) (a : Addr) (cls : Value) (d : Option Addr) : TS := fun D sg H => sg[i]? = some (some (V.ref a)) ∧ ∃ c x, cls = .ref (ga c) ∧ d = none ∧ Wd c = some x ∧ ∀ H', (∀ b o, H b = some o → H' b = some o) → D.rt (.str x) H'
theorem suite_ok {X : Cx} {S : SI} {Phi : Tab} {ga : Str → Addr} {W : WX} (ok : OKX S Phi ga W X) {en w : Str} {p1 p2 p3 p4 : Pos} {i : Nat} (hl : S.sc.lookup en = some .local) (hi : S.ix en = some i) (hw : S.glb w = true) (hG : S.G w = .wrd)
    {a : Addr} {oe : Obj} {cls : Value} {d : Option Addr} {pn : List (Addr × Obj)} (hz : Zc cls d oe) (hf : ∃ vs, oe.data = .fields vs) :
    PSs (X.suite a ((a, oe) :: pn)) [.Return (some (.Call (.Name w p1) [.Name en p2] [] p3)) p4] (tWord ga S.Wd i a cls d) := by
  have c := ok.wrd w hG
  obtain ⟨fd, ps, F, hb⟩ := c.fn
  have hN : S.N[i]? = some en := ix_get hi
  obtain ⟨d1, d2⟩ := ok.nN en (List.mem_of_getElem? hN)
  have hv : Vis X.env.scope en := by
    unfold Vis
    rw [ok.sc]
    exact .inl hl
  have hpe : PE (X.suite a ((a, oe) :: pn)) (.Call (.Name w p1) [.Name en p2] [] p3) (fun sg H Q => sg[i]? = some (some (V.ref a)) ∧ ∃ c x, cls = .ref (ga c) ∧ d = none ∧ S.Wd c = some x ∧ ∀ H', (∀ b o, H b = some o → H' b = some o) → Q (.str x) H') := by
    refine ⟨fun pins s sg H Q I h => ?_⟩
    obtain ⟨hsg, cc, x, rfl, rfl, hWd, hQ⟩ := h
    have hvar : PE (X.suite a ((a, oe) :: pn)) (.Name en p2) (tVar i) := pe_var (X := X.suite a ((a, oe) :: pn)) (by show X.N[i]? = _; rw [ok.N]; exact hN) hv d1 d2
    have hgl : Gl (X.suite a ((a, oe) :: pn)) w := gl_of ok hw
    refine wpAny_Call_Name_kw (ld_glob I hgl c.mg ?_ (ok.nG w (by rw [hG]; trivial)).1)
    refine PySem.W.callWith_K (h₀ := X.base) I.ok.mod.kin c.kp (thn ((pa_cons hvar pa_nil rfl).run p3 pins s sg H (fun vs H1 => vs = [V.ref a] ∧ H1 = H) I ⟨_, hsg, rfl, rfl⟩) fun us s1 ⟨vs, H1, I1, r, hvs, hH⟩ => ⟨I1.kIn, ?_⟩) rfl rfl
    subst hvs hH
    have eus := Vals.ref1 r
    subst eus
    have P1 := I1.pin (a, oe) (List.mem_append_left _ List.mem_cons_self)
    have hpin : L2H.PinOk (X.suite a ((a, oe) :: pn)).stack H1 s1 (a, oe) := ⟨P1.1, P1.2.1, fun hm => (List.mem_cons.mp (I1.stkSub a hm)).elim P1.2.2.1 P1.2.2.2.1, P1.2.2.2.2⟩
    have hrm : L2H.RoomH 1 (X.suite a ((a, oe) :: pn)).A := ⟨c.rm.dp, c.rm.un⟩
    refine wpAny_call (codeAny_mono (F.run (X.suite a ((a, oe) :: pn)).A (X.suite a ((a, oe) :: pn)).stack s1 H1 ⟨[.ref a], []⟩ Q (fun _ _ _ => False) (a, oe) cc x hrm hpin I1.env0 (hb s1 [.ref a] I1.kIn rfl) hz hf hWd hQ) fun r s' hq => ?_)
    cases r with
    | error e =>
      obtain ⟨_, _, _, _, _, _, _, _, _, _, _, _, bad⟩ := hq
      exact bad.elim
    | ok fl =>
      cases fl with
      | ret u => exact I1.after hq
      | next => exact False.elim hq
      | brk => exact False.elim hq
      | cont => exact False.elim hq
  exact PSs.imp (pss_cons (ps_ret hpe) pss_nil) fun D sg H h => h
theorem s_try {X : Cx} {S : SI} {Phi : Tab} {ga : Str → Addr} {W : WX} {n : Nat} (ok : OKS S Phi ga W X) (ih : ∀ {X : Cx} {W : WX}, OKS S Phi ga W X → ∀ sts, PSs X sts (tS X.K ga W (denB Phi n S sts))) {body : List Stmt} {hs : List ExceptHandler} {els fin : List Stmt} {p : Pos} :
    PS X (.Try body hs els fin p) (tS X.K ga W (denS Phi (n + 1) S (.Try body hs els fin p))) := by
  by_cases he : (els.isEmpty && fin.isEmpty) = true
  · cases hh : hndl S hs with
    | none => exact PS.stop fun e => by simp only [denS, he, hh, if_true]
    | some ew =>
      obtain ⟨en, w⟩ := ew
      obtain ⟨np, p1, p2, p3, p4, p5, rfl, h1, h2, h3, h4, h5, h6⟩ := hndl_ok hh
      rw [Bool.and_eq_true] at he
      have e1 : els = [] := by cases els <;> first | rfl | cases he.1
      have e2 : fin = [] := by cases fin <;> first | rfl | cases he.2
      subst e1 e2
      obtain ⟨i, hi⟩ := Option.isSome_iff_exists.mp h2
      have okx := ok.x
      refine PS.by (r' := fun e => tryW S.Wd (denB Phi n S body e)) ?_ fun e => by simp only [denS, hh, List.isEmpty_nil, Bool.and_self, if_true]
      have hy : X.N[i]? = some en := by rw [okx.N]; exact ix_get hi
      have cp := okx.cls "PuffError" h4
      have T := ps_try_as (X := X) (x := "PuffError") (n := en) (c := .ref (ga "PuffError")) (i := i) (body := body) (np := np) (pos := p) (pos' := p5) (suite := []) (b₀ := .Return (some (.Call (.Name w p1) [.Name en p2] [] p3)) p4) (tb := fun W => tS X.K ga W (denB Phi n S body)) (ts := tWord ga S.Wd i) (Wout := W)
        ok.stk ok.frm (by rw [okx.N]; exact okx.nd) hy (by show X.env.scope.names.lookup en = _; rw [okx.sc]; exact h1) ⟨gl_of okx h3, by decide, .inl cp.2.1⟩ okx.tk
        (fun W' pn xe tk po => ih (X := X.tr pn xe) (W := W') ⟨⟨okx.N, okx.nd, okx.sc, okx.kd, okx.bk, okx.calm, tk, okx.gds, okx.rm, fun x h => ⟨⟨(okx.fns x h).fn⟩, (okx.fns x h).mg, (okx.fns x h).kp⟩, okx.blt, okx.intg, okx.txtg, fun x h => let ⟨a, b, c, d⟩ := okx.cls x h; ⟨a, b, c, fun M h k => d M h k⟩,
          fun x h => ⟨(okx.wrd x h).mg, (okx.wrd x h).kp, (okx.wrd x h).fn, (okx.wrd x h).rm⟩, okx.exm, fun C m k h => let ⟨a, b, c⟩ := okx.mths C m k h; ⟨a, b, ⟨c.fn⟩⟩, okx.flds, okx.kls, okx.sysm, okx.fnc, okx.nN, okx.nG⟩, po, ok.stk, ok.frm⟩ body)
        (fun a oe cls d pn hz hf => suite_ok okx h1 hi h5 h6 hz hf)
      refine ⟨fun pins s sg H D I h => T.run pins s sg H D I ?_⟩
      obtain ⟨rho, M, e, m, n', z⟩ := h
      refine ⟨rho, M, e, m, n', ?_⟩
      have hil : i < e.length := by
        rw [← n'.len, I.len]
        exact (List.getElem?_eq_some_iff.mp hy).1
      revert z
      dsimp only [tryW]
      cases hb : denB Phi n S body e M with
      | no => exact id
      | ok o M1 => cases o <;> exact id
      | ex c M1 =>
        dsimp only
        cases hW : S.Wd c with
        | none => exact fun z => z.elim
        | some x =>
          intro z rho' H' sg' x1 m1 hl
          refine ⟨true, okx.exm c x hW, fun _ a _ => ⟨by rw [List.getElem?_set_self (by rw [hl]; exact hil)], c, x, rfl, rfl, hW, fun H2 h2 => ?_⟩, fun q => by cases q⟩
          exact z rho' H2 (.str x) (x1.trans (Ext.all h2)) (m1.all h2) (by simp only [VR])
  · exact PS.stop fun e => by simp only [denS, he, if_false, Bool.false_eq_true]
structure AllS (Phi : Tab) (ga : Str → Addr) (n : Nat) : Prop where
  S : ∀ {X : Cx} {S : SI} {W : WX}, OKS S Phi ga W X → ∀ st, PS X st (tS X.K ga W (denS Phi n S st))
  B : ∀ {X : Cx} {S : SI} {W : WX}, OKS S Phi ga W X → ∀ sts, PSs X sts (tS X.K ga W (denB Phi n S sts))
section
variable {Phi : Tab} {ga : Str → Addr}
theorem itSh_setD {S : SI} {it : Expr} {pr : Bool} (h : isSetD it = true) : itSh S it pr = .val := by
  cases it <;> first | rfl | cases h
theorem denRS_len {n : Nat} {S : SI} {t y : Expr} {rs : List Expr} {e : Env} {M : Mem} : LenO e.length (denRS Phi n S t y rs e M) := LenO.bnd fun _ _ => LenO.opt fun a ha => tgO_len ha
theorem allS : ∀ n, AllS Phi ga n
  | 0 => ⟨fun _ st => PS.stop fun e => by simp only [denS], fun _ sts => ⟨fun pins s sg H E I z => by
      obtain ⟨rho, M, e, m, n, z⟩ := z
      simp only [denB] at z
      exact z.elim⟩⟩
  | n + 1 => by
    have ih := allS n
    refine ⟨fun {X S W} ok st => ?_, fun {X S W} ok sts => ?_⟩
    · cases st with
      | Return o p => exact s_ret ok.x
      | Expr x p => exact s_expr ok.x
      | Assign ts v p => exact s_asg ok.x
      | If t a b p => exact PS.by (r' := fun e => bnd (denT Phi n S t e) fun c => if c = true then denB Phi n S a e else denB Phi n S b e) (PS.imp (ps_if ((allE n).T ok.x t) (ih.B ok a) (ih.B ok b)) r_ifS) fun e => by simp only [denS]
      | For tg it body els p =>
        cases els with
        | nil =>
          by_cases hd : dkF it = true
          · have hs : isSetD it = false := by
              unfold dkF at hd
              split at hd
              · rfl
              · cases hd
            exact PS.by (r' := fun e => lckS (denE Phi n S it) (fun e => bnd (bnd (denE Phi n S it e) dckD) fun s => forS s (tgO S tg) (denB Phi n S body) e) e) (PS.imp (ps_lock (PS.imp (ps_for ok.po ok.x.calm (pi_dckD ((allE n).E ok.x it)) (pgO ok.x tg) (ih.B ok body) (set_plain hs)) (r_for fun e M => (den_len Phi n).2 S body e M))) fun E sg H z => lck_readS z) fun e => by simp only [denS, List.isEmpty_nil, if_true, hd]
          · by_cases hs : isSetD it = true
            · refine PS.stop fun e => ?_
              simp only [denS, List.isEmpty_nil, if_true, hd, if_false, Bool.false_eq_true]
              cases n with
              | zero => simp only [denI]; rfl
              | succ n => simp only [denI, itSh_setD hs, hs, if_true]; rfl
            · exact PS.by (r' := fun e => bnd (denI Phi n S it (isTupE tg) e) fun s => forS s (tgO S tg) (denB Phi n S body) e) (PS.imp (ps_for ok.po ok.x.calm ((allE n).I ok.x tg it) (pgO ok.x tg) (ih.B ok body) (set_plain (Bool.eq_false_iff.mpr hs))) (r_for fun e M => (den_len Phi n).2 S body e M)) fun e => by simp only [denS, List.isEmpty_nil, if_true, hd, if_false, Bool.false_eq_true]
        | cons _ _ => exact PS.stop fun e => by simp only [denS, List.isEmpty_cons, if_false, Bool.false_eq_true]
      | While t body els p =>
        cases els with
        | nil => exact PS.by (r' := fun e => whileGo (denT Phi n S t) (denB Phi n S body) WF e) (PS.imp (ps_while ok.po ((allE n).T ok.x t) (ih.B ok body)) (r_while fun e M => (den_len Phi n).2 S body e M)) fun e => by simp only [denS, List.isEmpty_nil, if_true]
        | cons _ _ => exact PS.stop fun e => by simp only [denS, List.isEmpty_cons, if_false, Bool.false_eq_true]
      | Raise x c p => exact s_raise ok.x
      | Try body hs els fin p => exact s_try ok (fun ok sts => ih.B ok sts)
      | Pass p =>
        refine PS.by (r' := fun e => ret (.nx e)) (PS.imp ps_pass ?_) fun e => by simp only [denS]
        rintro E sg H ⟨rho, M, e, m, n', z⟩
        exact z rho H sg Ext.refl m n'
      | Break p =>
        refine PS.by (r' := fun e => ret (.bk e)) (PS.imp ps_break ?_) fun e => by simp only [denS]
        rintro E sg H ⟨rho, M, e, m, n', z⟩
        exact z rho H sg Ext.refl m n'
      | Continue p =>
        refine PS.by (r' := fun e => ret (.ct e)) (PS.imp ps_continue ?_) fun e => by simp only [denS]
        rintro E sg H ⟨rho, M, e, m, n', z⟩
        exact z rho H sg Ext.refl m n'
      | _ => exact PS.stop fun e => by simp only [denS]
    · cases sts with
      | nil =>
        refine PSs.imp pss_nil ?_
        rintro E sg H ⟨rho, M, e, m, n', z⟩
        simp only [denB] at z
        exact z rho H sg Ext.refl m n'
      | cons st r =>
        cases hc : rplSh st r with
        | some k =>
          obtain ⟨t, y, rs, r2⟩ := k
          obtain ⟨x1, q1, es, q2, q3, x, p2, p4, p5, p6, rfl, rfl, rfl, h1, h2, h3⟩ := rplSh_ok hc
          have d2 : PSsT X (.Assign [.Name x p2] (.BinOp y .Add (.List rs p4) p5) p6 :: r2) (tS X.K ga W fun e M => match denRS Phi n S (.Name x p2) y rs e M with
            | .ok (.nx e1) M1 => denB Phi n S r2 e1 M1
            | r => r) := fun pins s sg H D h0 I z => psst_cons (pstR ok.x n h3) (PSsT.of (ih.B ok r2)) pins s sg H D h0 I (r_seq (fun e M => denRS_len) D sg H z)
          refine PSs.imp (pss_p (pspL ok.x n h1 h2) d2) fun E sg H z => r_seq (fun e M => (den_len Phi n).1 S _ e M) E sg H ?_
          have e : (denB Phi (n + 1) S (.Assign [.Name x1 q1] (.List es q2) q3 :: .Assign [.Name x p2] (.BinOp y .Add (.List rs p4) p5) p6 :: r2)) = (fun e M => match denS Phi n S (.Assign [.Name x1 q1] (.List es q2) q3) e M with
              | .ok (.nx e1) M1 => (match denRS Phi n S (.Name x p2) y rs e1 M1 with
                | .ok (.nx e2) M2 => denB Phi n S r2 e2 M2
                | r => r)
              | r => r) := by
            funext e M
            first
              | (simp only [denB, hc]; done)
              | (simp only [denB, hc]
                 rcases denS Phi n S (.Assign [.Name x1 q1] (.List es q2) q3) e M with ⟨o, M1⟩ | _ | _
                 · cases o with
                   | nx e1 =>
                     dsimp only
                     rcases denRS Phi n S (.Name x p2) y rs e1 M1 with ⟨o2, M2⟩ | _ | _
                     · cases o2 <;> rfl
                     · rfl
                     · rfl
                   | _ => rfl
                 · rfl
                 · rfl)
          rw [e] at z
          exact z
        | none =>
          refine PSs.imp (pss_cons (ih.S ok st) (ih.B ok r)) fun E sg H z => r_seq (fun e M => (den_len Phi n).1 S st e M) E sg H ?_
          have e : (denB Phi (n + 1) S (st :: r)) = (fun e M => match denS Phi n S st e M with
              | .ok (.nx e1) M1 => denB Phi n S r e1 M1
              | r => r) := by
            funext e M
            first
              | (simp only [denB, hc]; done)
              | (simp only [denB, hc]
                 rcases denS Phi n S st e M with ⟨o, _⟩ | _ | _
                 · cases o <;> rfl
                 · rfl
                 · rfl)
          rw [e] at z
          exact z
end
end Pf
set_option maxHeartbeats 4000000
/-! Pf: the defs of a module, all at once. -/
namespace Pf
open PySem PySem.Spec PyProof.Rows L2
/-- a def of the module: the name by which it is called (a method's: class, dot, name), its own name and qualified one, where it stands (a global's name; a class and its method), its parameters' names, its slots, its text -/
structure Df where
  x : Str
  nm : Str
  ql : Str
  at_ : Str × Option Str
  ps : List Str
  N : List Str
  params : Arguments
  body : List Stmt
  scope : Scope
/-- a class: its name, its fields, its methods -/
structure KD where
  c : Str
  fs : List Str
  ms : List (Str × Str)
/-- the def that tells words, the classes that have one; the classes whose instances are made -/
structure WI where
  ds : List Df
  cl : List (Str × Str)
  ks : List KD
def WI.Wd (I : WI) (c : Str) : Option Str := I.cl.lookup c
def WI.mth (I : WI) (C m : Str) : Option Str := (I.ks.find? fun k => k.c == C).bind fun k => k.ms.lookup m
def WI.fld (I : WI) (C f : Str) : Bool := match I.ks.find? fun k => k.c == C with
  | some k => k.fs.any (· == f)
  | none => false
def isaT (c x : Str) : Bool := x == c || x == "ValueError" || x == "PuffError"
def isGl (d : Df) : Bool := match d.at_.2 with
  | none => true
  | some _ => false
/-- has a dot -/
def dotted (x : Str) : Bool := x.cps.any (· == 46)
def glob (T : List Df) (L : List (Str × GV)) (x : Str) : GV := if T.any (fun d => d.x == x && isGl d) then .fn else (L.lookup x).getD .unk
def Df.S (T : List Df) (L : List (Str × GV)) (I : WI) (d : Df) : SI := { N := d.N, sc := d.scope.names, fc := fun _ => true, G := glob T L, Wd := I.Wd, mth := I.mth, fld := I.fld }
/-- what the defs do, calls nested less than n deep -/
noncomputable def phi (T : List Df) (L : List (Str × GV)) (I : WI) : Nat → Tab
  | 0 => fun _ _ => stop
  | n + 1 => fun x vs => match T.find? (fun d => d.x == x) with
    | some d => denF (phi T L I n) 60 (d.S T L I) d.ps.length d.body vs
    | none => stop
/-- where a name leads -/
def gaT (T : List Df) (K : PySem.W.Frag) (x : Str) : Addr := if dotted x = true then (match T.find? (fun d => d.x == x) with
  | some d => He.fAd K d.at_
  | none => 0) else He.ga K x
def okName (x : Str) : Bool := !(x == ("__debug__" : Str)) && !(x == ("__name__" : Str)) && !(x == ("__classdict__" : Str)) && !dotted x
def Df.keyB (d : Df) : Bool := match d.at_.2 with
  | none => okName d.x && decide (d.at_.1 = d.x)
  | some _ => dotted d.x
def Df.okB (d : Df) : Bool := (match d.scope.kind with
    | .function => true
    | _ => false) && !d.scope.isCoroutine && !d.scope.isGenerator && decide d.N.Nodup && decide (d.N.take d.ps.length = d.ps) &&
  d.ps.all (fun x => match d.scope.names.lookup x with
    | some .local => true
    | some .cell => true
    | _ => false) && d.scope.names.all (fun y => match y.2 with
    | .free => false
    | _ => true) && d.N.all okName && d.keyB
def tabB (T : List Df) (L : List (Str × GV)) : Bool := T.all Df.okB && L.all fun p => okName p.1
theorem okName_ok {x : Str} (h : okName x = true) : (x == ("__debug__" : Str)) = false ∧ x ≠ "__name__" ∧ (x == ("__classdict__" : Str)) = false := by
  unfold okName at h
  simp only [Bool.and_eq_true, Bool.not_eq_true'] at h
  exact ⟨h.1.1.1, fun z => by rw [z] at h; exact absurd h.1.1.2 (by simp), h.1.2⟩
theorem okName_nd {x : Str} (h : okName x = true) : dotted x = false := by
  unfold okName at h
  simp only [Bool.and_eq_true, Bool.not_eq_true'] at h
  exact h.2
theorem gaT_nd {T : List Df} {K : PySem.W.Frag} {x : Str} (h : dotted x = false) : gaT T K x = He.ga K x := by unfold gaT; rw [h]; rfl
theorem gaT_find {T : List Df} {K : PySem.W.Frag} {x : Str} {d : Df} (h : T.find? (fun d => d.x == x) = some d) (hk : d.keyB = true) : gaT T K x = He.fAd K d.at_ := by
  have hx : d.x = x := eq_of_beq (show (d.x == x) = true from List.find?_some (p := fun (d : Df) => d.x == x) h)
  unfold Df.keyB at hk
  cases e : d.at_.2 with
  | none =>
    rw [e, Bool.and_eq_true] at hk
    rw [← hx, gaT_nd (okName_nd hk.1)]
    unfold He.fAd
    rw [e, of_decide_eq_true hk.2]
  | some m =>
    rw [e] at hk
    have hk2 : dotted x = true := by rw [← hx]; exact hk
    unfold gaT
    rw [if_pos hk2, h]
theorem Df.sc_ok {d : Df} (h : d.okB = true) : FnScope d.N d.ps d.scope ∧ (∀ x ∈ d.N, okName x = true) ∧ d.keyB = true := by
  unfold Df.okB at h
  simp only [Bool.and_eq_true, Bool.not_eq_true', decide_eq_true_eq, List.all_eq_true] at h
  obtain ⟨⟨⟨⟨⟨⟨⟨⟨h1, h2⟩, h3⟩, h4⟩, h5⟩, h6⟩, h7⟩, h8⟩, h9⟩ := h
  refine ⟨⟨?_, h2, h3, h4, h5, fun x hx => ?_, fun y hy e => ?_⟩, h8, h9⟩
  · cases q : d.scope.kind <;> rw [q] at h1 <;> first | rfl | cases h1
  · have q := h6 x hx
    cases e : d.scope.names.lookup x with
    | none => rw [e] at q; cases q
    | some k => rw [e] at q; cases k <;> first | exact .inl rfl | exact .inr rfl | cases q
  · have q := h7 y hy
    rw [e] at q
    cases q
/-- what is known of the module behind the top -/
structure Mdl (K : PySem.W.Frag) (mg : Str → Option Value) (T : List Df) (L : List (Str × GV)) (I : WI) : Prop where
  wfn : ∀ d ∈ I.ds, d.okB = true ∧ isGl d = true ∧ d.ps.length = 1 ∧ ∃ fd, FunD K d.nm d.ql d.params d.body d.scope [] [] (He.ga K d.x) fd ∧ (∀ (s : Shared) (us : List Value), us.length = d.ps.length → BindsTo s fd ⟨us, []⟩ (d.ps.zip us)) ∧ mg d.x = some (.ref (He.ga K d.x))
  wln : ∀ p ∈ L, p.2 = .wrd → ∃ d ∈ I.ds, d.x = p.1
  wex : ∀ p ∈ I.cl, okName p.1 = true ∧ ExcC K (He.ga K p.1) ∧ PySem.W.kitOne K (.ref (He.ga K p.1)) (.type "ValueError") = some true ∧ PySem.W.exmOne K (.ref (He.ga K p.1)) (.ref (He.ga K "PuffError")) = some true ∧ ∀ q ∈ L, q.2 = .cls → PySem.W.kitOne K (.ref (He.ga K p.1)) (.ref (He.ga K q.1)) = some (isaT p.1 q.1)
  wrun : ∀ d ∈ I.ds, ∀ p ∈ I.cl, wordRun (isaT p.1) (d.S T L I) d.body p.2 = true
  tab : tabB T L = true
  fn : ∀ d ∈ T, ∃ fd, FunD K d.nm d.ql d.params d.body d.scope [] [] (He.fAd K d.at_) fd ∧ (∀ (s : Shared) (us : List Value), us.length = d.ps.length → BindsTo s fd ⟨us, []⟩ (d.ps.zip us)) ∧ (isGl d = true → mg d.x = some (.ref (He.ga K d.x)))
  kc : ∀ k ∈ I.ks, okName k.c = true ∧ Cls K (He.ga K k.c) ∧ (∀ f ∈ k.fs, NoAttr K (He.ga K k.c) f) ∧ (∀ p ∈ k.ms, Meth K (He.ga K k.c) p.1 (He.ma K (He.ga K k.c) p.1) ∧ ∃ d, T.find? (fun d => d.x == p.2) = some d ∧ d.at_ = (k.c, some p.1)) ∧ mg k.c = some (.ref (He.ga K k.c)) ∧ Mk K (He.ga K k.c) (He.ma K (He.ga K k.c) "__init__")
  lib : ∀ p ∈ L, match p.2 with
    | .blt => mg p.1 = none
    | .int i => ∃ t, mg p.1 = some (.int i t)
    | .txt z => ∃ t, mg p.1 = some (.str z t)
    | .cls => PySem.W.excIn K (He.ga K p.1) He.veBase "ValueError.__new__" = true ∧ mg p.1 = some (.ref (He.ga K p.1)) ∧ PySem.W.keepIn K (.ref (He.ga K p.1)) = true ∧ PySem.W.subIn K (.ref (He.ga K p.1)) (.type "BaseException") = some true ∧ PySem.W.typeIn K (.ref (He.ga K p.1)) = some (.type "type")
    | .fn => False
    | .unk => True
    | .wrd => True
    | .kls => True
  sysm : ∃ o, K.lookup sysModules = some o ∧ o.cls = .type "dict"
section
variable {T : List Df} {L : List (Str × GV)} {I : WI} {P : Program} {w : World} {K : PySem.W.Frag} {mg : Str → Option Value} {base : Heap}
theorem find_in {x : Str} {d : Df} (h : T.find? (fun d => d.x == x) = some d) : d ∈ T ∧ d.x = x := ⟨List.mem_of_find?_eq_some h, eq_of_beq (show (d.x == x) = true from List.find?_some (p := fun (d : Df) => d.x == x) h)⟩
theorem glob_fn (D : Mdl K mg T L I) {x : Str} (h : glob T L x = .fn) : ∃ d, T.find? (fun d => d.x == x) = some d ∧ d ∈ T ∧ d.x = x ∧ okName x = true ∧ isGl d = true := by
  unfold glob at h
  split at h
  · rename_i q
    obtain ⟨d, hd, e⟩ := List.any_eq_true.mp q
    rw [Bool.and_eq_true] at e
    have tb := D.tab
    unfold tabB at tb
    simp only [Bool.and_eq_true, List.all_eq_true] at tb
    have hx : d.x = x := eq_of_beq e.1
    have k1 := (Df.sc_ok (tb.1 d hd)).2.2
    have okx : okName x = true := by
      unfold Df.keyB at k1
      have g := e.2
      unfold isGl at g
      cases q2 : d.at_.2 with
      | none =>
        rw [q2, Bool.and_eq_true] at k1
        rw [← hx]; exact k1.1
      | some m => rw [q2] at g; cases g
    cases f : T.find? (fun d => d.x == x) with
    | none => exact absurd e.1 (by simpa using List.find?_eq_none.mp f d hd)
    | some d' =>
      obtain ⟨h1, h2⟩ := find_in f
      refine ⟨d', rfl, h1, h2, okx, ?_⟩
      have k2 := (Df.sc_ok (tb.1 d' h1)).2.2
      unfold Df.keyB at k2
      unfold isGl
      cases q2 : d'.at_.2 with
      | none => rfl
      | some m =>
        rw [q2, h2, okName_nd okx] at k2
        cases k2
  · cases e : L.lookup x with
    | none => rw [e] at h; cases h
    | some g =>
      rw [e] at h
      have hm := PySem.mem_of_lookup e
      have q := D.lib _ hm
      have h' : g = .fn := h
      rw [h'] at q
      exact q.elim
theorem glob_lib {x : Str} {g : GV} (h : glob T L x = g) (h1 : g ≠ .fn) (h2 : g ≠ .unk) : (x, g) ∈ L := by
  unfold glob at h
  split at h
  · exact absurd h.symm h1
  · cases e : L.lookup x with
    | none => rw [e] at h; exact absurd h.symm h2
    | some g' =>
      rw [e] at h
      have h' : g' = g := h
      rw [← h']
      exact PySem.mem_of_lookup e
theorem phi_ar {n : Nat} {x : Str} {d : Df} (h : T.find? (fun d => d.x == x) = some d) (ds : List D) (M : Mem) (hl : ds.length ≠ d.ps.length) : phi T L I n x ds M = .no := by
  cases n with
  | zero => rfl
  | succ n =>
    unfold phi
    rw [h]
    show denF _ _ _ _ _ _ _ = _
    unfold denF
    rw [if_neg hl]
theorem glob_ok (D : Mdl K mg T L I) {x : Str} (h : match glob T L x with | .unk => False | _ => True) : okName x = true := by
  have tb := D.tab
  unfold tabB at tb
  simp only [Bool.and_eq_true, List.all_eq_true] at tb
  cases e : glob T L x with
  | fn =>
    obtain ⟨d, _, hd, hx, ho, _⟩ := glob_fn D e
    exact ho
  | unk => rw [e] at h; exact h.elim
  | blt => exact tb.2 _ (glob_lib e (by nofun) (by nofun))
  | int i => exact tb.2 _ (glob_lib e (by nofun) (by nofun))
  | txt z => exact tb.2 _ (glob_lib e (by nofun) (by nofun))
  | cls => exact tb.2 _ (glob_lib e (by nofun) (by nofun))
  | wrd => exact tb.2 _ (glob_lib e (by nofun) (by nofun))
  | kls => exact tb.2 _ (glob_lib e (by nofun) (by nofun))
theorem start_nr {ga : Str → Addr} {rho : List Addr} {H : Hp} {ds : List D} {vs : List V} {N : List Str} (r : VRs K ga rho H ds vs) : NR K ga rho H (ds.map some ++ List.replicate (N.length - ds.length) none) (L2.start N vs) := by
  have hl := r.length
  refine ⟨by simp [L2.start, hl], fun i d h => ?_⟩
  by_cases hi : i < ds.length
  · rw [List.getElem?_append_left (by simpa using hi), List.getElem?_map] at h
    cases e : ds[i]? with
    | none => rw [e] at h; cases h
    | some d' =>
      rw [e] at h
      cases h
      obtain ⟨v, hv, rv⟩ := r.get e
      refine ⟨v, ?_, rv⟩
      unfold L2.start
      rw [List.getElem?_append_left (by simp [hl, hi]), List.getElem?_map, hv]
      rfl
  · rw [List.getElem?_append_right (by simpa using Nat.le_of_not_lt hi), List.getElem?_replicate] at h
    split at h <;> cases h
/-- the def that tells words -/
theorem word_ok (D : Mdl K mg T L I) {d : Df} (hd : d ∈ I.ds) {fd : FuncData} (F : FunD K d.nm d.ql d.params d.body d.scope [] [] (He.ga K d.x) fd) : FnX P w K mg base 1 (He.ga K d.x) fd d.ps (gaT T K) I.Wd := by
  obtain ⟨hob, _, hp1, _⟩ := D.wfn d hd
  obtain ⟨Sc, hN, _⟩ := Df.sc_ok hob
  obtain ⟨oc, od, dV, kV, doc, pm, an, cdv, ct, osl, rfl, lk, hcd, _, _⟩ := F.ex
  refine fnX_of lk hcd Sc hp1 fun A outer s H Q E p c x room hz hf hw hQ => ?_
  have hcl := PySem.mem_of_lookup hw
  obtain ⟨x0, x1, x2, x3, x4⟩ := D.wex _ hcl
  rw [gaT_nd (okName_nd x0)] at hz
  have hrun := D.wrun d hd _ hcl
  let ga' : Str → Addr := fun y => if y = "__name__" then p.1 else He.ga K y
  have g1 : ga' "__name__" = p.1 := if_pos rfl
  have g2 : ∀ y : Str, y ≠ ("__name__" : Str) → ga' y = He.ga K y := fun y h => if_neg h
  have okh : OKH (d.S T L I) (isaT c) ga' (He.ga K c) (L2H.cxH (L2.CX P w) P w K mg base d.N d.ql d.scope (He.ga K d.x) cdv A outer s H E p) :=
    { N := rfl
      nd := Sc.nd
      sc := rfl
      un := by have := room.un; show (A.deeper _).units + 66 < cLine; omega
      fnc := fun _ => rfl
      nN := fun y hy => ⟨(okName_ok (hN y hy)).1, (okName_ok (hN y hy)).2.2⟩
      nG := fun y hy => ⟨(okName_ok (glob_ok D hy)).1, (okName_ok (glob_ok D hy)).2.1⟩
      blt := fun y hy => D.lib _ (glob_lib hy (by nofun) (by nofun))
      call := by
        rw [g1]
        exact call_isX (X := L2H.cxH (L2.CX P w) P w K mg base d.N d.ql d.scope (He.ga K d.x) cdv A outer s H E p) (a := p.1) (oe := p.2) (List.mem_cons_self) x1 hz hf
      cls := fun C hC => by
        have hm := glob_lib hC (by nofun) (by nofun)
        obtain ⟨c1, c2, _⟩ := D.lib _ hm
        have hn : C ≠ ("__name__" : Str) := (okName_ok (glob_ok D (x := C) (by have h : glob T L C = .cls := hC; rw [h]; trivial))).2.1
        rw [g2 C hn]
        exact ⟨c2, x4 _ hm rfl⟩
      val := by
        have e : isaT c "ValueError" = true := by unfold isaT; simp
        rw [e]; exact x2 }
  refine ⟨_, hB_ok (W := fun _ _ _ _ => False) okh 40 d.body, ?_⟩
  refine ⟨[], [], [.fn "__name__"].map some ++ List.replicate (d.N.length - 1) none, ⟨rfl, List.nodup_nil, fun n c e => by simp at e⟩, start_nr (ds := [.fn "__name__"]) (by simp only [VRs, VR]; exact ⟨_, _, rfl, by rw [g1], rfl⟩), ?_⟩
  unfold wordRun at hrun
  split at hrun
  · rename_i y M1 q
    have ey : y = x := of_decide_eq_true hrun
    subst ey
    have q' : hB (isaT c) 40 (d.S T L I) d.body ([Pf.D.fn "__name__"].map some ++ List.replicate (d.N.length - 1) none) [] = .ok (.rt (.str y)) M1 := q
    show RS _ _ _ _ _ _ (hB (isaT c) 40 (d.S T L I) d.body ([Pf.D.fn "__name__"].map some ++ List.replicate (d.N.length - 1) none) []) _
    rw [q']
    intro rho' H' v x' m' rv
    have ev := rv.strE
    subst ev
    exact hQ H' fun a o e => x'.keep a o e (by simp)
  · cases hrun
/-- every def keeps its promise -/
theorem tab_ok (D : Mdl K mg T L I) : ∀ n : Nat, ∀ x d, T.find? (fun d => d.x == x) = some d → ∃ fd, FunD K d.nm d.ql d.params d.body d.scope [] [] (gaT T K x) fd ∧ (∀ (s : Shared) (us : List Value), us.length = d.ps.length → BindsTo s fd ⟨us, []⟩ (d.ps.zip us)) ∧
    FnG P w K mg base (L2.CX P w) (2 * n + 2) (gaT T K x) fd d.ps (spOf K (gaT T K) d.ps.length (phi T L I n x))
  | 0, x, d, h => by
    obtain ⟨hd, hx⟩ := find_in h
    obtain ⟨fd, F, b, _⟩ := D.fn d hd
    have tb := D.tab
    unfold tabB at tb
    simp only [Bool.and_eq_true, List.all_eq_true] at tb
    rw [← gaT_find h (Df.sc_ok (tb.1 d hd)).2.2] at F
    refine ⟨fd, F, b, ⟨fun vs H Q E h => ?_, fun A outer s H args us vs Q E _ _ _ _ _ h => ?_⟩⟩
    · obtain ⟨rho, M, ds, _, r, hl, _⟩ := h
      rw [r.length, hl]
    · obtain ⟨rho, M, ds, _, r, hl, z⟩ := h
      exact z.elim
  | n + 1, x, d, h => by
    obtain ⟨hd, hx⟩ := find_in h
    obtain ⟨fd, F, b, hmg⟩ := D.fn d hd
    have tb := D.tab
    unfold tabB at tb
    simp only [Bool.and_eq_true, List.all_eq_true] at tb
    obtain ⟨Sc, hN, hkey⟩ := Df.sc_ok (tb.1 d hd)
    rw [← gaT_find h hkey] at F
    refine ⟨fd, F, b, ?_⟩
    obtain ⟨oc, od, dV, kV, doc, pm, an, cdv, ct, osl, rfl, lk, hcd, _, _⟩ := F.ex
    refine fnG_of (k := 2 * n + 3) lk hcd Sc (fun vs H Q E h => ?_) fun A outer s H vs Q E room hgd hs => ?_
    · obtain ⟨rho, M, ds, _, r, hl, _⟩ := h
      rw [r.length, hl]
    · obtain ⟨rho, M, ds, m, r, hl, z⟩ := hs
      have calm : ∀ y d', T.find? (fun d => d.x == y) = some d' → CalM (cxOf (L2.CX P w) P w K mg base d.N d.ql d.scope (gaT T K x) cdv A outer s H E) (gaT T K) y (phi T L I n y) := fun y d' hf => by
        obtain ⟨fd', F', b', G'⟩ := tab_ok D n y d' hf
        exact ⟨2 * n + 2, fd', d'.ps, G', room, fun ds M hl => phi_ar hf ds M hl, fun s us _ hl => b' s us hl⟩
      have okx : OKX (d.S T L I) (phi T L I n) (gaT T K) (fun c dd _ H => E c dd H) (cxOf (L2.CX P w) P w K mg base d.N d.ql d.scope (gaT T K x) cdv A outer s H E) :=
        { N := rfl
          nd := Sc.nd
          sc := rfl
          kd := Sc.kind
          bk := by
            show (if d.scope.kind.isAnnotationScope then ScopeKind.function else d.scope.kind) = _
            rw [Sc.kind]; rfl
          calm := rfl
          tk := takes_of rfl rfl rfl rfl
          gds := hgd
          rm := room.mono (Nat.zero_le _)
          fns := fun y hy => by
            obtain ⟨d', hf, hd', hx', ho, hgl⟩ := glob_fn D hy
            obtain ⟨fd', F', b', hmg'⟩ := D.fn d' hd'
            have e := gaT_nd (T := T) (K := K) (okName_nd ho)
            refine ⟨calm y d' hf, ?_, ?_⟩
            · rw [e]; exact hx' ▸ hmg' hgl
            · rw [gaT_find hf (Df.sc_ok (tb.1 d' hd')).2.2]; exact F'.kp
          blt := fun y hy => D.lib _ (glob_lib hy (by nofun) (by nofun))
          intg := fun y i hy => D.lib _ (glob_lib hy (by nofun) (by nofun))
          txtg := fun y z hy => D.lib _ (glob_lib hy (by nofun) (by nofun))
          cls := fun y hy => by
            obtain ⟨c1, c2, c3, c4, c5⟩ := D.lib _ (glob_lib hy (by nofun) (by nofun))
            rw [gaT_nd (okName_nd (glob_ok D (x := y) (by have h : glob T L y = .cls := hy; rw [h]; trivial)))]
            exact ⟨c1, c2, c3, raises_own c4 c5⟩
          wrd := fun y hy => by
            obtain ⟨d', hd', hx'⟩ := D.wln _ (glob_lib hy (by nofun) (by nofun)) rfl
            obtain ⟨hob, hgl, hp1, fd', F', b', hmg'⟩ := D.wfn d' hd'
            have hx2 : d'.x = y := hx'
            subst hx2
            have e := gaT_nd (T := T) (K := K) (okName_nd (glob_ok D (x := d'.x) (by have h : glob T L d'.x = .wrd := hy; rw [h]; trivial)))
            exact ⟨by rw [e]; exact hmg', by rw [e]; exact F'.kp, ⟨fd', d'.ps, by rw [e]; exact word_ok D hd' F', fun s us _ hl => b' s us (by rw [hl, hp1])⟩, room.mono (by omega)⟩
          exm := fun c x hc => by
            obtain ⟨x0, _, _, x3, _⟩ := D.wex _ (PySem.mem_of_lookup hc)
            rw [gaT_nd (okName_nd x0), gaT_nd (x := "PuffError") (by decide +kernel)]
            exact x3
          mths := fun C m k hk => by
            have hk' : (I.ks.find? fun k => k.c == C).bind (fun k => k.ms.lookup m) = some k := hk
            obtain ⟨kd, hkd, hm⟩ := Option.bind_eq_some_iff.mp hk'
            have hC : kd.c = C := eq_of_beq (show (kd.c == C) = true from List.find?_some (p := fun (k : KD) => k.c == C) hkd)
            subst hC
            obtain ⟨n1, c1, _, c3, _⟩ := D.kc kd (List.mem_of_find?_eq_some hkd)
            obtain ⟨m1, d', hf, hat⟩ := c3 _ (PySem.mem_of_lookup hm)
            have e : gaT T K kd.c = He.ga K kd.c := gaT_nd (okName_nd n1)
            have e2 : gaT T K k = He.ma K (He.ga K kd.c) m := by
              rw [gaT_find hf (Df.sc_ok (tb.1 d' (find_in hf).1)).2.2, hat]; rfl
            rw [e, e2]
            exact ⟨c1, m1, calm k d' hf⟩
          flds := fun C f hk => by
            have hk' : (match I.ks.find? fun k => k.c == C with
              | some k => k.fs.any (· == f)
              | none => false) = true := hk
            cases hkd : I.ks.find? fun k => k.c == C with
            | none => rw [hkd] at hk'; cases hk'
            | some kd =>
              rw [hkd] at hk'
              have hC : kd.c = C := eq_of_beq (show (kd.c == C) = true from List.find?_some (p := fun (k : KD) => k.c == C) hkd)
              subst hC
              obtain ⟨n1, c1, c2, _⟩ := D.kc kd (List.mem_of_find?_eq_some hkd)
              obtain ⟨f', hf, e⟩ := List.any_eq_true.mp hk'
              have ef := eq_of_beq e
              subst ef
              rw [gaT_nd (okName_nd n1)]
              exact ⟨c1, c2 _ hf⟩
          kls := fun C k hG hk => by
            have hk' : (I.ks.find? fun k => k.c == C).bind (fun k => k.ms.lookup (Str.ofString "__init__")) = some k := hk
            obtain ⟨kd, hkd, hm⟩ := Option.bind_eq_some_iff.mp hk'
            have hC : kd.c = C := eq_of_beq (show (kd.c == C) = true from List.find?_some (p := fun (k : KD) => k.c == C) hkd)
            subst hC
            obtain ⟨n1, c1, _, c3, c4, c5⟩ := D.kc kd (List.mem_of_find?_eq_some hkd)
            obtain ⟨m1, d', hf, hat⟩ := c3 _ (PySem.mem_of_lookup hm)
            have e2 : gaT T K k = He.ma K (He.ga K kd.c) "__init__" := by
              rw [gaT_find hf (Df.sc_ok (tb.1 d' (find_in hf).1)).2.2, hat]; rfl
            rw [gaT_nd (okName_nd n1), e2]
            exact ⟨c4, c5⟩
          sysm := D.sysm
          fnc := fun _ _ => rfl
          nN := fun y hy => ⟨(okName_ok (hN y hy)).1, (okName_ok (hN y hy)).2.2⟩
          nG := fun y hy => ⟨(okName_ok (glob_ok D hy)).1, (okName_ok (glob_ok D hy)).2.1⟩ }
      refine ⟨_, (allS 60).B ⟨okx, passes_of rfl, rfl, rfl⟩ d.body, ?_⟩
      refine ⟨rho, M, ds.map some ++ List.replicate (d.N.length - ds.length) none, m, start_nr r, ?_⟩
      have e1 : phi T L I (n + 1) x ds M = denF (phi T L I n) 60 (d.S T L I) d.ps.length d.body ds M := by
        simp only [phi, h]
      rw [e1] at z
      unfold denF at z
      rw [if_pos hl] at z
      have e2 : (d.S T L I).N = d.N := rfl
      rw [e2] at z
      generalize denB (phi T L I n) 60 (d.S T L I) d.body (ds.map some ++ List.replicate (d.N.length - ds.length) none) M = R at z ⊢
      cases R with
      | no => exact z
      | ex c M1 => exact fun rho' H' sg' x m1 _ => z rho' H' x m1
      | ok o M1 =>
        cases o with
        | nx e => exact fun rho' H' sg' x m1 _ => z rho' H' .non x m1 (by simp only [VR])
        | rt d => exact fun rho' H' v x m1 rv => z rho' H' v x m1 rv
        | bk e => exact z.elim
        | ct e => exact z.elim
end
end Pf
set_option maxHeartbeats 4000000
/-! Pf: the end of a law. -/
namespace Pf
open PySem PySem.Spec PyProof.Rows L2
/-! ### what the head tells -/
def glFa (d : Df) : List He.Fa := if isGl d = true then [.glo d.x] else []
def kdFa (k : KD) : List He.Fa := [.glo k.c, .cls k.c, .mkr k.c] ++ (k.fs.map (He.Fa.noat k.c) ++ k.ms.map fun p => He.Fa.meth k.c p.1)
def factsOf (T : List Df) (L : List (Str × GV)) (ks : List KD) : List He.Fa := (T.flatMap glFa ++ ks.flatMap kdFa) ++ L.flatMap fun p => match p.2 with
  | .blt => [.free p.1]
  | .int i => [.int p.1 i]
  | .txt z => [.str p.1 z]
  | .cls => [.glo p.1, .exc p.1]
  | _ => []
/-- what is asked of the classes that have words -/
def clsOf (L : List (Str × GV)) : List Str := (L.filter fun p => isCls p.2).map (·.1)
def wordB (cl : List (Str × Str)) (as : List Str) (K : PySem.W.Frag) : Bool := cl.all fun p => excB K (He.ga K p.1) && (decide (PySem.W.kitOne K (.ref (He.ga K p.1)) (.type "ValueError") = some true) && (decide (PySem.W.exmOne K (.ref (He.ga K p.1)) (.ref (He.ga K "PuffError")) = some true) && as.all fun x => decide (PySem.W.kitOne K (.ref (He.ga K p.1)) (.ref (He.ga K x)) = some (isaT p.1 x))))
def Df.dd (d : Df) : He.DefD := ⟨d.at_, d.nm, d.ql, d.params, d.body, d.scope, [], []⟩
/-- the classes' names, their methods' defs -/
def ksB (T : List Df) (ks : List KD) : Bool := ks.all fun k => okName k.c && k.ms.all fun p => match T.find? (fun d => d.x == p.2) with
  | some d => decide (d.at_ = (k.c, some p.1))
  | none => false
def clB (cl : List (Str × Str)) : Bool := cl.all fun p => okName p.1
def sysB (K : PySem.W.Frag) : Bool := match K.lookup sysModules with
  | some ⟨.type c, _, _, _⟩ => decide (c = "dict")
  | _ => false
theorem sysB_ok {K : PySem.W.Frag} (h : sysB K = true) : ∃ o, K.lookup sysModules = some o ∧ o.cls = .type "dict" := by
  unfold sysB at h
  split at h
  · rename_i c od dt sl e
    exact ⟨_, e, congrArg Value.type (of_decide_eq_true h)⟩
  · cases h
def partS (g : Addr → Option Obj) (n : Nat) : PySem.W.Frag := He.frG g (sysModules :: He.asD g n)
def seenB (fa : List He.Fa) (fn : List He.DefD) (xb : PySem.W.Frag → Bool) (K : PySem.W.Frag) : Bool × He.AlD := (sysB K && xb K, He.obsD fa fn K)
def hookF (n : Nat) (fa : List He.Fa) (fn : List He.DefD) (xb : PySem.W.Frag → Bool) : PySem.W.Hook where
  α := Bool × He.AlD
  obs := fun s => seenB fa fn xb (partS s.heap.get? n)
  val := fun _ => (true, He.valD fn)
  says := fun _ h => ∃ K : PySem.W.Frag, K.In h ∧ He.SaysD fa fn K ∧ sysB K = true ∧ xb K = true
  of := fun _ _ e => ⟨_, He.frG_in, congrArg Prod.snd e, Bool.and_eq_true_iff.mp (congrArg Prod.fst e)⟩
  keeps := fun _ _ _ ⟨K, hK, c⟩ k => ⟨K, PySem.W.Frag.In.keeps hK k, c⟩
def obF (n : Nat) (fa : List He.Fa) (fn : List He.DefD) (xb : PySem.W.Frag → Bool) (s : PySem.W.SharedT) : Bool × He.AlD := seenB fa fn xb (partS (HandSHeadRun.getT s) n)
theorem obF_eq (n : Nat) (fa : List He.Fa) (fn : List He.DefD) (xb : PySem.W.Frag → Bool) (s : PySem.W.SharedT) : obF n fa fn xb s = (hookF n fa fn xb).obs s.abs := by
  have e : HandSHeadRun.getT s = s.abs.heap.get? := funext (HandSHeadRun.getT_eq s)
  unfold obF
  rw [e]
  rfl
section
variable {T : List Df} {L : List (Str × GV)} {K : PySem.W.Frag} {mg : Str → Option Value}
theorem says_fact {fa : List He.Fa} {fn : List He.DefD} (c : He.SaysD fa fn K) {f : He.Fa} (h : f ∈ fa) : f.ok K = true := by
  obtain ⟨i, hi, e⟩ := List.getElem_of_mem h
  exact c.fact i (by rw [List.getElem?_eq_getElem hi, e])
theorem mdl_of {I : WI} {h : Heap} (KX : K.In h) (G : h.Ns mainGlobals mg) (c : He.SaysD (factsOf (T ++ I.ds) L I.ks) ((T ++ I.ds).map Df.dd) K) (sy : sysB K = true) (wb : wordB I.cl (clsOf L) K = true) (tb : tabB T L = true) (tb2 : I.ds.all (fun d => d.okB && (isGl d && decide (d.ps.length = 1))) = true) (kb : ksB T I.ks = true) (cb : clB I.cl = true)
    (hb : ∀ d ∈ T ++ I.ds, ∀ (kV doc pm : Value) (an : Option Addr) (cdv ct : Value) (us : List Value), us.length = d.ps.length → bindArgs (PySem.W.fnOf d.nm d.ql d.params d.body d.scope .none kV doc pm an cdv ct) ⟨us, []⟩ = pure (d.ps.zip us))
    (nf : ∀ p ∈ L, p.2 ≠ .fn) (wl : ∀ p ∈ L, p.2 = .wrd → ∃ d ∈ I.ds, d.x = p.1) (wr : ∀ d ∈ I.ds, ∀ p ∈ I.cl, wordRun (isaT p.1) (d.S T L I) d.body p.2 = true) : Mdl K mg T L I := by
  have tb0 := tb
  unfold tabB at tb0
  simp only [Bool.and_eq_true, List.all_eq_true] at tb0
  have fnAll : ∀ d ∈ T ++ I.ds, ∃ fd, FunD K d.nm d.ql d.params d.body d.scope [] [] (He.fAd K d.at_) fd ∧ (∀ (s : Shared) (us : List Value), us.length = d.ps.length → BindsTo s fd ⟨us, []⟩ (d.ps.zip us)) ∧ (isGl d = true → mg d.x = some (.ref (He.ga K d.x))) := fun d hd => by
    obtain ⟨i, hi, e⟩ := List.getElem_of_mem hd
    obtain ⟨fd, F⟩ := c.def_ i (d := d.dd) (by rw [List.getElem?_map, List.getElem?_eq_getElem hi, e]; rfl)
    refine ⟨fd, F, fun s us hl => FunD.bindsA (ps := d.ps) F (hb d hd) s us hl, fun hg => He.glo_ok KX G (says_fact c (List.mem_append_left _ (List.mem_append_left _ (List.mem_flatMap.mpr ⟨d, hd, ?_⟩))))⟩
    unfold glFa
    rw [if_pos hg]
    exact List.mem_singleton_self _
  refine ⟨fun d hd => ?_, wl, fun p hp => ?_, wr, tb, fun d hd => fnAll d (List.mem_append_left _ hd), fun k hk => ?_, fun p hp => ?_, sysB_ok sy⟩
  · rw [List.all_eq_true] at tb2
    have q := tb2 d hd
    rw [Bool.and_eq_true, Bool.and_eq_true, decide_eq_true_eq] at q
    obtain ⟨fd, F, b, g⟩ := fnAll d (List.mem_append_right _ hd)
    have hk := (Df.sc_ok q.1).2.2
    have e : He.fAd K d.at_ = He.ga K d.x := by
      have gl := q.2.1
      unfold isGl at gl
      unfold Df.keyB at hk
      unfold He.fAd
      cases q2 : d.at_.2 with
      | none => rw [q2, Bool.and_eq_true] at hk; rw [of_decide_eq_true hk.2]
      | some m => rw [q2] at gl; cases gl
    rw [e] at F
    exact ⟨q.1, q.2.1, q.2.2, fd, F, b, g q.2.1⟩
  · unfold wordB at wb
    rw [List.all_eq_true] at wb
    have q := wb p hp
    simp only [Bool.and_eq_true, decide_eq_true_eq, List.all_eq_true] at q
    obtain ⟨q1, q2, q3, q4⟩ := q
    refine ⟨List.all_eq_true.mp cb p hp, excB_ok q1, q2, q3, fun x hx hc => q4 x.1 ?_⟩
    unfold clsOf
    exact List.mem_map.mpr ⟨x, List.mem_filter.mpr ⟨hx, by rw [hc]; rfl⟩, rfl⟩
  · have mem : ∀ f, f ∈ kdFa k → f.ok K = true := fun f hf => says_fact c (List.mem_append_left _ (List.mem_append_right _ (List.mem_flatMap.mpr ⟨k, hk, hf⟩)))
    have q := List.all_eq_true.mp kb k hk
    rw [Bool.and_eq_true, List.all_eq_true] at q
    refine ⟨q.1, He.cls_ok (mem _ (by unfold kdFa; simp)), fun f hf => He.noat_ok (mem _ (by unfold kdFa; simp [hf])), fun p hp => ⟨He.meth_ok (mem _ ?_), ?_⟩, He.glo_ok KX G (mem _ (by unfold kdFa; simp)), He.mkr_ok (mem _ (by unfold kdFa; simp))⟩
    · unfold kdFa
      exact List.mem_append_right _ (List.mem_append_right _ (List.mem_map.mpr ⟨p, hp, rfl⟩))
    · have q2 := q.2 p hp
      cases e : T.find? (fun d => d.x == p.2) with
      | none => rw [e] at q2; cases q2
      | some d => rw [e] at q2; exact ⟨d, rfl, of_decide_eq_true q2⟩
  · have mem : ∀ f, f ∈ (match p.2 with | .blt => [He.Fa.free p.1] | .int i => [.int p.1 i] | .txt z => [.str p.1 z] | .cls => [.glo p.1, .exc p.1] | _ => []) → f.ok K = true := fun f hf => says_fact c (List.mem_append_right _ (List.mem_flatMap.mpr ⟨p, hp, hf⟩))
    have nfp := nf p hp
    revert mem nfp
    cases p.2 with
    | unk => intro _ _; trivial
    | fn => intro _ n; exact n rfl
    | wrd => intro _ _; trivial
    | kls => intro _ _; trivial
    | blt => intro m _; exact He.free_ok KX G (m _ (by simp))
    | int i => intro m _; exact He.int_ok KX G (m _ (by simp))
    | txt z => intro m _; exact He.str_ok KX G (m _ (by simp))
    | cls =>
      intro m _
      obtain ⟨c1, c2, c3, c4⟩ := He.exc_ok (m (.exc p.1) (by simp))
      exact ⟨c1, He.glo_ok KX G (m (.glo p.1) (by simp)), c2, c3, c4⟩
end
/-! ### the law's call -/
theorem callG {P : Program} {w : World} {K : PySem.W.Frag} {mg mb : Str → Option Value} {k : Nat} {fa ad : Addr} {fd : FuncData} {x : Str} {sp : Sp} {sh : Shared} {us : List Value} {ns : List Int}
    (inK : K.In sh.heap) (gns : sh.heap.Ns mainGlobals mg) (bns : sh.heap.Ns builtinsNs mb) (bts : ∀ x : Str, x ≠ "__name__" → mb x = bootBuiltins x) (nl : sh.heap.NoLimit) (ng : sh.gens = #[])
    (scr : sh.heap.get? ad = some { cls := .type "list", data := .seq us.toArray }) (iar : IntsAre us ns) (few : ns.length ≤ sizeLine) (room : Room k callerA)
    (F : ∀ base : Heap, K.In base → base.Ns mainGlobals mg → FnG P w K mg base (L2.CX P w) k fa fd [x] sp) (bd : ∀ (s : Shared) (u : Value), BindsTo s fd ⟨[u], []⟩ [(x, u)])
    (wish : ∀ H : Hp, (stL K ad (ns.map V.int) ∨ ∃ o, H ad = some (.frz o (.lst (ns.map V.int)))) → sp [.ref ad] H (fun v _ => v = .bl true) fun _ _ _ => False) :
    codeAny (model P w) callerA (.call (.ref fa) ⟨[.ref ad], []⟩) (fun r s' => r = .ok (.ret (.bool true)) ∧ OldK sh.heap s'.heap ∧ s'.os = sh.os ∧ AllBare s'.gens) sh := by
  have rel := vals_ints iar
  have lenU := iar.length
  have main : ∀ H : Hp, (∀ b, H b = none ∨ ∃ o xs, H b = some (.frz o (.lst xs))) → (stL K ad (ns.map V.int) ∨ ∃ o, H ad = some (.frz o (.lst (ns.map V.int)))) → HOk P w H sh.heap → (∀ b, H b ≠ none → b = ad) → (H ad ≠ none → K.lookup ad = none) →
      codeAny (model P w) callerA (.call (.ref fa) ⟨[.ref ad], []⟩) (fun r s' => r = .ok (.ret (.bool true)) ∧ OldK sh.heap s'.heap ∧ s'.os = sh.os ∧ AllBare s'.gens) sh := by
    intro H onlyF hS hok onlyA notK
    have free : ∀ b, b ≠ ad → H b = none := fun b n => by
      cases q : H b with
      | none => rfl
      | some u => exact absurd (onlyA b (by rw [q]; nofun)) n
    have nsH : ∀ {b : Addr} {m : Str → Option Value}, sh.heap.Ns b m → (hidT sh.heap H).Ns b m := fun {b m} ⟨o, es, ep, e, d, r⟩ => by
      refine ⟨o, es, ep, hidT_get e (free b fun z => ?_), d, r⟩
      subst z
      rw [scr] at e
      cases e
      cases d
    have kinH : K.In (hidT sh.heap H) := fun b o e => by
      refine hidT_get (inK b o e) ?_
      cases q : H b with
      | none => rfl
      | some u =>
        have z := onlyA b (by rw [q]; nofun)
        subst z
        rw [notK (by rw [q]; nofun)] at e
        cases e
    have modH : Mod K mg (hidT sh.heap H) := ⟨kinH, nsH gns, ⟨mb, nsH bns, bts⟩, nl.elim fun mc z => ⟨mc, nsH z.1, z.2⟩⟩
    have entry : Env0 P w K mg (hidT sh.heap H) callerA [] sh H := ⟨rfl, modH, fun b o e => of_hidT e, Nat.le_of_eq (hidT_size _ _), trivial, fun b hb => (by cases hb), hok, .of_eq ng⟩
    have go := (F _ kinH (nsH gns)).run callerA [] sh H ⟨[.ref ad], []⟩ [.ref ad] [.ref ad] (fun v _ => v = .bl true) (fun _ _ _ => False) room rfl entry (bd sh (.ref ad)) (.cons rfl .nil) (wish H hS)
    refine codeAny_mono go fun r s' h => ?_
    cases r with
    | error e =>
      obtain ⟨_, _, _, _, _, _, _, _, _, _, _, _, bad⟩ := h
      exact bad.elim
    | ok fl =>
      cases fl with
      | next => exact h.elim
      | brk => exact h.elim
      | cont => exact h.elim
      | ret u =>
        obtain ⟨v, H', hos, hbare, un, hok', hr, hv⟩ := h
        have hv' : v = .bl true := hv
        subst hv'
        have hu : u = Value.bool true := hr
        subst hu
        refine ⟨rfl, OldK.of_keep fun b o e => ?_, hos, hbare⟩
        cases q : H b with
        | none => exact un.keep b o e q (fun z => by cases z) (fun z => by cases z)
        | some u =>
          rcases onlyF b with z | ⟨ob, xs, z⟩
          · rw [q] at z; cases z
          · obtain ⟨e1, _⟩ := hok b _ z
            obtain ⟨e2, _⟩ := hok' b _ (un.frzs b ob _ z)
            rw [e] at e1
            cases e1
            exact e2
  cases hk : K.lookup ad with
  | some o =>
    have e := inK ad o hk
    rw [scr] at e
    cases e
    exact main (fun _ => none) (fun _ => .inl rfl) (.inl ⟨_, us.toArray, _, hk, rfl, rfl, rfl, by rw [List.size_toArray, lenU]; exact few, by simpa using rel⟩) (fun b u z => by cases z) (fun b z => absurd rfl z) fun z => absurd rfl z
  | none =>
    let H : Hp := fun b => if b = ad then some (.frz { cls := .type "list", data := .seq us.toArray } (.lst (ns.map V.int))) else none
    have at_ : H ad = some (.frz { cls := .type "list", data := .seq us.toArray } (.lst (ns.map V.int))) := if_pos rfl
    have off : ∀ b, b ≠ ad → H b = none := fun b n => if_neg n
    refine main H (fun b => ?_) (.inr ⟨_, at_⟩) (fun b u z => ?_) (fun b z => ?_) fun _ => hk
    · by_cases n : b = ad
      · subst n; exact .inr ⟨_, _, at_⟩
      · exact .inl (off b n)
    · by_cases n : b = ad
      · subst n
        rw [at_] at z
        cases z
        exact ⟨scr, by rw [List.length_map]; exact few, us, _, rel, scr⟩
      · rw [off b n] at z; cases z
    · by_cases n : b = ad
      · exact n
      · exact absurd (off b n) z
theorem vrs_ints {K : PySem.W.Frag} {ga : Str → Addr} {rho : List Addr} {H : Hp} : ∀ ns : List Int, VRs K ga rho H (ns.map .int) (ns.map V.int)
  | [] => by simp only [VRs, List.map_nil]
  | n :: ns => by
    simp only [VRs, List.map_cons]
    exact ⟨_, _, rfl, by simp only [VR], vrs_ints ns⟩
/-- a law over a module of defs -/
theorem walk_ofF {l : PySem.W.OpenLaw} {n k dp : Nat} {q : Program} {loose : List Str} {XP : (Str → Option Value) → Heap → Prop} {dr : DefRec} {T : List Df} {L : List (Str × GV)} {I : WI} {d : Df} {x : Str}
    (hn : l.most = some n) (hn2 : n ≤ sizeLine) (hdf : dr.params.defaults = []) (hr : Room (2 * k + 2) callerA) (hT : T.find? (fun d => d.x == dr.name) = some d) (hgl : isGl d = true) (hp : d.ps = [x]) (tb : tabB T L = true) (tb2 : I.ds.all (fun d => d.okB && (isGl d && decide (d.ps.length = 1))) = true) (kb : ksB T I.ks = true) (cb : clB I.cl = true)
    (hb : ∀ d ∈ T ++ I.ds, ∀ (kV doc pm : Value) (an : Option Addr) (cdv ct : Value) (us : List Value), us.length = d.ps.length → bindArgs (PySem.W.fnOf d.nm d.ql d.params d.body d.scope .none kV doc pm an cdv ct) ⟨us, []⟩ = pure (d.ps.zip us))
    (nf : ∀ p ∈ L, p.2 ≠ .fn) (wl : ∀ p ∈ L, p.2 = .wrd → ∃ d ∈ I.ds, d.x = p.1) (wr : ∀ d ∈ I.ds, ∀ p ∈ I.cl, wordRun (isaT p.1) (d.S T L I) d.body p.2 = true) (F : ∀ ns : List Int, ns.length ≤ n → ∃ M, phi T L I k dr.name [.frz (ns.map .int)] [] = .ok (.bl true) M) :
    PySem.W.WalkO q loose XP (hookF dp (factsOf (T ++ I.ds) L I.ks) ((T ++ I.ds).map Df.dd) (wordB I.cl (clsOf L))).says l.row.toRowW dr [] (fun f vs => PySem.call f vs) := by
  refine Att.attach_call hn hdf fun w sA sh mg mb fa o pm cd doc ad us ns G Y ho hd hcd hmg hobj hints hlen hg => ?_
  obtain ⟨K, KX, c, sy, wb⟩ := Y
  have D := mdl_of KX G.T.g c sy wb tb tb2 kb cb hb nf wl wr
  obtain ⟨fd, F0, b, _⟩ := tab_ok (P := l.prog) (w := w) (base := sh.heap) D k dr.name d hT
  obtain ⟨hdT, hdx⟩ := find_in hT
  obtain ⟨_, _, _, hmg'⟩ := D.fn d hdT
  have tb0 := tb
  unfold tabB at tb0
  simp only [Bool.and_eq_true, List.all_eq_true] at tb0
  have hkey := (Df.sc_ok (tb0.1 d hdT)).2.2
  have ea : gaT T K dr.name = fa := by
    have hm := hmg' hgl
    have e : He.fAd K d.at_ = He.ga K d.x := by
      have gl := hgl
      unfold isGl at gl
      unfold Df.keyB at hkey
      unfold He.fAd
      cases q2 : d.at_.2 with
      | none => rw [q2, Bool.and_eq_true] at hkey; rw [of_decide_eq_true hkey.2]
      | some m => rw [q2] at gl; cases gl
    rw [gaT_find hT hkey, e]
    rw [hdx, hmg] at hm
    cases hm
    rw [hdx]
  refine callG (fd := fd) (x := x) (sp := spOf K (gaT T K) d.ps.length (phi T L I k dr.name)) KX G.T.g G.T.b G.T.builtins G.T.nolimit hg hobj hints (Nat.le_trans hlen hn2) hr (fun base kb nb => ?_) (fun s u => ?_) fun H hS => ?_
  · obtain ⟨fd', F', _, G'⟩ := tab_ok (P := l.prog) (w := w) (base := base) D k dr.name d hT
    rw [ea] at G'
    rw [← hp]
    obtain ⟨_, _, _, _, _, _, _, _, _, _, e1, l1, _⟩ := F0.ex
    obtain ⟨_, _, _, _, _, _, _, _, _, _, e2, l2, _⟩ := F'.ex
    rw [l1] at l2
    cases l2
    exact G'
  · have z := b s [u] (by rw [hp]; rfl)
    rw [hp] at z
    exact z
  · obtain ⟨M, hM⟩ := F ns hlen
    refine ⟨[], [], [.frz (ns.map .int)], ⟨rfl, List.nodup_nil, fun n c e => by simp at e⟩, ?_, by rw [hp]; rfl, ?_⟩
    · simp only [VRs, VR]
      exact ⟨_, _, rfl, ⟨ad, ns.map V.int, rfl, hS, vrs_ints ns⟩, rfl⟩
    · rw [hM]
      intro rho' H' v _ _ rv
      simpa only [VR] using rv
end Pf
set_option maxHeartbeats 4000000
/-! Pf: what the end looks at, by names. -/
namespace Pf
open PySem PySem.Spec PyProof.Rows L2
def refG (g : Addr → Option Obj) (as : List Addr) : List Addr := as.flatMap fun a => match g a with
  | some o => He.refsD o
  | none => []
def reachG (g : Addr → Option Obj) : Nat → List Addr → List Addr
  | 0, as => as
  | n + 1, as => as ++ reachG g n (refG g as)
def adrOf (K : PySem.W.Frag) (x : Str) : List Addr := match PySem.W.nsIn K mainGlobals x with
  | some (some (.ref a)) => [a]
  | _ => []
def partN (g : Addr → Option Obj) (n : Nat) (xs : List Str) : PySem.W.Frag := He.frG g (mainGlobals :: sysModules :: reachG g n (xs.flatMap (adrOf (He.frG g [mainGlobals]))))
def hookN (n : Nat) (xs : List Str) (fa : List He.Fa) (fn : List He.DefD) (xb : PySem.W.Frag → Bool) : PySem.W.Hook where
  α := Bool × He.AlD
  obs := fun s => seenB fa fn xb (partN s.heap.get? n xs)
  val := fun _ => (true, He.valD fn)
  says := fun _ h => ∃ K : PySem.W.Frag, K.In h ∧ He.SaysD fa fn K ∧ sysB K = true ∧ xb K = true
  of := fun _ _ e => ⟨_, He.frG_in, congrArg Prod.snd e, Bool.and_eq_true_iff.mp (congrArg Prod.fst e)⟩
  keeps := fun _ _ _ ⟨K, hK, c⟩ k => ⟨K, PySem.W.Frag.In.keeps hK k, c⟩
def obN (n : Nat) (xs : List Str) (fa : List He.Fa) (fn : List He.DefD) (xb : PySem.W.Frag → Bool) (s : PySem.W.SharedT) : Bool × He.AlD := seenB fa fn xb (partN (HandSHeadRun.getT s) n xs)
theorem obN_eq (n : Nat) (xs : List Str) (fa : List He.Fa) (fn : List He.DefD) (xb : PySem.W.Frag → Bool) (s : PySem.W.SharedT) : obN n xs fa fn xb s = (hookN n xs fa fn xb).obs s.abs := by
  have e : HandSHeadRun.getT s = s.abs.heap.get? := funext (HandSHeadRun.getT_eq s)
  unfold obN
  rw [e]
  rfl
theorem map2_pair {α β γ : Type} {r : Option α} {f : α → β} {g : α → γ} {b : β} {c : γ} (h1 : r.map f = some b) (h2 : r.map g = some c) : r.map (fun s => (f s, g s)) = some (b, c) := by
  cases r with
  | none => cases h1
  | some x =>
    have e1 : f x = b := Option.some.inj h1
    have e2 : g x = c := Option.some.inj h2
    show some (f x, g x) = _
    rw [e1, e2]
theorem seen_join {α : Type} {r : Option α} {K : α → PySem.W.Frag} {fa1 fa2 : List He.Fa} {fn1 fn2 : List He.DefD} {xb : PySem.W.Frag → Bool} (h1 : r.map (fun s => seenB fa1 fn1 xb (K s)) = some (true, He.valD fn1)) (h2 : r.map (fun s => seenB fa2 fn2 (fun _ => true) (K s)) = some (true, He.valD fn2)) :
    r.map (fun s => seenB (fa1 ++ fa2) (fn1 ++ fn2) xb (K s)) = some (true, He.valD (fn1 ++ fn2)) := by
  cases r with
  | none => cases h1
  | some x =>
    have e1 : seenB fa1 fn1 xb (K x) = (true, He.valD fn1) := Option.some.inj h1
    have e2 : seenB fa2 fn2 (fun _ => true) (K x) = (true, He.valD fn2) := Option.some.inj h2
    unfold seenB He.obsD He.valD at e1 e2
    simp only [Prod.mk.injEq] at e1 e2
    obtain ⟨a1, b1, c1⟩ := e1
    obtain ⟨a2, b2, c2⟩ := e2
    show some (seenB (fa1 ++ fa2) (fn1 ++ fn2) xb (K x)) = _
    unfold seenB He.obsD He.valD
    rw [a1, List.map_append, c1, c2, List.map_append, List.all_append, List.all_append]
    obtain ⟨b3, b4⟩ := Bool.and_eq_true_iff.mp b1
    obtain ⟨b5, b6⟩ := Bool.and_eq_true_iff.mp b2
    rw [b3, b4, b5, b6]
    rfl
/-- the run's equation from parts -/
theorem run_join3 {r : PySem.W.OpenRow} {q : Program} {n : Nat} {xs : List Str} {fa : List He.Fa} {fn : List He.DefD} {xb : PySem.W.Frag → Bool} {M : Nat} {nms : List PySem.Str} {w : World} (a a2 b b2 : Nat)
    (h0 : ∀ os : OsState, (HandSHeadRun.endF (HandSHeadRun.stepQ (HandSHeadRun.denQ HandSHeadRun.tabQ) r.prog w) M r.prog w os).map (fun s => (HandSHeadRun.looksF r.prog (PySem.W.boot_heap w.params) s.abs, HandSHeadRun.seenQ q nms (importedModules r.prog.main.body) (fun s => PySem.W.xlAt q [] s && PySem.W.recOk r.toRowW.records s) s.abs)) = some (true, PySem.W.openGood q nms))
    (h1 : ∀ os : OsState, (HandSHeadRun.endF (HandSHeadRun.stepQ (HandSHeadRun.denQ HandSHeadRun.tabQ) r.prog w) M r.prog w os).map (fun s => seenB (fa.take a) (fn.take b) xb (partN (HandSHeadRun.getT s) n xs)) = some (true, He.valD (fn.take b)))
    (h2 : ∀ os : OsState, (HandSHeadRun.endF (HandSHeadRun.stepQ (HandSHeadRun.denQ HandSHeadRun.tabQ) r.prog w) M r.prog w os).map (fun s => seenB ((fa.drop a).take a2) ((fn.drop b).take b2) (fun _ => true) (partN (HandSHeadRun.getT s) n xs)) = some (true, He.valD ((fn.drop b).take b2)))
    (h3 : ∀ os : OsState, (HandSHeadRun.endF (HandSHeadRun.stepQ (HandSHeadRun.denQ HandSHeadRun.tabQ) r.prog w) M r.prog w os).map (fun s => seenB ((fa.drop a).drop a2) ((fn.drop b).drop b2) (fun _ => true) (partN (HandSHeadRun.getT s) n xs)) = some (true, He.valD ((fn.drop b).drop b2))) :
    HandSHeadRun.RunEq r q (hookN n xs fa fn xb) (obN n xs fa fn xb) M nms w := fun os => by
  have z0 := h0 os
  have z := seen_join (h1 os) (seen_join (h2 os) (h3 os))
  generalize HandSHeadRun.endF (HandSHeadRun.stepQ (HandSHeadRun.denQ HandSHeadRun.tabQ) r.prog w) M r.prog w os = R at z z0
  rw [List.take_append_drop, List.take_append_drop, List.take_append_drop, List.take_append_drop] at z
  have z2 := map2_pair z0 z
  cases R with
  | none => cases z0
  | some x =>
    have e0 := Option.some.inj z0
    have e1 : seenB fa fn xb (partN (HandSHeadRun.getT x) n xs) = (true, He.valD fn) := Option.some.inj z
    simp only [Prod.mk.injEq] at e0
    show some (_, _, seenB fa fn xb (partN (HandSHeadRun.getT x) n xs)) = some (true, PySem.W.openGood q nms, (true, He.valD fn))
    rw [e1, e0.1, e0.2]
end Pf
set_option maxHeartbeats 0
namespace K82
open PySem PySem.Spec PyProof.Rows L2 Pf
/-! the text -/
abbrev rw0 : PySem.W.OpenLaw := PySem.Challenge.rw_puffline_k82_texts_bent_anywhere
def top (i : Nat) : Stmt := rw0.prog.main.body.getD i (.Pass ⟨0, 0, 0, 0⟩)
def top2 (i j : Nat) : Stmt := (C8.clsBody (top i)).getD j (.Pass ⟨0, 0, 0, 0⟩)
def mk (x nm ql : Str) (at_ : Str × Option Str) (ps N : List Str) (st : Stmt) : Df := ⟨x, nm, ql, at_, ps, N, defArgs st, defBody st, defScope st⟩
abbrev d_is_whole : Df := mk "is_whole" "is_whole" "is_whole" ("is_whole", none) ["thing"] ["thing"] (top 26)
abbrev d_is_within : Df := mk "is_within" "is_within" "is_within" ("is_within", none) ["thing", "low", "high"] ["thing", "low", "high"] (top 27)
abbrev d_is_line : Df := mk "is_line" "is_line" "is_line" ("is_line", none) ["thing"] ["thing", "stretches", "tank", "pump", "one"] (top 28)
abbrev d_is_room : Df := mk "is_room" "is_room" "is_room" ("is_room", none) ["line", "thing"] ["line", "thing"] (top 29)
abbrev d_is_run_of : Df := mk "is_run_of" "is_run_of" "is_run_of" ("is_run_of", none) ["line", "thing"] ["line", "thing"] (top 30)
abbrev d_is_plan_of : Df := mk "is_plan_of" "is_plan_of" "is_plan_of" ("is_plan_of", none) ["line", "thing"] ["line", "thing", "one"] (top 33)
abbrev d_number_of : Df := mk "number_of" "number_of" "number_of" ("number_of", none) ["word", "most"] ["word", "most", "sign"] (top 37)
abbrev d_numbers_of : Df := mk "numbers_of" "numbers_of" "numbers_of" ("numbers_of", none) ["words", "most"] ["words", "most", "found", "word"] (top 38)
abbrev d_line_by : Df := mk "line_by" "line_by" "line_by" ("line_by", none) ["numbers"] ["numbers"] (top 39)
abbrev d_parted : Df := mk "parted" "parted" "parted" ("parted", none) ["text"] ["text", "rows", "found", "row", "words"] (top 40)
abbrev d_read : Df := mk "read" "read" "read" ("read", none) ["text"] ["text", "found"] (top 41)
abbrev d_law_cell_at : Df := mk "_law_cell_at" "_law_cell_at" "_law_cell_at" ("_law_cell_at", none) ["_law_script", "_law_k"] ["_law_script", "_law_k"] (top 43)
abbrev d_law_pot : Df := mk "_law_pot" "_law_pot" "_law_pot" ("_law_pot", none) ["_law_cell"] ["_law_cell", "_law_number_here", "_law_j", "_law_more"] (top 44)
abbrev d_law_take : Df := mk "_law_take" "_law_take" "_law_take" ("_law_take", none) ["_law_pot_here", "_law_far"] ["_law_pot_here", "_law_far", "_law_found"] (top 45)
abbrev d_law_whole : Df := mk "_law_whole" "_law_whole" "_law_whole" ("_law_whole", none) ["_law_thing"] ["_law_thing"] (top 46)
abbrev d_law_within : Df := mk "_law_within" "_law_within" "_law_within" ("_law_within", none) ["_law_thing", "_law_low", "_law_high"] ["_law_thing", "_law_low", "_law_high"] (top 47)
abbrev d_law_line : Df := mk "_law_line" "_law_line" "_law_line" ("_law_line", none) ["_law_pot_here"] ["_law_pot_here", "_law_long", "_law_stretches", "_law_turn"] (top 48)
abbrev d_law_run : Df := mk "_law_run" "_law_run" "_law_run" ("_law_run", none) ["_law_pot_here", "_law_line_here", "_law_near"] ["_law_pot_here", "_law_line_here", "_law_near", "_law_rooms", "_law_begin", "_law_end"] (top 49)
abbrev d_law_is_line : Df := mk "_law_is_line" "_law_is_line" "_law_is_line" ("_law_is_line", none) ["_law_thing"] ["_law_thing", "_law_one"] (top 50)
abbrev d_law_is_run : Df := mk "_law_is_run" "_law_is_run" "_law_is_run" ("_law_is_run", none) ["_law_line_here", "_law_thing"] ["_law_line_here", "_law_thing", "_law_many"] (top 51)
abbrev d_law_is_plan : Df := mk "_law_is_plan" "_law_is_plan" "_law_is_plan" ("_law_is_plan", none) ["_law_line_here", "_law_thing"] ["_law_line_here", "_law_thing", "_law_one"] (top 52)
abbrev d_law_word : Df := mk "_law_word" "_law_word" "_law_word" ("_law_word", none) ["_law_e"] ["_law_e", "_law_some", "_law_words"] (top 53)
abbrev d_law_text : Df := mk "_law_text" "_law_text" "_law_text" ("_law_text", none) ["_law_line_here", "_law_plan"] ["_law_line_here", "_law_plan", "_law_rows", "_law_stretches", "_law_tank", "_law_pump", "_law_word_here", "_law_numbers", "_law_number_here", "_law_run_here"] (top 54)
abbrev d_law_number : Df := mk "_law_number" "_law_number" "_law_number" ("_law_number", none) ["_law_word_here"] ["_law_word_here", "_law_sign"] (top 55)
abbrev d_law_told : Df := mk "_law_told" "_law_told" "_law_told" ("_law_told", none) ["_law_text_here"] ["_law_text_here", "_law_e"] (top 56)
abbrev d_law_reads : Df := mk "_law_reads" "_law_reads" "_law_reads" ("_law_reads", none) ["_law_text_here"] ["_law_text_here", "_law_rows", "_law_row", "_law_words", "_law_numbers", "_law_line_here", "_law_plan", "_law_word_here"] (top 57)
abbrev d_law_row_turned : Df := mk "_law_row_turned" "_law_row_turned" "_law_row_turned" ("_law_row_turned", none) ["_law_pot_here", "_law_text_here"] ["_law_pot_here", "_law_text_here", "_law_rows", "_law_words", "_law_spot", "_law_at", "_law_other", "_law_way"] (top 58)
abbrev d_law_sign_turned : Df := mk "_law_sign_turned" "_law_sign_turned" "_law_sign_turned" ("_law_sign_turned", none) ["_law_pot_here", "_law_text_here"] ["_law_pot_here", "_law_text_here", "_law_signs", "_law_some", "_law_at", "_law_sign"] (top 59)
abbrev d_law : Df := mk "law" "law" "law" ("law", none) ["_law_script"] ["_law_script", "_law_k", "_law_pot_here", "_law_line_here", "_law_plan", "_law_texts", "_law_turn", "_law_some", "_law_thing", "_law_text_here", "_law_right", "_law_lap", "_law_due"] (top 60)
def T : List Df := [d_is_whole, d_is_within, d_is_line, d_is_room, d_is_run_of, d_is_plan_of, d_number_of, d_numbers_of, d_line_by, d_parted, d_read, d_law_cell_at, d_law_pot, d_law_take, d_law_whole, d_law_within, d_law_line, d_law_run, d_law_is_line, d_law_is_run, d_law_is_plan, d_law_text, d_law_number, d_law_told, d_law_reads, d_law_row_turned, d_law_sign_turned, d_law]
def L0 : List (Str × GV) := [("all", .blt), ("bool", .blt), ("int", .blt), ("isinstance", .blt), ("len", .blt), ("list", .blt), ("max", .blt), ("min", .blt), ("range", .blt), ("repr", .blt), ("str", .blt), ("tuple", .blt), ("MOST_STRETCHES", .int 5), ("MOST_TICKS", .int 9), ("MOST_TANK", .int 9), ("MOST_PUMP", .int 3), ("MOST_RUNS", .int 8), ("FIGURES", .txt "0123456789"), ("MOST_SIGNS", .int 2000), ("ValueError", .blt)]
def L1 : List (Str × GV) := [("PuffError", .cls), ("NoLine", .cls), ("NoRun", .cls), ("NoTick", .cls), ("NoPlan", .cls), ("NoWishes", .cls), ("NoStucks", .cls), ("NoBells", .cls), ("NoEntries", .cls), ("NoEntry", .cls), ("NoStock", .cls), ("NoTrips", .cls), ("NoShare", .cls), ("NoNumber", .cls), ("NoText", .cls), ("NoRow", .cls), ("NoDeed", .cls), ("Twice", .cls), ("Missing", .cls), ("TooMany", .cls)]
def L2 : List (Str × GV) := [("_law_word", .wrd)]
def L : List (Str × GV) := L0 ++ L1 ++ L2
def I0 : WI := ⟨[d_law_word], [("NoText", "text")], []⟩
theorem wd_NoText : I0.Wd "NoText" = some "text" := by kernel_rfl
noncomputable abbrev PH (n : Nat) : Tab := phi T L I0 n
noncomputable def G0 : Str → GV := glob T L
abbrev R0 : PySem.W.OpenRow := PySem.W.OpenLaw.row rw0
def nm0 : List PySem.Str := ["PuffError", "NoLine", "NoRun", "NoTick", "NoPlan", "NoWishes", "NoStucks", "NoBells", "NoEntries", "NoEntry", "NoStock", "NoTrips", "NoShare", "NoNumber", "NoText", "NoRow", "NoDeed", "Twice", "Missing", "TooMany", "MOST_STRETCHES", "MOST_TICKS", "MOST_TANK", "MOST_PUMP", "is_whole", "is_within", "is_line", "is_room", "is_run_of", "MOST_RUNS"]
def nm1 : List PySem.Str := ["is_plan_of", "FIGURES", "MOST_SIGNS", "number_of", "numbers_of", "line_by", "parted", "read", "_law_cell_at", "_law_pot", "_law_take", "_law_whole", "_law_within", "_law_line", "_law_run", "_law_is_line", "_law_is_run", "_law_is_plan", "_law_word", "_law_text", "_law_number", "_law_told", "_law_reads", "_law_row_turned", "_law_sign_turned"]
def nms : List PySem.Str := nm0 ++ nm1
def xs0_0 : List Str := ["is_whole", "is_within", "is_line", "is_room", "is_run_of", "is_plan_of", "number_of", "numbers_of", "line_by", "parted", "read", "_law_cell_at", "_law_pot", "_law_take", "_law_whole", "_law_within", "_law_line", "_law_run", "_law_is_line", "_law_is_run", "_law_is_plan", "_law_text", "_law_number", "_law_told", "_law_reads", "_law_row_turned", "_law_sign_turned", "law", "_law_word", "PuffError"]
def xs0_1 : List Str := ["NoLine", "NoRun", "NoTick", "NoPlan", "NoWishes", "NoStucks", "NoBells", "NoEntries", "NoEntry", "NoStock", "NoTrips", "NoShare", "NoNumber", "NoText", "NoRow", "NoDeed", "Twice", "Missing", "TooMany"]
def xs0 : List Str := xs0_0 ++ xs0_1
abbrev hk0 : PySem.W.Hook := hookN 2 xs0 (factsOf (T ++ I0.ds) L I0.ks) ((T ++ I0.ds).map Df.dd) (wordB I0.cl (clsOf L))
theorem run0 (w : World) : HandSHeadRun.RunEq R0 (PySem.W.view R0.prog [60]) hk0 (obN 2 xs0 (factsOf (T ++ I0.ds) L I0.ks) ((T ++ I0.ds).map Df.dd) (wordB I0.cl (clsOf L))) 10000 nms w := by
  intro os
  kernel_rfl
theorem tb0 : tabB T L = true := by kernel_rfl
theorem tb20 : I0.ds.all (fun d => d.okB && (isGl d && decide (d.ps.length = 1))) = true := by kernel_rfl
theorem kb0 : ksB T I0.ks = true := by kernel_rfl
theorem cb0 : clB I0.cl = true := by kernel_rfl
theorem wrB : I0.ds.all (fun d => I0.cl.all fun p => wordRun (isaT p.1) (d.S T L I0) d.body p.2) = true := by kernel_rfl
theorem wr0 : ∀ d ∈ I0.ds, ∀ p ∈ I0.cl, wordRun (isaT p.1) (d.S T L I0) d.body p.2 = true := fun d hd p hp => List.all_eq_true.mp (List.all_eq_true.mp wrB d hd) p hp
theorem b_is_whole (kV doc pm : Value) (an : Option Addr) (cdv ct : Value) (us : List Value) (hl : us.length = d_is_whole.ps.length) : bindArgs (PySem.W.fnOf d_is_whole.nm d_is_whole.ql d_is_whole.params d_is_whole.body d_is_whole.scope .none kV doc pm an cdv ct) ⟨us, []⟩ = pure (d_is_whole.ps.zip us) := match us, hl with | [_], _ => rfl
theorem b_is_within (kV doc pm : Value) (an : Option Addr) (cdv ct : Value) (us : List Value) (hl : us.length = d_is_within.ps.length) : bindArgs (PySem.W.fnOf d_is_within.nm d_is_within.ql d_is_within.params d_is_within.body d_is_within.scope .none kV doc pm an cdv ct) ⟨us, []⟩ = pure (d_is_within.ps.zip us) := match us, hl with | [_, _, _], _ => rfl
theorem b_is_line (kV doc pm : Value) (an : Option Addr) (cdv ct : Value) (us : List Value) (hl : us.length = d_is_line.ps.length) : bindArgs (PySem.W.fnOf d_is_line.nm d_is_line.ql d_is_line.params d_is_line.body d_is_line.scope .none kV doc pm an cdv ct) ⟨us, []⟩ = pure (d_is_line.ps.zip us) := match us, hl with | [_], _ => rfl
theorem b_is_room (kV doc pm : Value) (an : Option Addr) (cdv ct : Value) (us : List Value) (hl : us.length = d_is_room.ps.length) : bindArgs (PySem.W.fnOf d_is_room.nm d_is_room.ql d_is_room.params d_is_room.body d_is_room.scope .none kV doc pm an cdv ct) ⟨us, []⟩ = pure (d_is_room.ps.zip us) := match us, hl with | [_, _], _ => rfl
theorem b_is_run_of (kV doc pm : Value) (an : Option Addr) (cdv ct : Value) (us : List Value) (hl : us.length = d_is_run_of.ps.length) : bindArgs (PySem.W.fnOf d_is_run_of.nm d_is_run_of.ql d_is_run_of.params d_is_run_of.body d_is_run_of.scope .none kV doc pm an cdv ct) ⟨us, []⟩ = pure (d_is_run_of.ps.zip us) := match us, hl with | [_, _], _ => rfl
theorem b_is_plan_of (kV doc pm : Value) (an : Option Addr) (cdv ct : Value) (us : List Value) (hl : us.length = d_is_plan_of.ps.length) : bindArgs (PySem.W.fnOf d_is_plan_of.nm d_is_plan_of.ql d_is_plan_of.params d_is_plan_of.body d_is_plan_of.scope .none kV doc pm an cdv ct) ⟨us, []⟩ = pure (d_is_plan_of.ps.zip us) := match us, hl with | [_, _], _ => rfl
theorem b_number_of (kV doc pm : Value) (an : Option Addr) (cdv ct : Value) (us : List Value) (hl : us.length = d_number_of.ps.length) : bindArgs (PySem.W.fnOf d_number_of.nm d_number_of.ql d_number_of.params d_number_of.body d_number_of.scope .none kV doc pm an cdv ct) ⟨us, []⟩ = pure (d_number_of.ps.zip us) := match us, hl with | [_, _], _ => rfl
theorem b_numbers_of (kV doc pm : Value) (an : Option Addr) (cdv ct : Value) (us : List Value) (hl : us.length = d_numbers_of.ps.length) : bindArgs (PySem.W.fnOf d_numbers_of.nm d_numbers_of.ql d_numbers_of.params d_numbers_of.body d_numbers_of.scope .none kV doc pm an cdv ct) ⟨us, []⟩ = pure (d_numbers_of.ps.zip us) := match us, hl with | [_, _], _ => rfl
theorem b_line_by (kV doc pm : Value) (an : Option Addr) (cdv ct : Value) (us : List Value) (hl : us.length = d_line_by.ps.length) : bindArgs (PySem.W.fnOf d_line_by.nm d_line_by.ql d_line_by.params d_line_by.body d_line_by.scope .none kV doc pm an cdv ct) ⟨us, []⟩ = pure (d_line_by.ps.zip us) := match us, hl with | [_], _ => rfl
theorem b_parted (kV doc pm : Value) (an : Option Addr) (cdv ct : Value) (us : List Value) (hl : us.length = d_parted.ps.length) : bindArgs (PySem.W.fnOf d_parted.nm d_parted.ql d_parted.params d_parted.body d_parted.scope .none kV doc pm an cdv ct) ⟨us, []⟩ = pure (d_parted.ps.zip us) := match us, hl with | [_], _ => rfl
theorem b_read (kV doc pm : Value) (an : Option Addr) (cdv ct : Value) (us : List Value) (hl : us.length = d_read.ps.length) : bindArgs (PySem.W.fnOf d_read.nm d_read.ql d_read.params d_read.body d_read.scope .none kV doc pm an cdv ct) ⟨us, []⟩ = pure (d_read.ps.zip us) := match us, hl with | [_], _ => rfl
theorem b_law_cell_at (kV doc pm : Value) (an : Option Addr) (cdv ct : Value) (us : List Value) (hl : us.length = d_law_cell_at.ps.length) : bindArgs (PySem.W.fnOf d_law_cell_at.nm d_law_cell_at.ql d_law_cell_at.params d_law_cell_at.body d_law_cell_at.scope .none kV doc pm an cdv ct) ⟨us, []⟩ = pure (d_law_cell_at.ps.zip us) := match us, hl with | [_, _], _ => rfl
theorem b_law_pot (kV doc pm : Value) (an : Option Addr) (cdv ct : Value) (us : List Value) (hl : us.length = d_law_pot.ps.length) : bindArgs (PySem.W.fnOf d_law_pot.nm d_law_pot.ql d_law_pot.params d_law_pot.body d_law_pot.scope .none kV doc pm an cdv ct) ⟨us, []⟩ = pure (d_law_pot.ps.zip us) := match us, hl with | [_], _ => rfl
theorem b_law_take (kV doc pm : Value) (an : Option Addr) (cdv ct : Value) (us : List Value) (hl : us.length = d_law_take.ps.length) : bindArgs (PySem.W.fnOf d_law_take.nm d_law_take.ql d_law_take.params d_law_take.body d_law_take.scope .none kV doc pm an cdv ct) ⟨us, []⟩ = pure (d_law_take.ps.zip us) := match us, hl with | [_, _], _ => rfl
theorem b_law_whole (kV doc pm : Value) (an : Option Addr) (cdv ct : Value) (us : List Value) (hl : us.length = d_law_whole.ps.length) : bindArgs (PySem.W.fnOf d_law_whole.nm d_law_whole.ql d_law_whole.params d_law_whole.body d_law_whole.scope .none kV doc pm an cdv ct) ⟨us, []⟩ = pure (d_law_whole.ps.zip us) := match us, hl with | [_], _ => rfl
theorem b_law_within (kV doc pm : Value) (an : Option Addr) (cdv ct : Value) (us : List Value) (hl : us.length = d_law_within.ps.length) : bindArgs (PySem.W.fnOf d_law_within.nm d_law_within.ql d_law_within.params d_law_within.body d_law_within.scope .none kV doc pm an cdv ct) ⟨us, []⟩ = pure (d_law_within.ps.zip us) := match us, hl with | [_, _, _], _ => rfl
theorem b_law_line (kV doc pm : Value) (an : Option Addr) (cdv ct : Value) (us : List Value) (hl : us.length = d_law_line.ps.length) : bindArgs (PySem.W.fnOf d_law_line.nm d_law_line.ql d_law_line.params d_law_line.body d_law_line.scope .none kV doc pm an cdv ct) ⟨us, []⟩ = pure (d_law_line.ps.zip us) := match us, hl with | [_], _ => rfl
theorem b_law_run (kV doc pm : Value) (an : Option Addr) (cdv ct : Value) (us : List Value) (hl : us.length = d_law_run.ps.length) : bindArgs (PySem.W.fnOf d_law_run.nm d_law_run.ql d_law_run.params d_law_run.body d_law_run.scope .none kV doc pm an cdv ct) ⟨us, []⟩ = pure (d_law_run.ps.zip us) := match us, hl with | [_, _, _], _ => rfl
theorem b_law_is_line (kV doc pm : Value) (an : Option Addr) (cdv ct : Value) (us : List Value) (hl : us.length = d_law_is_line.ps.length) : bindArgs (PySem.W.fnOf d_law_is_line.nm d_law_is_line.ql d_law_is_line.params d_law_is_line.body d_law_is_line.scope .none kV doc pm an cdv ct) ⟨us, []⟩ = pure (d_law_is_line.ps.zip us) := match us, hl with | [_], _ => rfl
theorem b_law_is_run (kV doc pm : Value) (an : Option Addr) (cdv ct : Value) (us : List Value) (hl : us.length = d_law_is_run.ps.length) : bindArgs (PySem.W.fnOf d_law_is_run.nm d_law_is_run.ql d_law_is_run.params d_law_is_run.body d_law_is_run.scope .none kV doc pm an cdv ct) ⟨us, []⟩ = pure (d_law_is_run.ps.zip us) := match us, hl with | [_, _], _ => rfl
theorem b_law_is_plan (kV doc pm : Value) (an : Option Addr) (cdv ct : Value) (us : List Value) (hl : us.length = d_law_is_plan.ps.length) : bindArgs (PySem.W.fnOf d_law_is_plan.nm d_law_is_plan.ql d_law_is_plan.params d_law_is_plan.body d_law_is_plan.scope .none kV doc pm an cdv ct) ⟨us, []⟩ = pure (d_law_is_plan.ps.zip us) := match us, hl with | [_, _], _ => rfl
theorem b_law_text (kV doc pm : Value) (an : Option Addr) (cdv ct : Value) (us : List Value) (hl : us.length = d_law_text.ps.length) : bindArgs (PySem.W.fnOf d_law_text.nm d_law_text.ql d_law_text.params d_law_text.body d_law_text.scope .none kV doc pm an cdv ct) ⟨us, []⟩ = pure (d_law_text.ps.zip us) := match us, hl with | [_, _], _ => rfl
theorem b_law_number (kV doc pm : Value) (an : Option Addr) (cdv ct : Value) (us : List Value) (hl : us.length = d_law_number.ps.length) : bindArgs (PySem.W.fnOf d_law_number.nm d_law_number.ql d_law_number.params d_law_number.body d_law_number.scope .none kV doc pm an cdv ct) ⟨us, []⟩ = pure (d_law_number.ps.zip us) := match us, hl with | [_], _ => rfl
theorem b_law_told (kV doc pm : Value) (an : Option Addr) (cdv ct : Value) (us : List Value) (hl : us.length = d_law_told.ps.length) : bindArgs (PySem.W.fnOf d_law_told.nm d_law_told.ql d_law_told.params d_law_told.body d_law_told.scope .none kV doc pm an cdv ct) ⟨us, []⟩ = pure (d_law_told.ps.zip us) := match us, hl with | [_], _ => rfl
theorem b_law_reads (kV doc pm : Value) (an : Option Addr) (cdv ct : Value) (us : List Value) (hl : us.length = d_law_reads.ps.length) : bindArgs (PySem.W.fnOf d_law_reads.nm d_law_reads.ql d_law_reads.params d_law_reads.body d_law_reads.scope .none kV doc pm an cdv ct) ⟨us, []⟩ = pure (d_law_reads.ps.zip us) := match us, hl with | [_], _ => rfl
theorem b_law_row_turned (kV doc pm : Value) (an : Option Addr) (cdv ct : Value) (us : List Value) (hl : us.length = d_law_row_turned.ps.length) : bindArgs (PySem.W.fnOf d_law_row_turned.nm d_law_row_turned.ql d_law_row_turned.params d_law_row_turned.body d_law_row_turned.scope .none kV doc pm an cdv ct) ⟨us, []⟩ = pure (d_law_row_turned.ps.zip us) := match us, hl with | [_, _], _ => rfl
theorem b_law_sign_turned (kV doc pm : Value) (an : Option Addr) (cdv ct : Value) (us : List Value) (hl : us.length = d_law_sign_turned.ps.length) : bindArgs (PySem.W.fnOf d_law_sign_turned.nm d_law_sign_turned.ql d_law_sign_turned.params d_law_sign_turned.body d_law_sign_turned.scope .none kV doc pm an cdv ct) ⟨us, []⟩ = pure (d_law_sign_turned.ps.zip us) := match us, hl with | [_, _], _ => rfl
theorem b_law (kV doc pm : Value) (an : Option Addr) (cdv ct : Value) (us : List Value) (hl : us.length = d_law.ps.length) : bindArgs (PySem.W.fnOf d_law.nm d_law.ql d_law.params d_law.body d_law.scope .none kV doc pm an cdv ct) ⟨us, []⟩ = pure (d_law.ps.zip us) := match us, hl with | [_], _ => rfl
theorem b_law_word (kV doc pm : Value) (an : Option Addr) (cdv ct : Value) (us : List Value) (hl : us.length = d_law_word.ps.length) : bindArgs (PySem.W.fnOf d_law_word.nm d_law_word.ql d_law_word.params d_law_word.body d_law_word.scope .none kV doc pm an cdv ct) ⟨us, []⟩ = pure (d_law_word.ps.zip us) := match us, hl with | [_], _ => rfl
theorem bs0 : ∀ d ∈ T ++ I0.ds, ∀ (kV doc pm : Value) (an : Option Addr) (cdv ct : Value) (us : List Value), us.length = d.ps.length → bindArgs (PySem.W.fnOf d.nm d.ql d.params d.body d.scope .none kV doc pm an cdv ct) ⟨us, []⟩ = pure (d.ps.zip us) := by
  intro d hd
  simp only [T, I0, List.cons_append, List.nil_append, List.append_nil, List.mem_cons, List.not_mem_nil, or_false] at hd
  rcases hd with rfl | rfl | rfl | rfl | rfl | rfl | rfl | rfl | rfl | rfl | rfl | rfl | rfl | rfl | rfl | rfl | rfl | rfl | rfl | rfl | rfl | rfl | rfl | rfl | rfl | rfl | rfl | rfl | rfl
  · exact b_is_whole
  · exact b_is_within
  · exact b_is_line
  · exact b_is_room
  · exact b_is_run_of
  · exact b_is_plan_of
  · exact b_number_of
  · exact b_numbers_of
  · exact b_line_by
  · exact b_parted
  · exact b_read
  · exact b_law_cell_at
  · exact b_law_pot
  · exact b_law_take
  · exact b_law_whole
  · exact b_law_within
  · exact b_law_line
  · exact b_law_run
  · exact b_law_is_line
  · exact b_law_is_run
  · exact b_law_is_plan
  · exact b_law_text
  · exact b_law_number
  · exact b_law_told
  · exact b_law_reads
  · exact b_law_row_turned
  · exact b_law_sign_turned
  · exact b_law
  · exact b_law_word
theorem nfB : L.all (fun p => !isFn p.2) = true := by kernel_rfl
theorem nf0 : ∀ p ∈ L, p.2 ≠ .fn := fun p hp e => by
  have h := List.all_eq_true.mp nfB p hp
  rw [e] at h; cases h
def isWrd : GV → Bool
  | .wrd => true
  | _ => false
theorem wlB : L.all (fun p => !isWrd p.2 || I0.ds.any (fun d => d.x == p.1)) = true := by kernel_rfl
theorem wl0 : ∀ p ∈ L, p.2 = .wrd → ∃ d ∈ I0.ds, d.x = p.1 := fun p hp e => by
  have h := List.all_eq_true.mp wlB p hp
  rw [e, Bool.or_eq_true] at h
  rcases h with h | h
  · cases h
  · obtain ⟨d, hd, hx⟩ := List.any_eq_true.mp h
    exact ⟨d, hd, eq_of_beq hx⟩

theorem end0 (F : ∀ ns : List Int, ns.length ≤ 63 → ∃ M, PH 100 "law" [.frz (ns.map .int)] [] = .ok (.bl true) M) : rw0.Holds := by
  w_on; o_law
  refine HandSHeadRun.head_any (r := R0) (q := PySem.W.view R0.prog [60]) (H := hk0) (ob := obN 2 xs0 (factsOf (T ++ I0.ds) L I0.ks) ((T ++ I0.ds).map Df.dd) (wordB I0.cl (clsOf L))) (M := 10000) (loose := nms) (d := HandSHeadRun.topDef R0.prog 60) (kwd := []) (obN_eq 2 _ _ _ _)
    (by kernel_rfl) (fun s => by kernel_rfl) run0 (by kernel_rfl) (by kernel_rfl) (by kernel_rfl) (by rfl) (by first | assumption | decide +kernel) (by decide +kernel) ⟨rfl, rfl, rfl, rfl, rfl, by decide +kernel⟩ ?hw ?hc
  case hw => w_witness2
  case hc =>
    have en : (HandSHeadRun.topDef R0.prog 60).name = ("law" : Str) := by kernel_rfl
    refine walk_ofF (dp := 0) (l := rw0) (n := 63) (k := 100) (x := "_law_script") (T := T) (L := L) (I := I0) (d := d_law) rfl (by decide) (by kernel_rfl) ⟨rfl, by decide, by decide⟩ (by kernel_rfl) rfl rfl tb0 tb20 kb0 cb0 bs0 nf0 wl0 wr0 ?_
    intro ns hns
    rw [en]
    exact F ns hns

end K82
set_option maxHeartbeats 4000000
/-! Pf: the plain form of a def's meaning, and what it takes to show what it does. -/
namespace Pf
open PySem PySem.Spec
/-! ### the plain forms -/
def andE (a b : Ev D) : Ev D := bnd a fun x => bnd (toB x) fun c => if c = true then b else ret (.bl false)
def orE (a b : Ev D) : Ev D := bnd a fun x => bnd (toS x) fun c => if c = true then ret x else b
def notE (a : Ev D) : Ev D := bnd a fun x => bnd (toB x) fun b => ret (.bl (!b))
def ifT {α : Type} (t : Ev Bool) (a b : Ev α) : Ev α := bnd t fun c => if c = true then a else b
def andT (a b : Ev Bool) : Ev Bool := bnd a fun c => if c = true then b else ret false
def orT (a b : Ev Bool) : Ev Bool := bnd a fun c => if c = true then ret true else b
def notT (a : Ev Bool) : Ev Bool := bnd a fun b => ret (!b)
def chE (op op2 : CmpOp) (a b c : Ev D) : Ev D := bnd a fun x => bnd b fun y => bnd (dCmp op x y) fun z => bnd (toB z) fun k => if k = true then bnd c fun w => dCmp op2 y w else ret (.bl false)
def chE3 (op op2 op3 : CmpOp) (a b c d : Ev D) : Ev D := bnd a fun x => bnd b fun y => bnd (dCmp op x y) fun z => bnd (toB z) fun k =>
  if k = true then bnd c fun w => bnd (dCmp op2 y w) fun z2 => bnd (toB z2) fun k2 => if k2 = true then bnd d fun v => dCmp op3 w v else ret (.bl false) else ret (.bl false)
def argL : List (Ev D) → Ev (List D)
  | [] => ret []
  | a :: r => bnd a fun d => bnd (argL r) fun ds => ret (d :: ds)
def kvL : List (Ev D × Ev D) → Ev (List (D × D))
  | [] => ret []
  | p :: r => bnd p.1 fun x => bnd p.2 fun y => bnd (kvL r) fun ps => ret ((x, y) :: ps)
def tg1 (i : Nat) (d : D) (e : Env) : Option Env := some (e.set i (some d))
def tgM : List Nat → List D → Env → Option Env
  | [], [], e => some e
  | i :: is, d :: ds, e => (tg1 i d e).bind fun e1 => tgM is ds e1
  | _, _, _ => none
def tgT (is : List Nat) (d : D) (e : Env) : Option Env := match d with
  | .tup ds => tgM is ds e
  | _ => none
def tgE : Sum Nat (List Nat) → D → Env → Option Env
  | .inl i, d, e => tg1 i d e
  | .inr is, d, e => tgT is d e
def tgUs : List (Sum Nat (List Nat)) → List D → Env → Option Env
  | [], [], e => some e
  | i :: is, d :: ds, e => (tgE i d e).bind fun e1 => tgUs is ds e1
  | _, _, _ => none
def tgU (is : List (Sum Nat (List Nat))) (d : D) (e : Env) : Option Env := match d with
  | .tup ds => tgUs is ds e
  | _ => none
def asgS (tg : D → Env → Option Env) (a : Ev D) (e : Env) : Ev Out := bnd a fun d => opt (tg d e) fun e' => ret (.nx e')
def ifS (t : Ev Bool) (a b : Ev Out) : Ev Out := bnd t fun c => if c = true then a else b
def seqB (a : Ev Out) (k : Env → Ev Out) : Ev Out := fun M => (match a M with
      | .ok (.nx e1) M1 => k e1 M1
      | r => r)
def rsS (c : Str) : Ev Out := fun M => .ex c M
def finF (ar n : Nat) (f : Env → Ev Out) (vs : List D) : Ev D := fun M =>
  if vs.length = ar then (match f (vs.map some ++ List.replicate (n - vs.length) none) M with
    | .ok (.nx _) M1 => .ok .non M1
    | .ok (.rt d) M1 => .ok d M1
    | .ok _ _ => .no
    | .ex c M1 => .ex c M1
    | .no => .no)
  else .no
/-! ### what a run leads to -/
abbrev PQ (α : Type) := α → Mem → Prop
abbrev PE0 := Str → Mem → Prop
def Wp {α : Type} (m : Ev α) (M : Mem) (Q : PQ α) (E : PE0) : Prop := match m M with
  | .ok a M' => Q a M'
  | .ex c M' => E c M'
  | .no => False
structure Po where
  nx : Env → Mem → Prop
  rt : D → Mem → Prop
  bk : Env → Mem → Prop
  ct : Env → Mem → Prop
  ex : Str → Mem → Prop
def Ws (m : Ev Out) (M : Mem) (P : Po) : Prop := match m M with
  | .ok (.nx e) M' => P.nx e M'
  | .ok (.rt d) M' => P.rt d M'
  | .ok (.bk e) M' => P.bk e M'
  | .ok (.ct e) M' => P.ct e M'
  | .ex c M' => P.ex c M'
  | .no => False
section
variable {α β : Type} {M : Mem} {Q Q' : PQ α} {E E' : PE0} {P P' : Po}
theorem Wp.mono {m : Ev α} (h : Wp m M Q E) (k : ∀ a M', Q a M' → Q' a M') : Wp m M Q' E := by
  unfold Wp at h ⊢
  cases e : m M with
  | ok a M1 => rw [e] at h; exact k _ _ h
  | ex c M1 => rw [e] at h; exact h
  | no => rw [e] at h; exact h
theorem Wp.mono2 {m : Ev α} (h : Wp m M Q E) (k : ∀ a M', Q a M' → Q' a M') (k2 : ∀ c M', E c M' → E' c M') : Wp m M Q' E' := by
  unfold Wp at h ⊢
  cases e : m M with
  | ok a M1 => rw [e] at h; exact k _ _ h
  | ex c M1 => rw [e] at h; exact k2 _ _ h
  | no => rw [e] at h; exact h
theorem Wp.ok {m : Ev α} (h : Wp m M Q fun _ _ => False) : ∃ a M', m M = .ok a M' ∧ Q a M' := by
  unfold Wp at h
  cases e : m M with
  | ok a M1 => rw [e] at h; exact ⟨a, M1, rfl, h⟩
  | ex c M1 => rw [e] at h; exact h.elim
  | no => rw [e] at h; exact h.elim
theorem Wp.of {m : Ev α} {a : α} {M' : Mem} (e : m M = .ok a M') (h : Q a M') : Wp m M Q E := by unfold Wp; rw [e]; exact h
theorem Wp_eq {m : Ev α} {a : α} {M' : Mem} (e : m M = .ok a M') : Wp m M Q E = Q a M' := by unfold Wp; rw [e]
@[simp] theorem Wp_bnd {m : Ev α} {f : α → Ev β} {Q : PQ β} : Wp (bnd m f) M Q E = Wp m M (fun a M1 => Wp (f a) M1 Q E) E := by
  unfold Wp bnd
  cases e : m M <;> rfl
@[simp] theorem Wp_ret {a : α} : Wp (ret a) M Q E = Q a M := rfl
@[simp] theorem Wp_ite {c : Prop} [Decidable c] {a b : Ev α} : Wp (if c then a else b) M Q E = if c then Wp a M Q E else Wp b M Q E := by split <;> rfl
@[simp] theorem Wp_toB {b : Bool} {Q : PQ Bool} : Wp (toB (.bl b)) M Q E = Q b M := rfl
@[simp] theorem Wp_andE {a b : Ev D} {Q : PQ D} : Wp (andE a b) M Q E = Wp a M (fun x M1 => Wp (toB x) M1 (fun c M2 => if c = true then Wp b M2 Q E else Q (.bl false) M2) E) E := by
  unfold andE
  rw [Wp_bnd]
  congr 1; funext x M1; rw [Wp_bnd]; congr 1; funext c M2; rw [Wp_ite]; rfl
@[simp] theorem Wp_toS {b : Bool} {Q : PQ Bool} : Wp (toS (.bl b)) M Q E = Q b M := rfl
@[simp] theorem Wp_toSs {s : Str} {Q : PQ Bool} : Wp (toS (.str s)) M Q E = (s.length ≤ 16777216 ∧ Q ((s.length : Int) != 0) M) := by
  unfold Wp toS
  dsimp only
  by_cases h : s.length ≤ 16777216 <;> simp [h]
@[simp] theorem Wp_orE {a b : Ev D} {Q : PQ D} : Wp (orE a b) M Q E = Wp a M (fun x M1 => Wp (toS x) M1 (fun c M2 => if c = true then Q x M2 else Wp b M2 Q E) E) E := by
  unfold orE
  rw [Wp_bnd]
  congr 1; funext x M1; rw [Wp_bnd]; congr 1; funext c M2; rw [Wp_ite]; rfl
@[simp] theorem Wp_notE {a : Ev D} {Q : PQ D} : Wp (notE a) M Q E = Wp a M (fun x M1 => Wp (toB x) M1 (fun c M2 => Q (.bl (!c)) M2) E) E := by
  unfold notE
  rw [Wp_bnd]
  congr 1; funext x M1; rw [Wp_bnd]; rfl
@[simp] theorem Wp_ifT {t : Ev Bool} {a b : Ev α} : Wp (ifT t a b) M Q E = Wp t M (fun c M1 => if c = true then Wp a M1 Q E else Wp b M1 Q E) E := by
  unfold ifT
  rw [Wp_bnd]
  congr 1; funext c M1; rw [Wp_ite]
@[simp] theorem Wp_andT {a b : Ev Bool} {Q : PQ Bool} : Wp (andT a b) M Q E = Wp a M (fun c M1 => if c = true then Wp b M1 Q E else Q false M1) E := by
  unfold andT
  rw [Wp_bnd]
  congr 1; funext c M1; rw [Wp_ite]; rfl
@[simp] theorem Wp_orT {a b : Ev Bool} {Q : PQ Bool} : Wp (orT a b) M Q E = Wp a M (fun c M1 => if c = true then Q true M1 else Wp b M1 Q E) E := by
  unfold orT
  rw [Wp_bnd]
  congr 1; funext c M1; rw [Wp_ite]; rfl
@[simp] theorem Wp_notT {a : Ev Bool} {Q : PQ Bool} : Wp (notT a) M Q E = Wp a M (fun c M1 => Q (!c) M1) E := by
  unfold notT
  rw [Wp_bnd]; rfl
@[simp] theorem Wp_chE {op op2 : CmpOp} {a b c : Ev D} {Q : PQ D} : Wp (chE op op2 a b c) M Q E = Wp a M (fun x M1 => Wp b M1 (fun y M2 => Wp (dCmp op x y) M2 (fun z M3 => Wp (toB z) M3 (fun k M4 => if k = true then Wp c M4 (fun w M5 => Wp (dCmp op2 y w) M5 Q E) E else Q (.bl false) M4) E) E) E) E := by
  unfold chE
  rw [Wp_bnd]; congr 1; funext x M1; rw [Wp_bnd]; congr 1; funext y M2; rw [Wp_bnd]; congr 1; funext z M3; rw [Wp_bnd]; congr 1; funext k M4; rw [Wp_ite, Wp_bnd]; rfl
@[simp] theorem Wp_chE3 {op op2 op3 : CmpOp} {a b c d : Ev D} {Q : PQ D} : Wp (chE3 op op2 op3 a b c d) M Q E = Wp a M (fun x M1 => Wp b M1 (fun y M2 => Wp (dCmp op x y) M2 (fun z M3 => Wp (toB z) M3 (fun k M4 => if k = true then
    Wp c M4 (fun w M5 => Wp (dCmp op2 y w) M5 (fun z2 M6 => Wp (toB z2) M6 (fun k2 M7 => if k2 = true then Wp d M7 (fun v M8 => Wp (dCmp op3 w v) M8 Q E) E else Q (.bl false) M7) E) E) E else Q (.bl false) M4) E) E) E) E := by
  unfold chE3
  rw [Wp_bnd]; congr 1; funext x M1; rw [Wp_bnd]; congr 1; funext y M2; rw [Wp_bnd]; congr 1; funext z M3; rw [Wp_bnd]; congr 1; funext k M4; rw [Wp_ite, Wp_bnd]
  congr 1; congr 1; funext w M5; rw [Wp_bnd]; congr 1; funext z2 M6; rw [Wp_bnd]; congr 1; funext k2 M7; rw [Wp_ite, Wp_bnd]; rfl
@[simp] theorem Wp_nil {Q : PQ (List D)} : Wp (argL []) M Q E = Q [] M := rfl
@[simp] theorem Wp_kv0 {Q : PQ (List (D × D))} : Wp (kvL []) M Q E = Q [] M := rfl
@[simp] theorem Wp_kv {p : Ev D × Ev D} {r : List (Ev D × Ev D)} {Q : PQ (List (D × D))} : Wp (kvL (p :: r)) M Q E = Wp p.1 M (fun x M1 => Wp p.2 M1 (fun y M2 => Wp (kvL r) M2 (fun ps M3 => Q ((x, y) :: ps) M3) E) E) E := by
  show Wp (bnd p.1 fun x => bnd p.2 fun y => bnd (kvL r) fun ps => ret ((x, y) :: ps)) M Q E = _
  rw [Wp_bnd]
  congr 1; funext d M1
  rw [Wp_bnd]
  congr 1; funext d2 M2
  rw [Wp_bnd]
  rfl
@[simp] theorem Wp_cons {a : Ev D} {r : List (Ev D)} {Q : PQ (List D)} : Wp (argL (a :: r)) M Q E = Wp a M (fun d M1 => Wp (argL r) M1 (fun ds M2 => Q (d :: ds) M2) E) E := by
  show Wp (bnd a fun d => bnd (argL r) fun ds => ret (d :: ds)) M Q E = _
  rw [Wp_bnd]; congr 1; funext d M1; rw [Wp_bnd]; rfl
/-! #### statements -/
theorem Ws.mono {m : Ev Out} (h : Ws m M P) (k1 : ∀ e M', P.nx e M' → P'.nx e M') (k2 : ∀ d M', P.rt d M' → P'.rt d M') (k3 : ∀ e M', P.bk e M' → P'.bk e M') (k4 : ∀ e M', P.ct e M' → P'.ct e M') (k5 : ∀ c M', P.ex c M' → P'.ex c M') : Ws m M P' := by
  unfold Ws at h ⊢
  cases e : m M with
  | ok a M1 =>
    rw [e] at h
    cases a with
    | nx e => exact k1 _ _ h
    | rt e => exact k2 _ _ h
    | bk e => exact k3 _ _ h
    | ct e => exact k4 _ _ h
  | ex c M1 => rw [e] at h; exact k5 _ _ h
  | no => rw [e] at h; exact h
@[simp] theorem Ws_bnd {m : Ev α} {f : α → Ev Out} : Ws (bnd m f) M P = Wp m M (fun a M1 => Ws (f a) M1 P) P.ex := by
  unfold Wp Ws bnd
  cases e : m M <;> rfl
@[simp] theorem Ws_nx {e : Env} : Ws (ret (.nx e)) M P = P.nx e M := rfl
@[simp] theorem Ws_rt {d : D} : Ws (ret (.rt d)) M P = P.rt d M := rfl
@[simp] theorem Ws_bk {e : Env} : Ws (ret (.bk e)) M P = P.bk e M := rfl
@[simp] theorem Ws_ct {e : Env} : Ws (ret (.ct e)) M P = P.ct e M := rfl
@[simp] theorem Ws_rs {c : Str} : Ws (rsS c) M P = P.ex c M := rfl
@[simp] theorem Ws_ite {c : Prop} [Decidable c] {a b : Ev Out} : Ws (if c then a else b) M P = if c then Ws a M P else Ws b M P := by split <;> rfl
@[simp] theorem Ws_ifS {t : Ev Bool} {a b : Ev Out} : Ws (ifS t a b) M P = Wp t M (fun c M1 => if c = true then Ws a M1 P else Ws b M1 P) P.ex := by
  unfold ifS
  rw [Ws_bnd]
  congr 1; funext c M1; rw [Ws_ite]
@[simp] theorem Ws_seq {a : Ev Out} {k : Env → Ev Out} : Ws (seqB a k) M P = Ws a M { P with nx := fun e M1 => Ws (k e) M1 P } := by
  unfold Ws seqB
  cases e : a M with
  | ok o M1 => cases o <;> rfl
  | ex c M1 => rfl
  | no => rfl
@[simp] theorem Ws_asg {tg : D → Env → Option Env} {a : Ev D} {e : Env} : Ws (asgS tg a e) M P = Wp a M (fun d M1 => match tg d e with | some e' => P.nx e' M1 | none => False) P.ex := by
  unfold asgS
  rw [Ws_bnd]
  congr 1; funext d M1
  cases tg d e <;> rfl
@[simp] theorem Ws_set2 {i j : Nat} {e : Env} {u v : D} : Ws (set2 i j e [u, v]) M P = P.nx ((e.set i (some u)).set j (some v)) M := rfl
@[simp] theorem Ws_set3 {i j k : Nat} {e : Env} {u v w : D} : Ws (set3 i j k e [u, v, w]) M P = P.nx (((e.set i (some u)).set j (some v)).set k (some w)) M := rfl
@[simp] theorem Ws_try {Wd : Str → Option Str} {b : Ev Out} : Ws (tryW Wd b) M P = Ws b M { P with ex := fun c M1 => match Wd c with | some x => P.rt (.str x) M1 | none => False } := by
  unfold Ws tryW
  cases b M with
  | ok o M1 => cases o <;> rfl
  | no => rfl
  | ex c M1 =>
    dsimp only
    cases Wd c <;> rfl
/-- a call -/
theorem Wp_fin {ar n : Nat} {f : Env → Ev Out} {vs : List D} {Q : PQ D} (h : vs.length = ar) : Wp (finF ar n f vs) M Q E = Ws (f (vs.map some ++ List.replicate (n - vs.length) none)) M ⟨fun _ M1 => Q .non M1, Q, fun _ _ => False, fun _ _ => False, E⟩ := by
  unfold Wp Ws finF
  rw [if_pos h]
  cases f (vs.map some ++ List.replicate (n - vs.length) none) M with
  | ok o M1 => cases o <;> rfl
  | ex c M1 => rfl
  | no => rfl
/-- a cell comes to the memory -/
def al (M : Mem) (c : Cell) : Mem := M ++ [c]
/-! #### loops -/
/-- a for: I i e M holds before the turn i -/
theorem Ws_for {s : Src} {tg : D → Env → Option Env} {body : Env → Ev Out} {e : Env} {n : Nat} (I : Nat → Env → Mem → Prop) (hn : s.len M = some n) (h0 : I 0 e M)
    (step : ∀ i e M, i < n → I i e M → ∃ d e1, s.at_ M i = some d ∧ tg d e = some e1 ∧ Ws (body e1) M ⟨I (i + 1), P.rt, P.nx, I (i + 1), P.ex⟩)
    (last : ∀ e M, I n e M → s.len M = some n ∧ P.nx e M) : Ws (forS s tg body e) M P := by
  have go : ∀ (k i : Nat) (e : Env) (M : Mem), i + k = n → I i e M → Ws (forGo s tg body k i e) M P := by
    intro k
    induction k with
    | zero =>
      intro i e M hk hi
      have : i = n := by omega
      subst this
      obtain ⟨h1, h2⟩ := last e M hi
      unfold Ws forGo
      rw [if_pos h1]
      exact h2
    | succ k ih =>
      intro i e M hk hi
      obtain ⟨d, e1, h1, h2, h3⟩ := step i e M (by omega) hi
      unfold Ws forGo
      rw [h1]
      dsimp only
      rw [h2]
      dsimp only
      unfold Ws at h3
      cases hb : body e1 M with
      | no => rw [hb] at h3; exact h3
      | ex c M2 => rw [hb] at h3; exact h3
      | ok o M2 =>
        rw [hb] at h3
        cases o with
        | nx e2 => exact ih (i + 1) e2 M2 (by omega) h3
        | ct e2 => exact ih (i + 1) e2 M2 (by omega) h3
        | bk e2 => exact h3
        | rt d => exact h3
  have z := go n 0 e M (by omega) h0
  unfold Ws at z ⊢
  unfold forS
  rw [hn]
  exact z
/-- a while: I k e M holds ahead of the test, at most k turns are left -/
theorem Ws_while {t : Env → Ev Bool} {body : Env → Ev Out} {e : Env} (I : Nat → Env → Mem → Prop) (n : Nat) (hn : n < WF) (h0 : I n e M)
    (step : ∀ k e M, I k e M → Wp (t e) M (fun b M1 => if b = true then Ws (body e) M1 ⟨fun e2 M2 => ∃ j, j < k ∧ I j e2 M2, P.rt, P.nx, fun e2 M2 => ∃ j, j < k ∧ I j e2 M2, P.ex⟩ else P.nx e M1) P.ex) : Ws (whileGo t body WF e) M P := by
  have go : ∀ (f k : Nat) (e : Env) (M : Mem), k < f → I k e M → Ws (whileGo t body f e) M P := by
    intro f
    induction f with
    | zero => intro k e M h; omega
    | succ f ih =>
      intro k e M hk hi
      have h3 := step k e M hi
      unfold Wp at h3
      unfold Ws whileGo
      cases ht : t e M with
      | no => rw [ht] at h3; exact h3
      | ex c M1 => rw [ht] at h3; exact h3
      | ok b M1 =>
        rw [ht] at h3
        cases b with
        | false => exact h3
        | true =>
          have h4 : Ws (body e) M1 ⟨fun e2 M2 => ∃ j, j < k ∧ I j e2 M2, P.rt, P.nx, fun e2 M2 => ∃ j, j < k ∧ I j e2 M2, P.ex⟩ := h3
          unfold Ws at h4
          dsimp only
          cases hb : body e M1 with
          | no => rw [hb] at h4; exact h4
          | ex c M2 => rw [hb] at h4; exact h4
          | ok o M2 =>
            rw [hb] at h4
            cases o with
            | nx e2 =>
              obtain ⟨j, hj, hi2⟩ := h4
              exact ih j e2 M2 (by omega) hi2
            | ct e2 =>
              obtain ⟨j, hj, hi2⟩ := h4
              exact ih j e2 M2 (by omega) hi2
            | bk e2 => exact h4
            | rt d => exact h4
  exact go WF n e M hn h0
/-- a comprehension -/
theorem Wp_lc {s : Src} {tg : D → Env → Option Env} {tst : Env → Ev Bool} {elt : Env → Ev D} {e : Env} {n : Nat} {Q : PQ D} (I : Nat → List D → Mem → Prop) (hn : s.len M = some n) (hz : n ≤ 16777216) (h0 : I 0 [] M)
    (step : ∀ i acc M, i < n → I i acc M → ∃ d e1, s.at_ M i = some d ∧ tg d e = some e1 ∧ Wp (tst e1) M (fun b M1 => if b = true then Wp (elt e1) M1 (fun v M2 => I (i + 1) (acc ++ [v]) M2) (fun _ _ => False) else I (i + 1) acc M1) fun _ _ => False)
    (last : ∀ acc M, I n acc M → s.len M = some n ∧ Q (.ref M.length) (al M (.lst acc))) : Wp (lcS s tg tst elt e) M Q E := by
  have go : ∀ (k i : Nat) (acc : List D) (M : Mem), i + k = n → I i acc M → ∃ a M1, lcGo s tg tst elt e k i acc M = .ok a M1 ∧ I n a M1 := by
    intro k
    induction k with
    | zero =>
      intro i acc M hk hi
      have : i = n := by omega
      subst this
      refine ⟨acc, M, ?_, hi⟩
      unfold lcGo
      rw [if_pos (last acc M hi).1]
    | succ k ih =>
      intro i acc M hk hi
      obtain ⟨d, e1, h1, h2, h3⟩ := step i acc M (by omega) hi
      unfold lcGo
      rw [h1]
      dsimp only
      rw [h2]
      dsimp only
      obtain ⟨b, M1, hb, h4⟩ := h3.ok
      rw [hb]
      cases b with
      | false => exact ih (i + 1) acc M1 (by omega) h4
      | true =>
        have h5 : Wp (elt e1) M1 (fun v M2 => I (i + 1) (acc ++ [v]) M2) (fun _ _ => False) := h4
        obtain ⟨v, M2, hv, h6⟩ := h5.ok
        dsimp only
        rw [hv]
        exact ih (i + 1) (acc ++ [v]) M2 (by omega) h6
  obtain ⟨a, M1, h1, h2⟩ := go n 0 [] M (by omega) h0
  unfold Wp lcS
  rw [hn]
  dsimp only
  rw [if_pos hz]
  unfold bnd
  rw [h1]
  exact (last a M1 h2).2
/-- .. that only looks at its items -/
theorem Wp_lcP {s : Src} {tg : D → Env → Option Env} {tst : Env → Ev Bool} {elt : Env → Ev D} {e : Env} {n : Nat} {Q : PQ D} (g : Nat → Option D) (hn : s.len M = some n) (hz : n ≤ 16777216)
    (step : ∀ i, i < n → ∃ d e1, s.at_ M i = some d ∧ tg d e = some e1 ∧ Wp (tst e1) M (fun b M1 => M1 = M ∧ if b = true then Wp (elt e1) M (fun v M2 => M2 = M ∧ g i = some v) (fun _ _ => False) else g i = none) fun _ _ => False)
    (last : Q (.ref M.length) (al M (.lst ((List.range n).filterMap g)))) : Wp (lcS s tg tst elt e) M Q E := by
  refine Wp_lc (fun i acc M1 => M1 = M ∧ acc = (List.range i).filterMap g) hn hz ⟨rfl, rfl⟩ ?_ ?_
  · rintro i acc M1 hi ⟨rfl, rfl⟩
    obtain ⟨d, e1, h1, h2, h3⟩ := step i hi
    refine ⟨d, e1, h1, h2, h3.mono ?_⟩
    rintro b M2 ⟨rfl, h4⟩
    cases b with
    | false =>
      rw [if_neg Bool.false_ne_true] at h4 ⊢
      exact ⟨rfl, by simp [List.range_succ, h4]⟩
    | true =>
      rw [if_pos rfl] at h4 ⊢
      refine h4.mono ?_
      rintro v M3 ⟨rfl, h5⟩
      exact ⟨rfl, by simp [List.range_succ, h5]⟩
  · rintro acc M1 ⟨rfl, rfl⟩
    exact ⟨hn, last⟩
end
end Pf
set_option maxHeartbeats 4000000
/-! Pf: what each operation leads to. -/
namespace Pf
open PySem PySem.Spec
open L2 (atI ixN)
def oG {α : Type} (o : Option α) (k : α → Prop) : Prop := match o with
  | some a => k a
  | none => False
def gG (o : Option (Option D)) (k : D → Prop) : Prop := match o with
  | some (some a) => k a
  | _ => False
def lG (o : Option Cell) (k : List D → Prop) : Prop := match o with
  | some (.lst a) => k a
  | _ => False
@[simp] theorem oG_some {α : Type} {a : α} {k : α → Prop} : oG (some a) k = k a := rfl
@[simp] theorem oG_none {α : Type} {k : α → Prop} : oG none k = False := rfl
@[simp] theorem gG_some {a : D} {k : D → Prop} : gG (some (some a)) k = k a := rfl
@[simp] theorem lG_some {a : List D} {k : List D → Prop} : lG (some (.lst a)) k = k a := rfl
def cG (o : Option Cell) (k : List D → Prop) (kd : List (L2.Key × D) → Prop) : Prop := match o with
  | some (.lst a) => k a
  | some (.dct a) => kd a
  | _ => False
@[simp] theorem cG_l {a : List D} {k : List D → Prop} {kd : List (L2.Key × D) → Prop} : cG (some (.lst a)) k kd = k a := rfl
@[simp] theorem cG_d {a : List (L2.Key × D)} {k : List D → Prop} {kd : List (L2.Key × D) → Prop} : cG (some (.dct a)) k kd = kd a := rfl
theorem oG_iff {α : Type} {o : Option α} {k : α → Prop} : oG o k ↔ ∃ a, o = some a ∧ k a := by cases o <;> simp
theorem lG_iff {o : Option Cell} {k : List D → Prop} : lG o k ↔ ∃ a, o = some (.lst a) ∧ k a := by
  unfold lG
  split
  · rename_i a; constructor
    · exact fun h => ⟨a, rfl, h⟩
    · rintro ⟨b, e, h⟩; cases e; exact h
  · rename_i h; constructor
    · exact False.elim
    · rintro ⟨b, e, _⟩; exact h b e
def rP {α : Type} (r : Res α) (Q : PQ α) (E : PE0) : Prop := match r with
  | .ok a M' => Q a M'
  | .ex c M' => E c M'
  | .no => False
theorem rP_if {α : Type} {p : Prop} [Decidable p] {a : α} {M : Mem} {Q : PQ α} {E : PE0} : rP (if p then .ok a M else .no) Q E = (p ∧ Q a M) := by
  by_cases h : p
  · rw [if_pos h]; simp [rP, h]
  · rw [if_neg h]; simp [rP, h]
section
variable {α β : Type} {M : Mem} {E : PE0} {P : Po}

@[simp] theorem w_get {i : Nat} {e : Env} {Q : PQ D} : Wp (getS i e) M Q E = gG e[i]? fun d => Q d M := by
  unfold Wp getS gG
  cases e[i]? with
  | none => rfl
  | some o => cases o <;> rfl
theorem w_opt {o : Option α} {f : α → Ev β} {Q : PQ β} : Wp (opt o f) M Q E = oG o fun a => Wp (f a) M Q E := by cases o <;> rfl
@[simp] theorem w_addI {i j : Int} {Q : PQ D} : Wp (dAdd (.int i) (.int j)) M Q E = Q (.int (i + j)) M := rfl
@[simp] theorem w_addS {i j : Str} {Q : PQ D} : Wp (dAdd (.str i) (.str j)) M Q E = (i.length + j.length ≤ 16777216 ∧ Q (.str (i ++ j)) M) := by
  exact rP_if
@[simp] theorem w_addT {xs ys : List D} {Q : PQ D} : Wp (dAdd (.tup xs) (.tup ys)) M Q E = (xs.length + ys.length ≤ 16777216 ∧ Q (.tup (xs ++ ys)) M) := by
  exact rP_if
@[simp] theorem w_newl {ds : List D} {Q : PQ D} : Wp (newl ds) M Q E = (ds.length ≤ 16777216 ∧ Q (.ref M.length) (al M (.lst ds))) := by
  exact rP_if
@[simp] theorem w_newt {ds : List D} {Q : PQ D} : Wp (newt ds) M Q E = (ds.length ≤ 16777216 ∧ Q (.tup ds) M) := by
  exact rP_if
@[simp] theorem w_newD {kvs : List (L2.Key × D)} {Q : PQ D} : Wp (newD kvs) M Q E = Q (.ref M.length) (al M (.dct kvs)) := rfl
@[simp] theorem w_mkDict {ps : List (D × D)} {Q : PQ D} : Wp (mkDict ps) M Q E = oG (keysP ps) fun kvs => Q (.ref M.length) (al M (.dct (mergeD [] kvs))) := by
  unfold Wp mkDict
  cases keysP ps <;> rfl
@[simp] theorem w_addL {n m : Nat} {Q : PQ D} : Wp (dAdd (.ref n) (.ref m)) M Q E = lG M[n]? fun xs => lG M[m]? fun ys => (xs ++ ys).length ≤ 16777216 ∧ Q (.ref M.length) (al M (.lst (xs ++ ys))) := by
  unfold Wp dAdd lG
  dsimp only
  cases M[n]? with
  | none => rfl
  | some c =>
    cases c with
    | dct _ => rfl
    | fdc _ => rfl
    | obj _ _ => rfl
    | lst xs =>
      cases M[m]? with
      | none => rfl
      | some c =>
        cases c with
        | dct _ => rfl
        | fdc _ => rfl
        | obj _ _ => rfl
        | lst ys => exact w_newl (E := E)
@[simp] theorem w_sub {i j : Int} {Q : PQ D} : Wp (dSub (.int i) (.int j)) M Q E = Q (.int (i - j)) M := rfl
@[simp] theorem w_mulS {z : Str} {k : Int} {Q : PQ D} : Wp (dMul (.str z) (.int k)) M Q E = ((2 ≤ k ∧ k ≤ 1000 ∧ z.length ≤ 1000) ∧ Q (.str (Txt.mul z k)) M) := rP_if
@[simp] theorem w_mul {i j : Int} {Q : PQ D} : Wp (dMul (.int i) (.int j)) M Q E = (mulOk i j = true ∧ Q (.int (i * j)) M) := by
  exact rP_if
@[simp] theorem w_mulT {xs : List D} {k : Int} {Q : PQ D} : Wp (dMul (.tup xs) (.int k)) M Q E = ((xs ≠ [] ∧ 2 ≤ k ∧ k ≤ 1000 ∧ xs.length ≤ 1000 ∧ prsD (List.replicate k.toNat xs).flatten = false) ∧ (List.replicate k.toNat xs).flatten.length ≤ 16777216 ∧ Q (.tup (List.replicate k.toNat xs).flatten) M) := by
  unfold Wp dMul
  dsimp only
  by_cases h : xs ≠ [] ∧ 2 ≤ k ∧ k ≤ 1000 ∧ xs.length ≤ 1000 ∧ prsD (List.replicate k.toNat xs).flatten = false
  · rw [if_pos h]
    exact (w_newt (E := E)).trans (by simp [h])
  · rw [if_neg h]; simp only [h, false_and]
@[simp] theorem w_mulL {n : Nat} {k : Int} {Q : PQ D} : Wp (dMul (.ref n) (.int k)) M Q E = lG M[n]? fun xs => k.natAbs < 16777216 ∧ (List.replicate k.toNat xs).flatten.length ≤ 16777216 ∧ Q (.ref M.length) (al M (.lst (List.replicate k.toNat xs).flatten)) := by
  unfold Wp dMul lG
  dsimp only
  cases M[n]? with
  | none => rfl
  | some c =>
    cases c with
    | dct _ => rfl
    | fdc _ => rfl
    | obj _ _ => rfl
    | lst xs =>
      dsimp only
      by_cases h : k.natAbs < 16777216
      · rw [if_pos h]
        exact (w_newl (E := E)).trans (by simp [h])
      · rw [if_neg h]; simp only [h, false_and]
@[simp] theorem w_div {i j : Int} {Q : PQ D} : Wp (dDiv (.int i) (.int j)) M Q E = (divOk j = true ∧ Q (.int (i / j)) M) := by
  exact rP_if
@[simp] theorem w_mod {i j : Int} {Q : PQ D} : Wp (dMod (.int i) (.int j)) M Q E = (0 < j ∧ Q (.int (i % j)) M) := by
  exact rP_if
@[simp] theorem w_pow {i j : Int} {Q : PQ D} : Wp (dPow (.int i) (.int j)) M Q E = (powOk i j = true ∧ Q (.int (i ^ j.toNat)) M) := by
  exact rP_if
@[simp] theorem w_neg {i : Int} {Q : PQ D} : Wp (dNeg (.int i)) M Q E = Q (.int (-i)) M := rfl
@[simp] theorem w_lt {i j : Int} {Q : PQ D} : Wp (dCmp .Lt (.int i) (.int j)) M Q E = Q (.bl (decide (i < j))) M := rfl
@[simp] theorem w_le {i j : Int} {Q : PQ D} : Wp (dCmp .LtE (.int i) (.int j)) M Q E = Q (.bl (decide (i ≤ j))) M := rfl
@[simp] theorem w_gt {i j : Int} {Q : PQ D} : Wp (dCmp .Gt (.int i) (.int j)) M Q E = Q (.bl (decide (j < i))) M := rfl
@[simp] theorem w_ge {i j : Int} {Q : PQ D} : Wp (dCmp .GtE (.int i) (.int j)) M Q E = Q (.bl (decide (j ≤ i))) M := rfl
@[simp] theorem w_eq {x y : D} {Q : PQ D} : Wp (dCmp .Eq x y) M Q E = oG (dEq x y M) fun b => Q (.bl b) M := by
  unfold Wp dCmp
  dsimp only
  cases dEq x y M <;> rfl
@[simp] theorem w_ne {x y : D} {Q : PQ D} : Wp (dCmp .NotEq x y) M Q E = oG (dEq x y M) fun b => Q (.bl (!b)) M := by
  unfold Wp dCmp
  dsimp only
  cases dEq x y M <;> rfl
@[simp] theorem q_int {i j : Int} : dEq (.int i) (.int j) M = some (i == j) := rfl
@[simp] theorem q_str {i j : Str} : dEq (.str i) (.str j) M = some (i == j) := rfl
@[simp] theorem q_bl {i j : Bool} : dEq (.bl i) (.bl j) M = some (i == j) := rfl
@[simp] theorem w_is {neg : Bool} {c : Const} {x : D} {Q : PQ D} : Wp (isE neg c x) M Q E = oG (dIs x c) fun b => Q (.bl (if neg then !b else b)) M := by
  unfold isE
  rw [w_opt]; rfl
@[simp] theorem w_revT {xs : List D} {Q : PQ D} : Wp (dRev (.tup xs)) M Q E = Q (.tup xs.reverse) M := rfl
@[simp] theorem w_idxT {xs : List D} {i : Int} {Q : PQ D} : Wp (dIdx (.tup xs) (.int i)) M Q E = oG (atI xs i) fun v => Q v M := by
  show rP (match atI xs i with | some v => Res.ok v M | none => .no) Q E = _
  cases atI xs i <;> rfl
@[simp] theorem w_idxF {xs : List D} {i : Int} {Q : PQ D} : Wp (dIdx (.frz xs) (.int i)) M Q E = oG (atI xs i) fun v => Q v M := by
  show rP (match atI xs i with | some v => Res.ok v M | none => .no) Q E = _
  cases atI xs i <;> rfl
def cIx (c : Option Cell) (k : L2.Key) : Option D := match c with
  | some (.lst xs) => (match k with
    | .inl i => atI xs i
    | .inr _ => none)
  | some (.dct kvs) => valD kvs k
  | some (.fdc kvs) => valD kvs k
  | some (.obj _ _) => none
  | none => none
@[simp] theorem cIx_l {xs : List D} {i : Int} : cIx (some (.lst xs)) (.inl i) = atI xs i := rfl
@[simp] theorem cIx_f {kvs : List (L2.Key × D)} {k : L2.Key} : cIx (some (.fdc kvs)) k = valD kvs k := rfl
@[simp] theorem cIx_d {kvs : List (L2.Key × D)} {k : L2.Key} : cIx (some (.dct kvs)) k = valD kvs k := rfl
def cLn (c : Option Cell) : Option Int := match c with
  | some (.lst xs) => some xs.length
  | some (.dct kvs) => some kvs.length
  | _ => none
@[simp] theorem cLn_l {xs : List D} : cLn (some (.lst xs)) = some (xs.length : Int) := rfl
@[simp] theorem cLn_d {kvs : List (L2.Key × D)} : cLn (some (.dct kvs)) = some (kvs.length : Int) := rfl
def cSt (c : Option Cell) (k : L2.Key) (v : D) : Option Cell := match c with
  | some (.lst xs) => (match k with
    | .inl i => (ixN xs.length i).map fun j => .lst (xs.set j v)
    | .inr _ => none)
  | some (.dct kvs) => if kvs.length < 16777216 then some (.dct (putD kvs k v)) else none
  | _ => none
@[simp] theorem cSt_l {xs : List D} {i : Int} {v : D} : cSt (some (.lst xs)) (.inl i) v = (ixN xs.length i).map fun j => .lst (xs.set j v) := rfl
@[simp] theorem cSt_d {kvs : List (L2.Key × D)} {k : L2.Key} {v : D} : cSt (some (.dct kvs)) k v = if kvs.length < 16777216 then some (.dct (putD kvs k v)) else none := rfl
@[simp] theorem w_idxL {n : Nat} {i : Int} {Q : PQ D} : Wp (dIdx (.ref n) (.int i)) M Q E = oG (cIx M[n]? (.inl i)) fun v => Q v M := by
  unfold Wp dIdx dctOf fdcOf dIdxS items cIx
  dsimp only
  cases M[n]? with
  | none => rfl
  | some c =>
    cases c with
    | dct kvs =>
      show rP (match valD kvs (.inl i) with | some v => Res.ok v M | none => .no) Q E = _
      dsimp only
      cases valD kvs (.inl i) <;> rfl
    | fdc kvs2 =>
      show rP (match valD kvs2 (.inl i) with | some v => Res.ok v M | none => .no) Q E = _
      dsimp only
      cases valD kvs2 (.inl i) <;> rfl
    | obj _ _ => rfl
    | lst xs =>
      dsimp only
      cases atI xs i <;> rfl
@[simp] theorem w_idxK {n : Nat} {i : Str} {Q : PQ D} : Wp (dIdx (.ref n) (.str i)) M Q E = oG (cIx M[n]? (.inr i)) fun v => Q v M := by
  unfold Wp dIdx dctOf fdcOf dIdxS items cIx
  dsimp only
  cases M[n]? with
  | none => rfl
  | some c =>
    cases c with
    | dct kvs =>
      show rP (match valD kvs (.inr i) with | some v => Res.ok v M | none => .no) Q E = _
      dsimp only
      cases valD kvs (.inr i) <;> rfl
    | fdc kvs2 =>
      show rP (match valD kvs2 (.inr i) with | some v => Res.ok v M | none => .no) Q E = _
      dsimp only
      cases valD kvs2 (.inr i) <;> rfl
    | obj _ _ => rfl
    | lst xs => rfl
@[simp] theorem w_slT {xs : List D} {lo hi : Option Int} {Q : PQ D} : Wp (dSlice (.tup xs) lo hi) M Q E = Q (.tup (cutD xs lo hi)) M := rfl
@[simp] theorem w_slL {n : Nat} {lo hi : Option Int} {Q : PQ D} : Wp (dSlice (.ref n) lo hi) M Q E = lG M[n]? fun xs => (cutD xs lo hi).length ≤ 16777216 ∧ Q (.ref M.length) (al M (.lst (cutD xs lo hi))) := by
  unfold Wp dSlice items lG
  dsimp only
  cases M[n]? with
  | none => rfl
  | some c =>
    cases c with
    | dct _ => rfl
    | fdc _ => rfl
    | obj _ _ => rfl
    | lst xs => exact w_newl (E := E)
@[simp] theorem w_slF {xs : List D} {lo hi : Option Int} {Q : PQ D} : Wp (dSlice (.frz xs) lo hi) M Q E = ((cutD xs lo hi).length ≤ 16777216 ∧ Q (.ref M.length) (al M (.lst (cutD xs lo hi)))) := by
  unfold Wp dSlice items
  exact w_newl (E := E)
@[simp] theorem w_part {i : Int} {Q : PQ (Option Int)} : Wp (toPart (.int i)) M Q E = Q (some i) M := rfl
@[simp] theorem w_lenT {xs : List D} {Q : PQ D} : Wp (dLen (.tup xs)) M Q E = Q (.int xs.length) M := rfl
@[simp] theorem w_lenF {xs : List D} {Q : PQ D} : Wp (dLen (.frz xs)) M Q E = Q (.int xs.length) M := rfl
@[simp] theorem w_lenL {n : Nat} {Q : PQ D} : Wp (dLen (.ref n)) M Q E = oG (cLn M[n]?) fun k => Q (.int k) M := by
  unfold Wp dLen cLn
  dsimp only
  cases M[n]? with
  | none => rfl
  | some c => cases c <;> rfl
@[simp] theorem w_lenS {z : Str} {Q : PQ D} : Wp (dLen (.str z)) M Q E = (z.length ≤ 16777216 ∧ Q (.int z.length) M) := by
  exact rP_if
@[simp] theorem w_allL {n : Nat} {Q : PQ D} : Wp (dAll (.ref n)) M Q E = lG M[n]? fun xs => oG (allB xs) fun b => Q (.bl b) M := by
  unfold Wp dAll items lG
  dsimp only
  cases M[n]? with
  | none => rfl
  | some c =>
    cases c with
    | dct _ => rfl
    | fdc _ => rfl
    | obj _ _ => rfl
    | lst xs => dsimp only; cases allB xs <;> rfl
@[simp] theorem w_anyL {n : Nat} {Q : PQ D} : Wp (dAny (.ref n)) M Q E = lG M[n]? fun xs => oG (anyB xs) fun b => Q (.bl b) M := by
  unfold Wp dAny items lG
  dsimp only
  cases M[n]? with
  | none => rfl
  | some c =>
    cases c with
    | dct _ => rfl
    | fdc _ => rfl
    | obj _ _ => rfl
    | lst xs => dsimp only; cases anyB xs <;> rfl
@[simp] theorem w_sumT {xs : List D} {Q : PQ D} : Wp (dSum (.tup xs)) M Q E = oG (sumI xs) fun b => Q (.int b) M := by
  unfold Wp dSum
  dsimp only
  cases sumI xs <;> rfl
@[simp] theorem w_sumL {n : Nat} {Q : PQ D} : Wp (dSum (.ref n)) M Q E = lG M[n]? fun xs => oG (sumI xs) fun b => Q (.int b) M := by
  unfold Wp dSum dSumL items lG
  dsimp only
  cases M[n]? with
  | none => rfl
  | some c =>
    cases c with
    | dct _ => rfl
    | fdc _ => rfl
    | obj _ _ => rfl
    | lst xs => dsimp only; cases sumI xs <;> rfl
@[simp] theorem w_max {i j : Int} {Q : PQ D} : Wp (dMax2 (.int i) (.int j)) M Q E = Q (.int (if j > i then j else i)) M := rfl
@[simp] theorem w_min {i j : Int} {Q : PQ D} : Wp (dMin2 (.int i) (.int j)) M Q E = Q (.int (if j < i then j else i)) M := rfl
@[simp] theorem w_listT {xs : List D} {Q : PQ D} : Wp (dList (.tup xs)) M Q E = (xs.length ≤ 16777216 ∧ Q (.ref M.length) (al M (.lst xs))) := w_newl
@[simp] theorem w_listF {xs : List D} {Q : PQ D} : Wp (dList (.frz xs)) M Q E = (xs.length ≤ 16777216 ∧ Q (.ref M.length) (al M (.lst xs))) := w_newl
def iG (o : Option Cell) (k : List D → Prop) : Prop := match o with
  | some (.lst a) => k a
  | some (.dct a) => k (a.map fun kv => kD kv.1)
  | _ => False
@[simp] theorem iG_l {a : List D} {k : List D → Prop} : iG (some (.lst a)) k = k a := rfl
@[simp] theorem iG_d {a : List (L2.Key × D)} {k : List D → Prop} : iG (some (.dct a)) k = k (a.map fun kv => kD kv.1) := rfl
@[simp] theorem w_listL {n : Nat} {Q : PQ D} : Wp (dList (.ref n)) M Q E = iG M[n]? fun xs => xs.length ≤ 16777216 ∧ Q (.ref M.length) (al M (.lst xs)) := by
  unfold Wp dList items iG dctOf
  dsimp only
  cases M[n]? with
  | none => rfl
  | some c =>
    cases c with
    | dct kvs => exact w_newl (E := E)
    | fdc _ => rfl
    | obj _ _ => rfl
    | lst xs => exact w_newl (E := E)
@[simp] theorem w_tupT {xs : List D} {Q : PQ D} : Wp (dTuple (.tup xs)) M Q E = Q (.tup xs) M := rfl
@[simp] theorem w_tupL {n : Nat} {Q : PQ D} : Wp (dTuple (.ref n)) M Q E = lG M[n]? fun xs => xs.length ≤ 16777216 ∧ Q (.tup xs) M := by
  unfold Wp dTuple items lG
  dsimp only
  cases M[n]? with
  | none => rfl
  | some c =>
    cases c with
    | dct _ => rfl
    | fdc _ => rfl
    | obj _ _ => rfl
    | lst xs => exact w_newt (E := E)
@[simp] theorem w_intI {i : Int} {Q : PQ D} : Wp (dInt (.int i)) M Q E = Q (.int i) M := rfl
@[simp] theorem w_intB {b : Bool} {Q : PQ D} : Wp (dInt (.bl b)) M Q E = Q (.int (if b then 1 else 0)) M := rfl
@[simp] theorem w_repr {d : D} {Q : PQ D} : Wp (dRepr d) M Q E = oG (dShown d M) fun s => Q (.str s) M := by
  unfold Wp dRepr
  cases dShown d M <;> rfl
/-- isinstance, by the type that is asked for -/
def tyI (x : D) (M : Mem) (k : String → Bool) : Option Bool := (dTy x M).map k
@[simp] theorem w_isA {T : List Str} {x : D} {Q : PQ D} : Wp (isiA T x) M Q E = oG (dIsA x T M) fun b => Q (.bl b) M := by
  unfold Wp isiA
  cases dIsA x T M <;> rfl
@[simp] theorem w_isi {T : Str} {x : D} {Q : PQ D} : Wp (isiE T x) M Q E = oG (dIsi x T M) fun b => Q (.bl b) M := by
  unfold Wp isiE
  cases dIsi x T M <;> rfl
@[simp] theorem i_int {i : Int} : dIsi (.int i) "int" M = some true := rfl
@[simp] theorem i_intB {b : Bool} : dIsi (.bl b) "int" M = some true := rfl
@[simp] theorem i_intN : dIsi .non "int" M = some false := rfl
@[simp] theorem i_intS {s : Str} : dIsi (.str s) "int" M = some false := rfl
@[simp] theorem i_intT {xs : List D} : dIsi (.tup xs) "int" M = some false := rfl
@[simp] theorem i_bl {i : Int} : dIsi (.int i) "bool" M = some false := rfl
@[simp] theorem i_blB {b : Bool} : dIsi (.bl b) "bool" M = some true := rfl
@[simp] theorem i_blN : dIsi .non "bool" M = some false := rfl
@[simp] theorem i_blS {s : Str} : dIsi (.str s) "bool" M = some false := rfl
@[simp] theorem i_blT {xs : List D} : dIsi (.tup xs) "bool" M = some false := rfl
@[simp] theorem i_tp {i : Int} : dIsi (.int i) "tuple" M = some false := rfl
@[simp] theorem i_tpB {b : Bool} : dIsi (.bl b) "tuple" M = some false := rfl
@[simp] theorem i_tpN : dIsi .non "tuple" M = some false := rfl
@[simp] theorem i_tpS {s : Str} : dIsi (.str s) "tuple" M = some false := rfl
@[simp] theorem i_tpT {xs : List D} : dIsi (.tup xs) "tuple" M = some true := rfl
@[simp] theorem i_st {i : Int} : dIsi (.int i) "str" M = some false := rfl
@[simp] theorem i_stB {b : Bool} : dIsi (.bl b) "str" M = some false := rfl
@[simp] theorem i_stN : dIsi .non "str" M = some false := rfl
@[simp] theorem i_stS {s : Str} : dIsi (.str s) "str" M = some true := rfl
@[simp] theorem i_stT {xs : List D} : dIsi (.tup xs) "str" M = some false := rfl
@[simp] theorem i_ls {i : Int} : dIsi (.int i) "list" M = some false := rfl
@[simp] theorem i_lsB {b : Bool} : dIsi (.bl b) "list" M = some false := rfl
@[simp] theorem i_lsN : dIsi .non "list" M = some false := rfl
@[simp] theorem i_lsS {s : Str} : dIsi (.str s) "list" M = some false := rfl
@[simp] theorem i_lsT {xs : List D} : dIsi (.tup xs) "list" M = some false := rfl
/-- a cell that is no dict that is walked -/
abbrev LC := {c : Cell // (match c with | .lst _ => True | .dct _ => True | _ => False)}
theorem i_ref {n : Nat} {c : LC} (h : M[n]? = some c.1) : dIsi (.ref n) "int" M = some false ∧ dIsi (.ref n) "bool" M = some false ∧ dIsi (.ref n) "str" M = some false ∧ dIsi (.ref n) "tuple" M = some false := by
  obtain ⟨c, hc⟩ := c
  cases c with
  | fdc k => exact hc.elim
  | obj k l => exact hc.elim
  | lst xs => unfold dIsi dTy; dsimp only; rw [h]; exact ⟨rfl, rfl, rfl, rfl⟩
  | dct xs => unfold dIsi dTy; dsimp only; rw [h]; exact ⟨rfl, rfl, rfl, rfl⟩
@[simp] theorem w_srcL {n : Nat} {Q : PQ Src} : Wp (srcOf (.ref n)) M Q E = lG M[n]? fun _ => Q (.lst n) M := by
  unfold Wp srcOf lG
  dsimp only
  cases M[n]? with
  | none => rfl
  | some c => cases c <;> rfl
@[simp] theorem w_srcT {xs : List D} {Q : PQ Src} : Wp (srcOf (.tup xs)) M Q E = Q (.tup xs) M := rfl
@[simp] theorem w_srcF {xs : List D} {Q : PQ Src} : Wp (srcOf (.frz xs)) M Q E = Q (.frz xs) M := rfl
@[simp] theorem w_r1 {j : Int} {Q : PQ Src} : Wp (srcR [.int j]) M Q E = (inR j = true ∧ Q (.rng 0 1 j.toNat) M) := by
  exact rP_if
@[simp] theorem w_r2 {i j : Int} {Q : PQ Src} : Wp (srcR [.int i, .int j]) M Q E = ((inR i = true ∧ inR j = true) ∧ Q (.rng i 1 (j - i).toNat) M) := by
  exact rP_if
@[simp] theorem w_r3 {i j c : Int} {Q : PQ Src} : Wp (srcR [.int i, .int j, .int c]) M Q E = ((inR i = true ∧ inR j = true ∧ c = -1) ∧ Q (.rng i (-1) (i - j).toNat) M) := by
  exact rP_if
@[simp] theorem w_W1 {j : Int} {Q : PQ Src} : Wp (srcW [.int j]) M Q E = (inR j = true ∧ Q (.rng 0 1 j.toNat) M) := w_r1
@[simp] theorem w_W2 {i j : Int} {Q : PQ Src} : Wp (srcW [.int i, .int j]) M Q E = Q (.rng i 1 (j - i).toNat) M := rfl
@[simp] theorem w_W3 {i j c : Int} {Q : PQ Src} : Wp (srcW [.int i, .int j, .int c]) M Q E = ((inR i = true ∧ inR j = true ∧ c = -1) ∧ Q (.rng i (-1) (i - j).toNat) M) := w_r3
@[simp] theorem w_unR {lo c : Int} {k : Nat} {Q : PQ D} : Wp (unRng (.rng lo c k)) M Q E = (k ≤ 16777216 ∧ Q (.ref M.length) (al M (.lst ((List.range k).map fun (i : Nat) => .int (lo + (i : Int) * c))))) := by
  show Wp (newl _) M Q E = _
  rw [w_newl]
  simp
@[simp] theorem w_unT {lo c : Int} {k : Nat} {Q : PQ D} : Wp (unTup (.rng lo c k)) M Q E = (k ≤ 16777216 ∧ Q (.tup ((List.range k).map fun (i : Nat) => .int (lo + (i : Int) * c))) M) := by
  show Wp (newt _) M Q E = _
  rw [w_newt]
  simp
theorem w_lsetR {n : Nat} {ds : List D} {rs : List (List Int)} {Q : PQ D} (h : M[n]? = some (.lst ds)) (h2 : rowsI ds = some rs) : Wp (dLSet (.ref n)) M Q E = (rs.length < 64 ∧ Q (.int (dset rs : Nat)) M) := by
  unfold Wp dLSet
  dsimp only
  rw [h]
  dsimp only
  rw [h2]
  dsimp only
  exact rP_if
theorem w_dedup {n : Nat} {ds : List D} {prs : List (List L2.Key × D)} {Q : PQ D} (h : M[n]? = some (.lst ds)) (h2 : pairsT ds = some prs) : Wp (dDedup (.ref n)) M Q E = (((prs.foldl firstK []).map (·.2)).length ≤ 16777216 ∧ Q (.ref M.length) (al M (.lst ((prs.foldl firstK []).map (·.2))))) := by
  unfold Wp dDedup
  dsimp only
  rw [h]
  dsimp only
  rw [h2]
  dsimp only
  exact (w_newl (E := E))
theorem w_dictL {n : Nat} {ds : List D} {kvs : List (L2.Key × D)} {Q : PQ D} (h : M[n]? = some (.lst ds)) (h2 : pairsK ds = some kvs) : Wp (dDict (.ref n)) M Q E = Q (.ref M.length) (al M (.dct (mergeD [] kvs))) := by
  unfold Wp dDict
  dsimp only
  rw [h]
  dsimp only
  rw [h2]
  rfl
theorem w_dictD {n : Nat} {kvs : List (L2.Key × D)} {Q : PQ D} (h : M[n]? = some (.dct kvs)) : Wp (dDict (.ref n)) M Q E = Q (.ref M.length) (al M (.dct kvs)) := by
  unfold Wp dDict
  dsimp only
  rw [h]
  rfl
@[simp] theorem w_lset {ds : List D} {Q : PQ D} : Wp (dLSet (.tup ds)) M Q E = oG (intsOf ds) fun ns => ns.length ≤ 1000 ∧ Q (.int (dset ns : Nat)) M := by
  unfold Wp dLSet
  dsimp only
  cases intsOf ds with
  | none => rfl
  | some ns => exact rP_if
@[simp] theorem w_join {s : Str} {n : Nat} {Q : PQ D} : Wp (dJoin s (.ref n)) M Q E = lG M[n]? fun ds => oG (strsOf ds) fun ys => (ys.map (·.length)).sum + ys.length * s.length ≤ 16777216 ∧ Q (.str (Txt.join s ys)) M := by
  unfold Wp dJoin items lG
  dsimp only
  cases M[n]? with
  | none => rfl
  | some c =>
    cases c with
    | dct _ => rfl
    | fdc _ => rfl
    | obj _ _ => rfl
    | lst xs =>
      dsimp only
      cases strsOf xs with
      | none => rfl
      | some ys => exact rP_if
@[simp] theorem w_enL {n : Nat} {Q : PQ Src} : Wp (srcE [.ref n]) M Q E = lG M[n]? fun _ => Q (.enl n) M := by
  unfold Wp srcE lG
  dsimp only
  cases M[n]? with
  | none => rfl
  | some c => cases c <;> rfl
@[simp] theorem w_enT {xs : List D} {Q : PQ Src} : Wp (srcE [.tup xs]) M Q E = Q (.ent xs) M := rfl
@[simp] theorem w_zpT {xs ys : List D} {Q : PQ Src} : Wp (srcZ [.tup xs, .tup ys]) M Q E = Q (.zpt xs ys) M := rfl
@[simp] theorem w_zpM {n : Nat} {ys : List D} {Q : PQ Src} : Wp (srcZ [.ref n, .tup ys]) M Q E = lG M[n]? fun _ => Q (.zpm n ys) M := by
  unfold Wp srcZ lG
  dsimp only
  cases M[n]? with
  | none => rfl
  | some c => cases c <;> rfl
@[simp] theorem w_zpL {n m : Nat} {Q : PQ Src} : Wp (srcZ [.ref n, .ref m]) M Q E = lG M[n]? fun _ => lG M[m]? fun _ => Q (.zpl n m) M := by
  unfold Wp srcZ lG
  dsimp only
  cases M[n]? with
  | none => rfl
  | some c =>
    cases c with
    | dct _ => rfl
    | fdc _ => rfl
    | obj _ _ => rfl
    | lst xs =>
      cases M[m]? with
      | none => rfl
      | some c => cases c <;> rfl
@[simp] theorem w_ezL {n m : Nat} {Q : PQ Src} : Wp (srcEZ [.ref n, .ref m]) M Q E = lG M[n]? fun _ => lG M[m]? fun _ => Q (.enz n m) M := by
  unfold Wp srcEZ lG
  dsimp only
  cases M[n]? with
  | none => rfl
  | some c =>
    cases c with
    | dct _ => rfl
    | fdc _ => rfl
    | obj _ _ => rfl
    | lst xs =>
      cases M[m]? with
      | none => rfl
      | some c => cases c <;> rfl
@[simp] theorem w_chk {n : Nat} {Q : PQ Unit} : Wp (chkL (.ref n)) M Q E = lG M[n]? fun _ => Q () M := by
  unfold Wp chkL lG
  dsimp only
  cases M[n]? with
  | none => rfl
  | some c => cases c <;> rfl
@[simp] theorem w_app {n : Nat} {y : D} {Q : PQ D} : Wp (mAppend (.ref n) y) M Q E = lG M[n]? fun xs => xs.length < 16777216 ∧ Q .non (M.set n (.lst (xs ++ [y]))) := by
  unfold Wp mAppend lG
  dsimp only
  cases M[n]? with
  | none => rfl
  | some c =>
    cases c with
    | dct _ => rfl
    | fdc _ => rfl
    | obj _ _ => rfl
    | lst xs =>
      dsimp only
      by_cases h : xs.length < 16777216 <;> simp [h]
@[simp] theorem w_ext {n m : Nat} {Q : PQ D} : Wp (mExtend (.ref n) (.ref m)) M Q E = lG M[n]? fun xs => lG M[m]? fun ys => xs.length + ys.length ≤ 16777216 ∧ Q .non (M.set n (.lst (xs ++ ys))) := by
  unfold Wp mExtend lG
  dsimp only
  cases M[n]? with
  | none => rfl
  | some c =>
    cases c with
    | dct _ => rfl
    | fdc _ => rfl
    | obj _ _ => rfl
    | lst xs =>
      cases M[m]? with
      | none => rfl
      | some c =>
        cases c with
        | dct _ => rfl
        | fdc _ => rfl
        | obj _ _ => rfl
        | lst ys =>
          dsimp only
          by_cases h : xs.length + ys.length ≤ 16777216 <;> simp [h]
@[simp] theorem w_pop {n : Nat} {i : Int} {Q : PQ D} : Wp (mPopAt (.ref n) (.int i)) M Q E = lG M[n]? fun xs => oG (ixN xs.length i) fun k => oG xs[k]? fun v => i.natAbs < 16777216 ∧ Q v (M.set n (.lst (xs.eraseIdx k))) := by
  unfold Wp mPopAt lG
  dsimp only
  cases M[n]? with
  | none => rfl
  | some c =>
    cases c with
    | dct _ => rfl
    | fdc _ => rfl
    | obj _ _ => rfl
    | lst xs =>
      dsimp only
      cases ixN xs.length i with
      | none => rfl
      | some k =>
        dsimp only [oG_some]
        cases xs[k]? with
        | none => rfl
        | some v =>
          dsimp only [oG_some]
          by_cases h : i.natAbs < 16777216 <;> simp [h]
@[simp] theorem w_pop0 {n : Nat} {Q : PQ D} : Wp (mPop (.ref n)) M Q E = lG M[n]? fun xs => oG xs[xs.length - 1]? fun v => Q v (M.set n (.lst xs.dropLast)) := by
  unfold Wp mPop lG
  dsimp only
  cases M[n]? with
  | none => rfl
  | some c =>
    cases c with
    | dct _ => rfl
    | fdc _ => rfl
    | obj _ _ => rfl
    | lst xs =>
      dsimp only
      cases xs[xs.length - 1]? <;> rfl
theorem w_ltT {xs ys : List D} {a b : List PyData} {Q : PQ D} (h1 : toPyFs (fun _ => none) xs = some a) (h2 : toPyFs (fun _ => none) ys = some b) (h3 : (PySem.W.alikeAll a b && decide (PyData.depthAll a ≤ 50)) = true) :
    Wp (dCmp .Lt (.tup xs) (.tup ys)) M Q E = Q (.bl (PySem.W.dataLt (.tuple a) (.tuple b))) M := by
  unfold Wp dCmp
  dsimp only
  rw [h1, h2]
  dsimp only
  rw [if_pos h3]
@[simp] theorem w_two {a b : D} {Q : PQ (D × D)} : Wp (dTwo (.tup [a, b])) M Q E = Q (a, b) M := rfl
@[simp] theorem w_ins {n : Nat} {i : Int} {y : D} {Q : PQ D} : Wp (mInsert (.ref n) (.int i) y) M Q E = lG M[n]? fun xs => (xs.length < 16777216 ∧ 0 ≤ i ∧ i < 16777216) ∧ Q .non (M.set n (.lst (xs.take i.toNat ++ [y] ++ xs.drop i.toNat))) := by
  unfold Wp mInsert lG
  dsimp only
  cases M[n]? with
  | none => rfl
  | some c =>
    cases c with
    | dct _ => rfl
    | fdc _ => rfl
    | obj _ _ => rfl
    | lst xs =>
      dsimp only
      by_cases h : xs.length < 16777216 ∧ 0 ≤ i ∧ i < 16777216 <;> simp [h]
@[simp] theorem w_setI {n : Nat} {i : Int} {v : D} {Q : PQ Unit} : Wp (setIx (.ref n) (.int i) v) M Q E = oG (cSt M[n]? (.inl i) v) fun c => Q () (M.set n c) := by
  unfold Wp setIx dctOf setIxS setD cSt
  dsimp only
  cases e : M[n]? with
  | none => rfl
  | some c =>
    cases c with
    | dct kvs =>
      show rP (if kvs.length < 16777216 then .ok () (M.set n (.dct (putD kvs (.inl i) v))) else .no) Q E = _
      dsimp only
      split <;> rfl
    | fdc _ => rfl
    | obj _ _ => rfl
    | lst xs =>
      dsimp only
      cases ixN xs.length i <;> rfl
@[simp] theorem w_setK {n : Nat} {i : Str} {v : D} {Q : PQ Unit} : Wp (setIx (.ref n) (.str i) v) M Q E = oG (cSt M[n]? (.inr i) v) fun c => Q () (M.set n c) := by
  unfold Wp setIx dctOf setIxS setD cSt
  dsimp only
  cases e : M[n]? with
  | none => rfl
  | some c =>
    cases c with
    | dct kvs =>
      show rP (if kvs.length < 16777216 then .ok () (M.set n (.dct (putD kvs (.inr i) v))) else .no) Q E = _
      dsimp only
      split <;> rfl
    | fdc _ => rfl
    | obj _ _ => rfl
    | lst xs => rfl
@[simp] theorem w_in {x y : D} {Q : PQ D} : Wp (dCmp .In x y) M Q E = oG (dIn x y M) fun b => Q (.bl b) M := by
  unfold Wp dCmp
  dsimp only
  cases dIn x y M <;> rfl
@[simp] theorem w_nin {x y : D} {Q : PQ D} : Wp (dCmp .NotIn x y) M Q E = oG (dIn x y M) fun b => Q (.bl (!b)) M := by
  unfold Wp dCmp
  dsimp only
  cases dIn x y M <;> rfl
def dG (o : Option Cell) (k : List (L2.Key × D) → Prop) : Prop := match o with
  | some (.dct a) => k a
  | _ => False
@[simp] theorem dG_some {a : List (L2.Key × D)} {k : List (L2.Key × D) → Prop} : dG (some (.dct a)) k = k a := rfl
@[simp] theorem w_chkD {n : Nat} {Q : PQ Unit} : Wp (chkD (.ref n)) M Q E = dG M[n]? fun _ => Q () M := by
  unfold Wp chkD dctOf dG
  dsimp only
  cases M[n]? with
  | none => rfl
  | some c => cases c <;> rfl
@[simp] theorem w_getI {n : Nat} {i : Int} {z : D} {Q : PQ D} : Wp (dGet (.ref n) (.int i) z) M Q E = dG M[n]? fun kvs => Q ((valD kvs (.inl i)).getD z) M := by
  unfold Wp dGet dctOf dG
  dsimp only
  cases M[n]? with
  | none => rfl
  | some c => cases c <;> rfl
@[simp] theorem w_getK {n : Nat} {i : Str} {z : D} {Q : PQ D} : Wp (dGet (.ref n) (.str i) z) M Q E = dG M[n]? fun kvs => Q ((valD kvs (.inr i)).getD z) M := by
  unfold Wp dGet dctOf dG
  dsimp only
  cases M[n]? with
  | none => rfl
  | some c => cases c <;> rfl
@[simp] theorem w_chkF {G : Str → GV} {f : Str} {Q : PQ Str} : Wp (chkF G (.fn f)) M Q E = (isFn (G f) = true ∧ Q f M) := by
  exact rP_if
/-! least, greatest, sorted -/
theorem ints_py : ∀ ns : List Int, toPyFs (fun _ => none) (ns.map .int) = some (ns.map .int)
  | [] => rfl
  | n :: ns => by
    show (toPyF (fun _ => none) (.int n)).bind _ = _
    rw [ints_py ns]; rfl
theorem ints_alike (ns : List Int) : (alikeB (ns.map .int) && (ns.map PyData.int).all (fun p => !isNonP p) && decide (PyData.depthAll (ns.map PyData.int) ≤ 50)) = true := by
  simp only [Bool.and_eq_true, decide_eq_true_eq, alikeB, List.all_eq_true]
  refine ⟨⟨fun x hx y hy => ?_, fun x hx => ?_⟩, by rw [PySem.W.depth_ints]; omega⟩
  · obtain ⟨a, _, rfl⟩ := List.mem_map.mp hx
    obtain ⟨b, _, rfl⟩ := List.mem_map.mp hy
    rfl
  · obtain ⟨a, _, rfl⟩ := List.mem_map.mp hx
    rfl
theorem best_min (a : Int) (ns : List Int) : bestD false (.int a) (ns.map .int) = .int (ns.foldl min a) :=
  pure_inj _ _ _ (best_lt (p := .int a) rfl (ints_py ns)) (by rw [PySem.W.minD_ints]; rfl)
theorem best_max (a : Int) (ns : List Int) : bestD true (.int a) (ns.map .int) = .int (ns.foldl max a) :=
  pure_inj _ _ _ (best_gt (p := .int a) rfl (ints_py ns)) (by rw [PySem.W.maxD_ints]; rfl)
theorem dBest_cons {mx : Bool} {df : Option D} {n : Nat} {d : D} {ds : List D} {ps : List PyData} {Q : PQ D} (h : M[n]? = some (.lst (d :: ds))) (hp : toPyFs (fun _ => none) (d :: ds) = some ps) (hk : (alikeB ps && ps.all (fun p => !isNonP p) && decide (PyData.depthAll ps ≤ 50)) = true) :
    Wp (dBest mx df (.ref n)) M Q E = Q (bestD mx d ds) M := by
  unfold Wp dBest items
  dsimp only
  rw [h]
  dsimp only
  rw [hp]
  dsimp only
  rw [if_pos hk]
theorem dBest_nil {mx : Bool} {d : D} {n : Nat} {Q : PQ D} (h : M[n]? = some (.lst [])) : Wp (dBest mx (some d) (.ref n)) M Q E = Q d M := by
  unfold Wp dBest items
  dsimp only
  rw [h]
  rfl
theorem w_minI {n : Nat} {a : Int} {ns : List Int} {Q : PQ D} (h : M[n]? = some (.lst ((a :: ns).map .int))) : Wp (dMin1 (.ref n)) M Q E = Q (.int (ns.foldl min a)) M := by
  rw [← best_min]; exact dBest_cons h (ints_py (a :: ns)) (ints_alike (a :: ns))
theorem w_minKI {n : Nat} {a : Int} {d : D} {ns : List Int} {Q : PQ D} (h : M[n]? = some (.lst ((a :: ns).map .int))) : Wp (dMinK (.ref n) d) M Q E = Q (.int (ns.foldl min a)) M := by
  rw [← best_min]; exact dBest_cons h (ints_py (a :: ns)) (ints_alike (a :: ns))
theorem w_maxKI {n : Nat} {a : Int} {d : D} {ns : List Int} {Q : PQ D} (h : M[n]? = some (.lst ((a :: ns).map .int))) : Wp (dMaxK (.ref n) d) M Q E = Q (.int (ns.foldl max a)) M := by
  rw [← best_max]; exact dBest_cons h (ints_py (a :: ns)) (ints_alike (a :: ns))
theorem w_minK0 {n : Nat} {d : D} {Q : PQ D} (h : M[n]? = some (.lst [])) : Wp (dMinK (.ref n) d) M Q E = Q d M := dBest_nil h
theorem w_maxK0 {n : Nat} {d : D} {Q : PQ D} (h : M[n]? = some (.lst [])) : Wp (dMaxK (.ref n) d) M Q E = Q d M := dBest_nil h
theorem w_sort {n : Nat} {ds : List D} {ps : List PyData} {Q : PQ D} (h : M[n]? = some (.lst ds)) (hp : toPyFs (fun _ => none) ds = some ps) (hk : (alikeB ps && (ps.all tupP || ps.all plnP) && decide (PyData.depthAll ps ≤ 50)) = true) :
    Wp (dSort (.ref n)) M Q E = (ds.length ≤ 16777216 ∧ Q (.ref M.length) (al M (.lst (ds.mergeSort leD)))) := by
  unfold Wp dSort dctOf items
  dsimp only
  rw [h]
  dsimp only
  rw [hp]
  dsimp only
  rw [if_pos hk]
  exact (w_newl (E := E)).trans (by rw [List.length_mergeSort])
theorem w_sortD {n : Nat} {kvs : List (L2.Key × D)} {ks : List Int} {Q : PQ D} (h : M[n]? = some (.dct kvs)) (hp : inlsOf kvs = some ks) (hk : ks.length ≤ 100000) :
    Wp (dSort (.ref n)) M Q E = Q (.ref M.length) (al M (.lst ((ks.mergeSort fun a b => decide (a ≤ b)).map .int))) := by
  unfold Wp dSort dctOf
  dsimp only
  rw [h]
  dsimp only
  rw [hp]
  dsimp only
  rw [if_pos hk]
  exact (w_newl (E := E)).trans (by rw [List.length_map, List.length_mergeSort]; simp; omega)
/-- rows of ints of one length, in order -/
def rowD (xs : List Int) : D := .tup (xs.map .int)
theorem rows_py : ∀ rs : List (List Int), toPyFs (fun _ => none) (rs.map rowD) = some (rs.map fun r => .tuple (r.map .int))
  | [] => rfl
  | r :: rs => by
    show (toPyF (fun _ => none) (rowD r)).bind _ = _
    unfold rowD
    simp only [toPyF, ints_py, Option.map_some, Option.bind_some]
    have := rows_py rs
    unfold rowD at this
    rw [this]; rfl
theorem rows_alike {rs : List (List Int)} (h : ∀ r ∈ rs, r ≠ []) : (alikeB (rs.map fun r => .tuple (r.map .int)) && ((rs.map fun r => PyData.tuple (r.map .int)).all tupP || (rs.map fun r => PyData.tuple (r.map .int)).all plnP) && decide (PyData.depthAll (rs.map fun r => PyData.tuple (r.map .int)) ≤ 50)) = true := by
  simp only [Bool.and_eq_true, Bool.or_eq_true, decide_eq_true_eq, alikeB, List.all_eq_true]
  refine ⟨⟨fun x hx y hy => ?_, .inl fun x hx => ?_⟩, ?_⟩
  · obtain ⟨a, _, rfl⟩ := List.mem_map.mp hx
    obtain ⟨b, _, rfl⟩ := List.mem_map.mp hy
    show PySem.W.alike (.tuple _) (.tuple _) = true
    simp only [PySem.W.alike]
    exact PySem.W.alike_ints a b
  · obtain ⟨a, ha, rfl⟩ := List.mem_map.mp hx
    have := h a ha
    cases a with
    | nil => exact absurd rfl this
    | cons a as => rfl
  · have : ∀ rs : List (List Int), PyData.depthAll (rs.map fun r => PyData.tuple (r.map .int)) ≤ 1 := by
      intro rs
      induction rs with
      | nil => simp [PyData.depthAll]
      | cons r rs ih =>
        simp only [List.map_cons, PyData.depthAll, PyData.depth, PySem.W.depth_ints]
        omega
    have := this rs
    omega
/-! stores -/
@[simp] theorem t_1 {i : Nat} {d : D} {e : Env} : tg1 i d e = some (e.set i (some d)) := rfl
@[simp] theorem t_U {is : List (Sum Nat (List Nat))} {ds : List D} {e : Env} : tgU is (.tup ds) e = tgUs is ds e := rfl
@[simp] theorem t_U0 {e : Env} : tgUs [] [] e = some e := rfl
@[simp] theorem t_Ui {i : Nat} {is : List (Sum Nat (List Nat))} {d : D} {ds : List D} {e : Env} : tgUs (.inl i :: is) (d :: ds) e = tgUs is ds (e.set i (some d)) := rfl
@[simp] theorem t_Us {js : List Nat} {is : List (Sum Nat (List Nat))} {xs ds : List D} {e : Env} : tgUs (.inr js :: is) (.tup xs :: ds) e = (tgM js xs e).bind fun e1 => tgUs is ds e1 := rfl
@[simp] theorem t_T {is : List Nat} {ds : List D} {e : Env} : tgT is (.tup ds) e = tgM is ds e := rfl
@[simp] theorem t_M0 {e : Env} : tgM [] [] e = some e := rfl
@[simp] theorem t_M1 {i : Nat} {is : List Nat} {d : D} {ds : List D} {e : Env} : tgM (i :: is) (d :: ds) e = tgM is ds (e.set i (some d)) := rfl
/-! calls -/
@[simp] theorem f_1 {n : Nat} {f : Env → Ev Out} {a : D} {Q : PQ D} : Wp (finF 1 n f [a]) M Q E = Ws (f ([some a] ++ List.replicate (n - 1) none)) M ⟨fun _ M1 => Q .non M1, Q, fun _ _ => False, fun _ _ => False, E⟩ := Wp_fin rfl
@[simp] theorem f_2 {n : Nat} {f : Env → Ev Out} {a b : D} {Q : PQ D} : Wp (finF 2 n f [a, b]) M Q E = Ws (f ([some a, some b] ++ List.replicate (n - 2) none)) M ⟨fun _ M1 => Q .non M1, Q, fun _ _ => False, fun _ _ => False, E⟩ := Wp_fin rfl
@[simp] theorem f_3 {n : Nat} {f : Env → Ev Out} {a b c : D} {Q : PQ D} : Wp (finF 3 n f [a, b, c]) M Q E = Ws (f ([some a, some b, some c] ++ List.replicate (n - 3) none)) M ⟨fun _ M1 => Q .non M1, Q, fun _ _ => False, fun _ _ => False, E⟩ := Wp_fin rfl
@[simp] theorem f_4 {n : Nat} {f : Env → Ev Out} {a b c d : D} {Q : PQ D} : Wp (finF 4 n f [a, b, c, d]) M Q E = Ws (f ([some a, some b, some c, some d] ++ List.replicate (n - 4) none)) M ⟨fun _ M1 => Q .non M1, Q, fun _ _ => False, fun _ _ => False, E⟩ := Wp_fin rfl
@[simp] theorem f_5 {n : Nat} {f : Env → Ev Out} {a b c d e : D} {Q : PQ D} : Wp (finF 5 n f [a, b, c, d, e]) M Q E = Ws (f ([some a, some b, some c, some d, some e] ++ List.replicate (n - 5) none)) M ⟨fun _ M1 => Q .non M1, Q, fun _ _ => False, fun _ _ => False, E⟩ := Wp_fin rfl
/-! sources -/
@[simp] theorem l_tup {xs : List D} : (Src.tup xs).len M = some xs.length := rfl
@[simp] theorem l_frz {xs : List D} : (Src.frz xs).len M = some xs.length := rfl
@[simp] theorem l_rng {lo c : Int} {n : Nat} : (Src.rng lo c n).len M = some n := rfl
@[simp] theorem a_tup {xs : List D} {i : Nat} : (Src.tup xs).at_ M i = xs[i]? := rfl
@[simp] theorem a_frz {xs : List D} {i : Nat} : (Src.frz xs).at_ M i = xs[i]? := rfl
@[simp] theorem a_rng {lo c : Int} {n i : Nat} (h : i < n) : (Src.rng lo c n).at_ M i = some (.int (lo + (i : Int) * c)) := if_pos h
theorem l_lst {n : Nat} {xs : List D} (h : M[n]? = some (.lst xs)) : (Src.lst n).len M = some xs.length := by simp only [Src.len, h]
theorem a_lst {n i : Nat} {xs : List D} (h : M[n]? = some (.lst xs)) : (Src.lst n).at_ M i = xs[i]? := by simp only [Src.at_, h]
/-! instances -/
def bG (o : Option Cell) (k : Str → List (Str × D) → Prop) : Prop := match o with
  | some (.obj c fs) => k c fs
  | _ => False
@[simp] theorem bG_some {c : Str} {fs : List (Str × D)} {k : Str → List (Str × D) → Prop} : bG (some (.obj c fs)) k = k c fs := rfl
@[simp] theorem w_fld {fl : Str → Str → Bool} {f : Str} {n : Nat} {Q : PQ D} : Wp (dFld fl f (.ref n)) M Q E = bG M[n]? fun c fs => fl c f = true ∧ oG (fs.lookup f) fun v => Q v M := by
  unfold Wp dFld objOf bG
  dsimp only
  cases M[n]? with
  | none => rfl
  | some c =>
    cases c with
    | obj c fs =>
      dsimp only
      by_cases h : fl c f = true
      · rw [if_pos h]
        cases fs.lookup f <;> simp [h, oG]
      · rw [if_neg h]; simp [h]
    | _ => rfl
@[simp] theorem w_setF {fl : Str → Str → Bool} {f : Str} {n : Nat} {v : D} {Q : PQ Unit} : Wp (setF fl f (.ref n) v) M Q E = bG M[n]? fun c fs => (fl c f = true ∧ fs.length < 1000) ∧ Q () (M.set n (.obj c (putO f v fs))) := by
  unfold Wp setF bG
  dsimp only
  cases M[n]? with
  | none => rfl
  | some c =>
    cases c with
    | obj c fs =>
      dsimp only
      by_cases h : fl c f = true ∧ fs.length < 1000
      · rw [if_pos h]; simp [h]
      · rw [if_neg h]; simp only [h, false_and]
    | _ => rfl
@[simp] theorem w_chkM {mt : Str → Str → Option Str} {m : Str} {n : Nat} {Q : PQ Str} : Wp (chkM mt m (.ref n)) M Q E = bG M[n]? fun c fs => fs.lookup m = none ∧ oG (mt c m) fun k => Q k M := by
  unfold Wp chkM objOf bG
  dsimp only
  cases M[n]? with
  | none => rfl
  | some c =>
    cases c with
    | obj c fs =>
      dsimp only
      cases mt c m <;> cases fs.lookup m <;> simp [oG]
    | _ => rfl
@[simp] theorem w_mk {c : Tab} {C k : Str} {vs : List D} {Q : PQ D} : Wp (mkObj c C k vs) M Q E = Wp (c k (.ref M.length :: vs)) (al M (.obj C [])) (fun d M2 => d = .non ∧ Q (.ref M.length) M2) E := by
  unfold Wp mkObj al
  cases c k (.ref M.length :: vs) (M ++ [.obj C []]) with
  | ok d M2 => cases d <;> simp
  | ex c M2 => rfl
  | no => rfl
end
end Pf
set_option maxHeartbeats 4000000
/-! Pf: frames; what a value holds, seen through cells that stay. -/
namespace Pf
open PySem PySem.Spec
open L2 (atI ixN)
/-! ### frames -/
structure Fr (X : List Nat) (M M' : Mem) : Prop where
  len : M.length ≤ M'.length
  get : ∀ n, n ∉ X → n < M.length → M'[n]? = M[n]?
section
variable {X Y : List Nat} {M M1 M2 : Mem}
theorem Fr.refl : Fr X M M := ⟨Nat.le_refl _, fun _ _ _ => rfl⟩
theorem Fr.trans (a : Fr X M M1) (b : Fr X M1 M2) : Fr X M M2 := ⟨Nat.le_trans a.len b.len, fun n h l => (b.get n h (Nat.lt_of_lt_of_le l a.len)).trans (a.get n h l)⟩
theorem Fr.app (N : Mem) : Fr X M (M ++ N) := ⟨by simp, fun n _ l => List.getElem?_append_left l⟩
theorem Fr.set {n : Nat} {c : Cell} (h : n ∈ X) : Fr X M (M.set n c) := ⟨by simp, fun k hk _ => List.getElem?_set_ne (fun (e : n = k) => hk (by rw [← e]; exact h))⟩
theorem Fr.more (a : Fr X M M1) (h : ∀ n ∈ X, n ∈ Y) : Fr Y M M1 := ⟨a.len, fun n hn l => a.get n (fun z => hn (h n z)) l⟩
/-- cells that came after M are of no account to M -/
theorem Fr.less (a : Fr X M M1) (h : ∀ n ∈ X, n < M.length → n ∈ Y) : Fr Y M M1 := ⟨a.len, fun n hn l => a.get n (fun z => hn (h n z l)) l⟩
theorem Fr.at_ (a : Fr X M M1) {n : Nat} {c : Cell} (h : M[n]? = some c) (hn : n ∉ X) : M1[n]? = some c := (a.get n hn (List.getElem?_eq_some_iff.mp h).1).trans h
theorem lt_of {n : Nat} {c : Cell} (h : M[n]? = some c) : n < M.length := (List.getElem?_eq_some_iff.mp h).1
@[simp] theorem get_new {c : Cell} : (al M c)[M.length]? = some c := by simp [al]
theorem get_al {n : Nat} {c c' : Cell} (h : M[n]? = some c) : (al M c')[n]? = some c := (List.getElem?_append_left (lt_of h)).trans h
theorem Fr.al {c : Cell} : Fr X M (al M c) := Fr.app _
theorem al_len {c : Cell} : (al M c).length = M.length + 1 := by simp [Pf.al]
theorem get_app {n : Nat} {c : Cell} {N : Mem} (h : M[n]? = some c) : (M ++ N)[n]? = some c := (List.getElem?_append_left (lt_of h)).trans h
theorem get_set {n : Nat} {c c' : Cell} (h : M[n]? = some c) : (M.set n c')[n]? = some c' := List.getElem?_set_self (lt_of h)
end
/-! ### a value's data -/
def toPyX (X : List Nat) (M : Mem) : Nat → Nat → Option PyData
  | 0, _ => none
  | n + 1, k => if k ∈ X then none else match M[k]? with
    | some (.lst ds) => (toPyFs (toPyX X M n) ds).map .list
    | some (.dct kvs) => (toPyFk (toPyX X M n) kvs).map .dict
    | _ => none
section
variable {R R' : Nat → Option PyData}
mutual
theorem toPyF_mono (h : ∀ k p, R k = some p → R' k = some p) : ∀ (d : D) (p : PyData), toPyF R d = some p → toPyF R' d = some p
  | .non, p, e => by simpa only [toPyF] using e
  | .bl b, p, e => by simpa only [toPyF] using e
  | .int i, p, e => by simpa only [toPyF] using e
  | .str x, p, e => by simpa only [toPyF] using e
  | .tup ds, p, e => by
    simp only [toPyF, Option.map_eq_some_iff] at e ⊢
    obtain ⟨ps, e, rfl⟩ := e
    exact ⟨ps, toPyFs_mono h ds ps e, rfl⟩
  | .frz ds, p, e => by simp only [toPyF] at e; cases e
  | .ref k, p, e => by
    simp only [toPyF] at e ⊢
    exact h k p e
  | .fn _, p, e => by simp only [toPyF] at e; cases e
theorem toPyFs_mono (h : ∀ k p, R k = some p → R' k = some p) : ∀ (ds : List D) (ps : List PyData), toPyFs R ds = some ps → toPyFs R' ds = some ps
  | [], ps, e => by simpa only [toPyFs] using e
  | d :: ds, ps, e => by
    simp only [toPyFs, Option.bind_eq_some_iff, Option.map_eq_some_iff] at e ⊢
    obtain ⟨a, e1, as, e2, rfl⟩ := e
    exact ⟨a, toPyF_mono h d a e1, as, toPyFs_mono h ds as e2, rfl⟩
end
theorem toPyFk_mono (h : ∀ k p, R k = some p → R' k = some p) : ∀ (ds : List (L2.Key × D)) (ps : List (PyData × PyData)), toPyFk R ds = some ps → toPyFk R' ds = some ps
  | [], ps, e => by simpa only [toPyFk] using e
  | d :: ds, ps, e => by
    simp only [toPyFk, Option.bind_eq_some_iff, Option.map_eq_some_iff] at e ⊢
    obtain ⟨a, e1, as, e2, rfl⟩ := e
    exact ⟨a, toPyF_mono h d.2 a e1, as, toPyFk_mono h ds as e2, rfl⟩
end
section
variable {X X' : List Nat} {M M' : Mem}
theorem toPyX_mono (h : ∀ k, k ∉ X → k < M.length → k ∉ X' ∧ M'[k]? = M[k]?) : ∀ (n n' k : Nat) (p : PyData), n ≤ n' → toPyX X M n k = some p → toPyX X' M' n' k = some p
  | 0, _, _, _, _, e => by simp only [toPyX] at e; cases e
  | n + 1, 0, _, _, l, _ => by omega
  | n + 1, n' + 1, k, p, l, e => by
    have ih := fun k p => toPyX_mono h n n' k p (by omega)
    simp only [toPyX] at e ⊢
    split at e
    · cases e
    · rename_i hk
      have lt : k < M.length := by
        cases q : M[k]? with
        | none => rw [q] at e; cases e
        | some c => exact lt_of q
      obtain ⟨h1, h2⟩ := h k hk lt
      rw [if_neg h1, h2]
      split at e
      · rename_i ds q
        simp only [Option.map_eq_some_iff] at e ⊢
        obtain ⟨ps, e, rfl⟩ := e
        exact ⟨ps, toPyFs_mono ih ds ps e, rfl⟩
      · rename_i ds q
        simp only [Option.map_eq_some_iff] at e ⊢
        obtain ⟨ps, e, rfl⟩ := e
        exact ⟨ps, toPyFk_mono ih ds ps e, rfl⟩
      · cases e
theorem toPyX_all : ∀ (n n' k : Nat) (p : PyData), n ≤ n' → toPyX X M n k = some p → toPyN M n' k = some p
  | 0, _, _, _, _, e => by simp only [toPyX] at e; cases e
  | n + 1, 0, _, _, l, _ => by omega
  | n + 1, n' + 1, k, p, l, e => by
    have ih := fun k p => toPyX_all n n' k p (by omega)
    simp only [toPyX] at e
    simp only [toPyN]
    split at e
    · cases e
    · split at e
      · rename_i ds q
        try rw [q]
        simp only [Option.map_eq_some_iff] at e ⊢
        obtain ⟨ps, e, rfl⟩ := e
        exact ⟨ps, toPyFs_mono ih ds ps e, rfl⟩
      · rename_i ds q
        try rw [q]
        simp only [Option.map_eq_some_iff] at e ⊢
        obtain ⟨ps, e, rfl⟩ := e
        exact ⟨ps, toPyFk_mono ih ds ps e, rfl⟩
      · cases e
end
section
variable {R R' : Nat → Option PyData} {k : Nat}
mutual
theorem toPyF_dep (h : ∀ a p, R a = some p → p.depth ≤ k → R' a = some p) : ∀ (d : D) (p : PyData), toPyF R d = some p → p.depth ≤ k → toPyF R' d = some p
  | .non, p, e, _ => by simpa only [toPyF] using e
  | .bl b, p, e, _ => by simpa only [toPyF] using e
  | .int i, p, e, _ => by simpa only [toPyF] using e
  | .str x, p, e, _ => by simpa only [toPyF] using e
  | .tup ds, p, e, l => by
    simp only [toPyF, Option.map_eq_some_iff] at e ⊢
    obtain ⟨ps, e, rfl⟩ := e
    simp only [PyData.depth] at l
    exact ⟨ps, toPyFs_dep h ds ps e (by omega), rfl⟩
  | .frz ds, p, e, _ => by simp only [toPyF] at e; cases e
  | .ref a, p, e, l => by
    simp only [toPyF] at e ⊢
    exact h a p e l
  | .fn _, p, e, _ => by simp only [toPyF] at e; cases e
theorem toPyFs_dep (h : ∀ a p, R a = some p → p.depth ≤ k → R' a = some p) : ∀ (ds : List D) (ps : List PyData), toPyFs R ds = some ps → PyData.depthAll ps ≤ k → toPyFs R' ds = some ps
  | [], ps, e, _ => by simpa only [toPyFs] using e
  | d :: ds, ps, e, l => by
    simp only [toPyFs, Option.bind_eq_some_iff, Option.map_eq_some_iff] at e ⊢
    obtain ⟨a, e1, as, e2, rfl⟩ := e
    simp only [PyData.depthAll] at l
    exact ⟨a, toPyF_dep h d a e1 (by omega), as, toPyFs_dep h ds as e2 (by omega), rfl⟩
end
theorem toPyFk_dep (h : ∀ a p, R a = some p → p.depth ≤ k → R' a = some p) : ∀ (ds : List (L2.Key × D)) (ps : List (PyData × PyData)), toPyFk R ds = some ps → PyData.depthKv ps ≤ k → toPyFk R' ds = some ps
  | [], ps, e, _ => by simpa only [toPyFk] using e
  | d :: ds, ps, e, l => by
    simp only [toPyFk, Option.bind_eq_some_iff, Option.map_eq_some_iff] at e ⊢
    obtain ⟨a, e1, as, e2, rfl⟩ := e
    simp only [PyData.depthKv] at l
    exact ⟨a, toPyF_dep h d.2 a e1 (by omega), as, toPyFk_dep h ds as e2 (by omega), rfl⟩
end
theorem toPyX_dep {X : List Nat} {M : Mem} : ∀ (n k a : Nat) (p : PyData), toPyX X M n a = some p → p.depth ≤ k → toPyX X M k a = some p
  | 0, _, _, _, e, _ => by simp only [toPyX] at e; cases e
  | n + 1, k, a, p, e, l => by
    simp only [toPyX] at e
    split at e
    · cases e
    · rename_i hX
      split at e
      · rename_i ds q
        simp only [Option.map_eq_some_iff] at e
        obtain ⟨ps, e, rfl⟩ := e
        simp only [PyData.depth] at l
        cases k with
        | zero => omega
        | succ k =>
          simp only [toPyX, if_neg hX, q, Option.map_eq_some_iff]
          exact ⟨ps, toPyFs_dep (fun a p e l => toPyX_dep n k a p e l) ds ps e (by omega), rfl⟩
      · rename_i ds q
        simp only [Option.map_eq_some_iff] at e
        obtain ⟨ps, e, rfl⟩ := e
        simp only [PyData.depth] at l
        cases k with
        | zero => omega
        | succ k =>
          simp only [toPyX, if_neg hX, q, Option.map_eq_some_iff]
          exact ⟨ps, toPyFk_dep (fun a p e l => toPyX_dep n k a p e l) ds ps e (by omega), rfl⟩
      · cases e
/-! ### small data -/
mutual
def okP (B : Nat) : PyData → Bool
  | .none => true
  | .bool _ => true
  | .int i => decide (i.natAbs ≤ B)
  | .str x => x.cps.all (· < 0x110000)
  | .list xs => okPs B xs
  | .tuple xs => okPs B xs
  | .dict kvs => okPk B kvs
def okPs (B : Nat) : List PyData → Bool
  | [] => true
  | x :: xs => okP B x && okPs B xs
def okPk (B : Nat) : List (PyData × PyData) → Bool
  | [] => true
  | (a, b) :: r => okP B a && okP B b && okPk B r
end
mutual
theorem okP_up {B B' : Nat} (h : B ≤ B') : ∀ p, okP B p = true → okP B' p = true
  | .none, _ => by simp only [okP]
  | .bool _, _ => by simp only [okP]
  | .int i, e => by simp only [okP, decide_eq_true_eq] at e ⊢; omega
  | .str x, e => by simpa only [okP] using e
  | .list xs, e => by simp only [okP] at e ⊢; exact okPs_up h xs e
  | .tuple xs, e => by simp only [okP] at e ⊢; exact okPs_up h xs e
  | .dict xs, e => by simp only [okP] at e ⊢; exact okPk_up h xs e
theorem okPs_up {B B' : Nat} (h : B ≤ B') : ∀ p, okPs B p = true → okPs B' p = true
  | [], _ => by simp only [okPs]
  | x :: xs, e => by simp only [okPs, Bool.and_eq_true] at e ⊢; exact ⟨okP_up h x e.1, okPs_up h xs e.2⟩
theorem okPk_up {B B' : Nat} (h : B ≤ B') : ∀ p, okPk B p = true → okPk B' p = true
  | [], _ => by simp only [okPk]
  | (a, b) :: xs, e => by simp only [okPk, Bool.and_eq_true] at e ⊢; exact ⟨⟨okP_up h a e.1.1, okP_up h b e.1.2⟩, okPk_up h xs e.2⟩
end
theorem int_small {i : Int} (h : i.natAbs ≤ 10 ^ 60) : i.natAbs.log2 < 1920 ∧ (PyData.shown (.int i)).length ≤ 62 := by
  constructor
  · by_cases h0 : i.natAbs = 0
    · rw [h0]; decide
    · have h1 : i.natAbs < 2 ^ 1920 := Nat.lt_of_le_of_lt h (by decide +kernel)
      exact (Nat.log2_lt h0).mpr h1
  · have h1 : i.natAbs < 10 ^ 61 := Nat.lt_of_le_of_lt h (by decide +kernel)
    have e := int_text_length_le10 (k := 61) (by decide) h1
    show (Str.ofString (toString i)).length ≤ 62
    rw [ofString_length]
    exact e
mutual
theorem okP_show {B : Nat} (h : B ≤ 10 ^ 60) : ∀ p, okP B p = true → p.showable = true ∧ p.leavesShort 62 = true
  | .none, _ => by simp [PyData.showable, PyData.leavesShort]
  | .bool _, _ => by simp [PyData.showable, PyData.leavesShort]
  | .int i, e => by
    simp only [okP, decide_eq_true_eq] at e
    obtain ⟨h1, h2⟩ := int_small (Nat.le_trans e h)
    simp only [PyData.showable, PyData.leavesShort, decide_eq_true_eq]
    exact ⟨h1, h2⟩
  | .str x, e => by
    simp only [okP, Array.all_eq_true, decide_eq_true_eq] at e
    simp only [PyData.showable, PyData.leavesShort, List.all_eq_true, decide_eq_true_eq, true_and]
    intro c hc
    obtain ⟨i, hi, rfl⟩ := Array.getElem_of_mem (Array.mem_def.mpr hc)
    have := e i hi
    have e2 : (16 : Nat) ^ 8 = 4294967296 := by decide
    omega
  | .list xs, e => by
    simp only [okP] at e
    have := okPs_show h xs e
    simp only [PyData.showable, PyData.leavesShort]
    exact this
  | .tuple xs, e => by
    simp only [okP] at e
    have := okPs_show h xs e
    simp only [PyData.showable, PyData.leavesShort]
    exact this
  | .dict xs, e => by
    simp only [okP] at e
    have := okPk_show h xs e
    simp only [PyData.showable, PyData.leavesShort]
    exact this
theorem okPs_show {B : Nat} (h : B ≤ 10 ^ 60) : ∀ p, okPs B p = true → PyData.showableAll p = true ∧ PyData.leavesShortAll 62 p = true
  | [], _ => by simp [PyData.showableAll, PyData.leavesShortAll]
  | x :: xs, e => by
    simp only [okPs, Bool.and_eq_true] at e
    obtain ⟨a, b⟩ := okP_show h x e.1
    obtain ⟨c, d⟩ := okPs_show h xs e.2
    simp [PyData.showableAll, PyData.leavesShortAll, a, b, c, d]
theorem okPk_show {B : Nat} (h : B ≤ 10 ^ 60) : ∀ p, okPk B p = true → PyData.showableKv p = true ∧ PyData.leavesShortKv 62 p = true
  | [], _ => by simp [PyData.showableKv, PyData.leavesShortKv]
  | (x, y) :: xs, e => by
    simp only [okPk, Bool.and_eq_true] at e
    obtain ⟨a, b⟩ := okP_show h x e.1.1
    obtain ⟨a', b'⟩ := okP_show h y e.1.2
    obtain ⟨c, d⟩ := okPk_show h xs e.2
    simp [PyData.showableKv, PyData.leavesShortKv, a, b, a', b', c, d]
end
/-! ### data of a value: h deep, w wide, ints up to B, with the cells X out of sight -/
structure Sm where
  B : Nat
  h : Nat
  w : Nat
def Dat (X : List Nat) (M : Mem) (B h w : Nat) (d : D) : Prop := ∃ p, toPyF (toPyX X M h) d = some p ∧ okP B p = true ∧ p.depth ≤ h ∧ p.weight ≤ w
def Dats (X : List Nat) (M : Mem) (B h w : Nat) (ds : List D) : Prop := ∃ ps, toPyFs (toPyX X M h) ds = some ps ∧ okPs B ps = true ∧ PyData.depthAll ps ≤ h ∧ PyData.weightAll ps ≤ w
section
variable {X X' : List Nat} {M M' : Mem} {B B' h h' w w' : Nat} {d : D} {ds es : List D}
theorem Dat.mono (a : Dat X M B h w d) (k : ∀ k, k ∉ X → k < M.length → k ∉ X' ∧ M'[k]? = M[k]?) (hB : B ≤ B') (hh : h ≤ h') (hw : w ≤ w') : Dat X' M' B' h' w' d := by
  obtain ⟨p, e, o, dp, wt⟩ := a
  exact ⟨p, toPyF_mono (fun x q => toPyX_mono k h h' x q hh) d p e, okP_up hB p o, Nat.le_trans dp hh, Nat.le_trans wt hw⟩
theorem Dats.mono (a : Dats X M B h w ds) (k : ∀ k, k ∉ X → k < M.length → k ∉ X' ∧ M'[k]? = M[k]?) (hB : B ≤ B') (hh : h ≤ h') (hw : w ≤ w') : Dats X' M' B' h' w' ds := by
  obtain ⟨p, e, o, dp, wt⟩ := a
  exact ⟨p, toPyFs_mono (fun x q => toPyX_mono k h h' x q hh) ds p e, okPs_up hB p o, Nat.le_trans dp hh, Nat.le_trans wt hw⟩
theorem Dat.up (a : Dat X M B h w d) (hB : B ≤ B') (hh : h ≤ h') (hw : w ≤ w') : Dat X M B' h' w' d := a.mono (fun _ h _ => ⟨h, rfl⟩) hB hh hw
theorem Dats.up (a : Dats X M B h w ds) (hB : B ≤ B') (hh : h ≤ h') (hw : w ≤ w') : Dats X M B' h' w' ds := a.mono (fun _ h _ => ⟨h, rfl⟩) hB hh hw
theorem Dat.fr (a : Dat X M B h w d) (f : Fr X M M') : Dat X M' B h w d := a.mono (fun k h l => ⟨h, f.get k h l⟩) (Nat.le_refl _) (Nat.le_refl _) (Nat.le_refl _)
theorem Dats.fr (a : Dats X M B h w ds) (f : Fr X M M') : Dats X M' B h w ds := a.mono (fun k h l => ⟨h, f.get k h l⟩) (Nat.le_refl _) (Nat.le_refl _) (Nat.le_refl _)
/-- cells that are not there yet may be hidden -/
theorem Dat.hide (a : Dat X M B h w d) (k : ∀ n ∈ X', n ∈ X ∨ M.length ≤ n) : Dat X' M B h w d := a.mono (fun n h l => ⟨fun z => (k n z).elim h fun q => by omega, rfl⟩) (Nat.le_refl _) (Nat.le_refl _) (Nat.le_refl _)
theorem Dats.hide (a : Dats X M B h w ds) (k : ∀ n ∈ X', n ∈ X ∨ M.length ≤ n) : Dats X' M B h w ds := a.mono (fun n h l => ⟨fun z => (k n z).elim h fun q => by omega, rfl⟩) (Nat.le_refl _) (Nat.le_refl _) (Nat.le_refl _)
theorem dat_non : Dat X M B h w .non := ⟨.none, by simp only [toPyF], by simp only [okP], by simp [PyData.depth], by simp [PyData.weight]⟩
theorem dat_bl {b : Bool} : Dat X M B h w (.bl b) := ⟨.bool b, by simp only [toPyF], by simp only [okP], by simp [PyData.depth], by simp [PyData.weight]⟩
theorem log2_le {n : Nat} (h : n ≤ B) : (if n = 0 then 0 else n.log2 + 1) ≤ B := by
  split
  · omega
  · rename_i h0
    have := (Nat.log2_lt h0 (k := n)).mpr Nat.lt_two_pow_self
    omega
theorem dat_int {i : Int} (hi : i.natAbs ≤ B) (hB : B ≤ 10 ^ 60) (hw : 200 ≤ w) : Dat X M B h w (.int i) := by
  refine ⟨.int i, by simp only [toPyF], by simpa only [okP, decide_eq_true_eq] using hi, by simp [PyData.depth], ?_⟩
  simp only [PyData.weight]
  split
  · omega
  · by_cases h0 : i.natAbs = 0
    · rw [h0]; simp; omega
    · have h1 : i.natAbs < 2 ^ 200 := Nat.lt_of_le_of_lt (Nat.le_trans hi hB) (by decide +kernel)
      have := (Nat.log2_lt h0).mpr h1
      omega
theorem dat_str {x : Str} (hx : x.cps.all (· < 0x110000) = true) (hw : x.cps.size ≤ w) : Dat X M B h w (.str x) :=
  ⟨.str x, by simp only [toPyF], by simpa only [okP] using hx, by simp [PyData.depth], by simpa only [PyData.weight] using hw⟩
theorem dats_nil : Dats X M B h w [] := ⟨[], by simp only [toPyFs], by simp only [okPs], by simp [PyData.depthAll], by simp [PyData.weightAll]⟩
theorem dats_cons (a : Dat X M B h w d) (b : Dats X M B h w' ds) : Dats X M B h (w + 1 + w') (d :: ds) := by
  obtain ⟨p, e1, o1, d1, w1⟩ := a
  obtain ⟨ps, e2, o2, d2, w2⟩ := b
  exact ⟨p :: ps, by simp only [toPyFs, e1, e2, Option.bind_some, Option.map_some], by simp only [okPs, o1, o2, Bool.and_self], by simp only [PyData.depthAll]; omega, by simp only [PyData.weightAll]; omega⟩
theorem dats_uncons (a : Dats X M B h w (d :: ds)) : ∃ w1 w2, w1 + 1 + w2 ≤ w ∧ Dat X M B h w1 d ∧ Dats X M B h w2 ds := by
  obtain ⟨ps, e, o, dp, wt⟩ := a
  simp only [toPyFs, Option.bind_eq_some_iff, Option.map_eq_some_iff] at e
  obtain ⟨p, e1, qs, e2, rfl⟩ := e
  simp only [okPs, Bool.and_eq_true] at o
  simp only [PyData.depthAll] at dp
  simp only [PyData.weightAll] at wt
  exact ⟨p.weight, PyData.weightAll qs, by omega, ⟨p, e1, o.1, by omega, Nat.le_refl _⟩, ⟨qs, e2, o.2, by omega, Nat.le_refl _⟩⟩
theorem dats_app : ∀ {ds : List D} {w : Nat}, Dats X M B h w ds → Dats X M B h w' es → Dats X M B h (w + w') (ds ++ es)
  | [], w, a, b => b.up (Nat.le_refl _) (Nat.le_refl _) (by omega)
  | d :: ds, w, a, b => by
    obtain ⟨w1, w2, hw, a1, a2⟩ := dats_uncons a
    exact (dats_cons a1 (dats_app a2 b)).up (Nat.le_refl _) (Nat.le_refl _) (by omega)
theorem dats_drop : ∀ {ds : List D} {w : Nat} (k : Nat), Dats X M B h w ds → Dats X M B h w (ds.drop k)
  | ds, w, 0, a => a
  | [], w, k + 1, a => a
  | d :: ds, w, k + 1, a => by
    obtain ⟨w1, w2, hw, a1, a2⟩ := dats_uncons a
    exact (dats_drop k a2).up (Nat.le_refl _) (Nat.le_refl _) (by omega)
theorem dats_take : ∀ {ds : List D} {w : Nat} (k : Nat), Dats X M B h w ds → Dats X M B h w (ds.take k)
  | ds, w, 0, a => dats_nil
  | [], w, k + 1, a => a
  | d :: ds, w, k + 1, a => by
    obtain ⟨w1, w2, hw, a1, a2⟩ := dats_uncons a
    exact (dats_cons a1 (dats_take k a2)).up (Nat.le_refl _) (Nat.le_refl _) (by omega)
theorem dats_cut {lo hi : Option Int} (a : Dats X M B h w ds) : Dats X M B h w (cutD ds lo hi) := dats_take _ (dats_drop _ a)
theorem dats_get : ∀ {ds : List D} {w i : Nat} {d : D}, Dats X M B h w ds → ds[i]? = some d → Dat X M B h w d
  | [], w, i, d, a, e => by simp at e
  | x :: ds, w, 0, d, a, e => by
    obtain ⟨w1, w2, hw, a1, a2⟩ := dats_uncons a
    simp at e; subst e
    exact a1.up (Nat.le_refl _) (Nat.le_refl _) (by omega)
  | x :: ds, w, i + 1, d, a, e => by
    obtain ⟨w1, w2, hw, a1, a2⟩ := dats_uncons a
    exact (dats_get a2 (by simpa using e)).up (Nat.le_refl _) (Nat.le_refl _) (by omega)
theorem dats_all {ds : List D} (a : ∀ d ∈ ds, Dat X M B h w d) : Dats X M B h (ds.length * (w + 1)) ds := by
  induction ds with
  | nil => exact dats_nil
  | cons d ds ih =>
    refine (dats_cons (a d (List.mem_cons_self ..)) (ih fun x hx => a x (List.mem_cons_of_mem _ hx))).up (Nat.le_refl _) (Nat.le_refl _) ?_
    rw [List.length_cons, Nat.add_mul]; omega
theorem dat_tup (a : Dats X M B h w ds) : Dat X M B (h + 1) w (.tup ds) := by
  obtain ⟨ps, e, o, dp, wt⟩ := a
  refine ⟨.tuple ps, ?_, by simpa only [okP] using o, by simp only [PyData.depth]; omega, by simpa only [PyData.weight] using wt⟩
  simp only [toPyF, Option.map_eq_some_iff]
  exact ⟨ps, toPyFs_mono (fun x q => toPyX_mono (fun _ h _ => ⟨h, rfl⟩) h (h + 1) x q (by omega)) ds ps e, rfl⟩
theorem dat_untup (a : Dat X M B h w (.tup ds)) : Dats X M B h w ds := by
  obtain ⟨p, e, o, dp, wt⟩ := a
  simp only [toPyF, Option.map_eq_some_iff] at e
  obtain ⟨ps, e, rfl⟩ := e
  simp only [PyData.depth] at dp
  simp only [PyData.weight] at wt
  exact ⟨ps, e, by simpa only [okP] using o, by omega, wt⟩
theorem dat_lst {n : Nat} (e0 : M[n]? = some (.lst ds)) (hn : n ∉ X) (a : Dats X M B h w ds) : Dat X M B (h + 1) w (.ref n) := by
  obtain ⟨ps, e, o, dp, wt⟩ := a
  refine ⟨.list ps, ?_, by simpa only [okP] using o, by simp only [PyData.depth]; omega, by simpa only [PyData.weight] using wt⟩
  simp only [toPyF, toPyX, if_neg hn, e0, e, Option.map_some]
theorem dat_unlst {n : Nat} (e0 : M[n]? = some (.lst ds)) (a : Dat X M B h w (.ref n)) : Dats X M B h w ds := by
  obtain ⟨p, e, o, dp, wt⟩ := a
  cases h with
  | zero => simp only [toPyF, toPyX] at e; cases e
  | succ h =>
    simp only [toPyF, toPyX, e0] at e
    split at e
    · cases e
    · simp only [Option.map_eq_some_iff] at e
      obtain ⟨ps, e, rfl⟩ := e
      simp only [PyData.depth] at dp
      simp only [PyData.weight] at wt
      have z : Dats X M B h w ds := ⟨ps, e, by simpa only [okP] using o, by omega, wt⟩
      exact z.up (Nat.le_refl _) (by omega) (Nat.le_refl _)
theorem dat_dct {n : Nat} {kvs : List (L2.Key × D)} (e0 : M[n]? = some (.dct kvs)) (hn : n ∉ X) {ps : List (PyData × PyData)} (e : toPyFk (toPyX X M h) kvs = some ps) (o : okPk B ps = true) (dp : PyData.depthKv ps ≤ h) (wt : PyData.weightKv ps ≤ w) : Dat X M B (h + 1) w (.ref n) := by
  refine ⟨.dict ps, ?_, by simpa only [okP] using o, by simp only [PyData.depth]; omega, by simpa only [PyData.weight] using wt⟩
  simp only [toPyF, toPyX, if_neg hn, e0, e, Option.map_some]
theorem dats_split : ∀ {ds : List D} {w i : Nat} {d : D}, Dats X M B h w ds → ds[i]? = some d → ∃ w1 w2 w3, w1 + w2 + 1 + w3 ≤ w ∧ Dats X M B h w1 (ds.take i) ∧ Dat X M B h w2 d ∧ Dats X M B h w3 (ds.drop (i + 1))
  | [], w, i, d, a, e => by simp at e
  | x :: ds, w, 0, d, a, e => by
    obtain ⟨w1, w2, hw, a1, a2⟩ := dats_uncons a
    simp at e; subst e
    exact ⟨0, w1, w2, by omega, dats_nil, a1, a2⟩
  | x :: ds, w, i + 1, d, a, e => by
    obtain ⟨w1, w2, hw, a1, a2⟩ := dats_uncons a
    obtain ⟨v1, v2, v3, hv, b1, b2, b3⟩ := dats_split a2 (by simpa using e)
    exact ⟨w1 + 1 + v1, v2, v3, by omega, dats_cons a1 b1, b2, b3⟩
theorem dats1 (a : Dat X M B h w d) : Dats X M B h (w + 1) [d] := (dats_cons a (dats_nil (w := 0))).up (Nat.le_refl _) (Nat.le_refl _) (Nat.le_refl _)
theorem dat_at {n : Nat} (a : Dat X M B h w (.ref n)) : ∃ c : LC, M[n]? = some c.1 := by
  obtain ⟨p, e, _⟩ := a
  cases h with
  | zero => simp only [toPyF, toPyX] at e; cases e
  | succ h =>
    simp only [toPyF, toPyX] at e
    split at e
    · cases e
    · cases q : M[n]? with
      | none => rw [q] at e; cases e
      | some c => exact ⟨⟨c, by cases c <;> first | trivial | (rw [q] at e; cases e)⟩, rfl⟩
theorem dat_frz (a : Dat X M B h w (.frz ds)) : False := by
  obtain ⟨p, e, _⟩ := a
  simp only [toPyF] at e
  cases e
theorem dat_fn {x : Str} (a : Dat X M B h w (.fn x)) : False := by
  obtain ⟨p, e, _⟩ := a
  simp only [toPyF] at e
  cases e
theorem dat_unint {i : Int} (a : Dat X M B h w (.int i)) : i.natAbs ≤ B := by
  obtain ⟨p, e, o, _⟩ := a
  simp only [toPyF, Option.some.injEq] at e
  subst e
  simpa only [okP, decide_eq_true_eq] using o
theorem dat_h {h : Nat} (a : Dat X M B h w (.tup ds)) : ∃ k, h = k + 1 ∧ Dats X M B k w ds := by
  obtain ⟨p, e, o, dp, wt⟩ := a
  simp only [toPyF, Option.map_eq_some_iff] at e
  obtain ⟨ps, e, rfl⟩ := e
  simp only [PyData.depth] at dp
  simp only [PyData.weight] at wt
  cases h with
  | zero => omega
  | succ k => exact ⟨k, rfl, ps, toPyFs_dep (fun a p e l => toPyX_dep _ k a p e l) ds ps e (by omega), by simpa only [okP] using o, by omega, wt⟩
/-- what repr tells stays, wherever the cells in sight stay -/
theorem Dat.shown (a : Dat X M B h w d) (hB : B ≤ 10 ^ 60) (hh : h ≤ 100) (hw : w ≤ 200000) : ∃ s, s.length ≤ 16777216 ∧ ∀ M', Fr X M M' → dShown d M' = some s := by
  obtain ⟨p, e, o, dp, wt⟩ := a
  obtain ⟨s1, s2⟩ := okP_show hB p o
  have sl := PyData.shown_le 62 (by decide) p s2
  have sl2 : p.shown.length ≤ 16777216 := by
    have : (62 + 2) * p.weight ≤ 64 * 200000 := Nat.mul_le_mul (by decide) (Nat.le_trans wt hw)
    omega
  refine ⟨p.shown, sl2, fun M' f => ?_⟩
  have e' : toPy M' d = some p := toPyF_mono (fun x q z => toPyX_all h 100 x q hh (toPyX_mono (X' := X) (fun k hk l => ⟨hk, f.get k hk l⟩) h h x q (Nat.le_refl _) z)) d p e
  unfold dShown
  rw [e']
  dsimp only
  rw [if_pos]
  rw [s1, Bool.true_and, Bool.and_eq_true, decide_eq_true_eq, decide_eq_true_eq]
  exact ⟨sl2, Nat.le_trans dp hh⟩
end
/-! ### places, bounds -/
theorem ixN_nat {n k : Nat} : ixN n (k : Int) = if k < n then some k else none := by
  unfold ixN
  rw [if_pos (by omega)]
  by_cases h : k < n
  · rw [if_pos (by omega), if_pos h]; simp
  · rw [if_neg (by omega), if_neg h]
@[simp] theorem ixN_lit {n k : Nat} : ixN n (OfNat.ofNat k : Int) = if k < n then some k else none := ixN_nat
@[simp] theorem ixN_0 {n : Nat} : ixN n 0 = if 0 < n then some 0 else none := ixN_nat (k := 0)
@[simp] theorem ixN_1 {n : Nat} : ixN n 1 = if 1 < n then some 1 else none := ixN_nat (k := 1)
@[simp] theorem ixN_cast {n k : Nat} : ixN n (k : Int) = if k < n then some k else none := ixN_nat
theorem atI_nat {α : Type} {xs : List α} {k : Nat} : atI xs (k : Int) = xs[k]? := by
  unfold atI
  rw [ixN_nat]
  by_cases h : k < xs.length
  · rw [if_pos h]; rfl
  · rw [if_neg h, List.getElem?_eq_none (by omega)]; rfl
@[simp] theorem atI_cast {α : Type} {xs : List α} {k : Nat} : atI xs (k : Int) = xs[k]? := atI_nat
@[simp] theorem atI_0 {α : Type} {xs : List α} : atI xs 0 = xs[0]? := atI_nat (k := 0)
@[simp] theorem atI_1 {α : Type} {xs : List α} : atI xs 1 = xs[1]? := atI_nat (k := 1)
@[simp] theorem atI_lit {α : Type} {xs : List α} {k : Nat} : atI xs (OfNat.ofNat k : Int) = xs[k]? := atI_nat
@[simp] theorem atI_2 {α : Type} {xs : List α} : atI xs 2 = xs[2]? := atI_nat (k := 2)
@[simp] theorem ixN_2 {n : Nat} : ixN n 2 = if 2 < n then some 2 else none := ixN_nat (k := 2)
@[simp] theorem atI_3 {α : Type} {xs : List α} : atI xs 3 = xs[3]? := atI_nat (k := 3)
@[simp] theorem ixN_3 {n : Nat} : ixN n 3 = if 3 < n then some 3 else none := ixN_nat (k := 3)
@[simp] theorem atI_4 {α : Type} {xs : List α} : atI xs 4 = xs[4]? := atI_nat (k := 4)
@[simp] theorem ixN_4 {n : Nat} : ixN n 4 = if 4 < n then some 4 else none := ixN_nat (k := 4)
@[simp] theorem atI_5 {α : Type} {xs : List α} : atI xs 5 = xs[5]? := atI_nat (k := 5)
@[simp] theorem ixN_5 {n : Nat} : ixN n 5 = if 5 < n then some 5 else none := ixN_nat (k := 5)
@[simp] theorem atI_6 {α : Type} {xs : List α} : atI xs 6 = xs[6]? := atI_nat (k := 6)
@[simp] theorem ixN_6 {n : Nat} : ixN n 6 = if 6 < n then some 6 else none := ixN_nat (k := 6)
@[simp] theorem atI_7 {α : Type} {xs : List α} : atI xs 7 = xs[7]? := atI_nat (k := 7)
@[simp] theorem ixN_7 {n : Nat} : ixN n 7 = if 7 < n then some 7 else none := ixN_nat (k := 7)
@[simp] theorem atI_8 {α : Type} {xs : List α} : atI xs 8 = xs[8]? := atI_nat (k := 8)
@[simp] theorem ixN_8 {n : Nat} : ixN n 8 = if 8 < n then some 8 else none := ixN_nat (k := 8)
@[simp] theorem atI_9 {α : Type} {xs : List α} : atI xs 9 = xs[9]? := atI_nat (k := 9)
@[simp] theorem ixN_9 {n : Nat} : ixN n 9 = if 9 < n then some 9 else none := ixN_nat (k := 9)
@[simp] theorem atI_10 {α : Type} {xs : List α} : atI xs 10 = xs[10]? := atI_nat (k := 10)
@[simp] theorem ixN_10 {n : Nat} : ixN n 10 = if 10 < n then some 10 else none := ixN_nat (k := 10)
@[simp] theorem atI_11 {α : Type} {xs : List α} : atI xs 11 = xs[11]? := atI_nat (k := 11)
@[simp] theorem ixN_11 {n : Nat} : ixN n 11 = if 11 < n then some 11 else none := ixN_nat (k := 11)
@[simp] theorem atI_12 {α : Type} {xs : List α} : atI xs 12 = xs[12]? := atI_nat (k := 12)
@[simp] theorem ixN_12 {n : Nat} : ixN n 12 = if 12 < n then some 12 else none := ixN_nat (k := 12)
@[simp] theorem atI_13 {α : Type} {xs : List α} : atI xs 13 = xs[13]? := atI_nat (k := 13)
@[simp] theorem ixN_13 {n : Nat} : ixN n 13 = if 13 < n then some 13 else none := ixN_nat (k := 13)
@[simp] theorem atI_14 {α : Type} {xs : List α} : atI xs 14 = xs[14]? := atI_nat (k := 14)
@[simp] theorem ixN_14 {n : Nat} : ixN n 14 = if 14 < n then some 14 else none := ixN_nat (k := 14)
@[simp] theorem atI_15 {α : Type} {xs : List α} : atI xs 15 = xs[15]? := atI_nat (k := 15)
@[simp] theorem ixN_15 {n : Nat} : ixN n 15 = if 15 < n then some 15 else none := ixN_nat (k := 15)
@[simp] theorem atI_neg1 {α : Type} {xs : List α} : atI xs (-1) = xs.getLast? := by
  unfold atI ixN
  rw [if_neg (by omega)]
  rw [List.getLast?_eq_getElem?]
  by_cases h : xs.length = 0
  · rw [if_neg (by omega)]; simp [h, List.getElem?_eq_none]
  · rw [if_pos (by omega)]
    have : (-1 + (xs.length : Int)).toNat = xs.length - 1 := by omega
    simp [this]
theorem atI_in {α : Type} {xs : List α} {i : Int} (h0 : 0 ≤ i) (h1 : i < xs.length) : ∃ d, atI xs i = some d ∧ xs[i.toNat]? = some d ∧ d ∈ xs := by
  obtain ⟨k, rfl⟩ := Int.eq_ofNat_of_zero_le h0
  have hk : k < xs.length := by omega
  exact ⟨xs[k], by rw [atI_nat]; simp [hk], by simp [hk], List.getElem_mem _⟩
theorem divOk_of {j : Int} (h0 : 0 < j) (h1 : j ≤ 10 ^ 100) : divOk j = true := by
  unfold divOk
  rw [Bool.and_eq_true, decide_eq_true_eq, decide_eq_true_eq]
  refine ⟨h0, ?_⟩
  have h2 : j.natAbs < 2 ^ 9000 := by
    have a : j.natAbs ≤ 10 ^ 100 := by
      have e : ((10 : Int) ^ 100) = ((10 ^ 100 : Nat) : Int) := by decide +kernel
      rw [e] at h1
      omega
    exact Nat.lt_of_le_of_lt a (by decide +kernel)
  exact (Nat.log2_lt (by omega)).mpr h2
theorem mulOk_r {i j : Int} (h : j.natAbs < 18446744073709551616) : mulOk i j = true := by unfold mulOk; simp [h]
theorem mulOk_l {i j : Int} (h : i.natAbs < 18446744073709551616) : mulOk i j = true := by unfold mulOk; simp [h]
theorem inR_of {i : Int} (h0 : -4611686018427387904 ≤ i) (h1 : i < 4611686018427387904) : inR i = true := by unfold inR; rw [RB_eq]; simp [h0, h1]
theorem q_tnil {ds : List D} {M : Mem} : dEq (.tup ds) (.tup []) M = some (ds.length == 0) := by
  unfold dEq
  have e : (scQ (.tup ds) (.tup [])).or (emQ (.tup ds) (.tup []) M) = some (ds.length == 0) := by simp [scQ, emQ]
  rw [e]
theorem q_lnil {n m : Nat} {xs : List D} {M : Mem} (h1 : M[n]? = some (.lst xs)) (h2 : M[m]? = some (.lst [])) : dEq (.ref n) (.ref m) M = some (xs.length == 0) := by
  unfold dEq
  cases xs with
  | nil =>
    have e : (scQ (.ref n) (.ref m)).or (emQ (.ref n) (.ref m) M) = none := by simp [scQ, emQ, h1, h2]
    rw [e]
    have t1 : toPy M (.ref n) = some (.list []) := by simp [toPy, toPyF, toPyN, h1, toPyFs]
    have t2 : toPy M (.ref m) = some (.list []) := by simp [toPy, toPyF, toPyN, h2, toPyFs]
    rw [t1, t2]
    decide
  | cons x xs =>
    have e : (scQ (.ref n) (.ref m)).or (emQ (.ref n) (.ref m) M) = some false := by simp [scQ, emQ, h1, h2]
    rw [e]
    simp
theorem dats_len {X : List Nat} {M : Mem} {B h : Nat} : ∀ {ds : List D} {w : Nat}, Dats X M B h w ds → ds.length ≤ w
  | [], w, _ => by simp
  | d :: ds, w, a => by
    obtain ⟨w1, w2, hw, a1, a2⟩ := dats_uncons a
    have := dats_len a2
    simp; omega
theorem cut_lo {ds : List D} {k : Nat} : cutD ds none (some (k : Int)) = ds.take k := by
  unfold cutD
  rw [HT.sIx_nat]
  simp only [HT.sIx, List.drop_zero, Nat.sub_zero]
  by_cases h : k ≤ ds.length
  · rw [Nat.min_eq_left h]
  · rw [Nat.min_eq_right (by omega), List.take_of_length_le (by omega), List.take_of_length_le (by omega)]
theorem cut_hi {ds : List D} {k : Nat} : cutD ds (some (k : Int)) none = ds.drop k := by
  unfold cutD
  rw [HT.sIx_nat]
  simp only [HT.sIx]
  by_cases h : k ≤ ds.length
  · rw [Nat.min_eq_left h, List.take_of_length_le (by simp)]
  · rw [Nat.min_eq_right (by omega), List.drop_eq_nil_of_le (Nat.le_refl _), List.drop_eq_nil_of_le (by omega)]; simp
theorem cut_hi1 {ds : List D} {k : Nat} : cutD ds (some ((k : Int) + 1)) none = ds.drop (k + 1) := cut_hi (k := k + 1)
theorem cut_one {ds : List D} {k : Nat} (h : k < ds.length) : cutD ds (some (k : Int)) (some ((k : Int) + 1)) = [ds[k]] := by
  unfold cutD
  have e : HT.sIx ds.length ds.length (some ((k : Int) + 1)) = min (k + 1) ds.length := HT.sIx_nat _ _ (k + 1)
  rw [e, HT.sIx_nat, Nat.min_eq_left (by omega), Nat.min_eq_left (by omega), Nat.add_sub_cancel_left, List.drop_eq_getElem_cons h]
  rfl
theorem cut_len {ds : List D} {lo hi : Option Int} : (cutD ds lo hi).length ≤ ds.length := by unfold cutD; simp; omega
/-! ### comprehensions that only look -/
section
variable {M : Mem} {E : PE0}
theorem Wp_fm {s : Src} {tg : D → Env → Option Env} {tst : Env → Ev Bool} {elt : Env → Ev D} {e : Env} {Q : PQ D} {xs : List D} (p : D → Bool) (f : D → D) (hn : s.len M = some xs.length) (ha : ∀ i d, xs[i]? = some d → s.at_ M i = some d) (hz : xs.length ≤ 16777216)
    (step : ∀ d ∈ xs, ∃ e1, tg d e = some e1 ∧ Wp (tst e1) M (fun b M1 => M1 = M ∧ b = p d ∧ (b = true → Wp (elt e1) M (fun v M2 => M2 = M ∧ v = f d) (fun _ _ => False))) fun _ _ => False)
    (last : Q (.ref M.length) (al M (.lst ((xs.filter p).map f)))) : Wp (lcS s tg tst elt e) M Q E := by
  refine Wp_lc (n := xs.length) (fun i acc M1 => M1 = M ∧ acc = ((xs.take i).filter p).map f) hn hz ⟨rfl, by simp⟩ ?_ ?_
  · rintro i acc M1 hi ⟨rfl, rfl⟩
    have hx : xs[i]? = some xs[i] := by simp [hi]
    obtain ⟨e1, h1, h2⟩ := step xs[i] (List.getElem_mem _)
    refine ⟨_, e1, ha i _ hx, h1, h2.mono ?_⟩
    rintro b M2 ⟨rfl, rfl, h3⟩
    have ht : xs.take (i + 1) = xs.take i ++ [xs[i]] := by rw [List.take_succ, hx]; rfl
    cases hp : p xs[i] with
    | false =>
      rw [if_neg Bool.false_ne_true]
      exact ⟨rfl, by rw [ht, List.filter_append, List.filter_cons_of_neg (by rw [hp]; nofun), List.filter_nil, List.append_nil]⟩
    | true =>
      rw [if_pos rfl]
      refine (h3 hp).mono ?_
      rintro v M3 ⟨rfl, rfl⟩
      exact ⟨rfl, by rw [ht, List.filter_append, List.filter_cons_of_pos hp, List.filter_nil, List.map_append]; rfl⟩
  · rintro acc M1 ⟨rfl, rfl⟩
    exact ⟨hn, by rw [List.take_length]; exact last⟩
theorem Wp_map {s : Src} {tg : D → Env → Option Env} {elt : Env → Ev D} {e : Env} {Q : PQ D} {xs : List D} (f : D → D) (hn : s.len M = some xs.length) (ha : ∀ i d, xs[i]? = some d → s.at_ M i = some d) (hz : xs.length ≤ 16777216)
    (step : ∀ d ∈ xs, ∃ e1, tg d e = some e1 ∧ Wp (elt e1) M (fun v M2 => M2 = M ∧ v = f d) (fun _ _ => False))
    (last : Q (.ref M.length) (al M (.lst (xs.map f)))) : Wp (lcS s tg (fun _ => ret true) elt e) M Q E := by
  refine Wp_fm (fun _ => true) f hn ha hz (fun d hd => ?_) (by rw [show xs.filter (fun _ => true) = xs from List.filter_eq_self.mpr fun _ _ => rfl]; exact last)
  obtain ⟨e1, h1, h2⟩ := step d hd
  exact ⟨e1, h1, rfl, rfl, fun _ => h2⟩
theorem allB_map {xs : List D} (g : D → Bool) : allB (xs.map fun d => .bl (g d)) = some (xs.all g) := by
  induction xs with
  | nil => rfl
  | cons x xs ih => simp only [List.map_cons, allB, ih, List.all_cons, Option.map_some]
theorem anyB_map {xs : List D} (g : D → Bool) : anyB (xs.map fun d => .bl (g d)) = some (xs.any g) := by
  induction xs with
  | nil => rfl
  | cons x xs ih => simp only [List.map_cons, anyB, ih, List.any_cons, Option.map_some]
end
end Pf
set_option maxHeartbeats 4000000
/-! Pf: lines, runs, ways. -/
namespace Pf
open PySem PySem.Spec
open L2 (atI ixN)
abbrev nts (ss : List Int) : List D := ss.map .int
def lineD (ss : List Int) (t p : Int) : D := .tup [.tup (nts ss), .int t, .int p]
structure LineOk (ss : List Int) (t p : Int) : Prop where
  l1 : 1 ≤ ss.length
  l5 : ss.length ≤ 5
  s : ∀ s ∈ ss, 1 ≤ s ∧ s ≤ 9
  t1 : 1 ≤ t
  t9 : t ≤ 9
  p1 : 1 ≤ p
  p3 : p ≤ 3
/-- a run from a room to a room at a tick -/
structure Rn where
  a : Nat
  b : Nat
  t : Int
def Rn.d (r : Rn) : D := .tup [.int r.a, .int r.b, .int r.t]
structure Rn.Ok (n : Nat) (r : Rn) : Prop where
  a : r.a ≤ n
  b : r.b ≤ n
  ne : r.a ≠ r.b
  t : 0 ≤ r.t
def way (ss : List Int) (x y : Nat) : Int := ((ss.drop (min x y)).take (max x y - min x y)).sum
theorem way_self {ss : List Int} {x : Nat} : way ss x x = 0 := by simp [way]
theorem way_up {ss : List Int} {x y : Nat} (h : x ≤ y) (hy : y < ss.length) : way ss x (y + 1) = way ss x y + ss[y] := by
  unfold way
  rw [Nat.min_eq_left (by omega), Nat.min_eq_left h, Nat.max_eq_right (by omega), Nat.max_eq_right h, show y + 1 - x = (y - x) + 1 by omega, List.take_succ]
  have e : (ss.drop x)[y - x]? = some ss[y] := by rw [List.getElem?_drop, show x + (y - x) = y by omega]; simp [hy]
  rw [e]
  simp
theorem way_down {ss : List Int} {x y : Nat} (h : y < x) (hx : x ≤ ss.length) : way ss x y = way ss x (y + 1) + (ss[y]'(by omega)) := by
  unfold way
  rw [Nat.min_eq_right (by omega), Nat.min_eq_right (by omega), Nat.max_eq_left (by omega), Nat.max_eq_left (by omega), show x - y = (x - (y + 1)) + 1 by omega, List.drop_eq_getElem_cons (show y < ss.length by omega), List.take_succ_cons, List.sum_cons]
  omega
theorem sum_take_le {ss : List Int} (h : ∀ s ∈ ss, 1 ≤ s ∧ s ≤ 9) : 0 ≤ ss.sum ∧ ss.sum ≤ 9 * ss.length := by
  induction ss with
  | nil => simp
  | cons s ss ih =>
    have a := h s (by simp)
    have b := ih fun x hx => h x (by simp [hx])
    simp only [List.sum_cons, List.length_cons]
    omega
theorem way_bd {ss : List Int} (h : ∀ s ∈ ss, 1 ≤ s ∧ s ≤ 9) (x y : Nat) : 0 ≤ way ss x y ∧ way ss x y ≤ 9 * ss.length := by
  have a := sum_take_le (ss := (ss.drop (min x y)).take (max x y - min x y)) fun s hs => h s (List.mem_of_mem_drop (List.mem_of_mem_take hs))
  unfold way
  have b : ((ss.drop (min x y)).take (max x y - min x y)).length ≤ ss.length := by simp; omega
  omega
/-! marks -/
def Rn.len (r : Rn) : Nat := (r.b - r.a) + (r.a - r.b)
def Rn.pos (r : Rn) (i : Nat) : Nat := if r.a ≤ r.b then r.a + i else r.a - i
def Rn.mark (ss : List Int) (r : Rn) (i : Nat) : Int × Nat := (r.t + way ss r.a (r.pos i), r.pos i)
def Rn.marks (ss : List Int) (r : Rn) : List (Int × Nat) := (List.range (r.len + 1)).map (r.mark ss)
def Rn.end_ (ss : List Int) (r : Rn) : Int := r.t + way ss r.a r.b
def markD (m : Int × Nat) : D := .tup [.int m.1, .int m.2]
theorem Rn.pos_0 (r : Rn) : r.pos 0 = r.a := by unfold Rn.pos; split <;> omega
theorem Rn.pos_len (r : Rn) : r.pos r.len = r.b := by unfold Rn.pos Rn.len; split <;> omega
theorem Rn.pos_le {n : Nat} {r : Rn} (ha : r.a ≤ n) (hb : r.b ≤ n) {i : Nat} (hi : i ≤ r.len) : r.pos i ≤ n := by unfold Rn.len at hi; unfold Rn.pos; split <;> omega
theorem Rn.pos_ne {r : Rn} {i : Nat} (hi : i < r.len) : r.pos i ≠ r.b := by unfold Rn.len at hi; unfold Rn.pos; split <;> omega
/-- the next mark -/
theorem Rn.mark_s {ss : List Int} {r : Rn} (ha : r.a ≤ ss.length) (hb : r.b ≤ ss.length) {i : Nat} (hi : i < r.len) :
    ∃ v, ss[min (r.pos i) (r.pos (i + 1))]? = some v ∧ (r.mark ss (i + 1)).1 = (r.mark ss i).1 + v := by
  unfold Rn.len at hi
  unfold Rn.mark Rn.pos
  by_cases h : r.a ≤ r.b
  · simp only [if_pos h]
    have e : min (r.a + i) (r.a + (i + 1)) = r.a + i := by omega
    have l : r.a + i < ss.length := by omega
    have w := way_up (ss := ss) (x := r.a) (y := r.a + i) (by omega) l
    refine ⟨ss[r.a + i], by rw [e]; simp [l], ?_⟩
    show r.t + way ss r.a (r.a + i + 1) = _
    rw [w]; omega
  · simp only [if_neg h]
    have e : min (r.a - i) (r.a - (i + 1)) = r.a - (i + 1) := by omega
    have l : r.a - (i + 1) < ss.length := by omega
    have w := way_down (ss := ss) (x := r.a) (y := r.a - (i + 1)) (by omega) ha
    refine ⟨ss[r.a - (i + 1)], by rw [e]; simp [l], ?_⟩
    show r.t + way ss r.a (r.a - (i + 1)) = _
    rw [w, show r.a - (i + 1) + 1 = r.a - i by omega]; omega
theorem sumI_ints : ∀ (l : List Int), sumI (nts l) = some l.sum
  | [] => rfl
  | x :: l => by
    show (sumI (nts l)).map (x + ·) = _
    rw [sumI_ints l]; simp
theorem cut_mid {ds : List D} {a b : Nat} (ha : a ≤ ds.length) (hb : b ≤ ds.length) : cutD ds (some (a : Int)) (some (b : Int)) = (ds.drop a).take (b - a) := by
  unfold cutD
  rw [HT.sIx_nat, HT.sIx_nat, Nat.min_eq_left ha, Nat.min_eq_left hb]
theorem min_nat {x y : Nat} : (if (y : Int) < (x : Int) then (y : Int) else (x : Int)) = ((min x y : Nat) : Int) := by split <;> omega
theorem max_nat {x y : Nat} : (if (x : Int) < (y : Int) then (y : Int) else (x : Int)) = ((max x y : Nat) : Int) := by split <;> omega
/-! data -/
theorem line_dat {ss : List Int} {t p : Int} (o : LineOk ss t p) (X : List Nat) (M : Mem) : Dat X M (10 ^ 30) 2 2000 (lineD ss t p) := by
  have B : (10 : Nat) ^ 30 ≤ 10 ^ 60 := by decide +kernel
  have h1 : Dats X M (10 ^ 30) 0 1005 (nts ss) := by
    refine (dats_all (w := 200) fun d hd => ?_).up (Nat.le_refl _) (Nat.le_refl _) (by have := o.l5; simp; omega)
    obtain ⟨s, hs, rfl⟩ := List.mem_map.mp hd
    have := o.s s hs
    exact dat_int (by omega) B (by omega)
  have ht := o.t1; have ht2 := o.t9; have hp := o.p1; have hp2 := o.p3
  exact (dat_tup (dats_cons (dat_tup h1) (dats_cons (dat_int (h := 1) (w := 200) (by omega) B (by omega)) (dats1 (dat_int (w := 200) (by omega) B (by omega)))))).up (Nat.le_refl _) (Nat.le_refl _) (by omega)
theorem run_dat {r : Rn} (ha : r.a ≤ 1000) (hb : r.b ≤ 1000) (ht : r.t.natAbs ≤ 10 ^ 30) (X : List Nat) (M : Mem) : Dat X M (10 ^ 30) 1 800 r.d := by
  have B : (10 : Nat) ^ 30 ≤ 10 ^ 60 := by decide +kernel
  exact (dat_tup (dats_cons (dat_int (h := 0) (w := 200) (by omega) B (by omega)) (dats_cons (dat_int (h := 0) (w := 200) (by omega) B (by omega)) (dats1 (dat_int (w := 200) (by omega) B (by omega)))))).up (Nat.le_refl _) (Nat.le_refl _) (by omega)
theorem min_nat' {x y : Nat} : (if y < x then (y : Int) else (x : Int)) = ((min x y : Nat) : Int) := by split <;> omega
theorem max_nat' {x y : Nat} : (if x < y then (y : Int) else (x : Int)) = ((max x y : Nat) : Int) := by split <;> omega
/-! comprehensions over typed items -/
section
variable {M : Mem} {E : PE0}
theorem Wp_fmF {β : Type} {s : Src} {tg : D → Env → Option Env} {tst : Env → Ev Bool} {elt : Env → Ev D} {e : Env} {Q : PQ D} (us : List β) (enc : β → D) (p : β → Bool) (g : β → D) (J : Mem → Prop) (hJ : J M)
    (hs : ∀ M1, J M1 → s.len M1 = some us.length ∧ ∀ i u, us[i]? = some u → s.at_ M1 i = some (enc u)) (hz : us.length ≤ 16777216)
    (step : ∀ u ∈ us, ∀ M1, J M1 → ∃ e1, tg (enc u) e = some e1 ∧ Wp (tst e1) M1 (fun b M2 => b = p u ∧ if b = true then Wp (elt e1) M2 (fun v M3 => J M3 ∧ v = g u) (fun _ _ => False) else J M2) fun _ _ => False)
    (last : ∀ M1, J M1 → Q (.ref M1.length) (al M1 (.lst ((us.filter p).map g)))) : Wp (lcS s tg tst elt e) M Q E := by
  refine Wp_lc (n := us.length) (fun i acc M1 => J M1 ∧ acc = ((us.take i).filter p).map g) (hs M hJ).1 hz ⟨hJ, by simp⟩ ?_ ?_
  · rintro i acc M1 hi ⟨h1, rfl⟩
    have hx : us[i]? = some us[i] := by simp [hi]
    obtain ⟨e1, h2, h3⟩ := step us[i] (List.getElem_mem _) M1 h1
    refine ⟨_, e1, (hs M1 h1).2 i _ hx, h2, h3.mono ?_⟩
    rintro b M2 ⟨rfl, h4⟩
    have ht : us.take (i + 1) = us.take i ++ [us[i]] := by rw [List.take_succ, hx]; rfl
    cases hp : p us[i] with
    | false =>
      rw [hp] at h4
      rw [if_neg Bool.false_ne_true] at h4 ⊢
      exact ⟨h4, by rw [ht, List.filter_append, List.filter_cons_of_neg (by rw [hp]; nofun), List.filter_nil, List.append_nil]⟩
    | true =>
      rw [hp] at h4
      rw [if_pos rfl] at h4 ⊢
      refine h4.mono ?_
      rintro v M3 ⟨h5, rfl⟩
      exact ⟨h5, by rw [ht, List.filter_append, List.filter_cons_of_pos hp, List.filter_nil, List.map_append]; rfl⟩
  · rintro acc M1 ⟨h1, rfl⟩
    exact ⟨(hs M1 h1).1, by rw [List.take_length]; exact last M1 h1⟩
theorem Wp_mapF {β : Type} {s : Src} {tg : D → Env → Option Env} {elt : Env → Ev D} {e : Env} {Q : PQ D} (us : List β) (enc : β → D) (g : β → D) (J : Mem → Prop) (hJ : J M)
    (hs : ∀ M1, J M1 → s.len M1 = some us.length ∧ ∀ i u, us[i]? = some u → s.at_ M1 i = some (enc u)) (hz : us.length ≤ 16777216)
    (step : ∀ u ∈ us, ∀ M1, J M1 → ∃ e1, tg (enc u) e = some e1 ∧ Wp (elt e1) M1 (fun v M3 => J M3 ∧ v = g u) (fun _ _ => False))
    (last : ∀ M1, J M1 → Q (.ref M1.length) (al M1 (.lst (us.map g)))) : Wp (lcS s tg (fun _ => ret true) elt e) M Q E := by
  refine Wp_fmF us enc (fun _ => true) g J hJ hs hz (fun u hu M1 h1 => ?_) fun M1 h1 => by rw [show us.filter (fun _ => true) = us from List.filter_eq_self.mpr fun _ _ => rfl]; exact last M1 h1
  obtain ⟨e1, h2, h3⟩ := step u hu M1 h1
  exact ⟨e1, h2, rfl, h3⟩
theorem src_lst {β : Type} {m : Nat} {us : List β} {enc : β → D} {M1 : Mem} (h : M1[m]? = some (.lst (us.map enc))) : (Src.lst m).len M1 = some us.length ∧ ∀ i u, us[i]? = some u → (Src.lst m).at_ M1 i = some (enc u) :=
  ⟨by rw [l_lst h]; simp, fun i u e => by rw [a_lst h]; simp [e]⟩
theorem src_tup {β : Type} {us : List β} {enc : β → D} {M1 : Mem} : (Src.tup (us.map enc)).len M1 = some us.length ∧ ∀ i u, us[i]? = some u → (Src.tup (us.map enc)).at_ M1 i = some (enc u) :=
  ⟨by simp, fun i u e => by simp [e]⟩
theorem src_rng {k : Nat} {M1 : Mem} : (Src.rng 0 1 k).len M1 = some (List.range k).length ∧ ∀ i u, (List.range k)[i]? = some u → (Src.rng 0 1 k).at_ M1 i = some (.int (u : Nat)) :=
  ⟨by simp, fun i u e => by
    obtain ⟨h, e⟩ := List.getElem?_eq_some_iff.mp e
    simp at h e
    subst e
    rw [a_rng h]; simp⟩
theorem l_enl {n : Nat} {xs : List D} (h : M[n]? = some (.lst xs)) : (Src.enl n).len M = some xs.length := by simp only [Src.len, h]
theorem a_enl {n i : Nat} {xs : List D} (h : M[n]? = some (.lst xs)) : (Src.enl n).at_ M i = xs[i]?.map fun x => .tup [.int (i : Nat), x] := by simp only [Src.at_, h]
@[simp] theorem l_ent {xs : List D} : (Src.ent xs).len M = some xs.length := rfl
@[simp] theorem a_ent {xs : List D} {i : Nat} : (Src.ent xs).at_ M i = xs[i]?.map fun x => .tup [.int (i : Nat), x] := rfl
@[simp] theorem l_zpt {xs ys : List D} : (Src.zpt xs ys).len M = some (min xs.length ys.length) := rfl
theorem l_dck {n : Nat} {kvs : List (L2.Key × D)} (h : M[n]? = some (.fdc kvs)) : (Src.dck n).len M = some kvs.length := by simp only [Src.len, h]
theorem a_dck {n i : Nat} {kvs : List (L2.Key × D)} (h : M[n]? = some (.fdc kvs)) : (Src.dck n).at_ M i = kvs[i]?.map fun kv => kD kv.1 := by simp only [Src.at_, h]
/-- a comprehension over a dict -/
theorem w_lck {i n : Nat} {r : Pf.Env → Ev D} {e : Pf.Env} {kvs : List (L2.Key × D)} {E : PE0} {Q : PQ D} (he : e[i]? = some (some (.ref n))) (h : M[n]? = some (.dct kvs))
    (hr : Wp (r e) (M.set n (.fdc kvs)) (fun v M2 => M2[n]? = some (.fdc kvs) ∧ Q v (M2.set n (.dct kvs))) fun _ _ => False) : Wp (lckE i r e) M Q E := by
  unfold Wp at hr ⊢
  unfold lckE
  rw [he]
  dsimp only
  rw [h]
  dsimp only
  cases q : r e (M.set n (.fdc kvs)) with
  | ok v M2 =>
    rw [q] at hr
    obtain ⟨h1, h2⟩ := hr
    dsimp only
    rw [h1]
    exact h2
  | ex c M2 => rw [q] at hr; exact hr.elim
  | no => rw [q] at hr; exact hr.elim
theorem Ws_lck {n : Nat} {rit : Pf.Env → Ev D} {r : Pf.Env → Ev Out} {e : Pf.Env} {kvs : List (L2.Key × D)} {P : Po} {M1 : Mem} (he : rit e M = .ok (.ref n) M1) (h : M[n]? = some (.dct kvs))
    (hr : Ws (r e) (M.set n (.fdc kvs)) ⟨fun e2 M2 => M2[n]? = some (.fdc kvs) ∧ P.nx e2 (M2.set n (.dct kvs)), fun d M2 => M2[n]? = some (.fdc kvs) ∧ P.rt d (M2.set n (.dct kvs)), fun e2 M2 => M2[n]? = some (.fdc kvs) ∧ P.bk e2 (M2.set n (.dct kvs)), fun e2 M2 => M2[n]? = some (.fdc kvs) ∧ P.ct e2 (M2.set n (.dct kvs)), fun _ _ => False⟩) :
    Ws (lckS rit r e) M P := by
  unfold Ws at hr ⊢
  unfold lckS
  rw [he]
  dsimp only
  rw [h]
  dsimp only
  cases q : r e (M.set n (.fdc kvs)) with
  | ok o M2 =>
    rw [q] at hr
    cases o <;> (obtain ⟨h1, h2⟩ := hr; dsimp only; rw [h1]; exact h2)
  | ex c M2 => rw [q] at hr; exact hr.elim
  | no => rw [q] at hr; exact hr.elim
theorem w_dckD {n : Nat} {kvs : List (L2.Key × D)} {E : PE0} {Q : PQ Src} (h : M[n]? = some (.fdc kvs)) : Wp (dckD (.ref n)) M Q E = Q (.dck n) M := by
  unfold Wp dckD
  dsimp only
  rw [h]
theorem w_dckI {i n : Nat} {e : Pf.Env} {kvs : List (L2.Key × D)} {E : PE0} {Q : PQ Src} (he : e[i]? = some (some (.ref n))) (h : M[n]? = some (.fdc kvs)) : Wp (dckI i e) M Q E = Q (.dck n) M := by
  unfold Wp dckI
  rw [he]
  dsimp only
  rw [h]
theorem l_zpm {n : Nat} {xs ys : List D} (h : M[n]? = some (.lst xs)) : (Src.zpm n ys).len M = some (min xs.length ys.length) := by simp only [Src.len, h]
theorem a_zpm {n : Nat} {xs ys : List D} {i : Nat} {x y : D} (h : M[n]? = some (.lst xs)) (h1 : xs[i]? = some x) (h2 : ys[i]? = some y) (hq : prsD [x, y] = false := by simp [prsD, isIP]) : (Src.zpm n ys).at_ M i = some (.tup [x, y]) := by simp only [Src.at_, h, h1, h2, hq, if_false, Bool.false_eq_true]
theorem a_zpt {xs ys : List D} {i : Nat} {x y : D} (h1 : xs[i]? = some x) (h2 : ys[i]? = some y) (hq : prsD [x, y] = false := by simp [prsD, isIP]) : (Src.zpt xs ys).at_ M i = some (.tup [x, y]) := by simp only [Src.at_, h1, h2, hq, if_false, Bool.false_eq_true]
theorem w_dictT {ds : List D} {E : PE0} {Q : PQ D} : Wp (dDict (.tup ds)) M Q E = (prsD ds = true ∧ oG (pairsK ds) fun kvs => Q (.ref M.length) (al M (.dct (mergeD [] kvs)))) := by
  unfold Wp dDict
  dsimp only
  by_cases h : prsD ds = true
  · rw [if_pos h]
    cases pairsK ds with
    | none => simp [oG, rP, h]
    | some kvs =>
      simp only [oG, h, true_and]
      rfl
  · rw [if_neg h]
    simp [h]
end
/-- lists of lists: one cell a row -/
structure RowsAt {β : Type} (M : Mem) (enc : β → D) (ns : List Nat) (rs : List (List β)) : Prop where
  len : ns.length = rs.length
  at_ : ∀ (k n : Nat) (r : List β), ns[k]? = some n → rs[k]? = some r → M[n]? = some (Cell.lst (r.map enc))
theorem RowsAt.fr {β : Type} {M M' : Mem} {enc : β → D} {ns : List Nat} {rs : List (List β)} {X : List Nat} (h : RowsAt M enc ns rs) (f : Fr X M M') (hX : ∀ n ∈ ns, n ∉ X) : RowsAt M' enc ns rs :=
  ⟨h.len, fun k n r e1 e2 => f.at_ (h.at_ k n r e1 e2) (hX n (List.mem_of_getElem? e1))⟩
theorem RowsAt.get {β : Type} {M : Mem} {enc : β → D} {ns : List Nat} {rs : List (List β)} (h : RowsAt M enc ns rs) {k : Nat} (hk : k < rs.length) : ∃ n, ns[k]? = some n ∧ M[n]? = some (.lst (rs[k].map enc)) :=
  have l : k < ns.length := by rw [h.len]; exact hk
  ⟨ns[k], by simp [l], h.at_ k _ _ (by simp [l]) (by simp [hk])⟩
theorem RowsAt.nil {β : Type} {M : Mem} {enc : β → D} : RowsAt M enc [] [] := ⟨rfl, fun k n r e => by simp at e⟩
theorem RowsAt.snoc {β : Type} {M : Mem} {enc : β → D} {ns : List Nat} {rs : List (List β)} {n : Nat} {r : List β} (h : RowsAt M enc ns rs) (e : M[n]? = some (.lst (r.map enc))) : RowsAt M enc (ns ++ [n]) (rs ++ [r]) := by
  refine ⟨by simp [h.len], fun k n' r' e1 e2 => ?_⟩
  by_cases hk : k < ns.length
  · rw [List.getElem?_append_left hk] at e1
    rw [List.getElem?_append_left (by rw [← h.len]; exact hk)] at e2
    exact h.at_ k n' r' e1 e2
  · have l1 := (List.getElem?_eq_some_iff.mp e1).1
    have hl : k = ns.length := by simp at l1; omega
    subst hl
    rw [List.getElem?_append_right (Nat.le_refl _)] at e1
    rw [h.len, List.getElem?_append_right (Nat.le_refl _)] at e2
    simp at e1 e2
    subst e1 e2
    exact e
/-! sources and costs -/
def pairD (p : Nat × Int) : D := .tup [.int p.1, .int p.2]
def stk (stock : List Nat) (i : Nat) : List (Nat × Int) := (List.range i).flatMap fun j => List.replicate (stock.getD j 0) (j, (0 : Int))
def srcs (ss : List Int) (stock : List Nat) (trips : List Rn) : List (Nat × Int) := stk stock stock.length ++ trips.map fun r => (r.b, r.end_ ss)
def cost (ss : List Int) (r : Rn) (s : Nat × Int) : Option Nat := if r.t < s.2 + way ss s.1 r.a then none else some (if s.1 = r.a then 0 else 1)
def rows (ss : List Int) (stock : List Nat) (trips : List Rn) : List (List (Option Nat)) := trips.map fun r => (srcs ss stock trips).map (cost ss r)
theorem stk_s {stock : List Nat} {i : Nat} (h : i < stock.length) : stk stock (i + 1) = stk stock i ++ List.replicate stock[i] (i, (0 : Int)) := by
  unfold stk
  rw [List.range_succ, List.flatMap_append]
  simp [List.getD, h]
theorem stk_len {stock : List Nat} (h : ∀ m ∈ stock, m ≤ 4) : ∀ {i : Nat}, i ≤ stock.length → (stk stock i).length ≤ 4 * i
  | 0, _ => by simp [stk]
  | i + 1, hi => by
    rw [stk_s (show i < stock.length by omega), List.length_append, List.length_replicate]
    have a := stk_len h (i := i) (by omega)
    have b := h stock[i] (List.getElem_mem _)
    omega
theorem stk_mem {stock : List Nat} {i : Nat} {s : Nat × Int} (h : s ∈ stk stock i) : s.1 < i ∧ s.2 = 0 := by
  unfold stk at h
  obtain ⟨j, hj, h⟩ := List.mem_flatMap.mp h
  have e := List.eq_of_mem_replicate h
  subst e
  exact ⟨List.mem_range.mp hj, rfl⟩
end Pf
set_option maxHeartbeats 0
namespace K82
open PySem PySem.Spec Pf
noncomputable def g_is_whole (c : Tab) (e : Pf.Env) : Ev Out := seqB (bnd (andE (bnd (getS 0 e) (isiE "int")) (notE (bnd (getS 0 e) (isiE "bool")))) fun d => ret (.rt d)) fun e => ret (.nx e)
theorem q_is_whole (n : Nat) : PH (n + 1) "is_whole" = finF 1 1 (g_is_whole (PH n)) := by kernel_rfl
noncomputable def g_is_within (c : Tab) (e : Pf.Env) : Ev Out := seqB (bnd (andE (bnd (argL [getS 0 e]) fun vs => c "is_whole" vs) (chE .LtE .LtE (getS 1 e) (getS 0 e) (getS 2 e))) fun d => ret (.rt d)) fun e => ret (.nx e)
theorem q_is_within (n : Nat) : PH (n + 1) "is_within" = finF 3 3 (g_is_within (PH n)) := by kernel_rfl
noncomputable def g_is_line (c : Tab) (e : Pf.Env) : Ev Out := seqB (ifS (orT (notT (bnd (bnd (getS 0 e) (isiE "tuple")) toB)) (orT (bnd (bnd (bnd (getS 0 e) dLen) fun x => bnd (ret (.int 3)) fun y => dCmp .NotEq x y) toB) (notT (bnd (bnd (bnd (getS 0 e) fun x => bnd (ret (.int 0)) fun y => dIdx x y) (isiE "tuple")) toB)))) (seqB (bnd (ret (.bl false)) fun d => ret (.rt d)) fun e => ret (.nx e)) (ret (.nx e))) fun e => seqB (asgS (tgT [1, 2, 3]) (getS 0 e) e) fun e => seqB (ifS (orT (notT (bnd (chE .LtE .LtE (ret (.int 1)) (bnd (getS 1 e) dLen) (ret (.int 5))) toB)) (notT (bnd (bnd (bnd (bnd (getS 1 e) srcOf) fun s => lcS s (tg1 4) (fun e => ret true) (fun e => bnd (argL [getS 4 e, ret (.int 1), ret (.int 9)]) fun vs => c "is_within" vs) (wipeE e [4])) dAll) toB))) (seqB (bnd (ret (.bl false)) fun d => ret (.rt d)) fun e => ret (.nx e)) (ret (.nx e))) fun e => seqB (bnd (andE (bnd (argL [getS 2 e, ret (.int 1), ret (.int 9)]) fun vs => c "is_within" vs) (bnd (argL [getS 3 e, ret (.int 1), ret (.int 3)]) fun vs => c "is_within" vs)) fun d => ret (.rt d)) fun e => ret (.nx e)
theorem q_is_line (n : Nat) : PH (n + 1) "is_line" = finF 1 5 (g_is_line (PH n)) := by kernel_rfl
noncomputable def g_is_room (c : Tab) (e : Pf.Env) : Ev Out := seqB (bnd (bnd (argL [getS 1 e, ret (.int 0), bnd (bnd (getS 0 e) fun x => bnd (ret (.int 0)) fun y => dIdx x y) dLen]) fun vs => c "is_within" vs) fun d => ret (.rt d)) fun e => ret (.nx e)
theorem q_is_room (n : Nat) : PH (n + 1) "is_room" = finF 2 2 (g_is_room (PH n)) := by kernel_rfl
noncomputable def g_is_run_of (c : Tab) (e : Pf.Env) : Ev Out := seqB (ifS (orT (notT (bnd (bnd (getS 1 e) (isiE "tuple")) toB)) (orT (bnd (bnd (bnd (getS 1 e) dLen) fun x => bnd (ret (.int 3)) fun y => dCmp .NotEq x y) toB) (orT (notT (bnd (bnd (argL [getS 0 e, bnd (getS 1 e) fun x => bnd (ret (.int 0)) fun y => dIdx x y]) fun vs => c "is_room" vs) toB)) (notT (bnd (bnd (argL [getS 0 e, bnd (getS 1 e) fun x => bnd (ret (.int 1)) fun y => dIdx x y]) fun vs => c "is_room" vs) toB))))) (seqB (bnd (ret (.bl false)) fun d => ret (.rt d)) fun e => ret (.nx e)) (ret (.nx e))) fun e => seqB (bnd (andE (bnd (bnd (getS 1 e) fun x => bnd (ret (.int 0)) fun y => dIdx x y) fun x => bnd (bnd (getS 1 e) fun x => bnd (ret (.int 1)) fun y => dIdx x y) fun y => dCmp .NotEq x y) (andE (bnd (argL [bnd (getS 1 e) fun x => bnd (ret (.int 2)) fun y => dIdx x y]) fun vs => c "is_whole" vs) (bnd (bnd (getS 1 e) fun x => bnd (ret (.int 2)) fun y => dIdx x y) fun x => bnd (ret (.int 0)) fun y => dCmp .GtE x y))) fun d => ret (.rt d)) fun e => ret (.nx e)
theorem q_is_run_of (n : Nat) : PH (n + 1) "is_run_of" = finF 2 2 (g_is_run_of (PH n)) := by kernel_rfl
noncomputable def g_is_plan_of (c : Tab) (e : Pf.Env) : Ev Out := seqB (bnd (andE (bnd (getS 1 e) (isiE "list")) (andE (bnd (bnd (getS 1 e) dLen) fun x => bnd (ret (.int 8)) fun y => dCmp .LtE x y) (bnd (bnd (bnd (getS 1 e) srcOf) fun s => lcS s (tg1 2) (fun e => ret true) (fun e => bnd (argL [getS 0 e, getS 2 e]) fun vs => c "is_run_of" vs) (wipeE e [2])) dAll))) fun d => ret (.rt d)) fun e => ret (.nx e)
theorem q_is_plan_of (n : Nat) : PH (n + 1) "is_plan_of" = finF 2 3 (g_is_plan_of (PH n)) := by kernel_rfl
noncomputable def g_number_of (c : Tab) (e : Pf.Env) : Ev Out := seqB (ifS (orT (notT (bnd (chE .LtE .LtE (ret (.int 1)) (bnd (getS 0 e) dLen) (getS 1 e)) toB)) (notT (bnd (bnd (bnd (bnd (getS 0 e) srcOf) fun s => lcS s (tg1 2) (fun e => ret true) (fun e => bnd (getS 2 e) fun x => bnd (ret (.str "0123456789")) fun y => dCmp .In x y) (wipeE e [2])) dAll) toB))) (seqB (bnd (ret (.non)) fun d => ret (.rt d)) fun e => ret (.nx e)) (ret (.nx e))) fun e => seqB (ifS (andT (bnd (bnd (bnd (getS 0 e) dLen) fun x => bnd (ret (.int 1)) fun y => dCmp .Gt x y) toB) (bnd (bnd (bnd (getS 0 e) fun x => bnd (ret (.int 0)) fun y => dIdx x y) fun x => bnd (ret (.str "0")) fun y => dCmp .Eq x y) toB)) (seqB (bnd (ret (.non)) fun d => ret (.rt d)) fun e => ret (.nx e)) (ret (.nx e))) fun e => seqB (bnd (bnd (getS 0 e) dInt) fun d => ret (.rt d)) fun e => ret (.nx e)
theorem q_number_of (n : Nat) : PH (n + 1) "number_of" = finF 2 3 (g_number_of (PH n)) := by kernel_rfl
noncomputable def g_numbers_of (c : Tab) (e : Pf.Env) : Ev Out := seqB (asgS (tg1 2) (bnd (bnd (getS 0 e) srcOf) fun s => lcS s (tg1 3) (fun e => ret true) (fun e => bnd (argL [getS 3 e, getS 1 e]) fun vs => c "number_of" vs) (wipeE e [3])) e) fun e => seqB (ifS (bnd (bnd (ret (.non)) fun x => bnd (getS 2 e) fun y => dCmp .In x y) toB) (seqB (bnd (ret (.non)) fun d => ret (.rt d)) fun e => ret (.nx e)) (ret (.nx e))) fun e => seqB (bnd (bnd (getS 2 e) dTuple) fun d => ret (.rt d)) fun e => ret (.nx e)
theorem q_numbers_of (n : Nat) : PH (n + 1) "numbers_of" = finF 2 4 (g_numbers_of (PH n)) := by kernel_rfl
noncomputable def g_line_by (c : Tab) (e : Pf.Env) : Ev Out := seqB (bnd (bnd (bnd (argL [bnd (getS 0 e) fun x => bnd (bnd (ret (.int 2)) toPart) fun l => bnd (ret none) fun h => dSlice x l h]) newt) fun x => bnd (bnd (getS 0 e) fun x => bnd (ret none) fun l => bnd (bnd (ret (.int 2)) toPart) fun h => dSlice x l h) fun y => dAdd x y) fun d => ret (.rt d)) fun e => ret (.nx e)
theorem q_line_by (n : Nat) : PH (n + 1) "line_by" = finF 1 1 (g_line_by (PH n)) := by kernel_rfl
noncomputable def g_parted (c : Tab) (e : Pf.Env) : Ev Out := seqB (asgS (tg1 1) (bnd (bnd (bnd (getS 0 e) fun x => bnd (chkS x) fun _ => bnd (ret (.str "\n")) fun y => dSplit x y) srcOf) fun s => lcS s (tg1 3) (fun e => ret true) (fun e => bnd (getS 3 e) fun x => bnd (chkS x) fun _ => bnd (ret (.str " ")) fun y => dSplit x y) (wipeE e [3])) e) fun e => seqB (ifS (bnd (bnd (bnd (bnd (getS 1 e) srcOf) fun s => lcS s (tg1 4) (fun e => ret true) (fun e => bnd (getS 4 e) fun x => bnd (ret (.int 0)) fun y => dIdx x y) (wipeE e [4])) fun x => bnd (bnd (bnd (argL [ret (.str "line")]) newl) fun x => bnd (bnd (bnd (argL [ret (.str "run")]) newl) fun x => bnd (bnd (bnd (getS 1 e) dLen) fun x => bnd (ret (.int 1)) fun y => dSub x y) fun y => dMul x y) fun y => dAdd x y) fun y => dCmp .NotEq x y) toB) (seqB (bnd (ret (.non)) fun d => ret (.rt d)) fun e => ret (.nx e)) (ret (.nx e))) fun e => seqB (asgS (tg1 2) (bnd (bnd (getS 1 e) srcOf) fun s => lcS s (tg1 4) (fun e => ret true) (fun e => bnd (argL [bnd (getS 4 e) fun x => bnd (bnd (ret (.int 1)) toPart) fun l => bnd (ret none) fun h => dSlice x l h, ret (.int 2000)]) fun vs => c "numbers_of" vs) (wipeE e [4])) e) fun e => seqB (ifS (bnd (bnd (ret (.non)) fun x => bnd (getS 2 e) fun y => dCmp .In x y) toB) (seqB (bnd (ret (.non)) fun d => ret (.rt d)) fun e => ret (.nx e)) (ret (.nx e))) fun e => seqB (bnd (bnd (argL [bnd (argL [bnd (getS 2 e) fun x => bnd (ret (.int 0)) fun y => dIdx x y]) fun vs => c "line_by" vs, bnd (getS 2 e) fun x => bnd (bnd (ret (.int 1)) toPart) fun l => bnd (ret none) fun h => dSlice x l h]) newt) fun d => ret (.rt d)) fun e => ret (.nx e)
theorem q_parted (n : Nat) : PH (n + 1) "parted" = finF 1 5 (g_parted (PH n)) := by kernel_rfl
noncomputable def g_read (c : Tab) (e : Pf.Env) : Ev Out := seqB (ifS (notT (bnd (bnd (getS 0 e) (isiE "str")) toB)) (seqB (rsS "NoText") fun e => ret (.nx e)) (ret (.nx e))) fun e => seqB (asgS (tg1 1) (bnd (argL [getS 0 e]) fun vs => c "parted" vs) e) fun e => seqB (ifS (orT (bnd (bnd (getS 1 e) (isE false .none)) toB) (orT (notT (bnd (bnd (argL [bnd (getS 1 e) fun x => bnd (ret (.int 0)) fun y => dIdx x y]) fun vs => c "is_line" vs) toB)) (notT (bnd (bnd (argL [bnd (getS 1 e) fun x => bnd (ret (.int 0)) fun y => dIdx x y, bnd (getS 1 e) fun x => bnd (ret (.int 1)) fun y => dIdx x y]) fun vs => c "is_plan_of" vs) toB)))) (seqB (rsS "NoText") fun e => ret (.nx e)) (ret (.nx e))) fun e => seqB (bnd (getS 1 e) fun d => ret (.rt d)) fun e => ret (.nx e)
theorem q_read (n : Nat) : PH (n + 1) "read" = finF 1 2 (g_read (PH n)) := by kernel_rfl
noncomputable def g_law_cell_at (c : Tab) (e : Pf.Env) : Ev Out := seqB (ifS (bnd (bnd (getS 1 e) fun x => bnd (bnd (getS 0 e) dLen) fun y => dCmp .Lt x y) toB) (seqB (bnd (bnd (getS 0 e) fun x => bnd (getS 1 e) fun y => dIdx x y) fun d => ret (.rt d)) fun e => ret (.nx e)) (ret (.nx e))) fun e => seqB (bnd (ret (.int 0)) fun d => ret (.rt d)) fun e => ret (.nx e)
theorem q_law_cell_at (n : Nat) : PH (n + 1) "_law_cell_at" = finF 2 2 (g_law_cell_at (PH n)) := by kernel_rfl
noncomputable def g_law_pot (c : Tab) (e : Pf.Env) : Ev Out := seqB (ifS (bnd (bnd (getS 0 e) fun x => bnd (bnd (ret (.int 10)) fun x => bnd (ret (.int 18)) fun y => dPow x y) fun y => dCmp .GtE x y) toB) (seqB (bnd (bnd (argL [bnd (getS 0 e) fun x => bnd (bnd (ret (.int 10)) fun x => bnd (ret (.int 18)) fun y => dPow x y) fun y => dSub x y]) newl) fun d => ret (.rt d)) fun e => ret (.nx e)) (ret (.nx e))) fun e => seqB (asgS (tg1 1) (ret (.int 0)) e) fun e => seqB (bnd (bnd (argL [ret (.int 64)]) srcW) fun s => forS s (tg1 2) (fun e => seqB (asgS (tg1 3) (bnd (bnd (bnd (bnd (bnd (getS 0 e) fun x => bnd (ret (.int 2147483629)) fun y => dMod x y) fun x => bnd (bnd (ret (.int 7919)) fun x => bnd (getS 2 e) fun y => dMul x y) fun y => dAdd x y) fun x => bnd (ret (.int 1)) fun y => dAdd x y) fun x => bnd (ret (.int 48271)) fun y => dMul x y) fun x => bnd (ret (.int 2147483647)) fun y => dMod x y) e) fun e => seqB (asgS (tg1 3) (bnd (bnd (bnd (bnd (getS 3 e) fun x => bnd (getS 3 e) fun y => dMul x y) fun x => bnd (bnd (ret (.int 69621)) fun x => bnd (getS 2 e) fun y => dMul x y) fun y => dAdd x y) fun x => bnd (ret (.int 7)) fun y => dAdd x y) fun x => bnd (ret (.int 2147483587)) fun y => dMod x y) e) fun e => seqB (asgS (tg1 1) (bnd (bnd (getS 1 e) fun x => bnd (ret (.int 2147483587)) fun y => dMul x y) fun x => bnd (getS 3 e) fun y => dAdd x y) e) fun e => ret (.nx e)) e) fun e => seqB (bnd (bnd (argL [getS 1 e]) newl) fun d => ret (.rt d)) fun e => ret (.nx e)
theorem q_law_pot (n : Nat) : PH (n + 1) "_law_pot" = finF 1 4 (g_law_pot (PH n)) := by kernel_rfl
noncomputable def g_law_take (c : Tab) (e : Pf.Env) : Ev Out := seqB (asgS (tg1 2) (bnd (bnd (getS 0 e) fun x => bnd (ret (.int 0)) fun y => dIdx x y) fun x => bnd (getS 1 e) fun y => dMod x y) e) fun e => seqB (bnd (bnd (bnd (getS 0 e) fun x => bnd (ret (.int 0)) fun y => dIdx x y) fun x => bnd (getS 1 e) fun y => dDiv x y) fun d => bnd (getS 0 e) fun x => bnd (ret (.int 0)) fun k => bnd (setIx x k d) fun _ => ret (.nx e)) fun e => seqB (bnd (getS 2 e) fun d => ret (.rt d)) fun e => ret (.nx e)
theorem q_law_take (n : Nat) : PH (n + 1) "_law_take" = finF 2 3 (g_law_take (PH n)) := by kernel_rfl
noncomputable def g_law_whole (c : Tab) (e : Pf.Env) : Ev Out := seqB (bnd (andE (bnd (getS 0 e) (isiE "int")) (notE (bnd (getS 0 e) (isiE "bool")))) fun d => ret (.rt d)) fun e => ret (.nx e)
theorem q_law_whole (n : Nat) : PH (n + 1) "_law_whole" = finF 1 1 (g_law_whole (PH n)) := by kernel_rfl
noncomputable def g_law_within (c : Tab) (e : Pf.Env) : Ev Out := seqB (bnd (andE (bnd (argL [getS 0 e]) fun vs => c "_law_whole" vs) (chE .LtE .LtE (getS 1 e) (getS 0 e) (getS 2 e))) fun d => ret (.rt d)) fun e => ret (.nx e)
theorem q_law_within (n : Nat) : PH (n + 1) "_law_within" = finF 3 3 (g_law_within (PH n)) := by kernel_rfl
noncomputable def g_law_line (c : Tab) (e : Pf.Env) : Ev Out := seqB (asgS (tg1 1) (bnd (bnd (argL [ret (.int 3), ret (.int 9), ret (.int 1)]) newl) fun x => bnd (bnd (argL [getS 0 e, ret (.int 3)]) fun vs => c "_law_take" vs) fun y => dIdx x y) e) fun e => seqB (asgS (tg1 2) (bnd (bnd (bnd (argL [bnd (ret (.int 1)) fun x => bnd (bnd (argL [getS 0 e, ret (.int 5)]) fun vs => c "_law_take" vs) fun y => dAdd x y]) srcW) fun s => lcS s (tg1 3) (fun e => ret true) (fun e => bnd (ret (.int 1)) fun x => bnd (bnd (argL [getS 0 e, getS 1 e]) fun vs => c "_law_take" vs) fun y => dAdd x y) (wipeE e [3])) dTuple) e) fun e => seqB (bnd (bnd (argL [getS 2 e, bnd (ret (.int 1)) fun x => bnd (bnd (argL [getS 0 e, bnd (bnd (argL [ret (.int 9), ret (.int 3), ret (.int 1)]) newl) fun x => bnd (bnd (argL [getS 0 e, ret (.int 3)]) fun vs => c "_law_take" vs) fun y => dIdx x y]) fun vs => c "_law_take" vs) fun y => dAdd x y, bnd (ret (.int 1)) fun x => bnd (bnd (argL [getS 0 e, ret (.int 3)]) fun vs => c "_law_take" vs) fun y => dAdd x y]) newt) fun d => ret (.rt d)) fun e => ret (.nx e)
theorem q_law_line (n : Nat) : PH (n + 1) "_law_line" = finF 1 4 (g_law_line (PH n)) := by kernel_rfl
noncomputable def g_law_run (c : Tab) (e : Pf.Env) : Ev Out := seqB (asgS (tg1 3) (bnd (bnd (bnd (getS 1 e) fun x => bnd (ret (.int 0)) fun y => dIdx x y) dLen) fun x => bnd (ret (.int 1)) fun y => dAdd x y) e) fun e => seqB (asgS (tg1 4) (bnd (argL [getS 0 e, getS 3 e]) fun vs => c "_law_take" vs) e) fun e => seqB (asgS (tg1 5) (bnd (bnd (bnd (getS 4 e) fun x => bnd (ret (.int 1)) fun y => dAdd x y) fun x => bnd (bnd (argL [getS 0 e, bnd (getS 3 e) fun x => bnd (ret (.int 1)) fun y => dSub x y]) fun vs => c "_law_take" vs) fun y => dAdd x y) fun x => bnd (getS 3 e) fun y => dMod x y) e) fun e => seqB (bnd (bnd (argL [getS 4 e, getS 5 e, bnd (argL [getS 0 e, getS 2 e]) fun vs => c "_law_take" vs]) newt) fun d => ret (.rt d)) fun e => ret (.nx e)
theorem q_law_run (n : Nat) : PH (n + 1) "_law_run" = finF 3 6 (g_law_run (PH n)) := by kernel_rfl
noncomputable def g_law_is_line (c : Tab) (e : Pf.Env) : Ev Out := seqB (ifS (orT (notT (bnd (bnd (getS 0 e) (isiE "tuple")) toB)) (orT (bnd (bnd (bnd (getS 0 e) dLen) fun x => bnd (ret (.int 3)) fun y => dCmp .NotEq x y) toB) (notT (bnd (bnd (bnd (getS 0 e) fun x => bnd (ret (.int 0)) fun y => dIdx x y) (isiE "tuple")) toB)))) (seqB (bnd (ret (.bl false)) fun d => ret (.rt d)) fun e => ret (.nx e)) (ret (.nx e))) fun e => seqB (ifS (orT (notT (bnd (chE .LtE .LtE (ret (.int 1)) (bnd (bnd (getS 0 e) fun x => bnd (ret (.int 0)) fun y => dIdx x y) dLen) (ret (.int 5))) toB)) (bnd (bnd (bnd (bnd (bnd (getS 0 e) fun x => bnd (ret (.int 0)) fun y => dIdx x y) srcOf) fun s => lcS s (tg1 1) (fun e => notT (bnd (bnd (argL [getS 1 e, ret (.int 1), ret (.int 9)]) fun vs => c "_law_within" vs) toB)) (fun e => getS 1 e) (wipeE e [1])) fun x => bnd (bnd (argL []) newl) fun y => dCmp .NotEq x y) toB)) (seqB (bnd (ret (.bl false)) fun d => ret (.rt d)) fun e => ret (.nx e)) (ret (.nx e))) fun e => seqB (bnd (andE (bnd (argL [bnd (getS 0 e) fun x => bnd (ret (.int 1)) fun y => dIdx x y, ret (.int 1), ret (.int 9)]) fun vs => c "_law_within" vs) (bnd (argL [bnd (getS 0 e) fun x => bnd (ret (.int 2)) fun y => dIdx x y, ret (.int 1), ret (.int 3)]) fun vs => c "_law_within" vs)) fun d => ret (.rt d)) fun e => ret (.nx e)
theorem q_law_is_line (n : Nat) : PH (n + 1) "_law_is_line" = finF 1 2 (g_law_is_line (PH n)) := by kernel_rfl
noncomputable def g_law_is_run (c : Tab) (e : Pf.Env) : Ev Out := seqB (ifS (orT (notT (bnd (bnd (getS 1 e) (isiE "tuple")) toB)) (orT (bnd (bnd (bnd (getS 1 e) dLen) fun x => bnd (ret (.int 3)) fun y => dCmp .NotEq x y) toB) (orT (notT (bnd (bnd (argL [bnd (getS 1 e) fun x => bnd (ret (.int 2)) fun y => dIdx x y]) fun vs => c "_law_whole" vs) toB)) (bnd (bnd (bnd (getS 1 e) fun x => bnd (ret (.int 2)) fun y => dIdx x y) fun x => bnd (ret (.int 0)) fun y => dCmp .Lt x y) toB)))) (seqB (bnd (ret (.bl false)) fun d => ret (.rt d)) fun e => ret (.nx e)) (ret (.nx e))) fun e => seqB (asgS (tg1 2) (bnd (bnd (getS 0 e) fun x => bnd (ret (.int 0)) fun y => dIdx x y) dLen) e) fun e => seqB (bnd (andE (bnd (argL [bnd (getS 1 e) fun x => bnd (ret (.int 0)) fun y => dIdx x y, ret (.int 0), getS 2 e]) fun vs => c "_law_within" vs) (andE (bnd (argL [bnd (getS 1 e) fun x => bnd (ret (.int 1)) fun y => dIdx x y, ret (.int 0), getS 2 e]) fun vs => c "_law_within" vs) (bnd (bnd (getS 1 e) fun x => bnd (ret (.int 0)) fun y => dIdx x y) fun x => bnd (bnd (getS 1 e) fun x => bnd (ret (.int 1)) fun y => dIdx x y) fun y => dCmp .NotEq x y))) fun d => ret (.rt d)) fun e => ret (.nx e)
theorem q_law_is_run (n : Nat) : PH (n + 1) "_law_is_run" = finF 2 3 (g_law_is_run (PH n)) := by kernel_rfl
noncomputable def g_law_is_plan (c : Tab) (e : Pf.Env) : Ev Out := seqB (bnd (andE (bnd (getS 1 e) (isiE "list")) (andE (bnd (bnd (getS 1 e) dLen) fun x => bnd (ret (.int 8)) fun y => dCmp .LtE x y) (bnd (bnd (bnd (getS 1 e) srcOf) fun s => lcS s (tg1 2) (fun e => ret true) (fun e => bnd (argL [getS 0 e, getS 2 e]) fun vs => c "_law_is_run" vs) (wipeE e [2])) dAll))) fun d => ret (.rt d)) fun e => ret (.nx e)
theorem q_law_is_plan (n : Nat) : PH (n + 1) "_law_is_plan" = finF 2 3 (g_law_is_plan (PH n)) := by kernel_rfl
noncomputable def g_law_text (c : Tab) (e : Pf.Env) : Ev Out := seqB (asgS (tgT [3, 4, 5]) (getS 0 e) e) fun e => seqB (asgS (tg1 2) (bnd (argL []) newl) e) fun e => seqB (bnd (bnd (bnd (bnd (argL [bnd (argL [ret (.str "line"), bnd (bnd (argL [getS 4 e, getS 5 e]) newt) fun x => bnd (getS 3 e) fun y => dAdd x y]) newt]) newl) fun x => bnd (bnd (bnd (getS 1 e) srcOf) fun s => lcS s (tg1 9) (fun e => ret true) (fun e => bnd (argL [ret (.str "run"), getS 9 e]) newt) (wipeE e [9])) fun y => dAdd x y) srcOf) fun s => forS s (tgT [6, 7]) (fun e => seqB (bnd (bnd (getS 7 e) srcOf) fun s => forS s (tg1 8) (fun e => seqB (asgS (tg1 6) (bnd (bnd (getS 6 e) fun x => bnd (ret (.str " ")) fun y => dAdd x y) fun x => bnd (bnd (getS 8 e) dStr) fun y => dAdd x y) e) fun e => ret (.nx e)) e) fun e => seqB (bnd (bnd (getS 2 e) fun x => bnd (chkL x) fun _ => bnd (getS 6 e) fun y => mAppend x y) fun _ => ret (.nx e)) fun e => ret (.nx e)) e) fun e => seqB (bnd (bnd (getS 2 e) (dJoin "\n")) fun d => ret (.rt d)) fun e => ret (.nx e)
theorem q_law_text (n : Nat) : PH (n + 1) "_law_text" = finF 2 10 (g_law_text (PH n)) := by kernel_rfl
noncomputable def g_law_number (c : Tab) (e : Pf.Env) : Ev Out := seqB (ifS (orT (bnd (bnd (getS 0 e) fun x => bnd (ret (.str "")) fun y => dCmp .Eq x y) toB) (bnd (bnd (bnd (bnd (getS 0 e) srcOf) fun s => lcS s (tg1 1) (fun e => bnd (bnd (getS 1 e) fun x => bnd (ret (.str "0123456789")) fun y => dCmp .NotIn x y) toB) (fun e => getS 1 e) (wipeE e [1])) fun x => bnd (bnd (argL []) newl) fun y => dCmp .NotEq x y) toB)) (seqB (bnd (ret (.non)) fun d => ret (.rt d)) fun e => ret (.nx e)) (ret (.nx e))) fun e => seqB (bnd (ifT (andT (bnd (bnd (getS 0 e) fun x => bnd (ret (.str "0")) fun y => dCmp .NotEq x y) toB) (bnd (bnd (bnd (getS 0 e) fun x => bnd (ret (.int 0)) fun y => dIdx x y) fun x => bnd (ret (.str "0")) fun y => dCmp .Eq x y) toB)) (ret (.non)) (bnd (getS 0 e) dInt)) fun d => ret (.rt d)) fun e => ret (.nx e)
theorem q_law_number (n : Nat) : PH (n + 1) "_law_number" = finF 1 2 (g_law_number (PH n)) := by kernel_rfl
noncomputable def g_law_told (c : Tab) (e : Pf.Env) : Ev Out := seqB (tryW I0.Wd (seqB (bnd (bnd (argL [getS 0 e]) fun vs => c "read" vs) fun d => ret (.rt d)) fun e => ret (.nx e))) fun e => ret (.nx e)
theorem q_law_told (n : Nat) : PH (n + 1) "_law_told" = finF 1 2 (g_law_told (PH n)) := by kernel_rfl
noncomputable def g_law_reads (c : Tab) (e : Pf.Env) : Ev Out := seqB (asgS (tg1 1) (bnd (argL []) newl) e) fun e => seqB (bnd (bnd (bnd (getS 0 e) fun x => bnd (chkS x) fun _ => bnd (ret (.str "\n")) fun y => dSplit x y) srcOf) fun s => forS s (tg1 2) (fun e => seqB (asgS (tg1 3) (bnd (getS 2 e) fun x => bnd (chkS x) fun _ => bnd (ret (.str " ")) fun y => dSplit x y) e) fun e => seqB (asgS (tg1 4) (bnd (bnd (bnd (getS 3 e) fun x => bnd (bnd (ret (.int 1)) toPart) fun l => bnd (ret none) fun h => dSlice x l h) srcOf) fun s => lcS s (tg1 7) (fun e => ret true) (fun e => bnd (argL [getS 7 e]) fun vs => c "_law_number" vs) (wipeE e [7])) e) fun e => seqB (ifS (bnd (bnd (ret (.non)) fun x => bnd (getS 4 e) fun y => dCmp .In x y) toB) (seqB (bnd (ret (.non)) fun d => ret (.rt d)) fun e => ret (.nx e)) (ret (.nx e))) fun e => seqB (bnd (bnd (getS 1 e) fun x => bnd (chkL x) fun _ => bnd (bnd (argL [bnd (getS 3 e) fun x => bnd (ret (.int 0)) fun y => dIdx x y, bnd (getS 4 e) dTuple]) newt) fun y => mAppend x y) fun _ => ret (.nx e)) fun e => ret (.nx e)) e) fun e => seqB (ifS (orT (bnd (bnd (bnd (bnd (getS 1 e) fun x => bnd (ret (.int 0)) fun y => dIdx x y) fun x => bnd (ret (.int 0)) fun y => dIdx x y) fun x => bnd (ret (.str "line")) fun y => dCmp .NotEq x y) toB) (bnd (bnd (bnd (bnd (bnd (getS 1 e) fun x => bnd (bnd (ret (.int 1)) toPart) fun l => bnd (ret none) fun h => dSlice x l h) srcOf) fun s => lcS s (tgT [7, 4]) (fun e => bnd (bnd (getS 7 e) fun x => bnd (ret (.str "run")) fun y => dCmp .NotEq x y) toB) (fun e => getS 7 e) (wipeE e [7, 4])) fun x => bnd (bnd (argL []) newl) fun y => dCmp .NotEq x y) toB)) (seqB (bnd (ret (.non)) fun d => ret (.rt d)) fun e => ret (.nx e)) (ret (.nx e))) fun e => seqB (bnd (argL [bnd (bnd (argL [bnd (bnd (bnd (getS 1 e) fun x => bnd (ret (.int 0)) fun y => dIdx x y) fun x => bnd (ret (.int 1)) fun y => dIdx x y) fun x => bnd (bnd (ret (.int 2)) toPart) fun l => bnd (ret none) fun h => dSlice x l h]) newt) fun x => bnd (bnd (bnd (bnd (getS 1 e) fun x => bnd (ret (.int 0)) fun y => dIdx x y) fun x => bnd (ret (.int 1)) fun y => dIdx x y) fun x => bnd (ret none) fun l => bnd (bnd (ret (.int 2)) toPart) fun h => dSlice x l h) fun y => dAdd x y, bnd (bnd (bnd (getS 1 e) fun x => bnd (bnd (ret (.int 1)) toPart) fun l => bnd (ret none) fun h => dSlice x l h) srcOf) fun s => lcS s (tgT [7, 4]) (fun e => ret true) (fun e => getS 4 e) (wipeE e [7, 4])]) (set2 5 6 e)) fun e => seqB (bnd (ifT (andT (bnd (bnd (argL [getS 5 e]) fun vs => c "_law_is_line" vs) toB) (bnd (bnd (argL [getS 5 e, getS 6 e]) fun vs => c "_law_is_plan" vs) toB)) (bnd (argL [getS 5 e, getS 6 e]) newt) (ret (.non))) fun d => ret (.rt d)) fun e => ret (.nx e)
theorem q_law_reads (n : Nat) : PH (n + 1) "_law_reads" = finF 1 8 (g_law_reads (PH n)) := by kernel_rfl
noncomputable def g_law_row_turned (c : Tab) (e : Pf.Env) : Ev Out := seqB (asgS (tg1 2) (bnd (getS 1 e) fun x => bnd (chkS x) fun _ => bnd (ret (.str "\n")) fun y => dSplit x y) e) fun e => seqB (bnd (argL [bnd (argL [getS 0 e, bnd (getS 2 e) dLen]) fun vs => c "_law_take" vs, bnd (argL [getS 0 e, bnd (getS 2 e) dLen]) fun vs => c "_law_take" vs, bnd (argL [getS 0 e, ret (.int 6)]) fun vs => c "_law_take" vs]) (set3 5 6 7 e)) fun e => seqB (asgS (tg1 3) (bnd (bnd (getS 2 e) fun x => bnd (getS 5 e) fun y => dIdx x y) fun x => bnd (chkS x) fun _ => bnd (ret (.str " ")) fun y => dSplit x y) e) fun e => seqB (asgS (tg1 4) (bnd (argL [getS 0 e, bnd (getS 3 e) dLen]) fun vs => c "_law_take" vs) e) fun e => seqB (ifS (bnd (bnd (getS 7 e) fun x => bnd (ret (.int 0)) fun y => dCmp .Eq x y) toB) (seqB (bnd (bnd (getS 2 e) fun x => bnd (chkL x) fun _ => bnd (getS 6 e) fun y => bnd (bnd (getS 2 e) fun x => bnd (getS 5 e) fun y => dIdx x y) fun z => mInsert x y z) fun _ => ret (.nx e)) fun e => ret (.nx e)) (seqB (ifS (bnd (bnd (getS 7 e) fun x => bnd (ret (.int 1)) fun y => dCmp .Eq x y) toB) (seqB (bnd (bnd (getS 2 e) fun x => bnd (chkL x) fun _ => bnd (getS 5 e) fun y => mPopAt x y) fun _ => ret (.nx e)) fun e => ret (.nx e)) (seqB (ifS (bnd (bnd (getS 7 e) fun x => bnd (ret (.int 2)) fun y => dCmp .Eq x y) toB) (seqB (bnd (bnd (argL [bnd (getS 2 e) fun x => bnd (getS 6 e) fun y => dIdx x y, bnd (getS 2 e) fun x => bnd (getS 5 e) fun y => dIdx x y]) newt) fun d => bnd (dTwo d) fun ab => bnd (getS 2 e) fun x => bnd (getS 5 e) fun k => bnd (setIx x k ab.1) fun _ => bnd (getS 2 e) fun y => bnd (getS 6 e) fun m => bnd (setIx y m ab.2) fun _ => ret (.nx e)) fun e => ret (.nx e)) (seqB (ifS (bnd (bnd (getS 7 e) fun x => bnd (ret (.int 3)) fun y => dCmp .Eq x y) toB) (seqB (bnd (bnd (getS 3 e) fun x => bnd (chkL x) fun _ => bnd (getS 4 e) fun y => bnd (bnd (getS 3 e) fun x => bnd (getS 4 e) fun y => dIdx x y) fun z => mInsert x y z) fun _ => ret (.nx e)) fun e => ret (.nx e)) (seqB (ifS (bnd (bnd (getS 7 e) fun x => bnd (ret (.int 4)) fun y => dCmp .Eq x y) toB) (seqB (bnd (bnd (getS 3 e) fun x => bnd (chkL x) fun _ => bnd (getS 4 e) fun y => mPopAt x y) fun _ => ret (.nx e)) fun e => ret (.nx e)) (seqB (bnd (bnd (bnd (argL [bnd (ret (.str "0")) fun x => bnd (bnd (getS 3 e) fun x => bnd (getS 4 e) fun y => dIdx x y) fun y => dAdd x y, bnd (ret (.str "9")) fun x => bnd (ret (.int 30)) fun y => dMul x y, bnd (ret (.str "-")) fun x => bnd (bnd (getS 3 e) fun x => bnd (getS 4 e) fun y => dIdx x y) fun y => dAdd x y, ret (.str "")]) newl) fun x => bnd (bnd (argL [getS 0 e, ret (.int 4)]) fun vs => c "_law_take" vs) fun y => dIdx x y) fun d => bnd (getS 3 e) fun x => bnd (getS 4 e) fun k => bnd (setIx x k d) fun _ => ret (.nx e)) fun e => ret (.nx e))) fun e => ret (.nx e))) fun e => ret (.nx e))) fun e => ret (.nx e))) fun e => ret (.nx e))) fun e => seqB (ifS (bnd (bnd (getS 7 e) fun x => bnd (ret (.int 2)) fun y => dCmp .Gt x y) toB) (seqB (bnd (bnd (getS 3 e) (dJoin " ")) fun d => bnd (getS 2 e) fun x => bnd (getS 5 e) fun k => bnd (setIx x k d) fun _ => ret (.nx e)) fun e => ret (.nx e)) (ret (.nx e))) fun e => seqB (bnd (bnd (getS 2 e) (dJoin "\n")) fun d => ret (.rt d)) fun e => ret (.nx e)
theorem q_law_row_turned (n : Nat) : PH (n + 1) "_law_row_turned" = finF 2 8 (g_law_row_turned (PH n)) := by kernel_rfl
noncomputable def g_law_sign_turned (c : Tab) (e : Pf.Env) : Ev Out := seqB (asgS (tg1 2) (ret (.str " \t\n0123456789-+_,.:/lineru!#$&'()*;<=>?@AZ[]^`{|}~\"\\")) e) fun e => seqB (bnd (argL [bnd (argL [getS 0 e, bnd (bnd (getS 1 e) dLen) fun x => bnd (ret (.int 1)) fun y => dAdd x y]) fun vs => c "_law_take" vs, bnd (getS 2 e) fun x => bnd (bnd (argL [getS 0 e, bnd (getS 2 e) dLen]) fun vs => c "_law_take" vs) fun y => dIdx x y]) (set2 4 5 e)) fun e => seqB (asgS (tg1 3) (bnd (argL [bnd (bnd (bnd (getS 1 e) fun x => bnd (ret none) fun l => bnd (bnd (getS 4 e) toPart) fun h => dSlice x l h) fun x => bnd (getS 5 e) fun y => dAdd x y) fun x => bnd (bnd (getS 1 e) fun x => bnd (bnd (getS 4 e) toPart) fun l => bnd (ret none) fun h => dSlice x l h) fun y => dAdd x y, bnd (bnd (getS 1 e) fun x => bnd (ret none) fun l => bnd (bnd (getS 4 e) toPart) fun h => dSlice x l h) fun x => bnd (bnd (getS 1 e) fun x => bnd (bnd (bnd (getS 4 e) fun x => bnd (ret (.int 1)) fun y => dAdd x y) toPart) fun l => bnd (ret none) fun h => dSlice x l h) fun y => dAdd x y, bnd (bnd (bnd (getS 1 e) fun x => bnd (ret none) fun l => bnd (bnd (getS 4 e) toPart) fun h => dSlice x l h) fun x => bnd (getS 5 e) fun y => dAdd x y) fun x => bnd (bnd (getS 1 e) fun x => bnd (bnd (bnd (getS 4 e) fun x => bnd (ret (.int 1)) fun y => dAdd x y) toPart) fun l => bnd (ret none) fun h => dSlice x l h) fun y => dAdd x y]) newl) e) fun e => seqB (bnd (bnd (getS 3 e) fun x => bnd (bnd (argL [getS 0 e, ret (.int 3)]) fun vs => c "_law_take" vs) fun y => dIdx x y) fun d => ret (.rt d)) fun e => ret (.nx e)
theorem q_law_sign_turned (n : Nat) : PH (n + 1) "_law_sign_turned" = finF 2 6 (g_law_sign_turned (PH n)) := by kernel_rfl
noncomputable def g_law (c : Tab) (e : Pf.Env) : Ev Out := seqB (bnd (bnd (argL [bnd (ret (.int 1)) fun x => bnd (bnd (bnd (getS 0 e) dLen) fun x => bnd (ret (.int 6)) fun y => dMin2 x y) fun y => dMax2 x y]) srcW) fun s => forS s (tg1 1) (fun e => seqB (asgS (tg1 2) (bnd (argL [bnd (argL [getS 0 e, getS 1 e]) fun vs => c "_law_cell_at" vs]) fun vs => c "_law_pot" vs) e) fun e => seqB (asgS (tg1 3) (bnd (argL [getS 2 e]) fun vs => c "_law_line" vs) e) fun e => seqB (asgS (tg1 4) (bnd (bnd (argL [bnd (argL [getS 2 e, ret (.int 9)]) fun vs => c "_law_take" vs]) srcW) fun s => lcS s (tg1 6) (fun e => ret true) (fun e => bnd (argL [getS 2 e, getS 3 e, ret (.int 50)]) fun vs => c "_law_run" vs) (wipeE e [6])) e) fun e => seqB (bnd (argL [bnd (argL [getS 3 e, getS 4 e]) fun vs => c "_law_text" vs, bnd (bnd (argL [getS 3 e, getS 4 e]) newt) dRepr]) (set2 9 10 e)) fun e => seqB (asgS (tg1 5) (bnd (argL [bnd (getS 9 e) fun x => bnd (ret (.str "\n")) fun y => dAdd x y, bnd (ret (.str "\n")) fun x => bnd (getS 9 e) fun y => dAdd x y, bnd (getS 9 e) fun x => bnd (ret (.str " ")) fun y => dAdd x y, bnd (ret (.str "\t")) fun x => bnd (getS 9 e) fun y => dAdd x y, ret (.str ""), bnd (getS 9 e) fun x => bnd (ret (.str "\nrun")) fun y => dAdd x y, bnd (getS 9 e) fun x => bnd (ret (.str "\nrun 0 0 3")) fun y => dAdd x y]) newl) e) fun e => seqB (asgS (tg1 5) (bnd (getS 5 e) fun x => bnd (bnd (argL [bnd (getS 9 e) fun x => dRepl x " " "\t", bnd (getS 9 e) fun x => dRepl x " " "  ", bnd (getS 9 e) fun x => dRepl x "\n" "\n\n", ret (.str "line")]) newl) fun y => dAdd x y) e) fun e => seqB (bnd (bnd (getS 5 e) fun x => bnd (chkL x) fun _ => bnd (ret (.str "line 1 1")) fun y => mAppend x y) fun _ => ret (.nx e)) fun e => seqB (bnd (bnd (argL [ret (.int 14)]) srcW) fun s => forS s (tg1 6) (fun e => seqB (asgS (tg1 7) (getS 9 e) e) fun e => seqB (bnd (bnd (argL [bnd (ret (.int 1)) fun x => bnd (bnd (bnd (argL [getS 2 e, ret (.int 3)]) fun vs => c "_law_take" vs) fun x => bnd (ret (.int 2)) fun y => dDiv x y) fun y => dAdd x y]) srcW) fun s => forS s (tg1 11) (fun e => seqB (asgS (tg1 7) (bnd (bnd (bnd (argL [ret (.fn "_law_row_turned"), ret (.fn "_law_sign_turned")]) newl) fun x => bnd (bnd (argL [getS 2 e, ret (.int 2)]) fun vs => c "_law_take" vs) fun y => dIdx x y) fun x => bnd (chkF G0 x) fun f => bnd (argL [getS 2 e, getS 7 e]) fun vs => c f vs) e) fun e => ret (.nx e)) e) fun e => seqB (bnd (bnd (getS 5 e) fun x => bnd (chkL x) fun _ => bnd (getS 7 e) fun y => mAppend x y) fun _ => ret (.nx e)) fun e => ret (.nx e)) e) fun e => seqB (bnd (bnd (getS 5 e) srcOf) fun s => forS s (tg1 7) (fun e => seqB (asgS (tg1 12) (bnd (argL [getS 7 e]) fun vs => c "_law_reads" vs) e) fun e => seqB (ifS (bnd (bnd (getS 12 e) (isE false .none)) toB) (seqB (asgS (tg1 12) (ret (.str "text")) e) fun e => ret (.nx e)) (ret (.nx e))) fun e => seqB (ifS (orT (bnd (bnd (bnd (bnd (argL [getS 7 e]) fun vs => c "_law_told" vs) dRepr) fun x => bnd (bnd (getS 12 e) dRepr) fun y => dCmp .NotEq x y) toB) (bnd (bnd (bnd (bnd (argL [getS 9 e]) fun vs => c "_law_told" vs) dRepr) fun x => bnd (getS 10 e) fun y => dCmp .NotEq x y) toB)) (seqB (bnd (ret (.bl false)) fun d => ret (.rt d)) fun e => ret (.nx e)) (ret (.nx e))) fun e => ret (.nx e)) e) fun e => seqB (bnd (bnd (bnd (argL [ret (.non), ret (.bl true), ret (.int 3), bnd (argL [getS 9 e]) newl, bnd (argL [getS 9 e]) newt, bnd (getS 9 e) fun x => newD [(.inl 0, x)], bnd (argL []) newl, getS 3 e]) newl) srcOf) fun s => forS s (tg1 8) (fun e => seqB (ifS (bnd (bnd (bnd (argL [getS 8 e]) fun vs => c "_law_told" vs) fun x => bnd (ret (.str "text")) fun y => dCmp .NotEq x y) toB) (seqB (bnd (ret (.bl false)) fun d => ret (.rt d)) fun e => ret (.nx e)) (ret (.nx e))) fun e => ret (.nx e)) e) fun e => ret (.nx e)) e) fun e => seqB (bnd (ret (.bl true)) fun d => ret (.rt d)) fun e => ret (.nx e)
theorem q_law (n : Nat) : PH (n + 1) "law" = finF 1 13 (g_law (PH n)) := by kernel_rfl
end K82
set_option maxHeartbeats 1000000
namespace K82
open PySem PySem.Spec Pf
open L2 (atI ixN)
theorem cell_at_ok (n : Nat) (ns : List Int) (k : Nat) (M : Mem) (E : PE0) (Q : PQ D) (h : ∀ v : Int, Q (.int v) M) : Wp (PH (n + 1) "_law_cell_at" [.frz (ns.map .int), .int k]) M Q E := by
  rw [q_law_cell_at]
  simp [g_law_cell_at, List.replicate_succ]
  split
  · rename_i hk
    rw [List.getElem?_eq_getElem hk]
    exact h _
  · exact h 0
/-- the pot at r -/
def Pt (r : Nat) (M : Mem) : Prop := ∃ v : Int, M[r]? = some (.lst [.int v])
theorem Pt.ad {r : Nat} {M : Mem} (h : Pt r M) {c : Cell} : Pt r (al M c) := h.elim fun v e => ⟨v, get_al e⟩
theorem Pt.lt {r : Nat} {M : Mem} (h : Pt r M) : r < M.length := h.elim fun v e => lt_of e
theorem Pt.new {v : Int} {M : Mem} : Pt M.length (al M (.lst [.int v])) := ⟨v, get_new⟩
theorem Pt.fr {r : Nat} {X : List Nat} {M M' : Mem} (h : Pt r M) (f : Fr X M M') (hr : r ∉ X) : Pt r M' := h.elim fun v e => ⟨v, f.at_ e hr⟩
theorem takeB_ok {n r : Nat} {far : Int} {M : Mem} {E : PE0} {Q : PQ D} (hp : Pt r M) (h0 : 0 < far) (h1 : far ≤ 10 ^ 100) (h : ∀ (a : Int) (M' : Mem), 0 ≤ a → a < far → Pt r M' → Fr [r] M M' → Q (.int a) M') : Wp (PH (n + 1) "_law_take" [.ref r, .int far]) M Q E := by
  obtain ⟨v, hp⟩ := hp
  rw [q_law_take]
  simp [g_law_take, List.replicate_succ, hp, h0, divOk_of h0 h1]
  exact h _ _ (Int.emod_nonneg _ (by omega)) (Int.emod_lt_of_pos _ h0) ⟨_, get_set hp⟩ (Fr.set (by simp))
theorem take_ok {n r : Nat} {far : Int} {M : Mem} {E : PE0} {Q : PQ D} (hp : Pt r M) (h0 : 0 < far) (h1 : far ≤ 1000000000) (h : ∀ (a : Int) (M' : Mem), 0 ≤ a → a < far → Pt r M' → Fr [r] M M' → Q (.int a) M') : Wp (PH (n + 1) "_law_take" [.ref r, .int far]) M Q E :=
  takeB_ok hp h0 (Int.le_trans h1 (by decide)) h
/-- one of a list's items is drawn -/
theorem pick_ok {n r : Nat} {k : Int} {ds : List D} {M : Mem} {E : PE0} {Q : PQ D} (hp : Pt r M) (hk : (ds.length : Int) = k) (h0 : 0 < k) (h1 : k ≤ 1000000000) (h : ∀ (d : D) (M' : Mem), d ∈ ds → Pt r M' → Fr [r] M M' → Q d M') :
    Wp (PH (n + 1) "_law_take" [.ref r, .int k]) (al M (.lst ds)) (fun a M1 => Wp (dIdx (.ref M.length) a) M1 Q E) E := by
  refine take_ok hp.ad h0 h1 fun a M1 a0 a1 p1 f1 => ?_
  have e : M1[M.length]? = some (.lst ds) := f1.at_ get_new (by have := hp.lt; simp; omega)
  obtain ⟨d, e1, _, e2⟩ := atI_in (xs := ds) a0 (by omega)
  simp [e, e1]
  exact h d M1 e2 p1 (Fr.al.trans f1)
theorem pot_ok {n : Nat} {c : Int} {M : Mem} {E : PE0} {Q : PQ D} (h : ∀ M', Pt M.length M' → Fr [] M M' → Q (.ref M.length) M') : Wp (PH (n + 1) "_law_pot" [.int c]) M Q E := by
  rw [q_law_pot]
  simp [g_law_pot, List.replicate_succ]
  have hp : powOk 10 18 = true := by decide
  refine ⟨hp, ?_⟩
  split
  · exact ⟨hp, h _ .new Fr.al⟩
  · refine ⟨inR_of (by decide) (by decide), ?_⟩
    refine Ws_for (n := 64) (fun i e M' => M' = M ∧ ∃ (v : Int) (o2 o3 : Option D), e = [some (.int c), some (.int v), o2, o3]) rfl ⟨rfl, 0, _, _, rfl⟩ ?_ ?_
    · rintro i e M' hi ⟨rfl, v, o2, o3, rfl⟩
      refine ⟨_, _, a_rng hi, rfl, ?_⟩
      simp [mulOk_r, mulOk_l]
      refine mulOk_r ?_
      omega
    · rintro e M' ⟨rfl, v, o2, o3, rfl⟩
      refine ⟨rfl, ?_⟩
      simp
      exact h _ .new Fr.al
/-- what stands beside: no tuple of six -/
def Bsd (d : D) : Prop := (∀ ds, d ≠ .tup ds) ∨ d = .tup [] ∨ (∃ y, d = .tup [y]) ∨ d = .tup [.bl true, .bl true] ∨ d = .tup [.int 3, .str "air"]
theorem whole_ok {n : Nat} {d : D} {M : Mem} {E : PE0} {Q : PQ D} : Wp (PH (n + 1) "_law_whole" [d]) M Q E = oG (dIsi d "int" M) fun b => if b = true then oG (dIsi d "bool" M) fun c => Q (.bl (!c)) M else Q (.bl false) M := by
  rw [q_law_whole]
  simp [g_law_whole, List.replicate_succ]
theorem iwhole_ok {n : Nat} {d : D} {M : Mem} {E : PE0} {Q : PQ D} : Wp (PH (n + 1) "is_whole" [d]) M Q E = oG (dIsi d "int" M) fun b => if b = true then oG (dIsi d "bool" M) fun c => Q (.bl (!c)) M else Q (.bl false) M := by
  rw [q_is_whole]
  simp [g_is_whole, List.replicate_succ]
def wl (lo hi : Int) : D → Bool
  | .int i => decide (lo ≤ i) && decide (i ≤ hi)
  | _ => false
theorem within_ok {n : Nat} {d : D} {lo hi : Int} {X : List Nat} {M : Mem} {B h w : Nat} {E : PE0} {Q : PQ D} (hd : Dat X M B h w d) : Wp (PH (n + 2) "_law_within" [d, .int lo, .int hi]) M Q E = Q (.bl (wl lo hi d)) M := by
  rw [q_law_within]
  cases d with
  | frz ds => exact (dat_frz hd).elim
  | fn x => exact (dat_fn hd).elim
  | ref k =>
    obtain ⟨c, hc⟩ := dat_at hd
    obtain ⟨i1, i2, i3, i4⟩ := i_ref hc
    simp [g_law_within, List.replicate_succ, whole_ok, i1, i2, i3, i4, wl]
  | int i =>
    simp [g_law_within, List.replicate_succ, whole_ok, wl]
    by_cases h1 : lo ≤ i <;> simp [h1]
  | _ => simp [g_law_within, List.replicate_succ, whole_ok, wl]
theorem iwithin_ok {n : Nat} {d : D} {lo hi : Int} {X : List Nat} {M : Mem} {B h w : Nat} {E : PE0} {Q : PQ D} (hd : Dat X M B h w d) : Wp (PH (n + 2) "is_within" [d, .int lo, .int hi]) M Q E = Q (.bl (wl lo hi d)) M := by
  rw [q_is_within]
  cases d with
  | frz ds => exact (dat_frz hd).elim
  | fn x => exact (dat_fn hd).elim
  | ref k =>
    obtain ⟨c, hc⟩ := dat_at hd
    obtain ⟨i1, i2, i3, i4⟩ := i_ref hc
    simp [g_is_within, List.replicate_succ, iwhole_ok, i1, i2, i3, i4, wl]
  | int i =>
    simp [g_is_within, List.replicate_succ, iwhole_ok, wl]
    by_cases h1 : lo ≤ i <;> simp [h1]
  | _ => simp [g_is_within, List.replicate_succ, iwhole_ok, wl]
def isL : D → Bool
  | .tup [.tup ss, t, p] => decide (1 ≤ ss.length) && decide (ss.length ≤ 5) && ss.all (wl 1 9) && (wl 1 9 t && wl 1 3 p)
  | _ => false
theorem isline_ok {n : Nat} {d : D} {X : List Nat} {M : Mem} {B h w : Nat} {E : PE0} {Q : PQ D} (hd : Dat X M B h w d) (hw : w ≤ 200000) (hQ : ∀ M', Fr [] M M' → Q (.bl (isL d)) M') : Wp (PH (n + 3) "is_line" [d]) M Q E := by
  have fin : ∀ v M', Fr [] M M' → isL d = v → Q (.bl v) M' := fun v M' f e => e ▸ hQ M' f
  clear hQ
  rw [q_is_line]
  cases d with
  | frz ds => exact (dat_frz hd).elim
  | fn x => exact (dat_fn hd).elim
  | ref k =>
    obtain ⟨c, hc⟩ := dat_at hd
    obtain ⟨i1, i2, i3, i4⟩ := i_ref hc
    simp [g_is_line, List.replicate_succ, i4]
    exact fin _ M Fr.refl rfl
  | tup ds =>
    have dd := dat_untup hd
    rcases ds with _ | ⟨a, _ | ⟨b, _ | ⟨c, _ | ⟨d4, rest⟩⟩⟩⟩
    · simp [g_is_line, List.replicate_succ]
      exact fin _ M Fr.refl rfl
    · simp [g_is_line, List.replicate_succ]
      exact fin _ M Fr.refl (by cases a <;> rfl)
    · simp [g_is_line, List.replicate_succ]
      exact fin _ M Fr.refl (by cases a <;> rfl)
    · have da := dats_get dd (i := 0) rfl
      have db := dats_get dd (i := 1) rfl
      have dc := dats_get dd (i := 2) rfl
      cases a with
      | frz ds => exact (dat_frz da).elim
      | fn x => exact (dat_fn da).elim
      | ref k =>
        obtain ⟨c, hc⟩ := dat_at da
        obtain ⟨i1, i2, i3, i4⟩ := i_ref hc
        simp [g_is_line, List.replicate_succ, i4]
        exact fin _ M Fr.refl rfl
      | tup ss =>
        have ds := dat_untup da
        have ln := dats_len ds
        simp [g_is_line, List.replicate_succ]
        split
        · rename_i h1
          split
          · rename_i h2
            refine Wp_map (xs := ss) (fun d => .bl (wl 1 9 d)) rfl (fun i d e => e) (by omega) (fun d hd => ?_) ?_
            · obtain ⟨i, hi, e⟩ := List.getElem_of_mem hd
              refine ⟨_, rfl, ?_⟩
              simp [wipeE]
              rw [iwithin_ok (dats_get ds (i := i) (by rw [List.getElem?_eq_getElem hi, e]))]
              exact ⟨rfl, rfl⟩
            · simp [allB_map]
              split
              · rename_i h3
                rw [iwithin_ok (db.fr Fr.al)]
                simp
                split
                · rename_i h4
                  rw [iwithin_ok (dc.fr Fr.al)]
                  exact fin _ _ Fr.al (by simp [isL, h4]; intros; first | omega | exact ⟨by omega, h3⟩ | (refine ⟨⟨by omega, by omega⟩, h3⟩))
                · rename_i h4
                  exact fin _ _ Fr.al (by simp [isL, h4])
              · rename_i h3
                exact fin _ _ Fr.al (by simp only [isL]; simp; intros; simp_all)
          · exact fin _ M Fr.refl (by simp [isL]; intros; omega)
        · exact fin _ M Fr.refl (by simp [isL]; intros; omega)
      | _ =>
        simp [g_is_line, List.replicate_succ]
        exact fin _ M Fr.refl rfl
    · simp [g_is_line, List.replicate_succ]
      rw [if_neg (by omega)]
      exact fin _ M Fr.refl (by cases a <;> rfl)
  | _ =>
    simp [g_is_line, List.replicate_succ]
    exact fin _ M Fr.refl rfl
theorem lline_ok {n : Nat} {d : D} {X : List Nat} {M : Mem} {B h w : Nat} {E : PE0} {Q : PQ D} (hd : Dat X M B h w d) (hw : w ≤ 200000) (hQ : ∀ M', Fr [] M M' → Q (.bl (isL d)) M') : Wp (PH (n + 3) "_law_is_line" [d]) M Q E := by
  have fin : ∀ v M', Fr [] M M' → isL d = v → Q (.bl v) M' := fun v M' f e => e ▸ hQ M' f
  clear hQ
  rw [q_law_is_line]
  cases d with
  | frz ds => exact (dat_frz hd).elim
  | fn x => exact (dat_fn hd).elim
  | ref k =>
    obtain ⟨c, hc⟩ := dat_at hd
    obtain ⟨i1, i2, i3, i4⟩ := i_ref hc
    simp [g_law_is_line, List.replicate_succ, i4]
    exact fin _ M Fr.refl rfl
  | tup ds =>
    have dd := dat_untup hd
    rcases ds with _ | ⟨a, _ | ⟨b, _ | ⟨c, _ | ⟨d4, rest⟩⟩⟩⟩
    · simp [g_law_is_line, List.replicate_succ]
      exact fin _ M Fr.refl rfl
    · simp [g_law_is_line, List.replicate_succ]
      exact fin _ M Fr.refl (by cases a <;> rfl)
    · simp [g_law_is_line, List.replicate_succ]
      exact fin _ M Fr.refl (by cases a <;> rfl)
    · have da := dats_get dd (i := 0) rfl
      have db := dats_get dd (i := 1) rfl
      have dc := dats_get dd (i := 2) rfl
      cases a with
      | frz ds => exact (dat_frz da).elim
      | fn x => exact (dat_fn da).elim
      | ref k =>
        obtain ⟨c, hc⟩ := dat_at da
        obtain ⟨i1, i2, i3, i4⟩ := i_ref hc
        simp [g_law_is_line, List.replicate_succ, i4]
        exact fin _ M Fr.refl rfl
      | tup ss =>
        have ds := dat_untup da
        have ln := dats_len ds
        simp [g_law_is_line, List.replicate_succ]
        split
        · rename_i h1
          split
          · rename_i h2
            refine Wp_fm (xs := ss) (fun d => !wl 1 9 d) (fun d => d) rfl (fun i d e => e) (by omega) (fun d hd => ?_) ?_
            · obtain ⟨i, hi, e⟩ := List.getElem_of_mem hd
              refine ⟨_, rfl, ?_⟩
              simp [wipeE]
              rw [within_ok (dats_get ds (i := i) (by rw [List.getElem?_eq_getElem hi, e]))]
              simp
            · have e1 : ∀ xs : List D, (al (al M (.lst xs)) (.lst []))[M.length]? = some (.lst xs) := fun xs => get_al get_new
              simp [q_lnil (e1 _) get_new]
              split
              · rename_i h3
                rw [within_ok (db.fr (Fr.al.trans Fr.al))]
                simp
                split
                · rename_i h4
                  rw [within_ok (dc.fr (Fr.al.trans Fr.al))]
                  exact fin _ _ (Fr.al.trans Fr.al) (by simp [isL, h4]; intros; exact ⟨⟨by omega, by omega⟩, h3⟩)
                · rename_i h4
                  exact fin _ _ (Fr.al.trans Fr.al) (by simp [isL, h4])
              · rename_i h3
                exact fin _ _ (Fr.al.trans Fr.al) (by simp only [isL]; simp; intros; simp_all)
          · exact fin _ M Fr.refl (by simp [isL]; intros; omega)
        · exact fin _ M Fr.refl (by simp [isL]; intros; omega)
      | _ =>
        simp [g_law_is_line, List.replicate_succ]
        exact fin _ M Fr.refl rfl
    · simp [g_law_is_line, List.replicate_succ]
      rw [if_neg (by omega)]
      exact fin _ M Fr.refl (by cases a <;> rfl)
  | _ =>
    simp [g_law_is_line, List.replicate_succ]
    exact fin _ M Fr.refl rfl
def wh : D → Bool
  | .int _ => true
  | _ => false
theorem iwholeD_ok {n : Nat} {d : D} {X : List Nat} {M : Mem} {B h w : Nat} {E : PE0} {Q : PQ D} (hd : Dat X M B h w d) : Wp (PH (n + 1) "is_whole" [d]) M Q E = Q (.bl (wh d)) M := by
  rw [iwhole_ok]
  cases d with
  | frz ds => exact (dat_frz hd).elim
  | fn x => exact (dat_fn hd).elim
  | ref k =>
    obtain ⟨c, hc⟩ := dat_at hd
    obtain ⟨i1, i2, i3, i4⟩ := i_ref hc
    simp [i1, wh]
  | _ => simp [wh]
theorem isT_ok {d : D} {X : List Nat} {M : Mem} {B h w : Nat} (hd : Dat X M B h w d) : dIsi d "tuple" M = some (match d with | .tup _ => true | _ => false) := by
  cases d with
  | frz ds => exact (dat_frz hd).elim
  | fn x => exact (dat_fn hd).elim
  | ref k =>
    obtain ⟨c, hc⟩ := dat_at hd
    obtain ⟨i1, i2, i3, i4⟩ := i_ref hc
    exact i4
  | _ => rfl
theorem i_lst {n : Nat} {xs : List D} {M : Mem} (h : M[n]? = some (.lst xs)) : dIsi (.ref n) "list" M = some true := by unfold dIsi dTy; dsimp only; rw [h]; rfl
theorem allB_U {β : Type} {us : List β} (g : β → Bool) : allB (us.map fun u => D.bl (g u)) = some (us.all g) := by
  induction us with
  | nil => rfl
  | cons x xs ih => simp only [List.map_cons, allB, ih, List.all_cons, Option.map_some]
theorem show_bl {b : Bool} {M : Mem} : dShown (.bl b) M = some (PyData.shown (.bool b)) := by
  cases b <;> rfl
theorem isL_line {ss : List Int} {t p : Int} (o : LineOk ss t p) : isL (lineD ss t p) = true := by
  simp [isL, lineD, wl]
  exact ⟨⟨⟨o.l1, o.l5⟩, fun s hs => o.s s hs⟩, ⟨o.t1, o.t9⟩, o.p1, o.p3⟩
theorem isroomD_ok {n : Nat} {ss : List Int} {t p : Int} {d : D} {X : List Nat} {M : Mem} {B h w : Nat} {E : PE0} {Q : PQ D} (hd : Dat X M B h w d) : Wp (PH (n + 3) "is_room" [lineD ss t p, d]) M Q E = Q (.bl (wl 0 ss.length d)) M := by
  rw [q_is_room]
  simp [g_is_room, List.replicate_succ, lineD]
  rw [iwithin_ok hd]
def runB (n : Nat) : D → Bool
  | .tup [a, b, t] => wl 0 n a && wl 0 n b && (match a, b with | .int a, .int b => decide (a ≠ b) | _, _ => false) && (match t with | .int t => decide (0 ≤ t) | _ => false)
  | _ => false
theorem wl_int {lo hi : Int} {d : D} (h : wl lo hi d = true) : ∃ i : Int, d = .int i ∧ lo ≤ i ∧ i ≤ hi := by
  cases d with
  | int i =>
    simp [wl] at h
    exact ⟨i, rfl, h.1, h.2⟩
  | _ => simp [wl] at h
theorem runB_rn {n : Nat} {rn : Rn} (o : rn.Ok n) : runB n rn.d = true := by
  have a := o.a; have b := o.b; have c := o.ne; have d := o.t
  simp [runB, Rn.d, wl]
  omega
theorem runB_ok {n : Nat} {d : D} (h : runB n d = true) : ∃ rn : Rn, d = rn.d ∧ rn.Ok n := by
  unfold runB at h
  split at h
  · rename_i a b t
    simp only [Bool.and_eq_true] at h
    obtain ⟨⟨⟨h1, h2⟩, h3⟩, h4⟩ := h
    obtain ⟨i, rfl, i0, i1⟩ := wl_int h1
    obtain ⟨j, rfl, j0, j1⟩ := wl_int h2
    cases t with
    | int t =>
      simp at h3 h4
      refine ⟨⟨i.toNat, j.toNat, t⟩, ?_, ⟨by simp; omega, by simp; omega, by simp; omega, h4⟩⟩
      simp only [Rn.d]
      rw [Int.toNat_of_nonneg i0, Int.toNat_of_nonneg j0]
    | _ => simp at h4
  · cases h
theorem irun_of_ok {n : Nat} {ss : List Int} {t p : Int} {d : D} {X : List Nat} {M : Mem} {B h w : Nat} {E : PE0} {Q : PQ D} (hd : Dat X M B h w d) : Wp (PH (n + 4) "is_run_of" [lineD ss t p, d]) M Q E = Q (.bl (runB ss.length d)) M := by
  rw [q_is_run_of]
  have hT := isT_ok hd
  cases d with
  | frz ds => exact (dat_frz hd).elim
  | fn x => exact (dat_fn hd).elim
  | tup ds =>
    have dd := dat_untup hd
    match ds, dd with
    | [], _ => simp [g_is_run_of, List.replicate_succ, runB]
    | [_], _ => simp [g_is_run_of, List.replicate_succ, runB]
    | [_, _], _ => simp [g_is_run_of, List.replicate_succ, runB]
    | a :: b :: c :: d :: r, _ =>
      simp [g_is_run_of, List.replicate_succ, runB]
      intro z
      omega
    | [a, b, c], dd =>
      have da := dats_get dd (i := 0) rfl
      have db := dats_get dd (i := 1) rfl
      have dc := dats_get dd (i := 2) rfl
      simp [g_is_run_of, List.replicate_succ]
      rw [isroomD_ok da]
      cases ha : wl 0 ss.length a with
      | false => simp [runB, ha]
      | true =>
        simp
        rw [isroomD_ok db]
        cases hb : wl 0 ss.length b with
        | false => simp [runB, ha, hb]
        | true =>
          obtain ⟨i, rfl, i0, i1⟩ := wl_int ha
          obtain ⟨j, rfl, j0, j1⟩ := wl_int hb
          simp
          by_cases hij : i = j
          · simp [runB, hij]
          · simp [hij]
            rw [iwholeD_ok dc]
            cases c with
            | int k => simp [runB, ha, hb, hij, wh]
            | _ => simp [runB, wh]
  | ref k => simp [g_is_run_of, List.replicate_succ, hT, runB]
  | _ => simp [g_is_run_of, List.replicate_succ, runB]
end K82
set_option maxHeartbeats 1000000
namespace K82
open PySem PySem.Spec Pf
open L2 (atI ixN)
theorem line_ok {n r : Nat} {M : Mem} {E : PE0} {Q : PQ D} (hp : Pt r M) (h : ∀ (ss : List Int) (t p : Int) (M' : Mem), LineOk ss t p → Pt r M' → Fr [r] M M' → Q (lineD ss t p) M') :
    Wp (PH (n + 2) "_law_line" [.ref r]) M Q E := by
  rw [q_law_line]
  simp [g_law_line, List.replicate_succ]
  refine pick_ok hp rfl (by decide) (by decide) fun d M1 hd p1 f1 => ?_
  obtain ⟨long, rfl, hl1, hl2⟩ : ∃ long : Int, d = .int long ∧ 1 ≤ long ∧ long ≤ 9 := by
    simp at hd
    rcases hd with rfl | rfl | rfl <;> exact ⟨_, rfl, by decide, by decide⟩
  refine take_ok p1 (by decide) (by decide) fun a M2 a0 a1 p2 f2 => ?_
  simp
  refine ⟨inR_of (by omega) (by omega), ?_⟩
  refine Wp_lc (n := (1 + a).toNat) (fun i acc M' => ∃ ss : List Int, acc = ss.map .int ∧ ss.length = i ∧ (∀ s ∈ ss, 1 ≤ s ∧ s ≤ 9) ∧ Pt r M' ∧ Fr [r] M M') rfl (by omega) ⟨[], rfl, rfl, by simp, p2, f1.trans f2⟩ ?_ ?_
  · rintro i acc M3 hi ⟨ss, rfl, hlen, hss, p3, f3⟩
    refine ⟨_, _, a_rng hi, rfl, ?_⟩
    simp [wipeE]
    refine take_ok p3 (by omega) (by omega) fun b M4 b0 b1 p4 f4 => ?_
    simp
    exact ⟨ss ++ [1 + b], by simp, by simp [hlen], by simp; exact fun s hs => hs.elim (hss s) (fun e => by omega), p4, f3.trans f4⟩
  · rintro acc M3 ⟨ss, rfl, hlen, hss, p3, f3⟩
    refine ⟨rfl, ?_⟩
    simp
    refine ⟨by omega, ?_⟩
    refine pick_ok p3.ad rfl (by decide) (by decide) fun d M5 hd p5 f5 => ?_
    obtain ⟨far, rfl, ht1, ht2⟩ : ∃ long : Int, d = .int long ∧ 1 ≤ long ∧ long ≤ 9 := by
      simp at hd
      rcases hd with rfl | rfl | rfl <;> exact ⟨_, rfl, by omega, by omega⟩
    refine take_ok p5 (by omega) (by omega) fun b M4 b0 b1 p4 f4 => ?_
    simp
    refine take_ok p4 (by omega) (by omega) fun c M6 c0 c1 p6 f6 => ?_
    simp
    exact h ss _ _ M6 ⟨by omega, by omega, hss, by omega, by omega, by omega, by omega⟩ p6 ((((f3.trans Fr.al).trans f5).trans f4).trans f6)
theorem run_ok {n r : Nat} {ss : List Int} {t p nr : Int} {M : Mem} {E : PE0} {Q : PQ D} (o : LineOk ss t p) (hp : Pt r M) (h0 : 0 < nr) (h1 : nr ≤ 1000000000)
    (h : ∀ (rn : Rn) (M' : Mem), rn.Ok ss.length → rn.t < nr → Pt r M' → Fr [r] M M' → Q rn.d M') : Wp (PH (n + 2) "_law_run" [.ref r, lineD ss t p, .int nr]) M Q E := by
  have l1 := o.l1
  have l5 := o.l5
  rw [q_law_run]
  simp [g_law_run, List.replicate_succ, lineD]
  refine take_ok hp (by omega) (by omega) fun a M1 a0 a1 p1 f1 => ?_
  simp
  refine take_ok p1 (by omega) (by omega) fun b M2 b0 b1 p2 f2 => ?_
  simp
  refine take_ok p2 h0 h1 fun c M3 c0 c1 p3 f3 => ?_
  try simp
  have m0 := Int.emod_nonneg (a + 1 + b) (show ((ss.length : Int) + 1) ≠ 0 by omega)
  have m1 := Int.emod_lt_of_pos (a + 1 + b) (show 0 < ((ss.length : Int) + 1) by omega)
  have m2 : (a + 1 + b) % ((ss.length : Int) + 1) ≠ a := by
    intro e
    by_cases hlt : a + 1 + b < (ss.length : Int) + 1
    · rw [Int.emod_eq_of_lt (by omega) hlt] at e; omega
    · have e2 : (a + 1 + b) % ((ss.length : Int) + 1) = (a + 1 + b - ((ss.length : Int) + 1)) % ((ss.length : Int) + 1) := by rw [Int.sub_emod_right]
      rw [e2, Int.emod_eq_of_lt (by omega) (by omega)] at e
      omega
  have z := h ⟨a.toNat, ((a + 1 + b) % ((ss.length : Int) + 1)).toNat, c⟩ M3 ⟨by simp; omega, by simp; omega, by simp; omega, c0⟩ c1 p3 ((f1.trans f2).trans f3)
  simpa [Rn.d, Int.toNat_of_nonneg a0, Int.toNat_of_nonneg m0] using z
end K82
set_option maxHeartbeats 1000000
namespace K82
open PySem PySem.Spec Pf
open L2 (atI ixN)
theorem wholeD_ok {n : Nat} {d : D} {X : List Nat} {M : Mem} {B h w : Nat} {E : PE0} {Q : PQ D} (hd : Dat X M B h w d) : Wp (PH (n + 1) "_law_whole" [d]) M Q E = Q (.bl (wh d)) M := by
  rw [whole_ok]
  cases d with
  | frz ds => exact (dat_frz hd).elim
  | fn x => exact (dat_fn hd).elim
  | ref k =>
    obtain ⟨c, hc⟩ := dat_at hd
    obtain ⟨i1, i2, i3, i4⟩ := i_ref hc
    simp [i1, wh]
  | _ => simp [wh]
theorem lis_run_ok {n : Nat} {ss : List Int} {t p : Int} {d : D} {X : List Nat} {M : Mem} {B h w : Nat} {E : PE0} {Q : PQ D} (hd : Dat X M B h w d) : Wp (PH (n + 3) "_law_is_run" [lineD ss t p, d]) M Q E = Q (.bl (runB ss.length d)) M := by
  rw [q_law_is_run]
  have hT := isT_ok hd
  cases d with
  | frz ds => exact (dat_frz hd).elim
  | fn x => exact (dat_fn hd).elim
  | tup ds =>
    have dd := dat_untup hd
    match ds, dd with
    | [], _ => simp [g_law_is_run, List.replicate_succ, runB]
    | [_], _ => simp [g_law_is_run, List.replicate_succ, runB]
    | [_, _], _ => simp [g_law_is_run, List.replicate_succ, runB]
    | a :: b :: c :: d :: r, _ =>
      simp [g_law_is_run, List.replicate_succ, runB]
      intro z
      omega
    | [a, b, c], dd =>
      have da := dats_get dd (i := 0) rfl
      have db := dats_get dd (i := 1) rfl
      have dc := dats_get dd (i := 2) rfl
      simp [g_law_is_run, List.replicate_succ]
      rw [wholeD_ok dc]
      cases c with
      | int k =>
        by_cases hk : k < 0
        · have hk' : ¬ (0 ≤ k) := by omega
          simp [wh, hk, hk', runB]
        · have hk' : 0 ≤ k := by omega
          simp [wh, hk, lineD]
          rw [within_ok da]
          cases ha : wl 0 ss.length a with
          | false => simp [runB, ha]
          | true =>
            simp
            rw [within_ok db]
            cases hb : wl 0 ss.length b with
            | false => simp [runB, ha, hb]
            | true =>
              obtain ⟨i, rfl, i0, i1⟩ := wl_int ha
              obtain ⟨j, rfl, j0, j1⟩ := wl_int hb
              by_cases hij : i = j
              · simp [runB, hij]
              · have hij' : (i == j) = false := by simp [hij]
                simp [hij, runB, ha, hb, hk', hij']
      | _ => simp [wh, runB]
  | ref k => simp [g_law_is_run, List.replicate_succ, hT, runB]
  | _ => simp [g_law_is_run, List.replicate_succ, runB]
theorem isL_get {d : D} (h : isL d = true) : ∃ ss t p, d = lineD ss t p ∧ LineOk ss t p := by
  unfold isL at h
  split at h
  · rename_i ds t p
    simp only [Bool.and_eq_true, decide_eq_true_eq] at h
    obtain ⟨⟨⟨h1, h2⟩, h3⟩, h4, h5⟩ := h
    obtain ⟨i, rfl, i0, i1⟩ := wl_int h4
    obtain ⟨j, rfl, j0, j1⟩ := wl_int h5
    have key : ∀ ds : List D, ds.all (wl 1 9) = true → ∃ ss : List Int, ds = nts ss ∧ ∀ s ∈ ss, 1 ≤ s ∧ s ≤ 9 := by
      intro ds
      induction ds with
      | nil => exact fun _ => ⟨[], rfl, by simp⟩
      | cons x ds ih =>
        intro h
        rw [List.all_cons, Bool.and_eq_true] at h
        obtain ⟨k, rfl, k0, k1⟩ := wl_int h.1
        obtain ⟨ss, rfl, hs⟩ := ih h.2
        exact ⟨k :: ss, rfl, by simp; exact ⟨⟨k0, k1⟩, hs⟩⟩
    obtain ⟨ss, rfl, hs⟩ := key ds h3
    have e : (nts ss).length = ss.length := by simp
    rw [e] at h1 h2
    exact ⟨ss, i, j, rfl, h1, h2, hs, i0, i1, j0, j1⟩
  · cases h
def plB (n : Nat) (rs : List (List Int)) : Bool := decide (rs.length ≤ 8) && rs.all fun r => runB n (.tup (nts r))
theorem iplan82_ok {n k : Nat} {ss : List Int} {t p : Int} {rs : List (List Int)} {B h w : Nat} {M : Mem} {E : PE0} {Q : PQ D} (gk : M[k]? = some (.lst (rs.map fun r => .tup (nts r)))) (hds : ∀ r ∈ rs, Dat [] M B h w (.tup (nts r))) (hl : rs.length ≤ 100000) (fin : ∀ M', Fr [] M M' → Q (.bl (plB ss.length rs)) M') : Wp (PH (n + 5) "is_plan_of" [lineD ss t p, .ref k]) M Q E := by
  have fin : ∀ v M', Fr [] M M' → plB ss.length rs = v → Q (.bl v) M' := fun v M' f e => e ▸ fin M' f
  rw [q_is_plan_of]
  simp [g_is_plan_of, List.replicate_succ, i_lst gk, gk]
  by_cases h8 : rs.length ≤ 8
  · rw [if_pos (by omega)]
    refine Wp_mapF rs (fun r => D.tup (nts r)) (fun r => .bl (runB ss.length (.tup (nts r)))) (fun M' => M' = M) rfl (fun M' e => by subst e; exact src_lst gk) (by omega) (fun r hr M' e => ?_) fun M' e => ?_
    · subst e
      refine ⟨_, rfl, ?_⟩
      simp [wipeE]
      rw [irun_of_ok (hds r hr)]
      exact ⟨rfl, rfl⟩
    · subst e
      simp only [w_allL, get_new, lG_some]
      rw [allB_U]
      simp only [oG_some]
      exact fin _ _ Fr.al (by unfold plB; simp [h8])
  · rw [if_neg (by omega)]
    exact fin _ _ Fr.refl (by unfold plB; simp [h8])
theorem lplan82_ok {n k : Nat} {ss : List Int} {t p : Int} {rs : List (List Int)} {B h w : Nat} {M : Mem} {E : PE0} {Q : PQ D} (gk : M[k]? = some (.lst (rs.map fun r => .tup (nts r)))) (hds : ∀ r ∈ rs, Dat [] M B h w (.tup (nts r))) (hl : rs.length ≤ 100000) (fin : ∀ M', Fr [] M M' → Q (.bl (plB ss.length rs)) M') : Wp (PH (n + 4) "_law_is_plan" [lineD ss t p, .ref k]) M Q E := by
  have fin : ∀ v M', Fr [] M M' → plB ss.length rs = v → Q (.bl v) M' := fun v M' f e => e ▸ fin M' f
  rw [q_law_is_plan]
  simp [g_law_is_plan, List.replicate_succ, i_lst gk, gk]
  by_cases h8 : rs.length ≤ 8
  · try rw [if_pos (by omega)]
    refine Wp_mapF rs (fun r => D.tup (nts r)) (fun r => .bl (runB ss.length (.tup (nts r)))) (fun M' => M' = M) rfl (fun M' e => by subst e; exact src_lst gk) (by omega) (fun r hr M' e => ?_) fun M' e => ?_
    · subst e
      refine ⟨_, rfl, ?_⟩
      simp [wipeE]
      rw [lis_run_ok (hds r hr)]
      exact ⟨rfl, rfl⟩
    · subst e
      simp only [w_allL, get_new, lG_some]
      rw [allB_U]
      simp only [oG_some]
      exact fin _ _ Fr.al (by unfold plB; simp [h8])
  · rw [if_neg (by omega)]
    exact fin _ _ Fr.refl (by unfold plB; simp [h8])
end K82
set_option maxHeartbeats 1000000
namespace K82
open PySem PySem.Spec Pf
open L2 (atI ixN)
/-! numbers and words as texts -/
def numS (i : Int) : Str := Str.ofString (toString i)
theorem tl_numS {i : Int} (h : 0 ≤ i) : TL.tl (numS i) = TL.numL i.toNat := by
  obtain ⟨n, rfl⟩ := Int.eq_ofNat_of_zero_le h
  exact TL.tl_num n
theorem num_free {i : Int} (h : 0 ≤ i) {s : Nat} (hs : s < 48 ∨ 57 < s) : s ∉ TL.tl (numS i) := by
  rw [tl_numS h]; exact TL.numL_free hs
theorem num_len {i : Int} (h : 0 ≤ i) (h2 : i < 10 ^ 45) : (numS i).length ≤ 45 := by
  rw [TL.len_tl, tl_numS h]
  refine TL.numL_len (by decide) ?_
  have e : ((10 ^ 45 : Nat) : Int) = 10 ^ 45 := by decide
  omega
theorem num_ne {i : Int} (h : 0 ≤ i) : 1 ≤ (numS i).length := by
  rw [TL.len_tl, tl_numS h]
  have := TL.numL_ne i.toNat
  cases q : TL.numL i.toNat with
  | nil => exact absurd q this
  | cons a r => simp
theorem num_int {i : Int} (h : 0 ≤ i) (h2 : i < 10 ^ 45) : PySem.intText? (numS i) = some i := by
  have l := num_len h h2
  obtain ⟨n, rfl⟩ := Int.eq_ofNat_of_zero_le h
  rw [TL.len_tl, tl_numS h] at l
  exact TL.int_num (by have : ((n : Int).toNat) = n := by simp
                       rw [this] at l; omega)
theorem numL_head : ∀ (n : Nat), 10 ≤ n → ∃ c r, TL.numL n = c :: r ∧ c ≠ 48 := by
  intro n
  induction n using Nat.strongRecOn with
  | _ n ih =>
    intro h
    rw [TL.numL_step h]
    by_cases h1 : n / 10 < 10
    · rw [TL.numL_lt h1]
      exact ⟨_, _, rfl, by omega⟩
    · obtain ⟨c, r, e, hc⟩ := ih (n / 10) (by omega) (by omega)
      rw [e]
      exact ⟨c, _, rfl, hc⟩
theorem num_head {i : Int} (h : 0 ≤ i) (hl : 1 < (numS i).length) : ∃ c r, TL.tl (numS i) = c :: r ∧ c ≠ 48 := by
  rw [tl_numS h]
  rw [TL.len_tl, tl_numS h] at hl
  refine numL_head _ ?_
  rcases Nat.lt_or_ge i.toNat 10 with q | q
  · rw [TL.numL_lt q] at hl; simp at hl
  · exact q
theorem num_digits {i : Int} (h : 0 ≤ i) : ∀ c ∈ TL.tl (numS i), 48 ≤ c ∧ c ≤ 57 := by
  rw [tl_numS h]
  exact fun c hc => TL.numL_digits _ c hc
theorem joinL_free {s : Nat} {S : List Nat} (hS : s ∉ S) : ∀ {ps : List (List Nat)}, (∀ p ∈ ps, s ∉ p) → s ∉ TL.joinL S ps
  | [], _ => by simp [TL.joinL]
  | [p], h => h p (by simp)
  | p :: q :: r, h => by
    show s ∉ p ++ (S ++ TL.joinL S (q :: r))
    simp only [List.mem_append, not_or]
    exact ⟨h p (by simp), hS, joinL_free hS fun z hz => h z (List.mem_cons_of_mem _ hz)⟩
theorem joinL_len {S : List Nat} {b : Nat} : ∀ {ps : List (List Nat)}, (∀ p ∈ ps, p.length ≤ b) → (TL.joinL S ps).length ≤ ps.length * (b + S.length)
  | [], _ => by simp [TL.joinL]
  | [p], h => by have := h p (by simp); simp [TL.joinL]; omega
  | p :: q :: r, h => by
    have ih := joinL_len (S := S) (b := b) (ps := q :: r) fun z hz => h z (List.mem_cons_of_mem _ hz)
    have := h p (by simp)
    show (p ++ (S ++ TL.joinL S (q :: r))).length ≤ _
    rw [List.length_append, List.length_append, List.length_cons, Nat.add_mul, Nat.one_mul]
    omega
theorem joinL_snoc {S q : List Nat} : ∀ {ps : List (List Nat)}, ps ≠ [] → TL.joinL S (ps ++ [q]) = TL.joinL S ps ++ (S ++ q)
  | [], h => absurd rfl h
  | [p], _ => rfl
  | p :: x :: r, _ => by
    have ih := joinL_snoc (S := S) (q := q) (ps := x :: r) (by simp)
    show p ++ (S ++ TL.joinL S ((x :: r) ++ [q])) = (p ++ (S ++ TL.joinL S (x :: r))) ++ (S ++ q)
    rw [ih]
    simp [List.append_assoc]
theorem tl_tjoin (y : Str) (ps : List Str) : TL.tl (Txt.join y ps) = TL.joinL (TL.tl y) (ps.map TL.tl) := by
  rw [TL.join_eq, TL.tl_join]
theorem join_len {y : Str} {ps : List Str} {b : Nat} (h : ∀ p ∈ ps, p.length ≤ b) : (Txt.join y ps).length ≤ ps.length * (b + y.length) := by
  rw [TL.len_tl, tl_tjoin, TL.len_tl y]
  have := joinL_len (S := TL.tl y) (b := b) (ps := ps.map TL.tl) (fun p hp => by
    obtain ⟨z, hz, rfl⟩ := List.mem_map.mp hp
    rw [← TL.len_tl]; exact h z hz)
  simpa using this
theorem join_snoc {y q : Str} {ps : List Str} (h : ps ≠ []) : Txt.join y (ps ++ [q]) = Txt.join y ps ++ y ++ q := by
  refine TL.ext_tl ?_
  rw [tl_tjoin, TL.tl_append, TL.tl_append, tl_tjoin, List.map_append, List.map_singleton, joinL_snoc (by simpa using h), List.append_assoc]
theorem sum_len {ps : List Str} {b : Nat} (h : ∀ p ∈ ps, p.length ≤ b) : (ps.map (·.length)).sum ≤ ps.length * b := by
  induction ps with
  | nil => simp
  | cons p ps ih =>
    have := ih fun q hq => h q (List.mem_cons_of_mem _ hq)
    have := h p (by simp)
    rw [List.map_cons, List.sum_cons, List.length_cons, Nat.add_mul]
    omega
/-- small numbers -/
def Sml (ns : List Int) : Prop := ns.length ≤ 7 ∧ ∀ i ∈ ns, 0 ≤ i ∧ i < 10 ^ 45
/-- the words of a row -/
def wordsS (w : Str) (ns : List Int) : List Str := w :: ns.map numS
structure WOk (w : Str) : Prop where
  len : w.length ≤ 45
  sp : 32 ∉ TL.tl w
  nl : 10 ∉ TL.tl w
theorem wok_line : WOk "line" := ⟨by decide +kernel, by decide +kernel, by decide +kernel⟩
theorem wok_run : WOk "run" := ⟨by decide +kernel, by decide +kernel, by decide +kernel⟩
theorem words_wok {w : Str} {ns : List Int} (hw : WOk w) (h : Sml ns) : ∀ x ∈ wordsS w ns, WOk x := by
  intro x hx
  rcases List.mem_cons.mp hx with rfl | hx
  · exact hw
  · obtain ⟨i, hi, rfl⟩ := List.mem_map.mp hx
    have := h.2 i hi
    exact ⟨num_len this.1 this.2, num_free this.1 (by omega), num_free this.1 (by omega)⟩
theorem words_n {w : Str} {ns : List Int} (h : Sml ns) : (wordsS w ns).length ≤ 8 := by
  have := h.1
  simp [wordsS]; omega
def rowS (w : Str) (ns : List Int) : Str := Txt.join " " (wordsS w ns)
theorem sp_len : (" " : Str).length = 1 := by decide +kernel
theorem nl_len : ("\n" : Str).length = 1 := by decide +kernel
theorem row_len {w : Str} {ns : List Int} (hw : WOk w) (h : Sml ns) : (rowS w ns).length ≤ 400 := by
  have := join_len (y := " ") (b := 45) fun p hp => (words_wok hw h p hp).len
  rw [sp_len] at this
  have n := words_n (w := w) h
  unfold rowS
  have : (wordsS w ns).length * (45 + 1) ≤ 8 * 46 := Nat.mul_le_mul_right _ n
  omega
theorem row_nl {w : Str} {ns : List Int} (hw : WOk w) (h : Sml ns) : 10 ∉ TL.tl (rowS w ns) := by
  unfold rowS
  rw [tl_tjoin]
  refine joinL_free (by decide +kernel) fun p hp => ?_
  obtain ⟨z, hz, rfl⟩ := List.mem_map.mp hp
  exact (words_wok hw h z hz).nl
theorem row_split {w : Str} {ns : List Int} (hw : WOk w) (h : Sml ns) : Txt.split (rowS w ns) " " = wordsS w ns :=
  TL.split_join (s := 32) (S := []) (by decide +kernel) (by decide +kernel) (by simp [wordsS]) fun p hp => (words_wok hw h p hp).sp
def runNs (r : Rn) : List Int := [(r.a : Int), (r.b : Int), r.t]
/-- the rows of a text: word and numbers -/
def rowsN (ss : List Int) (t p : Int) (ps : List Rn) : List (Str × List Int) := ("line", t :: p :: ss) :: ps.map fun r => ("run", runNs r)
def textS (ss : List Int) (t p : Int) (ps : List Rn) : Str := Txt.join "\n" ((rowsN ss t p ps).map fun x => rowS x.1 x.2)
structure TOk (ss : List Int) (ps : List Rn) : Prop where
  len : ps.length ≤ 8
  ok : ∀ r ∈ ps, r.Ok ss.length ∧ r.t ≤ 10 ^ 42
theorem line_sml {ss : List Int} {t p : Int} (o : LineOk ss t p) : Sml (t :: p :: ss) := by
  have := o.l5; have := o.t1; have := o.t9; have := o.p1; have := o.p3
  refine ⟨by simp; omega, fun i hi => ?_⟩
  rcases List.mem_cons.mp hi with rfl | hi
  · omega
  · rcases List.mem_cons.mp hi with rfl | hi
    · omega
    · have := o.s i hi
      omega
theorem run_sml {ss : List Int} {t p : Int} {r : Rn} (o : LineOk ss t p) (h : r.Ok ss.length) (ht : r.t ≤ 10 ^ 42) : Sml (runNs r) := by
  have := o.l5; have := h.a; have := h.b; have := h.t
  refine ⟨by simp [runNs], fun i hi => ?_⟩
  simp [runNs] at hi
  rcases hi with rfl | rfl | rfl <;> omega
theorem rows_ok {ss : List Int} {t p : Int} {ps : List Rn} (o : LineOk ss t p) (h : TOk ss ps) : ∀ x ∈ rowsN ss t p ps, WOk x.1 ∧ Sml x.2 := by
  intro x hx
  rcases List.mem_cons.mp hx with rfl | hx
  · exact ⟨wok_line, line_sml o⟩
  · obtain ⟨r, hr, rfl⟩ := List.mem_map.mp hx
    exact ⟨wok_run, run_sml o (h.ok r hr).1 (h.ok r hr).2⟩
theorem rows_n {ss : List Int} {t p : Int} {ps : List Rn} (h : TOk ss ps) : (rowsN ss t p ps).length ≤ 9 := by
  have := h.len
  simp [rowsN]; omega
theorem text_split {ss : List Int} {t p : Int} {ps : List Rn} (o : LineOk ss t p) (h : TOk ss ps) : Txt.split (textS ss t p ps) "\n" = (rowsN ss t p ps).map fun x => rowS x.1 x.2 :=
  TL.split_join (s := 10) (S := []) (by decide +kernel) (by decide +kernel) (by simp [rowsN]) fun z hz => by
    obtain ⟨x, hx, rfl⟩ := List.mem_map.mp hz
    obtain ⟨a, b⟩ := rows_ok o h x hx
    exact row_nl a b
/-! what the new operations lead to -/
section
variable {M : Mem} {E : PE0}
@[simp] theorem w_strI {i : Int} {Q : PQ D} : Wp (dStr (.int i)) M Q E = (i.natAbs.log2 < 1920 ∧ Q (.str (numS i)) M) := by
  exact rP_if
@[simp] theorem w_chkS {x : Str} {Q : PQ Unit} : Wp (chkS (.str x)) M Q E = Q () M := rfl
@[simp] theorem w_srcS {x : Str} {Q : PQ Src} : Wp (srcOf (.str x)) M Q E = Q (.txt x) M := rfl
@[simp] theorem l_txt {z : Str} : (Src.txt z).len M = some z.cps.size := rfl
@[simp] theorem a_txt {z : Str} {i : Nat} : (Src.txt z).at_ M i = z.cps[i]?.map fun c => .str ⟨#[c]⟩ := rfl
theorem w_split {a b : Str} {ys : List Str} {Q : PQ D} (hs : Txt.split a b = ys) (hb : (b.length == 0) = false) (ha : a.length + 2 ≤ 16777216) (hy : ys.length ≤ 16777216) (h : Q (.ref M.length) (al M (.lst (ys.map D.str)))) : Wp (dSplit (.str a) (.str b)) M Q E := by
  unfold dSplit
  unfold Wp
  dsimp only
  rw [if_pos ⟨hb, ha⟩, hs]
  show Wp (newl (ys.map D.str)) M Q E
  rw [w_newl]
  exact ⟨by simpa using hy, h⟩
theorem w_intS {z : Str} {i : Int} {Q : PQ D} (hi : PySem.intText? z = some i) (hz : z.length ≤ 640) (h : Q (.int i) M) : Wp (dInt (.str z)) M Q E := by
  unfold dInt Wp
  dsimp only
  rw [hi]
  dsimp only
  rw [if_pos hz]
  exact h
theorem in_sign {c : Nat} {z : Str} : dIn (.str ⟨#[c]⟩) (.str z) M = some (decide (c ∈ z.cps.toList)) := rfl
theorem strsOf_map : ∀ ys : List Str, strsOf (ys.map D.str) = some ys
  | [] => rfl
  | y :: ys => by
    show (strsOf (ys.map D.str)).map (y :: ·) = _
    rw [strsOf_map ys]; rfl
end
def optD {β : Type} (enc : β → D) : Option β → D
  | none => .non
  | some x => enc x
theorem pys_of {β : Type} {enc : β → D} {py : β → PyData} : ∀ {l : List β}, (∀ x ∈ l, toPyF (fun _ => none) (enc x) = some (py x)) → toPyFs (fun _ => none) (l.map enc) = some (l.map py)
  | [], _ => rfl
  | x :: l, h => by
    simp only [List.map_cons, toPyFs, h x (by simp), pys_of fun y hy => h y (List.mem_cons_of_mem _ hy), Option.bind_some, Option.map_some]
theorem depth_of {β : Type} {py : β → PyData} {n : Nat} : ∀ {l : List β}, (∀ x ∈ l, (py x).depth ≤ n) → PyData.depthAll (l.map py) ≤ n
  | [], _ => by simp [PyData.depthAll]
  | x :: l, h => by
    have a := h x (by simp)
    have b := depth_of fun y hy => h y (List.mem_cons_of_mem _ hy)
    simp only [List.map_cons, PyData.depthAll]
    omega
theorem alikeB_of {β : Type} {py : β → PyData} {l : List β} (h : ∀ x ∈ l, ∀ y ∈ l, PySem.W.alike (py x) (py y) = true) : alikeB (l.map py) = true := by
  simp only [alikeB, List.all_eq_true]
  intro a ha b hb
  obtain ⟨x, hx, rfl⟩ := List.mem_map.mp ha
  obtain ⟨y, hy, rfl⟩ := List.mem_map.mp hb
  exact h x hx y hy
theorem w_sortE {β : Type} (enc : β → D) (py : β → PyData) {l : List β} {k : Nat} {M : Mem} {E : PE0} {Q : PQ D} (h : M[k]? = some (.lst (l.map enc))) (h1 : ∀ x ∈ l, toPyF (fun _ => none) (enc x) = some (py x)) (h2 : ∀ x ∈ l, ∀ y ∈ l, PySem.W.alike (py x) (py y) = true)
    (h3 : ∀ x ∈ l, tupP (py x) = true ∧ (py x).depth ≤ 10) : Wp (dSort (.ref k)) M Q E = (l.length ≤ 16777216 ∧ Q (.ref M.length) (al M (.lst ((l.map enc).mergeSort leD)))) := by
  have e := w_sort (E := E) (Q := Q) h (pys_of h1) (by
    rw [alikeB_of h2, Bool.true_and, Bool.and_eq_true, decide_eq_true_eq, Bool.or_eq_true, List.all_eq_true]
    refine ⟨.inl fun p hp => ?_, ?_⟩
    · obtain ⟨y, hy, rfl⟩ := List.mem_map.mp hp
      exact (h3 y hy).1
    · have := depth_of (py := py) (n := 10) fun y hy => (h3 y hy).2
      omega)
  rw [e, List.length_map]
theorem leD_lt (a b : D) : leD a b = !ltD b a := rfl
/-! in, of lists of like things -/
theorem py_gen {β : Type} {enc : β → D} {py : β → PyData} {R : Nat → Option PyData} : ∀ {l : List β}, (∀ x ∈ l, ∀ R, toPyF R (enc x) = some (py x)) → toPyFs R (l.map enc) = some (l.map py)
  | [], _ => by simp only [List.map_nil, toPyFs]
  | x :: l, h => by simp only [List.map_cons, toPyFs, h x (by simp) R, py_gen fun y hy => h y (List.mem_cons_of_mem _ hy), Option.bind_some, Option.map_some]
theorem lay_gen {β : Type} {py : β → PyData} : ∀ {l : List β}, (∀ x ∈ l, (py x).canLay0 = true) → PyData.canLayAll0 (l.map py) = true
  | [], _ => by simp only [List.map_nil, PyData.canLayAll0]
  | x :: l, h => by simp only [List.map_cons, PyData.canLayAll0, h x (by simp), lay_gen fun y hy => h y (List.mem_cons_of_mem _ hy), Bool.and_self]
theorem in_gen {β : Type} (enc : β → D) (py : β → PyData) {k : Nat} {l : List β} {d : D} {p : PyData} {M : Mem} (h : M[k]? = some (.lst (l.map enc))) (hp : ∀ x ∈ l, ∀ R, toPyF R (enc x) = some (py x)) (hl : ∀ x ∈ l, (py x).canLay0 = true ∧ (py x).depth ≤ 10)
    (hd : toPy M d = some p) (hs : p.canLay0 = true ∧ p.depth ≤ 10) : dIn d (.ref k) M = some (l.any fun x => PyData.eqv (py x) p) := by
  have e2 : toPy M (.ref k) = some (.list (l.map py)) := by
    show toPyN M 100 k = _
    unfold toPyN
    rw [h]
    simp only [py_gen hp, Option.map_some]
  have e3 : dctOf (.ref k) M = none := by unfold dctOf; dsimp only; rw [h]
  have s1 : SeqAt.shaped p = true := by
    unfold SeqAt.shaped
    rw [Bool.and_eq_true]
    exact ⟨hs.1, decide_eq_true (by have := hs.2; omega)⟩
  have s2 : SeqAt.shaped (.list (l.map py)) = true := by
    unfold SeqAt.shaped
    rw [Bool.and_eq_true]
    refine ⟨by simp only [PyData.canLay0]; exact lay_gen fun x hx => (hl x hx).1, ?_⟩
    have := depth_of (py := py) (n := 10) fun x hx => (hl x hx).2
    simp only [PyData.depth]
    refine decide_eq_true ?_
    omega
  unfold dIn
  rw [e3, hd, e2]
  simp only [s1, s2, Bool.and_self, if_true, List.any_map]
  rfl
/-! equal lists of texts -/
theorem toPyFs_strs {R : Nat → Option PyData} : ∀ xs : List Str, toPyFs R (xs.map .str) = some (xs.map .str)
  | [] => rfl
  | x :: xs => by
    show (toPyF R (.str x)).bind _ = _
    rw [toPyFs_strs xs]; rfl
theorem q_strs {a b : Nat} {xs : List Str} {M : Mem} (ha : M[a]? = some (.lst (xs.map .str))) (hb : M[b]? = some (.lst (xs.map .str))) (h : (SeqAt.shaped (.list (xs.map .str)) && PyData.eqv (.list (xs.map .str)) (.list (xs.map .str))) = true) : dEq (.ref a) (.ref b) M = some true := by
  have e : ∀ n, M[n]? = some (.lst (xs.map .str)) → toPy M (.ref n) = some (.list (xs.map .str)) := by
    intro n hn
    show toPyN M 100 n = _
    simp only [toPyN, hn, toPyFs_strs]; rfl
  rw [Bool.and_eq_true] at h
  unfold dEq
  rw [e a ha, e b hb]
  simp only [scQ, emQ, ha, hb, Option.or, beq_self_eq_true, if_true, h.1, h.2, Bool.and_self]
end K82
set_option maxHeartbeats 1000000
namespace K82
open PySem PySem.Spec Pf
open L2 (atI ixN)
/-! k82: numbers of words -/
def digB (c : Nat) : Bool := decide (48 ≤ c) && decide (c ≤ 57)
def onI : Option Int → D
  | none => .non
  | some i => .int i
def numW (w : Str) : Option Int := if w.cps.size = 0 ∨ w.cps.toList.all digB = false then none else if 1 < w.cps.size ∧ w.cps.toList[0]? = some 48 then none else some ((NumText.digitsVal w.cps.toList : Nat) : Int)
theorem fig_list : ("0123456789" : Str).cps.toList = [48, 49, 50, 51, 52, 53, 54, 55, 56, 57] := by decide +kernel
theorem fig_mem (c : Nat) : decide (c ∈ ("0123456789" : Str).cps.toList) = digB c := by
  rw [fig_list, Bool.eq_iff_iff]
  unfold digB
  simp
  omega
theorem dig_bound : ∀ (cs : List Nat) (a : Nat), (∀ c ∈ cs, 48 ≤ c ∧ c ≤ 57) → cs.foldl (fun acc c => acc * 10 + (c - 48)) a < (a + 1) * 10 ^ cs.length
  | [], a, _ => by simp
  | c :: cs, a, h => by
    have hc := h c (by simp)
    have ih := dig_bound cs (a * 10 + (c - 48)) fun x hx => h x (by simp [hx])
    rw [List.foldl_cons]
    refine Nat.lt_of_lt_of_le ih ?_
    rw [List.length_cons, Nat.pow_succ]
    have e : (a + 1) * (10 ^ cs.length * 10) = ((a + 1) * 10) * 10 ^ cs.length := by rw [Nat.mul_assoc, Nat.mul_comm 10]
    rw [e]
    exact Nat.mul_le_mul_right _ (by omega)
theorem numW_bd {w : Str} {i : Int} (h : numW w = some i) : 0 ≤ i ∧ i.natAbs < 10 ^ w.length := by
  unfold numW at h
  split at h
  · cases h
  · rename_i h1
    split at h
    · cases h
    · cases h
      refine ⟨by omega, ?_⟩
      have hd : ∀ c ∈ w.cps.toList, 48 ≤ c ∧ c ≤ 57 := fun c hc => by
        have h2 : w.cps.toList.all digB = true := by
          simp only [not_or, Bool.not_eq_false] at h1
          exact h1.2
        have := List.all_eq_true.mp h2 c hc
        unfold digB at this
        simpa using this
      have := dig_bound w.cps.toList 0 hd
      rw [Int.natAbs_natCast]
      unfold NumText.digitsVal
      rw [show w.length = w.cps.toList.length from by simp [Str.length]]
      simpa using this
theorem txt_src {w : Str} {M : Mem} : (Src.txt w).len M = some w.cps.toList.length ∧ ∀ i u, w.cps.toList[i]? = some u → (Src.txt w).at_ M i = some (D.str ⟨#[u]⟩) := by
  refine ⟨by simp [Src.len], fun i u h => ?_⟩
  simp only [Src.at_]
  have : w.cps[i]? = some u := by simpa using h
  rw [this]
  rfl
theorem int_word {w : Str} {M : Mem} {E : PE0} {Q : PQ D} (hl : w.length ≤ 600) (h0 : w.cps.size ≠ 0) (hd : w.cps.toList.all digB = true) (h : Q (.int ((NumText.digitsVal w.cps.toList : Nat) : Int)) M) : Wp (dInt (.str w)) M Q E := by
  have hi : PySem.intText? w = some ((NumText.digitsVal w.cps.toList : Nat) : Int) := SX.int_S (a := w.cps.toList) hd (by
    intro z
    exact h0 (by rw [← Array.length_toList, z]; rfl)) (by
      have : w.length = w.cps.toList.length := by simp [Str.length]
      omega)
  exact w_intS hi (by omega) h
theorem len_cps {w : Str} : w.length = w.cps.size := rfl
theorem zero_eq {c : Nat} : ((⟨#[c]⟩ : Str) = ("0" : Str)) ↔ c = 48 := by
  constructor
  · intro h
    have e : (⟨#[c]⟩ : Str).cps.toList = ("0" : Str).cps.toList := by rw [h]
    rw [show ("0" : Str).cps.toList = [48] from by decide +kernel] at e
    simpa using e
  · rintro rfl
    decide +kernel
theorem signs_ok {w : Str} {M : Mem} {E : PE0} {Q : PQ D} {e : Pf.Env} {i : Nat} (hs : w.cps.size ≤ 600) (he : i < e.length) (h : Q (.ref M.length) (al M (.lst (w.cps.toList.map fun c => .bl (digB c))))) :
    Wp (lcS (.txt w) (tg1 i) (fun e => Pf.ret true) (fun e => bnd (getS i e) fun x => bnd (Pf.ret (.str "0123456789")) fun y => dCmp .In x y) e) M Q E := by
  refine Wp_mapF w.cps.toList (fun c => D.str ⟨#[c]⟩) (fun c => .bl (digB c)) (fun M' => M' = M) rfl (fun M' e => by subst e; exact txt_src) (by simp; omega) (fun u hu M' e1 => ?_) fun M1 e1 => ?_
  · subst e1
    refine ⟨_, rfl, ?_⟩
    simp [he]
    rw [in_sign, fig_mem]
    simp
  · subst e1
    exact h
theorem idx_0 {w : Str} {c : Nat} {M : Mem} {E : PE0} {Q : PQ D} (hs : w.cps.size ≤ 600) (h0 : w.cps.toList[0]? = some c) (h : Q (.str ⟨#[c]⟩) M) : Wp (dIdx (.str w) (.int 0)) M Q E := by
  have e : dIdx (.str w) (.int 0) M = .ok (.str ⟨#[c]⟩) M := by
    unfold dIdx dctOf fdcOf dIdxS
    dsimp only
    rw [show atI w.cps.toList 0 = some c from (atI_cast (k := 0)).trans h0]
    dsimp only
    rw [if_pos (show w.length ≤ 16777216 by show w.cps.size ≤ _; omega)]
  unfold Wp
  rw [e]
  exact h
theorem q_0 {c : Nat} {M : Mem} : dEq (.str ⟨#[c]⟩) (.str ("0" : Str)) M = some (decide (c = 48)) := by
  show some ((⟨#[c]⟩ : Str) == ("0" : Str)) = _
  congr 1
  rw [Bool.eq_iff_iff]
  simp only [beq_iff_eq, decide_eq_true_eq]
  exact zero_eq
theorem hd_0 {w : Str} (h : w.cps.size ≠ 0) : ∃ c, w.cps.toList[0]? = some c := by
  have : 0 < w.cps.toList.length := by simp; omega
  exact ⟨_, List.getElem?_eq_getElem this⟩
theorem numberof_ok {n : Nat} {w : Str} {M : Mem} {E : PE0} {Q : PQ D} (hl : w.length ≤ 600) (h : ∀ M', Fr [] M M' → Q (onI (numW w)) M') : Wp (PH (n + 1) "number_of" [.str w, .int 2000]) M Q E := by
  have hs : w.cps.size ≤ 600 := hl
  have fin : ∀ v M', Fr [] M M' → onI (numW w) = v → Q v M' := fun v M' f e => e ▸ h M' f
  rw [q_number_of]
  simp [g_number_of, List.replicate_succ, len_cps]
  refine ⟨by omega, ?_⟩
  by_cases h0 : w.cps.size = 0
  · have c1 : ¬ (1 : Int) ≤ (w.cps.size : Int) := by omega
    rw [if_neg c1]
    exact fin _ _ Fr.refl (by unfold numW; rw [if_pos (.inl h0)]; rfl)
  · have c1 : (1 : Int) ≤ (w.cps.size : Int) := by omega
    have c2 : (w.cps.size : Int) ≤ 2000 := by omega
    rw [if_pos c1, if_pos c2]
    refine signs_ok hs (by simp [wipeE]) ?_
    have g1 := get_new (M := M) (c := .lst (w.cps.toList.map fun c => D.bl (digB c)))
    have f1 : Fr [] M (al M (.lst (w.cps.toList.map fun c => D.bl (digB c)))) := Fr.al
    generalize al M (.lst (w.cps.toList.map fun c => D.bl (digB c))) = M1 at g1 f1 ⊢
    generalize M.length = k at g1 ⊢
    simp [g1]
    rw [allB_U]
    simp only [oG_some]
    cases hd : w.cps.toList.all digB with
    | false =>
      simp
      exact fin _ _ f1 (by unfold numW; rw [if_pos (.inr hd)]; rfl)
    | true =>
      have nn : ¬ (w.cps.size = 0 ∨ w.cps.toList.all digB = false) := by rw [hd]; simp [h0]
      obtain ⟨c, hc⟩ := hd_0 h0
      simp
      refine ⟨by omega, ?_⟩
      by_cases h1 : 1 < w.cps.size
      · rw [if_pos (by omega)]
        refine idx_0 hs hc ?_
        rw [q_0]
        by_cases h48 : c = 48
        · simp [h48]
          exact fin _ _ f1 (by unfold numW; rw [if_neg nn, if_pos ⟨h1, by rw [hc, h48]⟩]; rfl)
        · simp [h48]
          refine int_word hl h0 hd (fin _ _ f1 ?_)
          unfold numW
          rw [if_neg nn, if_neg (fun z => h48 (by rw [hc] at z; exact Option.some.inj z.2))]
          rfl
      · rw [if_neg (by omega)]
        refine int_word hl h0 hd (fin _ _ f1 ?_)
        unfold numW
        rw [if_neg nn, if_neg (fun z => h1 z.1)]
        rfl
theorem nil_eq {w : Str} : w = ("" : Str) ↔ w.cps.size = 0 := by
  constructor
  · rintro rfl; decide +kernel
  · intro h
    have e : w.cps = #[] := Array.eq_empty_of_size_eq_zero h
    obtain ⟨cps⟩ := w
    simp only at e
    subst e
    decide +kernel
theorem one_eq {w : Str} {c : Nat} (hc : w.cps.toList[0]? = some c) (h1 : w.cps.size = 1) : w = ⟨#[c]⟩ := by
  obtain ⟨cps⟩ := w
  simp only at hc h1
  congr 1
  refine Array.ext (by simp [h1]) fun i h2 h3 => ?_
  have : i = 0 := by omega
  subst this
  have := (List.getElem?_eq_some_iff.mp hc).2
  simpa using this
theorem lnumber_ok {n : Nat} {w : Str} {M : Mem} {E : PE0} {Q : PQ D} (hl : w.length ≤ 600) (h : ∀ M', Fr [] M M' → Q (onI (numW w)) M') : Wp (PH (n + 1) "_law_number" [.str w]) M Q E := by
  have hs : w.cps.size ≤ 600 := hl
  have fin : ∀ v M', Fr [] M M' → onI (numW w) = v → Q v M' := fun v M' f e => e ▸ h M' f
  rw [q_law_number]
  simp [g_law_number, List.replicate_succ]
  by_cases h0 : w.cps.size = 0
  · rw [if_pos (nil_eq.mpr h0)]
    exact fin _ _ Fr.refl (by unfold numW; rw [if_pos (.inl h0)]; rfl)
  · rw [if_neg (fun z => h0 (nil_eq.mp z))]
    refine Wp_fmF w.cps.toList (fun c => D.str ⟨#[c]⟩) (fun c => !digB c) (fun c => D.str ⟨#[c]⟩) (fun M' => M' = M) rfl (fun M' e => by subst e; exact txt_src) (by simp; omega) (fun u hu M' e => ?_) fun M1 e1 => ?_
    · subst e
      refine ⟨_, rfl, ?_⟩
      simp [wipeE]
      rw [in_sign, fig_mem]
      cases digB u <;> simp
    · subst e1
      try simp
      rw [q_lnil (get_al get_new) get_new]
      have f1 : Fr [] M1 (al (al M1 (.lst ((w.cps.toList.filter fun c => !digB c).map fun c => D.str ⟨#[c]⟩))) (.lst [])) := Fr.al.trans Fr.al
      generalize al (al M1 (.lst ((w.cps.toList.filter fun c => !digB c).map fun c => D.str ⟨#[c]⟩))) (.lst []) = M2 at f1 ⊢
      cases hd : w.cps.toList.all digB with
      | false =>
        have ne : (w.cps.toList.filter fun c => !digB c) ≠ [] := by
          intro z
          rw [List.filter_eq_nil_iff] at z
          have : w.cps.toList.all digB = true := List.all_eq_true.mpr fun x hx => by simpa using z x hx
          rw [hd] at this; cases this
        cases hF : (w.cps.toList.filter fun c => !digB c) with
        | nil => exact absurd hF ne
        | cons a l =>
          simp
          exact fin _ _ f1 (by unfold numW; rw [if_pos (.inr hd)]; rfl)
      | true =>
        have nn : ¬ (w.cps.size = 0 ∨ w.cps.toList.all digB = false) := by rw [hd]; simp [h0]
        obtain ⟨c, hc⟩ := hd_0 h0
        rw [List.filter_eq_nil_iff.mpr (fun x hx => by simp [List.all_eq_true.mp hd x hx])]
        simp
        by_cases hw : w = ("0" : Str)
        · rw [if_pos hw]
          refine int_word hl h0 hd (fin _ _ f1 ?_)
          unfold numW
          rw [if_neg nn, if_neg (fun z => by rw [hw] at z; exact absurd z.1 (by decide +kernel))]
          rfl
        · rw [if_neg hw]
          refine idx_0 hs hc ?_
          rw [q_0]
          by_cases h48 : c = 48
          · simp [h48]
            have h1 : 1 < w.cps.size := by
              rcases Nat.lt_or_ge 1 w.cps.size with q | q
              · exact q
              · exfalso
                have e := one_eq hc (by omega)
                exact hw (by rw [e]; exact zero_eq.mpr h48)
            exact fin _ _ f1 (by unfold numW; rw [if_neg nn, if_pos ⟨h1, by rw [hc, h48]⟩]; rfl)
          · simp [h48]
            refine int_word hl h0 hd (fin _ _ f1 ?_)
            unfold numW
            rw [if_neg nn, if_neg (fun z => h48 (by rw [hc] at z; exact Option.some.inj z.2))]
            rfl
end K82
set_option maxHeartbeats 1000000
namespace K82
open PySem PySem.Spec Pf
open L2 (atI ixN)
/-! k82: texts and their parts -/
structure Tx (N : Nat) (z : Str) : Prop where
  len : z.length ≤ N
  ok : ∀ c ∈ z.cps.toList, c < 0x110000
theorem Tx.up {N N' : Nat} {z : Str} (h : Tx N z) (l : N ≤ N') : Tx N' z := ⟨Nat.le_trans h.len l, h.ok⟩
theorem Tx.sz {N : Nat} {z : Str} (h : Tx N z) : z.cps.size ≤ N := h.len
theorem Tx.strU {N : Nat} {z : Str} (h : Tx N z) : z.cps.all (· < 0x110000) = true := by
  rw [← Array.all_toList, List.all_eq_true]
  exact fun c hc => decide_eq_true (h.ok c hc)
/-- how much parts weigh -/
def wt (ps : List Str) : Nat := (ps.map (·.length)).sum + ps.length
theorem joinL_mem {c : Nat} {S : List Nat} : ∀ {ps : List (List Nat)} {p : List Nat}, p ∈ ps → c ∈ p → c ∈ TL.joinL S ps
  | [], p, h, _ => by cases h
  | [q], p, h, hc => by
    rw [List.mem_singleton] at h
    subst h
    simpa [TL.joinL] using hc
  | q :: r :: ps, p, h, hc => by
    rcases List.mem_cons.mp h with rfl | h
    · simp [TL.joinL, hc]
    · have := joinL_mem (S := S) h hc
      simp [TL.joinL] at this ⊢
      exact .inr (.inr this)
theorem joinL_sub {c : Nat} {S : List Nat} : ∀ {ps : List (List Nat)}, c ∈ TL.joinL S ps → c ∈ S ∨ ∃ p ∈ ps, c ∈ p
  | [], h => by simp [TL.joinL] at h
  | [q], h => .inr ⟨q, by simp, by simpa [TL.joinL] using h⟩
  | q :: r :: ps, h => by
    simp only [TL.joinL, List.mem_append] at h
    rcases h with h | h | h
    · exact .inr ⟨q, by simp, h⟩
    · exact .inl h
    · rcases joinL_sub h with h | ⟨p, hp, h⟩
      · exact .inl h
      · exact .inr ⟨p, List.mem_cons_of_mem _ hp, h⟩
theorem joinL_wt {S : List Nat} : ∀ {ps : List (List Nat)}, (TL.joinL S ps).length ≤ (ps.map List.length).sum + ps.length * S.length
  | [] => by simp [TL.joinL]
  | [q] => by simp [TL.joinL]
  | q :: r :: ps => by
    have ih := joinL_wt (S := S) (ps := r :: ps)
    simp only [TL.joinL, List.length_append, List.map_cons, List.sum_cons, List.length_cons] at ih ⊢
    have e : (ps.length + 1 + 1) * S.length = (ps.length + 1) * S.length + S.length := by rw [Nat.add_mul _ 1, Nat.one_mul]
    omega
theorem tl_def {z : Str} : TL.tl z = z.cps.toList := rfl
theorem split_tx {N : Nat} {z y : Str} (h : Tx N z) (hy : y.length = 1) : Txt.split z y ≠ [] ∧ wt (Txt.split z y) ≤ N + 1 ∧ ∀ p ∈ Txt.split z y, Tx N p := by
  have h1 := PyProof.Rows.split_pos z y
  have h2 := PyProof.Rows.split_weight z y (by omega)
  have hl := h.len
  refine ⟨fun e => by rw [e] at h1; simp at h1, by unfold wt; omega, fun p hp => ⟨Nat.le_trans (PyProof.Rows.part_short hp) hl, fun c hc => ?_⟩⟩
  have e := StrLaws.join_split z y
  refine h.ok c ?_
  have e2 : TL.tl (Txt.join y (Txt.split z y)) = z.cps.toList := by
    have : Txt.join y (Txt.split z y) = z := (TL.join_eq y _).trans e
    rw [this]
  rw [← e2, tl_tjoin]
  exact joinL_mem (List.mem_map_of_mem hp) hc
theorem join_tx {N : Nat} {y : Str} {ps : List Str} (hy : y.length = 1) (yo : ∀ c ∈ y.cps.toList, c < 0x110000) (hw : wt ps ≤ N) (hp : ∀ p ∈ ps, ∀ c ∈ p.cps.toList, c < 0x110000) : Tx N (Txt.join y ps) := by
  refine ⟨?_, fun c hc => ?_⟩
  · have e : (Txt.join y ps).length = (TL.tl (Txt.join y ps)).length := TL.len_tl _
    rw [e, tl_tjoin]
    have z := joinL_wt (S := TL.tl y) (ps := ps.map TL.tl)
    have ly : (TL.tl y).length = 1 := by rw [← TL.len_tl]; exact hy
    rw [ly, List.map_map, List.length_map] at z
    have e2 : (List.length ∘ TL.tl : Str → Nat) = (·.length) := by funext x; exact (TL.len_tl x).symm
    rw [e2] at z
    unfold wt at hw
    omega
  · rw [← tl_def, tl_tjoin] at hc
    rcases joinL_sub hc with h | ⟨p, hp2, h⟩
    · exact yo c h
    · obtain ⟨q, hq, rfl⟩ := List.mem_map.mp hp2
      exact hp q hq c h
theorem add_tx {N N' : Nat} {x y : Str} (h : Tx N x) (h' : Tx N' y) : Tx (N + N') (x ++ y) := by
  refine ⟨?_, fun c hc => ?_⟩
  · have a := h.sz; have b := h'.sz
    show (x.cps ++ y.cps).size ≤ _
    rw [Array.size_append]; omega
  · have hc' : c ∈ (x.cps ++ y.cps).toList := hc
    rw [Array.toList_append, List.mem_append] at hc'
    exact hc'.elim (h.ok c) (h'.ok c)
/-- a text's rows, word by word -/
def rowsW (z : Str) : List (List Str) := (Txt.split z "\n").map fun r => Txt.split r " "
def numsW (ws : List Str) : Option (List Int) := ws.mapM numW
theorem mapM_none {ws : List Str} : numsW ws = none ↔ ∃ w ∈ ws, numW w = none := by
  unfold numsW
  induction ws with
  | nil => simp
  | cons w ws ih =>
    rw [List.mapM_cons]
    cases h : numW w with
    | none => simp [h]
    | some i =>
      cases h2 : ws.mapM numW with
      | none =>
        obtain ⟨x, hx, e⟩ := ih.mp h2
        simp only [Option.bind_eq_bind, Option.bind_some, Option.bind_none, true_iff]
        exact ⟨x, List.mem_cons_of_mem _ hx, e⟩
      | some l =>
        simp only [Option.bind_eq_bind, Option.bind_some]
        constructor
        · intro z; cases z
        · rintro ⟨x, hx, e⟩
          rcases List.mem_cons.mp hx with rfl | hx
          · rw [h] at e; cases e
          · have := ih.mpr ⟨x, hx, e⟩
            rw [h2] at this; cases this
theorem mapM_some {ws : List Str} {l : List Int} (h : numsW ws = some l) : ws.map (fun w => onI (numW w)) = l.map D.int ∧ ∀ i ∈ l, ∃ w ∈ ws, numW w = some i := by
  unfold numsW at h
  induction ws generalizing l with
  | nil => simp at h; subst h; exact ⟨rfl, by simp⟩
  | cons w ws ih =>
    rw [List.mapM_cons] at h
    cases h1 : numW w with
    | none => rw [h1] at h; cases h
    | some i =>
      cases h2 : ws.mapM numW with
      | none => rw [h1, h2] at h; cases h
      | some l' =>
        rw [h1, h2] at h
        cases h
        obtain ⟨e1, e2⟩ := ih h2
        refine ⟨by rw [List.map_cons, List.map_cons, e1, h1]; rfl, fun j hj => ?_⟩
        rcases List.mem_cons.mp hj with rfl | hj
        · exact ⟨w, by simp, h1⟩
        · obtain ⟨x, hx, e⟩ := e2 j hj
          exact ⟨x, List.mem_cons_of_mem _ hx, e⟩
end K82
set_option maxHeartbeats 1000000
namespace K82
open PySem PySem.Spec Pf
open L2 (atI ixN)
def onT : Option (List Int) → D
  | none => .non
  | some l => .tup (nts l)
theorem eqvAll_strs : ∀ xs ys : List Str, PyData.eqvAll (xs.map .str) (ys.map .str) = decide (xs = ys)
  | [], [] => rfl
  | [], _ :: _ => rfl
  | _ :: _, [] => rfl
  | x :: xs, y :: ys => by
    simp only [List.map_cons, PyData.eqvAll, eqvAll_strs xs ys]
    rw [Bool.eq_iff_iff]
    simp [PyData.eqv]
theorem strs_shaped {xs : List Str} (h : ∀ x ∈ xs, x.cps.all (· < 0x110000) = true) : SeqAt.shaped (.list (xs.map .str)) = true := by
  unfold SeqAt.shaped
  rw [Bool.and_eq_true]
  refine ⟨?_, ?_⟩
  · simp only [PyData.canLay0]
    exact lay_gen (py := PyData.str) fun x hx => by
      simp only [PyData.canLay0]
      exact h x hx
  · have := depth_of (py := PyData.str) (n := 10) (l := xs) fun r _ => by simp [PyData.depth]
    simp only [PyData.depth]
    exact decide_eq_true (by omega)
theorem q_strs2 {a b : Nat} {xs ys : List Str} {M : Mem} (ha : M[a]? = some (.lst (xs.map .str))) (hb : M[b]? = some (.lst (ys.map .str))) (hl : xs.length = ys.length) (hx : ∀ x ∈ xs, x.cps.all (· < 0x110000) = true) (hy : ∀ x ∈ ys, x.cps.all (· < 0x110000) = true) : dEq (.ref a) (.ref b) M = some (decide (xs = ys)) := by
  have e : ∀ n (zs : List Str), M[n]? = some (.lst (zs.map .str)) → toPy M (.ref n) = some (.list (zs.map .str)) := by
    intro n zs hn
    show toPyN M 100 n = _
    simp only [toPyN, hn, toPyFs_strs]; rfl
  have em : (scQ (.ref a) (.ref b)).or (emQ (.ref a) (.ref b) M) = none := by simp [scQ, emQ, ha, hb, hl]
  unfold dEq
  rw [em, e a xs ha, e b ys hb]
  dsimp only
  rw [strs_shaped hx, strs_shaped hy]
  simp only [Bool.and_self, if_true, PyData.eqv, eqvAll_strs]
theorem non_in {β : Type} {o : β → Option PyData} {enc : β → D} {k : Nat} {l : List β} {M : Mem} (h : M[k]? = some (.lst (l.map enc))) (hp : ∀ x ∈ l, ∀ R, toPyF R (enc x) = some ((o x).getD .none)) (hl : ∀ x ∈ l, ((o x).getD .none).canLay0 = true ∧ ((o x).getD .none).depth ≤ 10) (ho : ∀ x ∈ l, ∀ p, o x = some p → PyData.eqv p .none = false) :
    dIn .non (.ref k) M = some (l.any fun x => (o x).isNone) := by
  rw [in_gen enc (fun x => (o x).getD .none) h hp hl (d := .non) (p := .none) rfl (by simp [PyData.canLay0, PyData.depth])]
  congr 1
  rw [Bool.eq_iff_iff, List.any_eq_true, List.any_eq_true]
  refine exists_congr fun x => and_congr_right fun hx => ?_
  cases e : o x with
  | none => simp [PyData.eqv]
  | some p =>
    have := ho x hx p e
    simp [this]
theorem numbersof_ok {n c : Nat} {ws : List Str} {M : Mem} {E : PE0} {Q : PQ D} (hs : ∀ w ∈ ws, w.length ≤ 600) (hn : ws.length ≤ 1000) (hc : M[c]? = some (.lst (ws.map D.str))) (h : ∀ M', Fr [] M M' → Q (onT (numsW ws)) M') :
    Wp (PH (n + 2) "numbers_of" [.ref c, .int 2000]) M Q E := by
  rw [q_numbers_of]
  simp [g_numbers_of, List.replicate_succ, hc]
  refine Wp_mapF ws D.str (fun w => onI (numW w)) (fun M' => Fr [] M M') Fr.refl (fun M' f => src_lst (f.at_ hc (by simp))) (by omega) (fun u hu M' f => ?_) fun M1 f1 => ?_
  · refine ⟨_, rfl, ?_⟩
    simp [wipeE]
    refine numberof_ok (hs u hu) fun M2 f2 => ?_
    exact ⟨f.trans f2, rfl⟩
  · have g2 := get_new (M := M1) (c := .lst (ws.map fun w => onI (numW w)))
    have f2 : Fr [] M (al M1 (.lst (ws.map fun w => onI (numW w)))) := f1.trans Fr.al
    generalize al M1 (.lst (ws.map fun w => onI (numW w))) = M2 at f2 g2 ⊢
    generalize M1.length = k at g2 ⊢
    simp
    rw [non_in (o := fun w => (numW w).map PyData.int) g2 (fun x _ R => by cases numW x <;> simp [onI, toPyF]) (fun x _ => by cases numW x <;> simp [PyData.canLay0, PyData.depth]) (fun x _ p hp => by
      cases e : numW x with
      | none => rw [e] at hp; cases hp
      | some i => rw [e] at hp; cases hp; simp [PyData.eqv])]
    cases e : numsW ws with
    | none =>
      rw [e] at h
      obtain ⟨w, hw, e2⟩ := mapM_none.mp e
      have : (ws.any fun x => ((numW x).map PyData.int).isNone) = true := List.any_eq_true.mpr ⟨w, hw, by rw [e2]; rfl⟩
      rw [this]
      simp
      exact h _ f2
    | some l =>
      rw [e] at h
      have : (ws.any fun x => ((numW x).map PyData.int).isNone) = false := by
        rw [List.any_eq_false]
        intro w hw z
        have : numW w = none := by
          cases q : numW w with
          | none => rfl
          | some i => rw [q] at z; simp at z
        rw [mapM_none.mpr ⟨w, hw, this⟩] at e
        cases e
      rw [this]
      have e3 := (mapM_some e).1
      rw [e3] at g2
      simp [g2]
      have : l.length ≤ 1000 := by
        have := congrArg List.length e3
        simp at this
        omega
      exact ⟨by omega, h _ f2⟩
def hdW (ws : List Str) : Str := ws.headD ("" : Str)
def tlN (ws : List Str) : Option (List Int) := numsW ws.tail
def wrdL (n : Nat) : List Str := ("line" : Str) :: List.replicate (n - 1) ("run" : Str)
theorem wrdL_len {n : Nat} : (wrdL n).length = n - 1 + 1 := by simp [wrdL]
def lnD (ns : List Int) : D := .tup (.tup (nts (ns.drop 2)) :: nts (ns.take 2))
theorem lineby_ok {n : Nat} {ns : List Int} {M : Mem} {E : PE0} {Q : PQ D} (h : Q (lnD ns) M) : Wp (PH (n + 1) "line_by" [.tup (nts ns)]) M Q E := by
  rw [q_line_by]
  have e1 : cutD (nts ns) (some 2) none = nts (ns.drop 2) := (cut_hi (k := 2)).trans (by simp [nts])
  have e2 : cutD (nts ns) none (some 2) = nts (ns.take 2) := (cut_lo (k := 2)).trans (by simp [nts])
  simp only [lnD] at h
  generalize hA : nts (ns.drop 2) = A at e1 h
  generalize hB : nts (ns.take 2) = B at e2 h
  have hl : B.length ≤ 2 := by rw [← hB]; simp; omega
  simp [g_line_by, List.replicate_succ, -List.map_cons, e1, e2]
  exact ⟨by omega, h⟩
def partW (z : Str) : Option (List Int × List (List Int)) := if (rowsW z).map hdW = wrdL (rowsW z).length then (match (rowsW z).mapM tlN with
  | some (n :: r) => some (n, r)
  | _ => none) else none
theorem mapMs {α β : Type} {f : α → Option β} : ∀ {R : List α} {L : List β}, R.mapM f = some L → R.map f = L.map some
  | [], L, h => by simp at h; subst h; rfl
  | x :: R, L, h => by
    rw [List.mapM_cons] at h
    cases h1 : f x with
    | none => rw [h1] at h; cases h
    | some b =>
      cases h2 : R.mapM f with
      | none => rw [h1, h2] at h; cases h
      | some l =>
        rw [h1, h2] at h
        cases h
        rw [List.map_cons, mapMs h2, h1]; rfl
theorem mapMn {α β : Type} {f : α → Option β} : ∀ {R : List α}, R.mapM f = none → ∃ x ∈ R, f x = none
  | [], h => by simp at h
  | x :: R, h => by
    cases h1 : f x with
    | none => exact ⟨x, by simp, h1⟩
    | some b =>
      cases h2 : R.mapM f with
      | none =>
        obtain ⟨y, hy, e⟩ := mapMn h2
        exact ⟨y, List.mem_cons_of_mem _ hy, e⟩
      | some l =>
        rw [List.mapM_cons, h1, h2] at h
        cases h
abbrev RowQ := Nat × List Str
def RowsQ (M : Mem) (qs : List RowQ) : Prop := ∀ q ∈ qs, M[q.1]? = some (.lst (q.2.map D.str))
structure RowOk (ws : List Str) : Prop where
  ne : ws ≠ []
  len : ws.length ≤ 600
  ok : ∀ w ∈ ws, Tx 570 w
theorem nl_1 : ("\n" : Str).length = 1 := by decide +kernel
theorem bl_1 : (" " : Str).length = 1 := by decide +kernel
theorem rows_ok82 {z : Str} (hz : Tx 570 z) : (rowsW z) ≠ [] ∧ (rowsW z).length ≤ 600 ∧ (rowsW z).length = (Txt.split z "\n").length ∧ ∀ ws ∈ rowsW z, RowOk ws := by
  obtain ⟨h1, h2, h3⟩ := split_tx hz nl_1
  unfold wt at h2
  refine ⟨fun e => h1 (by unfold rowsW at e; simpa using e), by unfold rowsW; rw [List.length_map]; omega, by unfold rowsW; rw [List.length_map], fun ws hw => ?_⟩
  unfold rowsW at hw
  obtain ⟨r, hr, rfl⟩ := List.mem_map.mp hw
  obtain ⟨a1, a2, a3⟩ := split_tx (h3 r hr) bl_1
  unfold wt at a2
  exact ⟨a1, by omega, a3⟩
theorem parted82_ok {n : Nat} {z : Str} {M : Mem} {E : PE0} {Q : PQ D} (hz : Tx 570 z) (hN : partW z = none → ∀ M', Fr [] M M' → Q .non M')
    (hY : ∀ ns rs, partW z = some (ns, rs) → ∀ k M', Fr [] M M' → M.length ≤ k → M'[k]? = some (.lst (rs.map fun r => .tup (nts r))) → Q (.tup [lnD ns, .ref k]) M') : Wp (PH (n + 3) "parted" [.str z]) M Q E := by
  obtain ⟨r1, r2, r3, r4⟩ := rows_ok82 hz
  have zl := hz.len
  rw [q_parted]
  simp [g_parted, List.replicate_succ]
  refine w_split rfl (by decide +kernel) (by omega) (by omega) ?_
  have g1 := get_new (M := M) (c := .lst ((Txt.split z "\n").map D.str))
  have f1 : Fr [] M (al M (.lst ((Txt.split z "\n").map D.str))) := Fr.al
  generalize al M (.lst ((Txt.split z "\n").map D.str)) = M1 at f1 g1 ⊢
  have lM : M.length ≤ M.length := Nat.le_refl _
  generalize hm : M.length = a at g1 ⊢
  simp [g1]
  refine Wp_lc (n := (Txt.split z "\n").length) (fun i acc M' => Fr [] M M' ∧ M'[a]? = some (.lst ((Txt.split z "\n").map D.str)) ∧ ∃ qs : List RowQ, acc = qs.map (fun q => D.ref q.1) ∧ qs.map (·.2) = (rowsW z).take i ∧ RowsQ M' qs) (by rw [l_lst g1]; simp) (by omega) ⟨f1, g1, [], rfl, rfl, fun q hq => by simp at hq⟩ ?_ ?_
  · rintro i acc M2 hi ⟨f2, g2, qs, rfl, hq, hc⟩
    refine ⟨D.str (Txt.split z "\n")[i], _, by rw [a_lst g2]; simp [hi], rfl, ?_⟩
    have et : (rowsW z).take (i + 1) = (rowsW z).take i ++ [Txt.split (Txt.split z "\n")[i] " "] := by
      rw [List.take_succ]
      unfold rowsW
      simp [hi]
    have hx := r4 (Txt.split (Txt.split z "\n")[i] " ") (by unfold rowsW; exact List.mem_map_of_mem (List.getElem_mem hi))
    have hl : ((Txt.split z "\n")[i]).length ≤ 570 := ((split_tx hz nl_1).2.2 _ (List.getElem_mem hi)).len
    rw [et]
    generalize (Txt.split z "\n")[i] = x at hx hl ⊢
    have wn := hx.len
    simp [wipeE]
    refine w_split rfl (by decide +kernel) (by omega) (by omega) ?_
    refine ⟨f2.trans Fr.al, get_al g2, qs ++ [(M2.length, Txt.split x " ")], by simp, by simp [hq], fun q hq => ?_⟩
    rcases List.mem_append.mp hq with hq | hq
    · exact get_al (hc q hq)
    · rw [List.mem_singleton] at hq
      subst hq
      exact get_new
  · rintro acc M2 ⟨f2, g2, qs, rfl, hq, hc⟩
    refine ⟨by rw [l_lst g2]; simp, ?_⟩
    rw [← r3, List.take_length] at hq
    have lq : qs.length = (rowsW z).length := by rw [← hq]; simp
    have qok : ∀ q ∈ qs, RowOk q.2 := fun q h => r4 q.2 (by rw [← hq]; exact List.mem_map_of_mem h)
    have f3 : Fr [] M (al M2 (.lst (qs.map fun q => D.ref q.1))) := f2.trans Fr.al
    have g3 := get_new (M := M2) (c := .lst (qs.map fun q => D.ref q.1))
    have hc3 : RowsQ (al M2 (.lst (qs.map fun q => D.ref q.1))) qs := fun q hq => get_al (hc q hq)
    generalize al M2 (.lst (qs.map fun q => D.ref q.1)) = M3 at f3 g3 hc3 ⊢
    generalize M2.length = b at g3 ⊢
    simp [g3]
    refine Wp_mapF qs (fun q => D.ref q.1) (fun q => D.str (hdW q.2)) (fun M' => M' = M3) rfl (fun M' e => by subst e; exact src_lst (enc := fun q : RowQ => D.ref q.1) g3) (by omega) (fun q hq M' e => ?_) ?_
    · subst e
      refine ⟨_, rfl, ?_⟩
      have ne := (qok q hq).ne
      obtain ⟨w, ws, ew⟩ := List.exists_cons_of_ne_nil ne
      simp [wipeE, hc3 q hq, ew, hdW]
    · intro M' e
      subst e
      have eh : qs.map (fun q => D.str (hdW q.2)) = (qs.map (fun q => hdW q.2)).map D.str := by rw [List.map_map]; rfl
      have eh2 : qs.map (fun q => hdW q.2) = (rowsW z).map hdW := by rw [← hq, List.map_map]; rfl
      rw [eh, eh2]
      have hU : ∀ x ∈ (rowsW z).map hdW, x.cps.all (· < 0x110000) = true := fun x hx => by
        obtain ⟨ws, hws, rfl⟩ := List.mem_map.mp hx
        have o := r4 ws hws
        obtain ⟨w, ws', ew⟩ := List.exists_cons_of_ne_nil o.ne
        unfold hdW
        rw [ew]
        exact (o.ok w (by rw [ew]; simp)).strU
      have hPW : partW z = if (rowsW z).map hdW = wrdL (rowsW z).length then (match (rowsW z).mapM tlN with
          | some (n :: r) => some (n, r)
          | _ => none) else none := rfl
      have lW : ((rowsW z).map hdW).length = (rowsW z).length := by simp
      generalize (rowsW z).map hdW = W at hU hPW lW ⊢
      have f4 : Fr [] M (al M' (.lst (W.map D.str))) := f3.trans Fr.al
      have g4 := get_al (c' := .lst (W.map D.str)) g3
      have c4 : RowsQ (al M' (.lst (W.map D.str))) qs := fun q hq => get_al (hc3 q hq)
      have k4 := get_new (M := M') (c := .lst (W.map D.str))
      generalize al M' (.lst (W.map D.str)) = M4 at f4 g4 c4 k4 ⊢
      generalize M'.length = d at k4 ⊢
      have g6 := get_al (c' := .lst [.str "run"]) (get_al (c' := .lst [.str "line"]) g4)
      have k6 := get_al (c' := .lst [.str "run"]) (get_new (M := M4) (c := .lst [.str "line"]))
      have r6 := get_new (M := al M4 (.lst [.str "line"])) (c := .lst [.str "run"])
      have d6 := get_al (c' := .lst [.str "run"]) (get_al (c' := .lst [.str "line"]) k4)
      have f6 : Fr [] M4 (al (al M4 (.lst [.str "line"])) (.lst [.str "run"])) := Fr.al.trans Fr.al
      generalize al (al M4 (.lst [.str "line"])) (.lst [.str "run"]) = M6 at g6 k6 r6 d6 f6 ⊢
      rw [g6]
      have e7 : (((qs.map fun q => D.ref q.1).length : Nat) : Int).toNat - 1 = (rowsW z).length - 1 := by simp [lq]
      have e8 : (qs.map fun q => D.ref q.1).length ≤ 600 := by simp; omega
      have e9 : 1 ≤ (rowsW z).length := by
        rcases Nat.eq_zero_or_pos (rowsW z).length with h | h
        · exact absurd (List.eq_nil_of_length_eq_zero h) r1
        · exact h
      simp only [cLn_l, oG_some, e7]
      refine ⟨by omega, by omega, ?_⟩
      rw [get_al k6]
      simp only [lG_some]
      refine ⟨by simp; omega, ?_⟩
      have eW : [D.str "line"] ++ List.replicate ((rowsW z).length - 1) (D.str "run") = (wrdL (rowsW z).length).map D.str := by simp [wrdL]
      rw [eW]
      rw [q_strs2 (get_al (get_al d6)) get_new (by rw [lW, wrdL_len]; omega) hU (fun x hx => by
        unfold wrdL at hx
        rcases List.mem_cons.mp hx with rfl | hx
        · decide +kernel
        · rw [(List.mem_replicate.mp hx).2]; decide +kernel)]
      have f8 : Fr [] M (al (al M6 (.lst (List.replicate ((rowsW z).length - 1) (D.str "run")))) (.lst ((wrdL (rowsW z).length).map D.str))) := ((f4.trans f6).trans Fr.al).trans Fr.al
      have g8 := get_al (c' := .lst ((wrdL (rowsW z).length).map D.str)) (get_al (c' := .lst (List.replicate ((rowsW z).length - 1) (D.str "run"))) g6)
      have c8 : RowsQ (al (al M6 (.lst (List.replicate ((rowsW z).length - 1) (D.str "run")))) (.lst ((wrdL (rowsW z).length).map D.str))) qs := fun q hq => get_al (get_al (f6.at_ (c4 q hq) (by simp)))
      generalize al (al M6 (.lst (List.replicate ((rowsW z).length - 1) (D.str "run")))) (.lst ((wrdL (rowsW z).length).map D.str)) = M8 at f8 g8 c8 ⊢
      by_cases hw : W = wrdL (rowsW z).length
      case neg =>
        simp [hw]
        exact hN (by rw [hPW, if_neg hw]) _ f8
      rw [if_pos hw] at hPW
      simp [hw, g8]
      refine Wp_mapF qs (fun q => D.ref q.1) (fun q => onT (tlN q.2)) (fun M' => Fr [] M8 M') Fr.refl (fun M' f => src_lst (enc := fun q : RowQ => D.ref q.1) (f.at_ g8 (by simp))) (by omega) (fun q hq' M' f => ?_) fun M9 f9 => ?_
      · refine ⟨_, rfl, ?_⟩
        have cq := f.at_ (c8 q hq') (by simp)
        have o := qok q hq'
        have ol := o.len
        have e1 : cutD (q.2.map D.str) (some 1) none = q.2.tail.map D.str := (cut_hi (k := 1)).trans (by rw [← List.map_drop, List.drop_one])
        simp [wipeE, cq, -List.map_map]
        rw [e1]
        refine ⟨by simp; omega, ?_⟩
        refine numbersof_ok (fun w hw => by have := (o.ok w (List.mem_of_mem_tail hw)).len; omega) (by simp; omega) get_new fun M9 f9 => ?_
        exact ⟨(f.trans Fr.al).trans f9, rfl⟩
      · have en : qs.map (fun q => onT (tlN q.2)) = (rowsW z).map fun ws => onT (tlN ws) := by rw [← hq, List.map_map]; rfl
        rw [en]
        have f10 : Fr [] M (al M9 (.lst ((rowsW z).map fun ws => onT (tlN ws)))) := (f8.trans f9).trans Fr.al
        have g10 := get_new (M := M9) (c := .lst ((rowsW z).map fun ws => onT (tlN ws)))
        generalize al M9 (.lst ((rowsW z).map fun ws => onT (tlN ws))) = M10 at f10 g10 ⊢
        generalize M9.length = y at g10 ⊢
        simp
        have pyL : ∀ (R : Nat → Option PyData) (l : List Int), toPyFs R (nts l) = some (l.map PyData.int) := fun R l => py_gen (py := PyData.int) fun x _ R => by simp only [toPyF]
        rw [non_in (o := fun ws => (tlN ws).map fun l => PyData.tuple (l.map PyData.int)) g10 (fun x _ R => by
          cases tlN x with
          | none => rfl
          | some l => simp only [onT, toPyF, pyL, Option.map_some, Option.getD_some]) (fun x _ => by
          cases tlN x with
          | none => simp [PyData.canLay0, PyData.depth]
          | some l =>
            refine ⟨?_, ?_⟩
            · simp only [Option.map_some, Option.getD_some, PyData.canLay0]
              exact lay_gen fun i _ => by simp [PyData.canLay0]
            · have := depth_of (py := PyData.int) (n := 1) (l := l) fun i _ => by simp [PyData.depth]
              simp only [Option.map_some, Option.getD_some, PyData.depth]
              omega) (fun x _ p hp => by
          cases e : tlN x with
          | none => rw [e] at hp; cases hp
          | some l => rw [e] at hp; cases hp; simp [PyData.eqv])]
        cases hm : (rowsW z).mapM tlN with
        | none =>
          obtain ⟨ws, hws, e⟩ := mapMn hm
          have : ((rowsW z).any fun x => ((tlN x).map fun l => PyData.tuple (l.map PyData.int)).isNone) = true := List.any_eq_true.mpr ⟨ws, hws, by rw [e]; rfl⟩
          rw [this]
          simp
          exact hN (by rw [hPW, hm]) _ f10
        | some L =>
          have e1 := mapMs hm
          have : ((rowsW z).any fun x => ((tlN x).map fun l => PyData.tuple (l.map PyData.int)).isNone) = false := by
            rw [List.any_eq_false]
            intro w hw q
            have : tlN w ∈ (rowsW z).map tlN := List.mem_map_of_mem hw
            rw [e1] at this
            obtain ⟨l, _, e⟩ := List.mem_map.mp this
            rw [← e] at q
            simp at q
          rw [this]
          have lL : L.length = (rowsW z).length := by have := congrArg List.length e1; simpa using this.symm
          have e2 : ((rowsW z).map fun ws => onT (tlN ws)) = L.map fun l => D.tup (nts l) := by
            have : ((rowsW z).map fun ws => onT (tlN ws)) = ((rowsW z).map tlN).map onT := by rw [List.map_map]; rfl
            rw [this, e1, List.map_map]; rfl
          rw [e2] at g10
          cases L with
          | nil => simp at lL; omega
          | cons ns rs =>
            have e3 : cutD ((ns :: rs).map fun l => D.tup (nts l)) (some 1) none = rs.map fun l => D.tup (nts l) := cut_hi (k := 1)
            simp [g10, -List.map_cons]
            refine lineby_ok ?_
            rw [g10]
            simp only [lG_some]
            rw [e3]
            exact ⟨by simp at lL ⊢; omega, hY ns rs (by rw [hPW, hm]) _ _ (f10.trans Fr.al) f10.len get_new⟩
end K82
set_option maxHeartbeats 1000000
namespace K82
open PySem PySem.Spec Pf
open L2 (atI ixN)
theorem numsW_cons {w : Str} {ws : List Str} {l : List Int} (h : numsW (w :: ws) = some l) : ∃ i l', numW w = some i ∧ numsW ws = some l' ∧ l = i :: l' := by
  unfold numsW at h ⊢
  rw [List.mapM_cons] at h
  cases h1 : numW w with
  | none => rw [h1] at h; cases h
  | some i =>
    cases h2 : ws.mapM numW with
    | none => rw [h1, h2] at h; cases h
    | some l' =>
      rw [h1, h2] at h
      cases h
      exact ⟨i, l', rfl, rfl, rfl⟩
theorem numsW_mk {w : Str} {ws : List Str} {i : Int} {l : List Int} (h1 : numW w = some i) (h2 : numsW ws = some l) : numsW (w :: ws) = some (i :: l) := by
  unfold numsW at h2 ⊢
  rw [List.mapM_cons, h1, h2]; rfl
theorem numsW_nil {l : List Int} (h : numsW [] = some l) : l = [] := by
  unfold numsW at h
  simp at h
  exact h
theorem numsW_drop : ∀ {k : Nat} {ws : List Str} {l : List Int}, numsW ws = some l → numsW (ws.drop k) = some (l.drop k)
  | 0, _, _, h => h
  | k + 1, [], l, h => by rw [numsW_nil h]; rfl
  | k + 1, w :: ws, l, h => by
    obtain ⟨i, l', _, h2, rfl⟩ := numsW_cons h
    exact numsW_drop (k := k) h2
theorem numsW_take : ∀ {k : Nat} {ws : List Str} {l : List Int}, numsW ws = some l → numsW (ws.take k) = some (l.take k)
  | 0, _, _, _ => rfl
  | k + 1, [], l, h => by rw [numsW_nil h]; rfl
  | k + 1, w :: ws, l, h => by
    obtain ⟨i, l', h1, h2, rfl⟩ := numsW_cons h
    exact numsW_mk h1 (numsW_take (k := k) h2)
theorem wt_cons {w : Str} {ws : List Str} : wt (w :: ws) = w.length + 1 + wt ws := by unfold wt; simp; omega
theorem wt_drop : ∀ {k : Nat} {ws : List Str}, wt (ws.drop k) ≤ wt ws
  | 0, _ => Nat.le_refl _
  | k + 1, [] => Nat.le_refl _
  | k + 1, w :: ws => by
    have := wt_drop (k := k) (ws := ws)
    rw [wt_cons]
    show wt (ws.drop k) ≤ _
    omega
theorem wt_take : ∀ {k : Nat} {ws : List Str}, wt (ws.take k) ≤ wt ws
  | 0, ws => by rw [List.take_zero]; exact Nat.zero_le _
  | k + 1, [] => Nat.le_refl _
  | k + 1, w :: ws => by
    have := wt_take (k := k) (ws := ws)
    rw [List.take_succ_cons, wt_cons, wt_cons]
    omega
theorem dat_dig {X : List Nat} {M : Mem} {h : Nat} {w : Str} {i : Int} (hi : numW w = some i) (hl : w.length ≤ 570) : Dat X M (10 ^ 570) h (4 * w.length + 4) (.int i) := by
  have b := (numW_bd hi).2
  have p1 : (10 : Nat) ^ w.length ≤ 10 ^ 570 := Nat.pow_le_pow_right (by omega) (by omega)
  have p2 : (10 : Nat) ^ w.length ≤ 2 ^ (4 * w.length) := by
    rw [Nat.pow_mul]
    exact Nat.pow_le_pow_left (by decide) _
  refine ⟨.int i, by simp only [toPyF], by simp only [okP, decide_eq_true_eq]; exact Nat.le_of_lt (Nat.lt_of_lt_of_le b p1), by simp [PyData.depth], ?_⟩
  simp only [PyData.weight]
  split
  · omega
  · by_cases h0 : i.natAbs = 0
    · rw [h0]; simp
    · have h1 : i.natAbs < 2 ^ (4 * w.length) := by omega
      have := (Nat.log2_lt h0).mpr h1
      omega
theorem dats_nums {X : List Nat} {M : Mem} {h : Nat} : ∀ {ws : List Str} {l : List Int}, numsW ws = some l → (∀ w ∈ ws, w.length ≤ 570) → Dats X M (10 ^ 570) h (5 * wt ws) (nts l)
  | [], l, hn, _ => by rw [numsW_nil hn]; exact dats_nil
  | w :: ws, l, hn, hs => by
    obtain ⟨i, l', h1, h2, rfl⟩ := numsW_cons hn
    have ih := dats_nums (X := X) (M := M) (h := h) h2 fun x hx => hs x (by simp [hx])
    have z := dats_cons (dat_dig (X := X) (M := M) (h := h) h1 (hs w (by simp))) ih
    refine z.up (Nat.le_refl _) (Nat.le_refl _) ?_
    rw [wt_cons]
    omega
theorem tail_row {ws : List Str} (h : RowOk ws) : ∀ w ∈ ws.tail, w.length ≤ 570 := fun w hw => (h.ok w (List.mem_of_mem_tail hw)).len
def WtOk (z : Str) : Prop := ∀ ws ∈ rowsW z, wt ws ≤ 571
theorem wt_rows {z : Str} (hz : Tx 570 z) : WtOk z := by
  intro ws hw
  obtain ⟨h1, h2, h3⟩ := split_tx hz nl_1
  unfold rowsW at hw
  obtain ⟨r, hr, rfl⟩ := List.mem_map.mp hw
  exact (split_tx (h3 r hr) bl_1).2.1
theorem part_some {z : Str} {ns : List Int} {rs : List (List Int)} (h : partW z = some (ns, rs)) : (rowsW z).map tlN = (ns :: rs).map some := by
  unfold partW at h
  split at h
  · split at h
    · rename_i n r e
      cases h
      exact mapMs e
    · cases h
  · cases h
theorem part_get {z : Str} {ns : List Int} {rs : List (List Int)} (h : partW z = some (ns, rs)) : ∀ r ∈ ns :: rs, ∃ ws ∈ rowsW z, numsW ws.tail = some r := by
  intro r hr
  have e := part_some h
  have : some r ∈ (rowsW z).map tlN := by rw [e]; exact List.mem_map_of_mem hr
  obtain ⟨ws, hw, e2⟩ := List.mem_map.mp this
  exact ⟨ws, hw, e2⟩
theorem row_dat82 {z : Str} {r : List Int} {X : List Nat} {M : Mem} (hz : Tx 570 z) (h : ∃ ws ∈ rowsW z, numsW ws.tail = some r) : Dat X M (10 ^ 570) 3 2855 (.tup (nts r)) := by
  obtain ⟨ws, hw, e⟩ := h
  have o := (rows_ok82 hz).2.2.2 ws hw
  have d := dats_nums (X := X) (M := M) (h := 2) e (tail_row o)
  have w1 := wt_rows hz ws hw
  have w2 : wt ws.tail ≤ wt ws := by rw [← List.drop_one]; exact wt_drop
  exact dat_tup (d.up (Nat.le_refl _) (Nat.le_refl _) (by omega))
theorem ln_dat82 {z : Str} {r : List Int} {X : List Nat} {M : Mem} (hz : Tx 570 z) (h : ∃ ws ∈ rowsW z, numsW ws.tail = some r) : Dat X M (10 ^ 570) 3 7000 (lnD r) := by
  obtain ⟨ws, hw, e⟩ := h
  have o := (rows_ok82 hz).2.2.2 ws hw
  have w1 := wt_rows hz ws hw
  have w2 : wt ws.tail ≤ wt ws := by rw [← List.drop_one]; exact wt_drop
  have w3 := wt_drop (k := 2) (ws := ws.tail)
  have w4 := wt_take (k := 2) (ws := ws.tail)
  have d1 := dats_nums (X := X) (M := M) (h := 1) (numsW_drop (k := 2) e) fun w hw => tail_row o w (List.mem_of_mem_drop hw)
  have d2 := dats_nums (X := X) (M := M) (h := 2) (numsW_take (k := 2) e) fun w hw => tail_row o w (List.mem_of_mem_take hw)
  exact (dat_tup (dats_cons (dat_tup d1) d2)).up (Nat.le_refl _) (Nat.le_refl _) (by omega)
def readW (z : Str) : Option (List Int × List (List Int)) := match partW z with
  | some (ns, rs) => if (isL (lnD ns) && plB (ns.length - 2) rs) = true then some (ns, rs) else none
  | none => none
theorem lnD_line {ns : List Int} (h : isL (lnD ns) = true) : ∃ ss t p, ns = t :: p :: ss ∧ LineOk ss t p ∧ lnD ns = lineD ss t p := by
  obtain ⟨ss, t, p, e, o⟩ := isL_get h
  match ns, e with
  | [], e => simp [lnD, lineD, nts] at e
  | [x], e => simp [lnD, lineD, nts] at e
  | x :: y :: r, e =>
    have e' := e
    simp only [lnD, List.drop_succ_cons, List.drop_zero, List.take_succ_cons, List.take_zero, lineD, nts, List.map_cons, List.map_nil, D.tup.injEq, List.cons.injEq, D.int.injEq, and_true] at e'
    obtain ⟨e1, e2, e3⟩ := e'
    have er : r = ss := by
      have inj : ∀ (a b : List Int), a.map D.int = b.map D.int → a = b := by
        intro a
        induction a with
        | nil => intro b h; cases b with
          | nil => rfl
          | cons _ _ => cases h
        | cons u a ih => intro b h; cases b with
          | nil => cases h
          | cons v b =>
            simp only [List.map_cons, List.cons.injEq, D.int.injEq] at h
            rw [h.1, ih b h.2]
      exact inj _ _ e1
    subst er; subst e2; subst e3
    exact ⟨r, x, y, rfl, o, rfl⟩
theorem read82_ok {n : Nat} {z : Str} {M : Mem} {E : PE0} {Q : PQ D} (hz : Tx 570 z) (hN : readW z = none → ∀ M', Fr [] M M' → E "NoText" M')
    (hY : ∀ ns rs, readW z = some (ns, rs) → ∀ k M', Fr [] M M' → M.length ≤ k → M'[k]? = some (.lst (rs.map fun r => .tup (nts r))) → Q (.tup [lnD ns, .ref k]) M') : Wp (PH (n + 6) "read" [.str z]) M Q E := by
  rw [q_read]
  simp [g_read, List.replicate_succ, -Ws_nx, -Ws_rs]
  rw [Ws_nx]
  simp [-Ws_nx, -Ws_rs]
  refine parted82_ok hz (fun hp M1 f1 => ?_) fun ns rs hp k M1 f1 lk g1 => ?_
  · have hr : readW z = none := by unfold readW; rw [hp]
    simp [dIs]
    exact hN hr M1 f1
  · have pg := part_get hp
    have hr : readW z = if (isL (lnD ns) && plB (ns.length - 2) rs) = true then some (ns, rs) else none := by unfold readW; rw [hp]
    simp [dIs, -Ws_nx, -Ws_rs]
    refine isline_ok (ln_dat82 (X := []) (M := M1) hz (pg ns (by simp))) (by omega) fun M2 f2 => ?_
    cases hl : isL (lnD ns) with
    | false =>
      simp
      exact hN (by rw [hr, hl]; rfl) M2 (f1.trans f2)
    | true =>
      simp [-Ws_nx, -Ws_rs]
      obtain ⟨ss, t, p, e1, o, e2⟩ := lnD_line hl
      rw [e2]
      have g2 := f2.at_ g1 (by simp)
      have rl : rs.length ≤ 600 := by
        have := congrArg List.length (part_some hp)
        have := (rows_ok82 hz).2.1
        simp at *
        omega
      refine iplan82_ok (n := n) g2 (fun r hr2 => row_dat82 hz (pg r (by simp [hr2]))) (by omega) fun M3 f3 => ?_
      have en : ss.length = ns.length - 2 := by rw [e1]; simp
      rw [en]
      cases hpl : plB (ns.length - 2) rs with
      | false =>
        simp
        exact hN (by rw [hr, hl, hpl]; rfl) M3 ((f1.trans f2).trans f3)
      | true =>
        simp
        have z := hY ns rs (by rw [hr, hl, hpl]; rfl) k M3 ((f1.trans f2).trans f3) lk (f3.at_ g2 (by simp))
        rw [e2] at z
        exact z
end K82
set_option maxHeartbeats 1000000
namespace K82
open PySem PySem.Spec Pf
open L2 (atI ixN)
def ptD (x : Str × List Int) : D := .tup [.str x.1, .tup (nts x.2)]
/-- the law's rows: each word with its numbers -/
def prW (ws : List Str) : Option (Str × List Int) := (tlN ws).map fun l => (hdW ws, l)
theorem mapM_app {α β : Type} {f : α → Option β} : ∀ {l : List α} {x : α} {ys : List β} {y : β}, l.mapM f = some ys → f x = some y → (l ++ [x]).mapM f = some (ys ++ [y])
  | [], x, ys, y, h, hx => by
    simp at h; subst h
    rw [List.nil_append, List.mapM_cons, hx]; rfl
  | a :: l, x, ys, y, h, hx => by
    rw [List.mapM_cons] at h
    cases h1 : f a with
    | none => rw [h1] at h; cases h
    | some b =>
      cases h2 : l.mapM f with
      | none => rw [h1, h2] at h; cases h
      | some zs =>
        rw [h1, h2] at h
        cases h
        rw [List.cons_append, List.mapM_cons, h1, mapM_app h2 hx]; rfl
theorem mapM_no {α β : Type} {f : α → Option β} : ∀ {l : List α} {x : α}, x ∈ l → f x = none → l.mapM f = none
  | a :: l, x, hx, h => by
    rw [List.mapM_cons]
    rcases List.mem_cons.mp hx with rfl | hx
    · rw [h]; rfl
    · rw [mapM_no hx h]
      cases f a <;> rfl
theorem mapM_pr : ∀ {R : List (List Str)} {L : List (Str × List Int)}, R.mapM prW = some L → R.mapM tlN = some (L.map (·.2)) ∧ R.map hdW = L.map (·.1)
  | [], L, h => by simp at h; subst h; exact ⟨rfl, rfl⟩
  | w :: R, L, h => by
    rw [List.mapM_cons] at h
    cases h1 : tlN w with
    | none =>
      have hp : prW w = none := by unfold prW; rw [h1]; rfl
      rw [hp] at h; cases h
    | some l =>
      have hp : prW w = some (hdW w, l) := by unfold prW; rw [h1]; rfl
      cases h2 : R.mapM prW with
      | none => rw [hp, h2] at h; cases h
      | some L' =>
        obtain ⟨e1, e2⟩ := mapM_pr h2
        rw [hp, h2] at h
        cases h
        exact ⟨by rw [List.mapM_cons, h1, e1]; rfl, by rw [List.map_cons, e2]; rfl⟩
theorem mapM_prno {R : List (List Str)} (h : R.mapM prW = none) : ∃ ws ∈ R, tlN ws = none := by
  induction R with
  | nil => simp at h
  | cons w R ih =>
    cases h1 : tlN w with
    | none => exact ⟨w, by simp, h1⟩
    | some l =>
      have hp : prW w = some (hdW w, l) := by unfold prW; rw [h1]; rfl
      cases h2 : R.mapM prW with
      | none =>
        obtain ⟨x, hx, e⟩ := ih h2
        exact ⟨x, List.mem_cons_of_mem _ hx, e⟩
      | some L' =>
        rw [List.mapM_cons, hp, h2] at h
        cases h
theorem part_no {z : Str} (h : ∃ ws ∈ rowsW z, tlN ws = none) : partW z = none := by
  obtain ⟨ws, hw, e⟩ := h
  unfold partW
  rw [mapM_no (f := fun ws => tlN ws) hw e]
  split <;> rfl
theorem part_yes {z : Str} {L : List (Str × List Int)} (h : (rowsW z).mapM prW = some L) : partW z = if L.map (·.1) = wrdL L.length then (match L.map (·.2) with
    | n :: r => some (n, r)
    | [] => none) else none := by
  obtain ⟨e1, e2⟩ := mapM_pr h
  have el : (rowsW z).length = L.length := by have := congrArg List.length e2; simpa using this
  unfold partW
  rw [e1, e2, el]
  cases L.map (·.2) <;> rfl
def RdI (z : Str) (x j : Nat) (M : Mem) : Prop := ∃ L, ((rowsW z).take j).mapM prW = some L ∧ M[x]? = some (.lst (L.map ptD))
theorem lreads_ok {n : Nat} {z : Str} {M : Mem} {E : PE0} {Q : PQ D} (hz : Tx 570 z) (hN : readW z = none → ∀ M', Fr [] M M' → Q .non M')
    (hY : ∀ ns rs, readW z = some (ns, rs) → ∀ k M', Fr [] M M' → M.length ≤ k → M'[k]? = some (.lst (rs.map fun r => .tup (nts r))) → Q (.tup [lnD ns, .ref k]) M') : Wp (PH (n + 5) "_law_reads" [.str z]) M Q E := by
  obtain ⟨r1, r2, r3, r4⟩ := rows_ok82 hz
  have zl := hz.len
  rw [q_law_reads]
  simp [g_law_reads, List.replicate_succ, -Ws_nx, -Ws_rs]
  have x0 := get_new (M := M) (c := .lst [])
  have f0 : Fr [] M (al M (.lst [])) := Fr.al
  generalize al M (.lst []) = M0 at x0 f0 ⊢
  have lx : M.length ≤ M.length := Nat.le_refl _
  generalize hx : M.length = x at x0 lx ⊢
  refine w_split rfl (by decide +kernel) (by omega) (by omega) ?_
  have g1 := get_new (M := M0) (c := .lst ((Txt.split z "\n").map D.str))
  have f1 : Fr [] M (al M0 (.lst ((Txt.split z "\n").map D.str))) := f0.trans Fr.al
  have x1 := get_al (c' := .lst ((Txt.split z "\n").map D.str)) x0
  have xa := lt_of x0
  generalize al M0 (.lst ((Txt.split z "\n").map D.str)) = M1 at f1 g1 x1 ⊢
  generalize M0.length = a at g1 xa ⊢
  rw [w_srcL, g1]
  simp only [lG_some]
  refine Ws_for (n := (Txt.split z "\n").length) (fun j e M' => Fr [] M M' ∧ M'[a]? = some (.lst ((Txt.split z "\n").map D.str)) ∧ RdI z x j M' ∧ ∃ o2 o3 o4, e = [some (.str z), some (.ref x), o2, o3, o4, none, none, none]) (by rw [l_lst g1]; simp) ⟨f1, g1, ⟨[], rfl, by simpa using x1⟩, _, _, _, rfl⟩ ?_ ?_
  · rintro j e M2 hj ⟨f2, g2, ⟨L, hL, x2⟩, o2, o3, o4, rfl⟩
    refine ⟨.str (Txt.split z "\n")[j], _, by rw [a_lst g2]; simp [hj], rfl, ?_⟩
    have hjr : j < (rowsW z).length := by omega
    have et : (rowsW z)[j] = Txt.split (Txt.split z "\n")[j] " " := by simp [rowsW]
    have hx := r4 (rowsW z)[j] (List.getElem_mem _)
    have hl : ((Txt.split z "\n")[j]).length ≤ 570 := ((split_tx hz nl_1).2.2 _ (List.getElem_mem hj)).len
    have hmem : (rowsW z)[j] ∈ rowsW z := List.getElem_mem _
    have etk : (rowsW z).take (j + 1) = (rowsW z).take j ++ [(rowsW z)[j]] := by rw [List.take_succ]; simp [hjr]
    rw [et] at hx hmem etk
    generalize (Txt.split z "\n")[j] = r at hx hl hmem etk ⊢
    have wn := hx.len
    have xM := lt_of x2
    simp [-Ws_nx, -Ws_rs]
    refine w_split rfl (by decide +kernel) (by omega) (by omega) ?_
    have w3 := get_new (M := M2) (c := .lst ((Txt.split r " ").map D.str))
    have f3 : Fr [] M (al M2 (.lst ((Txt.split r " ").map D.str))) := f2.trans Fr.al
    have g3 := get_al (c' := .lst ((Txt.split r " ").map D.str)) g2
    have x3 := get_al (c' := .lst ((Txt.split r " ").map D.str)) x2
    generalize al M2 (.lst ((Txt.split r " ").map D.str)) = M3 at w3 f3 g3 x3 ⊢
    generalize M2.length = w at w3 xM ⊢
    have e1 : cutD ((Txt.split r " ").map D.str) (some 1) none = (Txt.split r " ").tail.map D.str := (cut_hi (k := 1)).trans (by rw [← List.map_drop, List.drop_one])
    try simp [w3, -Ws_nx, -Ws_rs]
    refine ⟨by rw [e1]; simp; omega, ?_⟩
    rw [e1]
    have t4 := get_new (M := M3) (c := .lst ((Txt.split r " ").tail.map D.str))
    have w4 := get_al (c' := .lst ((Txt.split r " ").tail.map D.str)) w3
    have g4 := get_al (c' := .lst ((Txt.split r " ").tail.map D.str)) g3
    have x4 := get_al (c' := .lst ((Txt.split r " ").tail.map D.str)) x3
    have f4 : Fr [] M (al M3 (.lst ((Txt.split r " ").tail.map D.str))) := f3.trans Fr.al
    generalize al M3 (.lst ((Txt.split r " ").tail.map D.str)) = M4 at t4 w4 g4 x4 f4 ⊢
    generalize M3.length = tl at t4 ⊢
    refine Wp_mapF (Txt.split r " ").tail D.str (fun w => onI (numW w)) (fun M' => Fr [] M4 M') Fr.refl (fun M' f => src_lst (f.at_ t4 (by simp))) (by simp; omega) (fun u hu M' f => ?_) fun M5 f5 => ?_
    · refine ⟨_, rfl, ?_⟩
      simp [wipeE]
      refine lnumber_ok (n := n + 3) (by have := (hx.ok u (List.mem_of_mem_tail hu)).len; omega) fun M6 f6 => ?_
      exact ⟨f.trans f6, rfl⟩
    · have n6 := get_new (M := M5) (c := .lst ((Txt.split r " ").tail.map fun w => onI (numW w)))
      have w6 := get_al (c' := .lst ((Txt.split r " ").tail.map fun w => onI (numW w))) (f5.at_ w4 (by simp))
      have g6 := get_al (c' := .lst ((Txt.split r " ").tail.map fun w => onI (numW w))) (f5.at_ g4 (by simp))
      have x6 := get_al (c' := .lst ((Txt.split r " ").tail.map fun w => onI (numW w))) (f5.at_ x4 (by simp))
      have f6 : Fr [] M (al M5 (.lst ((Txt.split r " ").tail.map fun w => onI (numW w)))) := (f4.trans f5).trans Fr.al
      generalize al M5 (.lst ((Txt.split r " ").tail.map fun w => onI (numW w))) = M6 at n6 w6 g6 x6 f6 ⊢
      generalize M5.length = nl at n6 ⊢
      rw [non_in (o := fun w => (numW w).map PyData.int) n6 (fun x _ R => by cases numW x <;> simp [onI, toPyF]) (fun x _ => by cases numW x <;> simp [PyData.canLay0, PyData.depth]) (fun x _ p hp => by
        cases e : numW x with
        | none => rw [e] at hp; cases hp
        | some i => rw [e] at hp; cases hp; simp [PyData.eqv])]
      cases e : numsW (Txt.split r " ").tail with
      | none =>
        obtain ⟨w', hw', e2⟩ := mapM_none.mp e
        have : ((Txt.split r " ").tail.any fun x => ((numW x).map PyData.int).isNone) = true := List.any_eq_true.mpr ⟨w', hw', by rw [e2]; rfl⟩
        rw [this]
        simp
        have pn : partW z = none := part_no ⟨_, hmem, e⟩
        exact hN (by unfold readW; rw [pn]) _ f6
      | some l =>
        have : ((Txt.split r " ").tail.any fun x => ((numW x).map PyData.int).isNone) = false := by
          rw [List.any_eq_false]
          intro w' hw' q
          have : numW w' = none := by
            cases q2 : numW w' with
            | none => rfl
            | some i => rw [q2] at q; simp at q
          rw [mapM_none.mpr ⟨w', hw', this⟩] at e
          cases e
        rw [this]
        have e3 := (mapM_some e).1
        rw [e3] at n6
        have ll : l.length ≤ 600 := by
          have := congrArg List.length e3
          simp at this
          omega
        have hp : prW (Txt.split r " ") = some (hdW (Txt.split r " "), l) := by
          unfold prW
          rw [show tlN (Txt.split r " ") = some l from e]; rfl
        have hz2 : ∃ c r', Txt.split r " " = c :: r' := List.exists_cons_of_ne_nil hx.ne
        obtain ⟨c0, r0, ec⟩ := hz2
        have hi : ((Txt.split r " ").map D.str)[0]? = some (.str (hdW (Txt.split r " "))) := by rw [ec]; rfl
        have lL : L.length ≤ 600 := by
          have := congrArg List.length (mapMs hL)
          simp at this
          omega
        generalize hW : (Txt.split r " ").map D.str = W at w6 hi
        simp [n6, w6, hi, x6]
        refine ⟨by omega, by omega, f6.more (Y := [x]) (by simp) |>.trans (Fr.set (by simp)) |>.less (by intro n hn hl; simp at hn; omega), ?_, ?_⟩
        · rw [List.getElem?_set_ne (by omega)]
          exact g6
        · refine ⟨L ++ [(hdW (Txt.split r " "), l)], ?_, ?_⟩
          · rw [etk]
            exact mapM_app hL hp
          · rw [get_set x6]
            simp [ptD, nts]
  · rintro e M2 ⟨f2, g2, ⟨L, hL, x2⟩, o2, o3, o4, rfl⟩
    refine ⟨by rw [l_lst g2]; simp, ?_⟩
    rw [← r3, List.take_length] at hL
    have PY := part_yes hL
    have lL : L.length = (rowsW z).length := by have := congrArg List.length (mapMs hL); simpa using this.symm
    cases L with
    | nil =>
      exfalso
      simp at lL
      exact r1 (List.eq_nil_of_length_eq_zero lL.symm)
    | cons a L' =>
      obtain ⟨w0, n0⟩ := a
      have hp0 : ((((w0, n0) :: L').map ptD)[0]?) = some (.tup [.str w0, .tup (nts n0)]) := rfl
      have e1 : cutD (((w0, n0) :: L').map ptD) (some 1) none = L'.map ptD := cut_hi (k := 1)
      have no : ∀ M', Fr [] M M' → ¬ (((w0, n0) :: L').map (·.1) = wrdL ((w0, n0) :: L').length) → Q .non M' := fun M' f hne => by
        rw [if_neg hne] at PY
        exact hN (by unfold readW; rw [PY]) M' f
      have ll : L'.length ≤ 600 := by simp at lL; omega
      generalize hLL : ((w0, n0) :: L').map ptD = LL at x2 hp0 e1
      have lLL : LL.length ≤ 601 := by rw [← hLL]; simp; omega
      simp [x2, hp0, -Ws_nx, -Ws_rs]
      by_cases hw0 : w0 = ("line" : Str)
      case neg =>
        simp [hw0]
        exact no M2 f2 (fun q => hw0 (by unfold wrdL at q; exact (List.cons.inj q).1))
      subst hw0
      simp [e1, -Ws_nx, -Ws_rs]
      refine ⟨by omega, ?_⟩
      have t3 := get_new (M := M2) (c := .lst (L'.map ptD))
      have x3 := get_al (c' := .lst (L'.map ptD)) x2
      have f3 : Fr [] M (al M2 (.lst (L'.map ptD))) := f2.trans Fr.al
      generalize al M2 (.lst (L'.map ptD)) = M3 at t3 x3 f3 ⊢
      generalize M2.length = t at t3 ⊢
      refine Wp_fmF L' ptD (fun p => !decide (p.1 = ("run" : Str))) (fun p => .str p.1) (fun M' => M' = M3) rfl (fun M' e => by subst e; exact src_lst t3) (by omega) (fun u hu M' e => ?_) fun M4 e4 => ?_
      · subst e
        refine ⟨_, rfl, ?_⟩
        simp [wipeE]
        rw [Bool.eq_iff_iff]; simp
      · subst e4
        have x4 := get_al (c' := .lst []) (get_al (c' := .lst ((L'.filter fun p => !decide (p.1 = ("run" : Str))).map fun p => D.str p.1)) x3)
        have f4 : Fr [] M (al (al M4 (.lst ((L'.filter fun p => !decide (p.1 = ("run" : Str))).map fun p => D.str p.1))) (.lst [])) := (f3.trans Fr.al).trans Fr.al
        try simp [-Ws_nx, -Ws_rs]
        rw [q_lnil (get_al get_new) get_new]
        generalize al (al M4 (.lst ((L'.filter fun p => !decide (p.1 = ("run" : Str))).map fun p => D.str p.1))) (.lst []) = M5 at x4 f4 ⊢
        by_cases hr : ∀ p ∈ L', p.1 = ("run" : Str)
        case neg =>
          have ne : (L'.filter fun p => !decide (p.1 = ("run" : Str))) ≠ [] := fun q => hr fun p hp => by
            have := List.filter_eq_nil_iff.mp q p hp
            simpa using this
          cases hF : (L'.filter fun p => !decide (p.1 = ("run" : Str))) with
          | nil => exact absurd hF ne
          | cons b l =>
            simp
            refine no M5 f4 fun q => hr fun p hp => ?_
            unfold wrdL at q
            have q2 := (List.cons.inj q).2
            have : p.1 ∈ List.replicate (((("line" : Str), n0) :: L').length - 1) ("run" : Str) := by rw [← q2]; exact List.mem_map_of_mem hp
            exact (List.mem_replicate.mp this).2
        have hF : (L'.filter fun p => !decide (p.1 = ("run" : Str))) = [] := List.filter_eq_nil_iff.mpr fun p hp => by simp [hr p hp]
        rw [hF]
        have PY2 : partW z = some (n0, L'.map (·.2)) := by
          rw [PY, if_pos]
          · rfl
          · unfold wrdL
            rw [List.map_cons]
            congr 1
            rw [List.eq_replicate_iff]
            exact ⟨by simp, fun b hb => by
              obtain ⟨p, hp, rfl⟩ := List.mem_map.mp hb
              exact hr p hp⟩
        simp [-Ws_nx, -Ws_rs]
        rw [Ws_nx]
        have c1 : cutD (nts n0) (some 2) none = nts (n0.drop 2) := (cut_hi (k := 2)).trans (by simp [nts])
        have c2 : cutD (nts n0) none (some 2) = nts (n0.take 2) := (cut_lo (k := 2)).trans (by simp [nts])
        have hB : (nts (n0.take 2)).length ≤ 2 := by simp; omega
        have hln : lnD n0 = .tup (.tup (nts (n0.drop 2)) :: nts (n0.take 2)) := rfl
        generalize nts (n0.drop 2) = A at c1 hln
        generalize nts (n0.take 2) = B at c2 hB hln
        generalize hN0 : nts n0 = N0 at hp0 c1 c2
        simp [x4, hp0, c1, c2, e1, -Ws_nx, -Ws_rs]
        refine ⟨by omega, by omega, ?_⟩
        have t6 := get_new (M := M5) (c := .lst (L'.map ptD))
        have f6 : Fr [] M (al M5 (.lst (L'.map ptD))) := f4.trans Fr.al
        generalize al M5 (.lst (L'.map ptD)) = M6 at t6 f6 ⊢
        generalize M5.length = t2 at t6 ⊢
        refine Wp_mapF L' ptD (fun p => .tup (nts p.2)) (fun M' => M' = M6) rfl (fun M' e => by subst e; exact src_lst t6) (by omega) (fun u hu M' e => ?_) fun M7 e7 => ?_
        · subst e
          refine ⟨_, rfl, ?_⟩
          simp [wipeE]
        · subst e7
          have eR : (L'.map fun p => D.tup (nts p.2)) = (L'.map (·.2)).map fun r => D.tup (nts r) := by rw [List.map_map]; rfl
          rw [eR]
          have k8 := get_new (M := M7) (c := .lst ((L'.map (·.2)).map fun r => D.tup (nts r)))
          have f8 : Fr [] M (al M7 (.lst ((L'.map (·.2)).map fun r => D.tup (nts r)))) := f6.trans Fr.al
          have lk8 : M.length ≤ M7.length := f6.len
          have rl : (L'.map (·.2)).length ≤ 600 := by simp; omega
          have pg := part_get PY2
          generalize L'.map (·.2) = rs at k8 f8 rl pg PY2 ⊢
          generalize al M7 (.lst (rs.map fun r => D.tup (nts r))) = M8 at k8 f8 ⊢
          generalize M7.length = k at k8 lk8 ⊢
          rw [← hln]
          have hr : readW z = if (isL (lnD n0) && plB (n0.length - 2) rs) = true then some (n0, rs) else none := by unfold readW; rw [PY2]
          refine lline_ok (n := n + 1) (ln_dat82 (X := []) (M := M8) hz (pg n0 (by simp))) (by omega) fun M9 f9 => ?_
          cases hl : isL (lnD n0) with
          | false =>
            simp
            exact hN (by rw [hr, hl]; rfl) M9 (f8.trans f9)
          | true =>
            simp [-Ws_nx, -Ws_rs]
            obtain ⟨ss, t, p, q1, o, q2⟩ := lnD_line hl
            have k9 := f9.at_ k8 (by simp)
            have en : ss.length = n0.length - 2 := by rw [q1]; simp
            rw [q2]
            refine lplan82_ok (n := n) k9 (fun r hr2 => row_dat82 hz (pg r (by simp [hr2]))) (by omega) fun M10 f10 => ?_
            rw [en]
            cases hpl : plB (n0.length - 2) rs with
            | false =>
              simp
              exact hN (by rw [hr, hl, hpl]; rfl) M10 ((f8.trans f9).trans f10)
            | true =>
              simp
              have w := hY n0 rs (by rw [hr, hl, hpl]; rfl) k M10 ((f8.trans f9).trans f10) lk8 (f10.at_ k9 (by simp))
              rw [q2] at w
              exact w
end K82
set_option maxHeartbeats 1000000
namespace K82
open PySem PySem.Spec Pf
open L2 (atI ixN)
theorem ltold_ok {n : Nat} {z : Str} {M : Mem} {E : PE0} {Q : PQ D} (hz : Tx 570 z) (hN : readW z = none → ∀ M', Fr [] M M' → Q (.str "text") M')
    (hY : ∀ ns rs, readW z = some (ns, rs) → ∀ k M', Fr [] M M' → M.length ≤ k → M'[k]? = some (.lst (rs.map fun r => .tup (nts r))) → Q (.tup [lnD ns, .ref k]) M') : Wp (PH (n + 7) "_law_told" [.str z]) M Q E := by
  rw [q_law_told]
  simp [g_law_told, List.replicate_succ]
  refine read82_ok (n := n) hz (fun h M' f => ?_) hY
  simp [wd_NoText]
  exact hN h M' f
theorem ltold_odd {n : Nat} {d : D} {M : Mem} {E : PE0} {Q : PQ D} (hd : dIsi d "str" M = some false) (h : Q (.str "text") M) : Wp (PH (n + 7) "_law_told" [d]) M Q E := by
  rw [q_law_told]
  simp [g_law_told, List.replicate_succ]
  rw [q_read]
  simp [g_read, List.replicate_succ, hd, -Ws_nx, -Ws_rs]
  try rw [Ws_rs]
  simp [wd_NoText]
  exact h
/-! what repr tells of what is read -/
theorem int_smallL {i : Int} (h : i.natAbs ≤ 10 ^ 570) : i.natAbs.log2 < 1920 ∧ (PyData.shown (.int i)).length ≤ 572 := by
  have e0 : (10 : Nat) ^ 570 < 2 ^ 1920 := by decide +kernel
  have e1 : (10 : Nat) ^ 570 < 10 ^ 571 := by decide +kernel
  constructor
  · by_cases h0 : i.natAbs = 0
    · rw [h0]; decide
    · exact (Nat.log2_lt h0).mpr (Nat.lt_of_le_of_lt h e0)
  · have e := int_text_length_le10 (k := 571) (by decide) (Nat.lt_of_le_of_lt h e1)
    show (Str.ofString (toString i)).length ≤ 572
    rw [ofString_length]
    exact e
mutual
theorem okP_showL {B : Nat} (h : B ≤ 10 ^ 570) : ∀ p, okP B p = true → p.showable = true ∧ p.leavesShort 572 = true
  | .none, _ => by simp [PyData.showable, PyData.leavesShort]
  | .bool _, _ => by simp [PyData.showable, PyData.leavesShort]
  | .int i, e => by
    simp only [okP, decide_eq_true_eq] at e
    obtain ⟨h1, h2⟩ := int_smallL (Nat.le_trans e h)
    simp only [PyData.showable, PyData.leavesShort, decide_eq_true_eq]
    exact ⟨h1, h2⟩
  | .str x, e => by
    simp only [okP, Array.all_eq_true, decide_eq_true_eq] at e
    simp only [PyData.showable, PyData.leavesShort, List.all_eq_true, decide_eq_true_eq, true_and]
    intro c hc
    obtain ⟨i, hi, rfl⟩ := Array.getElem_of_mem (Array.mem_def.mpr hc)
    have := e i hi
    have e2 : (16 : Nat) ^ 8 = 4294967296 := by decide
    omega
  | .list xs, e => by
    simp only [okP] at e
    have := okPs_showL h xs e
    simp only [PyData.showable, PyData.leavesShort]
    exact this
  | .tuple xs, e => by
    simp only [okP] at e
    have := okPs_showL h xs e
    simp only [PyData.showable, PyData.leavesShort]
    exact this
  | .dict xs, e => by
    simp only [okP] at e
    have := okPk_showL h xs e
    simp only [PyData.showable, PyData.leavesShort]
    exact this
theorem okPs_showL {B : Nat} (h : B ≤ 10 ^ 570) : ∀ p, okPs B p = true → PyData.showableAll p = true ∧ PyData.leavesShortAll 572 p = true
  | [], _ => by simp [PyData.showableAll, PyData.leavesShortAll]
  | x :: xs, e => by
    simp only [okPs, Bool.and_eq_true] at e
    obtain ⟨a, b⟩ := okP_showL h x e.1
    obtain ⟨c, d⟩ := okPs_showL h xs e.2
    simp [PyData.showableAll, PyData.leavesShortAll, a, b, c, d]
theorem okPk_showL {B : Nat} (h : B ≤ 10 ^ 570) : ∀ p, okPk B p = true → PyData.showableKv p = true ∧ PyData.leavesShortKv 572 p = true
  | [], _ => by simp [PyData.showableKv, PyData.leavesShortKv]
  | (x, y) :: xs, e => by
    simp only [okPk, Bool.and_eq_true] at e
    obtain ⟨a, b⟩ := okP_showL h x e.1.1
    obtain ⟨a', b'⟩ := okP_showL h y e.1.2
    obtain ⟨c, d⟩ := okPk_showL h xs e.2
    simp [PyData.showableKv, PyData.leavesShortKv, a, b, a', b', c, d]
end
theorem dat_shownL {X : List Nat} {M : Mem} {B h w : Nat} {d : D} (a : Dat X M B h w d) (hB : B ≤ 10 ^ 570) (hh : h ≤ 100) (hw : w ≤ 28000) : ∃ s, ∀ M', Fr X M M' → dShown d M' = some s := by
  obtain ⟨p, e, o, dp, wt⟩ := a
  obtain ⟨s1, s2⟩ := okP_showL hB p o
  have sl := PyData.shown_le 572 (by decide) p s2
  have sl2 : p.shown.length ≤ 16777216 := by
    have : (572 + 2) * p.weight ≤ 574 * 28000 := Nat.mul_le_mul (by decide) (Nat.le_trans wt hw)
    omega
  refine ⟨p.shown, fun M' f => ?_⟩
  have e' : toPy M' d = some p := toPyF_mono (fun x q z => toPyX_all h 100 x q hh (toPyX_mono (X' := X) (fun k hk l => ⟨hk, f.get k hk l⟩) h h x q (Nat.le_refl _) z)) d p e
  unfold dShown
  rw [e']
  dsimp only
  rw [if_pos]
  rw [s1, decide_eq_true sl2, decide_eq_true (show p.depth ≤ 100 by omega)]; rfl
theorem read_shown {z : Str} {ns : List Int} {rs : List (List Int)} (hz : Tx 570 z) (h : readW z = some (ns, rs)) : ∃ s, ∀ M k, M[k]? = some (.lst (rs.map fun r => .tup (nts r))) → dShown (.tup [lnD ns, .ref k]) M = some s := by
  have hp : partW z = some (ns, rs) ∧ isL (lnD ns) = true ∧ plB (ns.length - 2) rs = true := by
    unfold readW at h
    cases hq : partW z with
    | none => rw [hq] at h; cases h
    | some q =>
      obtain ⟨a, b⟩ := q
      rw [hq] at h
      dsimp only at h
      split at h
      · rename_i c
        cases h
        rw [Bool.and_eq_true] at c
        exact ⟨rfl, c.1, c.2⟩
      · cases h
  obtain ⟨h1, h2, h3⟩ := hp
  have pg := part_get h1
  have r8 : rs.length ≤ 8 := by
    unfold plB at h3
    rw [Bool.and_eq_true] at h3
    exact of_decide_eq_true h3.1
  obtain ⟨ss, t, p, e1, o, e2⟩ := lnD_line h2
  have g0 : ([Cell.lst (rs.map fun r => D.tup (nts r))] : Mem)[0]? = some (.lst (rs.map fun r => .tup (nts r))) := rfl
  have dR : Dats [] [Cell.lst (rs.map fun r => D.tup (nts r))] (10 ^ 570) 3 (8 * 2856) (rs.map fun r => D.tup (nts r)) := by
    refine (dats_all (w := 2855) fun d hd => ?_).up (Nat.le_refl _) (Nat.le_refl _) (by rw [List.length_map]; exact Nat.mul_le_mul_right _ r8)
    obtain ⟨r, hr, rfl⟩ := List.mem_map.mp hd
    exact row_dat82 hz (pg r (by simp [hr]))
  have dL : Dat [] [Cell.lst (rs.map fun r => D.tup (nts r))] (10 ^ 570) 4 3000 (lnD ns) := by
    rw [e2]
    exact (line_dat o [] _).up (Nat.pow_le_pow_right (by decide) (by decide)) (by decide) (by decide)
  have dd : Dat [] [Cell.lst (rs.map fun r => D.tup (nts r))] (10 ^ 570) 5 27000 (.tup [lnD ns, .ref 0]) := (dat_tup (dats_cons dL (dats1 (dat_lst g0 (by simp) dR)))).up (Nat.le_refl _) (by decide) (by decide)
  obtain ⟨s, hs⟩ := dat_shownL dd (Nat.le_refl _) (by decide) (by decide)
  have z0 := hs _ Fr.refl
  have pyI : ∀ (R : Nat → Option PyData) (l : List Int), toPyFs R (nts l) = some (l.map PyData.int) := fun R l => py_gen (py := PyData.int) fun x _ R => by simp only [toPyF]
  have pyR : ∀ (R : Nat → Option PyData), toPyFs R (rs.map fun r => D.tup (nts r)) = some (rs.map fun r => PyData.tuple (r.map PyData.int)) := fun R => py_gen (enc := fun r : List Int => D.tup (nts r)) (py := fun r => PyData.tuple (r.map PyData.int)) fun r _ R => by simp only [toPyF, pyI, Option.map_some]
  have pyL : ∀ (R : Nat → Option PyData), toPyF R (lnD ns) = some (.tuple (.tuple ((ns.drop 2).map PyData.int) :: (ns.take 2).map PyData.int)) := fun R => by simp only [lnD, toPyF, toPyFs, pyI, Option.map_some, Option.bind_some]
  have py : ∀ (M : Mem) k, M[k]? = some (.lst (rs.map fun r => .tup (nts r))) → toPy M (.tup [lnD ns, .ref k]) = some (.tuple [.tuple (.tuple ((ns.drop 2).map PyData.int) :: (ns.take 2).map PyData.int), .list (rs.map fun r => PyData.tuple (r.map PyData.int))]) := fun M k hk => by
    have : toPyN M 100 k = some (.list (rs.map fun r => PyData.tuple (r.map PyData.int))) := by
      unfold toPyN
      rw [hk]
      simp only [pyR, Option.map_some]
    show toPyF (toPyN M 100) _ = _
    simp only [toPyF, toPyFs, pyL, this, Option.map_some, Option.bind_some]
  refine ⟨s, fun M k hk => ?_⟩
  unfold dShown at z0 ⊢
  rw [py _ _ g0] at z0
  rw [py _ _ hk]
  exact z0
end K82
set_option maxHeartbeats 1000000
namespace K82
open PySem PySem.Spec Pf
open L2 (atI ixN)
theorem wt_app {a b : List Str} : wt (a ++ b) = wt a + wt b := by unfold wt; simp; omega
theorem wt_td {l : List Str} (i : Nat) : wt (l.take i) + wt (l.drop i) = wt l := by
  rw [← wt_app, List.take_append_drop]
theorem wt_ins {l : List Str} {i : Nat} {y : Str} : wt (l.take i ++ [y] ++ l.drop i) = wt l + (y.length + 1) := by
  have := wt_td (l := l) i
  rw [wt_app, wt_app]
  have e : wt [y] = y.length + 1 := by unfold wt; simp
  omega
theorem wt_set : ∀ {l : List Str} {i : Nat} {y : Str} (h : i < l.length), wt (l.set i y) + (l[i]).length = wt l + y.length
  | x :: l, 0, y, _ => by
    show wt (y :: l) + x.length = _
    rw [wt_cons, wt_cons]; omega
  | x :: l, i + 1, y, h => by
    have ih := wt_set (l := l) (i := i) (y := y) (by simpa using h)
    show wt (x :: l.set i y) + (l[i]'(by simpa using h)).length = _
    rw [wt_cons, wt_cons]; omega
theorem wt_erase : ∀ {l : List Str} {i : Nat}, wt (l.eraseIdx i) ≤ wt l
  | [], i => by simp
  | x :: l, 0 => by
    show wt l ≤ _
    rw [wt_cons]; omega
  | x :: l, i + 1 => by
    have ih := wt_erase (l := l) (i := i)
    show wt (x :: l.eraseIdx i) ≤ _
    rw [wt_cons, wt_cons]; omega
theorem wt_mem {l : List Str} {x : Str} (h : x ∈ l) : x.length + 1 ≤ wt l := by
  induction l with
  | nil => cases h
  | cons a l ih =>
    rw [wt_cons]
    rcases List.mem_cons.mp h with rfl | h
    · omega
    · have := ih h; omega
theorem wt_len {l : List Str} : l.length ≤ wt l := by unfold wt; omega
def ChO (l : List Str) : Prop := ∀ p ∈ l, ∀ c ∈ p.cps.toList, c < 0x110000
theorem ChO.ins {l : List Str} (h : ChO l) {i : Nat} {y : Str} (hy : ∀ c ∈ y.cps.toList, c < 0x110000) : ChO (l.take i ++ [y] ++ l.drop i) := by
  intro p hp
  rcases List.mem_append.mp hp with hp | hp
  · rcases List.mem_append.mp hp with hp | hp
    · exact h p (List.mem_of_mem_take hp)
    · rw [List.mem_singleton] at hp; subst hp; exact hy
  · exact h p (List.mem_of_mem_drop hp)
theorem ChO.set {l : List Str} (h : ChO l) {i : Nat} {y : Str} (hy : ∀ c ∈ y.cps.toList, c < 0x110000) : ChO (l.set i y) := by
  intro p hp
  rcases List.mem_or_eq_of_mem_set hp with hp | rfl
  · exact h p hp
  · exact hy
theorem ChO.erase {l : List Str} (h : ChO l) {i : Nat} : ChO (l.eraseIdx i) := fun p hp => h p (List.mem_of_mem_eraseIdx hp)
theorem wt_swap {l : List Str} {i j : Nat} (hi : i < l.length) (hj : j < l.length) : wt ((l.set i l[j]).set j l[i]) = wt l := by
  have a := wt_set (l := l) (i := i) (y := l[j]) hi
  have b := wt_set (l := l.set i l[j]) (i := j) (y := l[i]) (by simpa using hj)
  have e : (l.set i l[j])[j]'(by simpa using hj) = l[j] := by
    rw [List.getElem_set]
    split
    · rfl
    · rfl
  rw [e] at b
  omega
end K82
set_option maxHeartbeats 1000000
namespace K82
open PySem PySem.Spec Pf
open L2 (atI ixN)
theorem ne_len {l : List Str} (h : l ≠ []) : 1 ≤ l.length := by
  cases l with
  | nil => exact absurd rfl h
  | cons a l => simp
theorem map_erase {α β : Type} (f : α → β) : ∀ (l : List α) (i : Nat), (l.map f).eraseIdx i = (l.eraseIdx i).map f
  | [], i => by simp
  | a :: l, 0 => rfl
  | a :: l, i + 1 => by
    show f a :: (l.map f).eraseIdx i = f a :: (l.eraseIdx i).map f
    rw [map_erase f l i]
theorem ins_map {l : List Str} {j : Nat} {y : Str} : (l.map D.str).take j ++ D.str y :: (l.map D.str).drop j = (l.take j ++ [y] ++ l.drop j).map D.str := by
  simp only [List.map_append, List.map_take, List.map_drop, List.map_cons, List.map_nil, List.append_assoc, List.singleton_append]
theorem nines : Tx 30 (Txt.mul ("9" : Str) 30) := by
  have e : (Txt.mul ("9" : Str) 30).cps.toList = List.replicate 30 57 := by
    have h : ("9" : Str) = ⟨#[57]⟩ := by decide +kernel
    rw [h, PyProof.Rows.mul_one_list]
    rfl
  refine ⟨?_, fun c hc => ?_⟩
  · show (Txt.mul ("9" : Str) 30).cps.size ≤ 30
    rw [← Array.length_toList, e]
    simp
  · rw [e] at hc
    have := (List.mem_replicate.mp hc).2
    omega
theorem lrow_ok {n r N : Nat} {z : Str} {M : Mem} {E : PE0} {Q : PQ D} (hz : Tx N z) (hN : N ≤ 300) (hp : Pt r M) (h : ∀ z' M', Tx (2 * N + 32) z' → Pt r M' → Fr [r] M M' → Q (.str z') M') : Wp (PH (n + 2) "_law_row_turned" [.ref r, .str z]) M Q E := by
  obtain ⟨s1, s2, s3⟩ := split_tx hz nl_1
  have zl := hz.len
  have rl := ne_len s1
  have rw := wt_len (l := Txt.split z "\n")
  have rch : ChO (Txt.split z "\n") := fun p hp => (s3 p hp).ok
  rw [q_law_row_turned]
  simp [g_law_row_turned, List.replicate_succ, -Ws_nx, -Ws_rs]
  refine w_split rfl (by decide +kernel) (by omega) (by omega) ?_
  generalize Txt.split z "\n" = R at s2 s3 rl rw rch ⊢
  have a1 := get_new (M := M) (c := .lst (R.map D.str))
  have p1 : Pt r (al M (.lst (R.map D.str))) := hp.ad
  have f1 : Fr [r] M (al M (.lst (R.map D.str))) := Fr.al
  have ra : r < M.length := hp.lt
  have lMa : M.length ≤ M.length := Nat.le_refl _
  generalize al M (.lst (R.map D.str)) = M1 at a1 p1 f1 ⊢
  generalize hMa : M.length = a at a1 ra lMa ⊢
  simp [a1, -Ws_nx, -Ws_rs]
  refine take_ok p1 (by omega) (by omega) fun x M2 x0 x1 p2 f2 => ?_
  have a2 := f2.at_ a1 (by simp; omega)
  simp [a2, -Ws_nx, -Ws_rs]
  refine take_ok p2 (by omega) (by omega) fun y M3 y0 y1 p3 f3 => ?_
  have a3 := f3.at_ a2 (by simp; omega)
  try simp [-Ws_nx, -Ws_rs]
  refine take_ok p3 (by decide) (by decide) fun v M4 v0 v1 p4 f4 => ?_
  have a4 := f4.at_ a3 (by simp; omega)
  have F4 := f1.trans (f2.trans (f3.trans f4))
  obtain ⟨i, rfl⟩ := Int.eq_ofNat_of_zero_le x0
  obtain ⟨j, rfl⟩ := Int.eq_ofNat_of_zero_le y0
  have hi : i < R.length := by omega
  have hj : j < R.length := by omega
  try simp [a4, hi, -Ws_nx, -Ws_rs]
  have hRi := s3 R[i] (List.getElem_mem hi)
  have hRl := hRi.len
  obtain ⟨u1, u2, u3⟩ := split_tx hRi bl_1
  obtain ⟨u1', u2', _⟩ := split_tx (⟨Nat.le_refl _, hRi.ok⟩ : Tx (R[i]).length R[i]) bl_1
  have ww := wt_len (l := Txt.split R[i] " ")
  refine w_split rfl (by decide +kernel) (by omega) (by omega) ?_
  have wl := ne_len u1
  have wch : ChO (Txt.split R[i] " ") := fun p hp => (u3 p hp).ok
  generalize Txt.split R[i] " " = W at u2' u3 wl ww wch ⊢
  have w5 := get_new (M := M4) (c := .lst (W.map D.str))
  have a5 := get_al (c' := .lst (W.map D.str)) a4
  have p5 : Pt r (al M4 (.lst (W.map D.str))) := p4.ad
  have F5 : Fr [r] M (al M4 (.lst (W.map D.str))) := F4.trans Fr.al
  have aw := lt_of a4
  generalize al M4 (.lst (W.map D.str)) = M5 at w5 a5 p5 F5 ⊢
  generalize M4.length = w at w5 aw ⊢
  simp [w5, -Ws_nx, -Ws_rs]
  refine take_ok p5 (by omega) (by omega) fun q M6 q0 q1 p6 f6 => ?_
  obtain ⟨k, rfl⟩ := Int.eq_ofNat_of_zero_le q0
  have hk : k < W.length := by omega
  have w6 := f6.at_ w5 (by simp; omega)
  have a6 := f6.at_ a5 (by simp; omega)
  have F6 := F5.trans f6
  have hWk := u3 W[k] (List.getElem_mem hk)
  -- the end: rows joined
  have fin : ∀ (R' : List Str) M', wt R' ≤ 2 * N + 32 → ChO R' → R'.length ≤ 1000 → M'[a]? = some (.lst (R'.map D.str)) → Pt r M' → Fr [r] M M' → Wp (dJoin "\n" (.ref a)) M' Q E := fun R' M' hw hc hl hg pp ff => by
    rw [w_join, hg]
    simp only [lG_some]
    rw [strsOf_map]
    simp only [oG_some]
    refine ⟨?_, h _ M' (join_tx nl_1 (by decide +kernel) hw hc) pp ff⟩
    rw [nl_1]
    unfold wt at hw
    omega
  -- the end: words joined into their row first
  have finW : ∀ (W' : List Str) M', wt W' ≤ wt W + (W[k]).length + 31 → wt W' ≤ wt W + 30 ∨ wt W' ≤ wt W + (W[k]).length + 1 → ChO W' → W'.length ≤ 1000 → M'[w]? = some (.lst (W'.map D.str)) → M'[a]? = some (.lst (R.map D.str)) → Pt r M' → Fr [r] M M' →
      Wp (dJoin " " (.ref w)) M' (fun d M1 => oG (cSt M1[a]? (.inl (i : Int)) d) fun c => Wp (dJoin "\n" (.ref a)) (M1.set a c) (fun a M1 => Q a M1) E) E := fun W' M' hw0 hw hc hl hgw hga pp ff => by
    rw [w_join, hgw]
    simp only [lG_some]
    rw [strsOf_map]
    simp only [oG_some]
    have jt := join_tx (N := wt W') bl_1 (by decide +kernel) (Nat.le_refl _) hc
    have jl := jt.len
    refine ⟨by rw [bl_1]; unfold wt at hw0 u2'; have := ww; have := (wt_mem (List.getElem_mem hk)); unfold wt at this; omega, ?_⟩
    have st := wt_set (l := R) (i := i) (y := Txt.join " " W') hi
    have wk1 := wt_mem (List.getElem_mem hk)
    rw [hga, cSt_l, ixN_cast, if_pos (by simpa using hi)]
    simp only [Option.map_some, oG_some]
    have er : (R.map D.str).set i (.str (Txt.join " " W')) = (R.set i (Txt.join " " W')).map D.str := by rw [List.map_set]
    rw [er]
    refine fin (R.set i (Txt.join " " W')) _ (by omega) (rch.set jt.ok) (by simp; omega) (get_set hga) (pp.fr (X := [a]) (Fr.set (by simp)) (by simp; omega)) ?_
    exact ff.more (Y := [r, a]) (by simp) |>.trans (Fr.set (by simp)) |>.less (by intro n hn hl; simp at hn ⊢; omega)
  have Fa : ∀ c, Fr [r] M (M6.set a c) := fun c => F6.more (Y := [r, a]) (by simp) |>.trans (Fr.set (by simp)) |>.less (by intro n hn hl; simp at hn ⊢; omega)
  have Fw : ∀ c, Fr [r] M (M6.set w c) := fun c => F6.more (Y := [r, w]) (by simp) |>.trans (Fr.set (by simp)) |>.less (by intro n hn hl; simp at hn ⊢; omega)
  have Pa : ∀ c, Pt r (M6.set a c) := fun c => p6.fr (X := [a]) (Fr.set (by simp)) (by simp; omega)
  have Pw : ∀ c, Pt r (M6.set w c) := fun c => p6.fr (X := [w]) (Fr.set (by simp)) (by simp; omega)
  have ga : ∀ c, (M6.set w c)[a]? = some (.lst (R.map D.str)) := fun c => by rw [List.getElem?_set_ne (by omega)]; exact a6
  have wk1 := wt_mem (List.getElem_mem hk)
  have ri1 := wt_mem (List.getElem_mem hi)
  have hv : v = 0 ∨ v = 1 ∨ v = 2 ∨ v = 3 ∨ v = 4 ∨ v = 5 := by omega
  rcases hv with rfl | rfl | rfl | rfl | rfl | rfl
  · simp [a6, hi, -w_join]
    refine ⟨by omega, ?_⟩
    rw [ins_map]
    exact fin _ _ (by rw [wt_ins]; omega) (rch.ins hRi.ok) (by simp; omega) (get_set a6) (Pa _) (Fa _)
  · simp [a6, hi, -w_join]
    refine ⟨by omega, ?_⟩
    have e : (R.map D.str).eraseIdx i = (R.eraseIdx i).map D.str := map_erase _ _ _
    rw [e]
    have we := wt_erase (l := R) (i := i)
    have le := wt_len (l := R.eraseIdx i)
    exact fin _ _ (by omega) rch.erase (by omega) (get_set a6) (Pa _) (Fa _)
  · simp [a6, hi, hj, -w_join]
    rw [get_set a6, cSt_l, ixN_cast, if_pos (by simpa using hj)]
    simp only [Option.map_some, oG_some]
    have e : ((R.map D.str).set i (.str R[j])).set j (.str R[i]) = ((R.set i R[j]).set j R[i]).map D.str := by rw [List.map_set, List.map_set]
    rw [e]
    have hRj := s3 R[j] (List.getElem_mem hj)
    exact fin _ _ (by rw [wt_swap hi hj]; omega) ((rch.set hRj.ok).set hRi.ok) (by simp; omega) (get_set a6) (Pa _) (Fa _)
  · simp [a6, w6, hk, -w_join]
    refine ⟨by omega, ?_⟩
    rw [ins_map]
    exact finW _ _ (by rw [wt_ins]; omega) (.inr (by rw [wt_ins]; omega)) (wch.ins hWk.ok) (by simp; omega) (get_set w6) (ga _) (Pw _) (Fw _)
  · simp [a6, w6, hk, -w_join]
    refine ⟨by omega, ?_⟩
    have e : (W.map D.str).eraseIdx k = (W.eraseIdx k).map D.str := map_erase _ _ _
    rw [e]
    have we := wt_erase (l := W) (i := k)
    have le := wt_len (l := W.eraseIdx k)
    exact finW _ _ (by omega) (.inr (by omega)) wch.erase (by omega) (get_set w6) (ga _) (Pw _) (Fw _)
  · simp [a6, w6, hk, -w_join]
    have l0 : ("0" : Str).length = 1 := by decide +kernel
    have l9 : ("9" : Str).length = 1 := by decide +kernel
    have lm : ("-" : Str).length = 1 := by decide +kernel
    have hWl := hWk.len
    refine ⟨by omega, by omega, by omega, ?_⟩
    have x7 := get_new (M := M6) (c := .lst [D.str ("0" ++ W[k]), D.str (Txt.mul "9" 30), D.str ("-" ++ W[k]), D.str ""])
    have w7 := get_al (c' := .lst [D.str ("0" ++ W[k]), D.str (Txt.mul "9" 30), D.str ("-" ++ W[k]), D.str ""]) w6
    have a7 := get_al (c' := .lst [D.str ("0" ++ W[k]), D.str (Txt.mul "9" 30), D.str ("-" ++ W[k]), D.str ""]) a6
    have p7 : Pt r (al M6 (.lst [D.str ("0" ++ W[k]), D.str (Txt.mul "9" 30), D.str ("-" ++ W[k]), D.str ""])) := p6.ad
    have F7 : Fr [r] M (al M6 (.lst [D.str ("0" ++ W[k]), D.str (Txt.mul "9" 30), D.str ("-" ++ W[k]), D.str ""])) := F6.trans Fr.al
    have rl6 := p6.lt
    generalize al M6 (.lst [D.str ("0" ++ W[k]), D.str (Txt.mul "9" 30), D.str ("-" ++ W[k]), D.str ""]) = M7 at x7 w7 a7 p7 F7 ⊢
    generalize M6.length = x at x7 rl6 ⊢
    refine take_ok p7 (by decide) (by decide) fun u M8 u0 u1 p8 f8 => ?_
    have x8 := f8.at_ x7 (by simp; omega)
    have w8 := f8.at_ w7 (by simp; omega)
    have a8 := f8.at_ a7 (by simp; omega)
    have F8 := F7.trans f8
    have end5 : ∀ y : Str, y.length ≤ (W[k]).length + 1 ∨ y.length ≤ 30 → (∀ c ∈ y.cps.toList, c < 0x110000) → oG (cSt M8[w]? (.inl (k : Int)) (.str y)) fun c => Wp (dJoin " " (.ref w)) (M8.set w c) (fun d M1 => oG (cSt M1[a]? (.inl (i : Int)) d) fun c => Wp (dJoin "\n" (.ref a)) (M1.set a c) (fun a M1 => Q a M1) E) E := fun y hy hc => by
      rw [w8, cSt_l, ixN_cast, if_pos (by simpa using hk)]
      simp only [Option.map_some, oG_some]
      rw [← List.map_set]
      have ws := wt_set (l := W) (i := k) (y := y) hk
      refine finW _ _ (by omega) (.inl (by omega)) (wch.set hc) (by simp; omega) (get_set w8) (by rw [List.getElem?_set_ne (by omega)]; exact a8) (p8.fr (X := [w]) (Fr.set (by simp)) (by simp; omega)) ?_
      exact F8.more (Y := [r, w]) (by simp) |>.trans (Fr.set (by simp)) |>.less (by intro n hn hl; simp at hn ⊢; omega)
    have hu : u = 0 ∨ u = 1 ∨ u = 2 ∨ u = 3 := by omega
    have t0 : Tx 1 ("0" : Str) := ⟨by decide +kernel, by decide +kernel⟩
    have tm : Tx 1 ("-" : Str) := ⟨by decide +kernel, by decide +kernel⟩
    have hW1 : Tx (W[k]).length W[k] := ⟨Nat.le_refl _, hWk.ok⟩
    rcases hu with rfl | rfl | rfl | rfl
    · rw [w_idxL, x8]
      exact end5 _ (.inl (by have := (add_tx t0 hW1).len; omega)) (add_tx t0 hW1).ok
    · rw [w_idxL, x8]
      exact end5 _ (.inr nines.len) nines.ok
    · rw [w_idxL, x8]
      exact end5 _ (.inl (by have := (add_tx tm hW1).len; omega)) (add_tx tm hW1).ok
    · rw [w_idxL, x8]
      exact end5 _ (.inr (by decide +kernel)) (by decide +kernel)
end K82
set_option maxHeartbeats 1000000
namespace K82
open PySem PySem.Spec Pf
open L2 (atI ixN)
theorem tl_cut {z : Str} {lo hi : Option Int} : TL.tl (L2.cutS z lo hi) = (z.cps.toList.drop (HT.sIx z.length 0 lo)).take (HT.sIx z.length z.length hi - HT.sIx z.length 0 lo) := by
  unfold TL.tl L2.cutS
  simp
theorem tx_tl {N : Nat} {z : Str} : Tx N z ↔ (TL.tl z).length ≤ N ∧ ∀ c ∈ TL.tl z, c < 0x110000 := by
  constructor
  · intro h
    exact ⟨by rw [← TL.len_tl]; exact h.len, h.ok⟩
  · rintro ⟨a, b⟩
    exact ⟨by rw [TL.len_tl]; exact a, b⟩
theorem tx_lo {N k : Nat} {z : Str} (h : Tx N z) : Tx (min k z.length) (L2.cutS z none (some (k : Int))) := by
  rw [tx_tl, tl_cut, HT.sIx_nat]
  refine ⟨by rw [List.length_take]; simp only [HT.sIx]; omega, fun c hc => h.ok c (List.mem_of_mem_drop (List.mem_of_mem_take hc))⟩
theorem tx_hi {N k : Nat} {z : Str} (h : Tx N z) : Tx (z.length - k) (L2.cutS z (some (k : Int)) none) := by
  rw [tx_tl, tl_cut, HT.sIx_nat]
  have l : z.cps.toList.length = z.length := by simp [Str.length]
  refine ⟨by rw [List.length_take, List.length_drop, l]; simp only [HT.sIx]; omega, fun c hc => h.ok c (List.mem_of_mem_drop (List.mem_of_mem_take hc))⟩
def sgS : Str := ⟨#[32, 9, 10, 48, 49, 50, 51, 52, 53, 54, 55, 56, 57, 45, 43, 95, 44, 46, 58, 47, 108, 105, 110, 101, 114, 117, 33, 35, 36, 38, 39, 40, 41, 42, 59, 60, 61, 62, 63, 64, 65, 90, 91, 93, 94, 96, 123, 124, 125, 126, 34, 92]⟩
theorem sg_ok : Tx 60 sgS ∧ 0 < sgS.length := by
  refine ⟨⟨by decide +kernel, by decide +kernel⟩, by decide +kernel⟩
theorem idx_i {w : Str} {i c : Nat} {M : Mem} {E : PE0} {Q : PQ D} (hs : w.cps.size ≤ 600) (h0 : w.cps.toList[i]? = some c) (h : Q (.str ⟨#[c]⟩) M) : Wp (dIdx (.str w) (.int (i : Nat))) M Q E := by
  have e : dIdx (.str w) (.int (i : Nat)) M = .ok (.str ⟨#[c]⟩) M := by
    unfold dIdx dctOf fdcOf dIdxS
    dsimp only
    rw [show atI w.cps.toList (i : Int) = some c from (atI_cast (k := i)).trans h0]
    dsimp only
    rw [if_pos (show w.length ≤ 16777216 by show w.cps.size ≤ _; omega)]
  unfold Wp
  rw [e]
  exact h
theorem w_slS {z : Str} {lo hi : Option Int} {M : Mem} {E : PE0} {Q : PQ D} : Wp (dSlice (.str z) lo hi) M Q E = (z.length ≤ 16777216 ∧ Q (.str (L2.cutS z lo hi)) M) := by
  exact rP_if
theorem lsign_ok {n r N : Nat} {z : Str} {M : Mem} {E : PE0} {Q : PQ D} (hz : Tx N z) (hN : N ≤ 600) (hp : Pt r M) (h : ∀ z' M', Tx (N + 1) z' → Pt r M' → Fr [r] M M' → Q (.str z') M') : Wp (PH (n + 2) "_law_sign_turned" [.ref r, .str z]) M Q E := by
  have zl := hz.len
  rw [q_law_sign_turned]
  simp [g_law_sign_turned, List.replicate_succ, -Ws_nx, -Ws_rs]
  rw [show (" \t\n0123456789-+_,.:/lineru!#$&'()*;<=>?@AZ[]^`{|}~\"\\" : Str) = sgS from by decide +kernel]
  obtain ⟨sg, sg0⟩ := sg_ok
  have sl := sg.len
  generalize sgS = sgn at sg sg0 sl ⊢
  refine ⟨by omega, ?_⟩
  refine take_ok hp (by omega) (by omega) fun x M1 x0 x1 p1 f1 => ?_
  obtain ⟨i, rfl⟩ := Int.eq_ofNat_of_zero_le x0
  simp [-Ws_nx, -Ws_rs]
  refine ⟨by omega, ?_⟩
  refine take_ok p1 (by omega) (by omega) fun y M2 y0 y1 p2 f2 => ?_
  obtain ⟨j, rfl⟩ := Int.eq_ofNat_of_zero_le y0
  have hj : j < sgn.cps.toList.length := by
    have : sgn.length = sgn.cps.toList.length := by simp [Str.length]
    omega
  have hc : sgn.cps.toList[j]? = some sgn.cps.toList[j] := List.getElem?_eq_getElem hj
  have c1 := sg.ok _ (List.getElem_mem hj)
  refine idx_i (by have := sg.sz; omega) hc ?_
  generalize sgn.cps.toList[j] = c at c1 ⊢
  have tc : Tx 1 (⟨#[c]⟩ : Str) := ⟨by show (#[c] : Array Nat).size ≤ 1; simp, fun d hd => by simp at hd; omega⟩
  have A := tx_lo (k := i) hz
  have B := tx_hi (k := i) hz
  have C : Tx (z.length - (i + 1)) (L2.cutS z (some ((i : Int) + 1)) none) := tx_hi (k := i + 1) hz
  simp [w_slS, -Ws_nx, -Ws_rs]
  generalize L2.cutS z none (some (i : Int)) = za at A ⊢
  generalize L2.cutS z (some (i : Int)) none = zb at B ⊢
  generalize L2.cutS z (some ((i : Int) + 1)) none = zc at C ⊢
  have hi : i ≤ z.length := by omega
  have D1 := add_tx (add_tx A tc) B
  have D2 := add_tx A C
  have D3 := add_tx (add_tx A tc) C
  have Al := A.len; have Bl := B.len; have Cl := C.len; have tl := tc.len
  have AT := (add_tx A tc).len
  have F2 := f1.trans f2
  refine ⟨by omega, by omega, by omega, by omega, by omega, by omega, by omega, by omega, by omega, by omega, ?_⟩
  generalize za ++ (⟨#[c]⟩ : Str) ++ zb = d1 at D1 ⊢
  generalize za ++ (⟨#[c]⟩ : Str) ++ zc = d3 at D3 ⊢
  generalize za ++ zc = d2 at D2 ⊢
  have x3 := get_new (M := M2) (c := .lst [D.str d1, D.str d2, D.str d3])
  have p3 : Pt r (al M2 (.lst [D.str d1, D.str d2, D.str d3])) := p2.ad
  have F3 : Fr [r] M (al M2 (.lst [D.str d1, D.str d2, D.str d3])) := F2.trans Fr.al
  have rl := p2.lt
  generalize al M2 (.lst [D.str d1, D.str d2, D.str d3]) = M3 at x3 p3 F3 ⊢
  generalize M2.length = x at x3 rl ⊢
  refine take_ok p3 (by decide) (by decide) fun u M4 u0 u1 p4 f4 => ?_
  have x4 := f4.at_ x3 (by simp; omega)
  have hu : u = 0 ∨ u = 1 ∨ u = 2 := by omega
  rcases hu with rfl | rfl | rfl
  · rw [w_idxL, x4]
    exact h _ _ (D1.up (by omega)) p4 (F3.trans f4)
  · rw [w_idxL, x4]
    exact h _ _ (D2.up (by omega)) p4 (F3.trans f4)
  · rw [w_idxL, x4]
    exact h _ _ (D3.up (by omega)) p4 (F3.trans f4)
end K82
set_option maxHeartbeats 1000000
namespace K82
open PySem PySem.Spec Pf
open L2 (atI ixN)
theorem joinL_all {P : Nat → Prop} {S : List Nat} (hS : ∀ c ∈ S, P c) : ∀ {ps : List (List Nat)}, (∀ p ∈ ps, ∀ c ∈ p, P c) → ∀ c ∈ TL.joinL S ps, P c
  | [], _ => by simp [TL.joinL]
  | [p], h => h p (by simp)
  | p :: q :: r, h => by
    intro c hc
    have hc' : c ∈ p ++ (S ++ TL.joinL S (q :: r)) := hc
    rcases List.mem_append.mp hc' with hc | hc
    · exact h p (by simp) c hc
    · rcases List.mem_append.mp hc with hc | hc
      · exact hS c hc
      · exact joinL_all hS (fun z hz => h z (List.mem_cons_of_mem _ hz)) c hc
def lowS (x : Str) : Prop := ∀ c ∈ TL.tl x, c < 256
theorem low_join {y : Str} {ps : List Str} (hy : lowS y) (h : ∀ p ∈ ps, lowS p) : lowS (Txt.join y ps) := by
  unfold lowS
  rw [tl_tjoin]
  refine joinL_all hy fun p hp => ?_
  obtain ⟨z, hz, rfl⟩ := List.mem_map.mp hp
  exact h z hz
theorem low_lit {x : Str} (h : x.cps.all (· < 256) = true) : lowS x := by
  intro c hc
  have := Array.all_eq_true'.mp h c (Array.mem_toList_iff.mp hc)
  simpa using this
theorem low_row {w : Str} {ns : List Int} (hw : lowS w) (h : Sml ns) : lowS (rowS w ns) := by
  refine low_join (low_lit (by decide +kernel)) fun x hx => ?_
  rcases List.mem_cons.mp hx with rfl | hx
  · exact hw
  · obtain ⟨i, hi, rfl⟩ := List.mem_map.mp hx
    exact fun c hc => by have := num_digits (h.2 i hi).1 c hc; omega
theorem low_line : lowS "line" := low_lit (by decide +kernel)
theorem low_run : lowS "run" := low_lit (by decide +kernel)
theorem low_text {ss : List Int} {t p : Int} {ps : List Rn} (o : LineOk ss t p) (h : TOk ss ps) : lowS (textS ss t p ps) := by
  refine low_join (low_lit (by decide +kernel)) fun z hz => ?_
  obtain ⟨x, hx, rfl⟩ := List.mem_map.mp hz
  rcases List.mem_cons.mp hx with rfl | hx
  · exact low_row low_line (line_sml o)
  · obtain ⟨r, hr, rfl⟩ := List.mem_map.mp hx
    exact low_row low_run (run_sml o (h.ok r hr).1 (h.ok r hr).2)
/-! the first text is short -/
theorem numL1 {i : Int} (h0 : 0 ≤ i) (h1 : i ≤ 9) : (numS i).length ≤ 1 := by
  rw [TL.len_tl, tl_numS h0, TL.numL_lt (by omega)]
  simp
theorem numL2 {i : Int} (h0 : 0 ≤ i) (h1 : i < 50) : (numS i).length ≤ 2 := by
  rw [TL.len_tl, tl_numS h0]
  rcases Nat.lt_or_ge i.toNat 10 with q | q
  · rw [TL.numL_lt q]; simp
  · rw [TL.numL_step q, TL.numL_lt (by omega)]
    simp
theorem join_le {y : Str} {ps : List Str} (hy : y.length = 1) : (Txt.join y ps).length ≤ wt ps := by
  have e : (Txt.join y ps).length = (TL.tl (Txt.join y ps)).length := TL.len_tl _
  rw [e, tl_tjoin]
  have z := joinL_wt (S := TL.tl y) (ps := ps.map TL.tl)
  have ly : (TL.tl y).length = 1 := by rw [← TL.len_tl]; exact hy
  rw [ly, List.map_map, List.length_map] at z
  have e2 : (List.length ∘ TL.tl : Str → Nat) = (·.length) := by funext x; exact (TL.len_tl x).symm
  rw [e2] at z
  unfold wt
  omega
theorem wt_all {ps : List Str} {b : Nat} (h : ∀ p ∈ ps, p.length ≤ b) : wt ps ≤ ps.length * (b + 1) := by
  induction ps with
  | nil => simp [wt]
  | cons p ps ih =>
    have h1 := h p (by simp)
    have h2 := ih fun x hx => h x (by simp [hx])
    rw [wt_cons, List.length_cons, Nat.add_mul, Nat.one_mul]
    omega
theorem text_short {ss : List Int} {t p : Int} {ps : List Rn} (o : LineOk ss t p) (h : TOk ss ps) (ht : ∀ r ∈ ps, r.t < 50) : Tx 116 (textS ss t p ps) := by
  have l5 := o.l5
  have l8 := h.len
  have rows : ∀ q ∈ rowsN ss t p ps, lowS (rowS q.1 q.2) := fun q hq => by
    rcases List.mem_cons.mp hq with rfl | hq
    · exact low_row low_line (line_sml o)
    · obtain ⟨r, hr, rfl⟩ := List.mem_map.mp hq
      exact low_row low_run (run_sml o (h.ok r hr).1 (h.ok r hr).2)
  have len : wt ((rowsN ss t p ps).map fun x => rowS x.1 x.2) ≤ 116 := by
    have r0 : (rowS "line" (t :: p :: ss)).length ≤ 19 := by
      unfold rowS
      have j := join_le (y := " ") (ps := wordsS "line" (t :: p :: ss)) bl_1
      unfold wordsS at j ⊢
      rw [wt_cons] at j
      have w := wt_all (ps := (t :: p :: ss).map numS) (b := 1) fun x hx => by
        obtain ⟨i, hi, rfl⟩ := List.mem_map.mp hx
        rcases List.mem_cons.mp hi with rfl | hi
        · exact numL1 (by have := o.t1; omega) o.t9
        · rcases List.mem_cons.mp hi with rfl | hi
          · exact numL1 (by have := o.p1; omega) (by have := o.p3; omega)
          · have := o.s i hi
            exact numL1 (by omega) (by omega)
      have l4 : ("line" : Str).length = 4 := by decide +kernel
      simp only [List.length_map, List.length_cons] at w
      omega
    have r1 : ∀ r ∈ ps, (rowS "run" (runNs r)).length ≤ 11 := fun r hr => by
      unfold rowS
      have j := join_le (y := " ") (ps := wordsS "run" (runNs r)) bl_1
      have or := (h.ok r hr).1
      have a := or.a; have b := or.b; have t0 := or.t
      have n1 := numL1 (i := r.a) (by omega) (by omega)
      have n2 := numL1 (i := r.b) (by omega) (by omega)
      have n3 := numL2 (i := r.t) (by omega) (ht r hr)
      have l3 : ("run" : Str).length = 3 := by decide +kernel
      have e : wt (wordsS "run" (runNs r)) = 3 + 1 + ((numS r.a).length + 1 + ((numS r.b).length + 1 + ((numS r.t).length + 1 + 0))) := by
        unfold wordsS runNs
        simp only [List.map_cons, List.map_nil, wt_cons, l3]
        rfl
      omega
    have e : (rowsN ss t p ps).map (fun x => rowS x.1 x.2) = rowS "line" (t :: p :: ss) :: ps.map fun r => rowS "run" (runNs r) := by
      simp [rowsN, List.map_map]
    rw [e, wt_cons]
    have w := wt_all (ps := ps.map fun r => rowS "run" (runNs r)) (b := 11) fun x hx => by
      obtain ⟨r, hr, rfl⟩ := List.mem_map.mp hx
      exact r1 r hr
    rw [List.length_map] at w
    have : ps.length * (11 + 1) ≤ 8 * 12 := Nat.mul_le_mul_right _ l8
    omega
  exact join_tx nl_1 (by decide +kernel) len fun x hx => by
    obtain ⟨q, hq, rfl⟩ := List.mem_map.mp hx
    exact fun c hc => Nat.lt_of_lt_of_le (rows q hq c hc) (by omega)
end K82
set_option maxHeartbeats 1000000
namespace K82
open PySem PySem.Spec Pf
open L2 (atI ixN)
/-! what the own text writes -/
theorem numW_num {i : Int} (h : 0 ≤ i) : numW (numS i) = some i := by
  have tl := tl_numS h
  rw [tl_def] at tl
  have ne := num_ne h
  have hd := num_digits h
  rw [tl_def] at hd
  have a : (numS i).cps.toList.all digB = true := List.all_eq_true.mpr fun c hc => by
    obtain ⟨h1, h2⟩ := hd c hc
    unfold digB
    simp [h1, h2]
  unfold numW
  have ne2 : ¬ (numS i).cps.size = 0 := by
    have : (numS i).length = (numS i).cps.size := rfl
    omega
  rw [if_neg (by rw [a]; simp [ne2]), if_neg, tl, TL.numL_val]
  · have : ((i.toNat : Nat) : Int) = i := by omega
    rw [this]
  · rintro ⟨l1, h0⟩
    obtain ⟨c, r, e, hc⟩ := num_head h l1
    rw [tl_def] at e
    rw [e] at h0
    simp at h0
    exact hc h0
theorem numsW_nums : ∀ {ns : List Int}, (∀ i ∈ ns, 0 ≤ i) → numsW (ns.map numS) = some ns
  | [], _ => rfl
  | i :: ns, h => numsW_mk (numW_num (h i (by simp))) (numsW_nums fun j hj => h j (by simp [hj]))
theorem rowsW_text {ss : List Int} {t p : Int} {ps : List Rn} (o : LineOk ss t p) (h : TOk ss ps) : rowsW (textS ss t p ps) = (rowsN ss t p ps).map fun x => wordsS x.1 x.2 := by
  unfold rowsW
  rw [text_split o h, List.map_map]
  refine List.map_congr_left fun x hx => ?_
  obtain ⟨a, b⟩ := rows_ok o h x hx
  exact row_split a b
theorem mapM_of {α β : Type} {f : α → Option β} {g : α → β} : ∀ {l : List α}, (∀ x ∈ l, f x = some (g x)) → l.mapM f = some (l.map g)
  | [], _ => by simp
  | x :: l, h => by
    rw [List.mapM_cons, h x (by simp), mapM_of fun y hy => h y (by simp [hy])]
    rfl
theorem rd_run {r : Rn} : (D.tup (nts (runNs r))) = r.d := rfl
theorem readW_text {ss : List Int} {t p : Int} {ps : List Rn} (o : LineOk ss t p) (h : TOk ss ps) : readW (textS ss t p ps) = some (t :: p :: ss, ps.map runNs) := by
  have h8 := h.len
  have ro := rows_ok o h
  have hp : partW (textS ss t p ps) = some (t :: p :: ss, ps.map runNs) := by
    unfold partW
    rw [rowsW_text o h, List.map_map]
    have e1 : (rowsN ss t p ps).map (hdW ∘ fun x => wordsS x.1 x.2) = wrdL ((rowsN ss t p ps).map fun x => wordsS x.1 x.2).length := by
      have e : (hdW ∘ fun x : Str × List Int => wordsS x.1 x.2) = fun x => x.1 := rfl
      rw [e]
      unfold rowsN wrdL
      rw [List.map_cons, List.map_map, List.map_cons, List.length_cons, List.map_map, List.length_map, Nat.add_sub_cancel]
      congr 1
      exact (List.map_const' (l := ps) (b := ("run" : Str)))
    rw [if_pos e1, List.mapM_map, mapM_of (g := fun x => x.2)]
    · simp [rowsN, List.map_map]
      try rfl
    · intro x hx
      exact numsW_nums fun i hi => ((ro x hx).2.2 i hi).1
  unfold readW
  rw [hp]
  dsimp only
  rw [if_pos]
  rw [Bool.and_eq_true]
  refine ⟨isL_line o, ?_⟩
  unfold plB
  rw [Bool.and_eq_true]
  refine ⟨decide_eq_true (by rw [List.length_map]; exact h8), List.all_eq_true.mpr fun x hx => ?_⟩
  obtain ⟨r, hr, rfl⟩ := List.mem_map.mp hx
  have e : (t :: p :: ss).length - 2 = ss.length := by simp
  rw [e, rd_run]
  exact runB_rn (h.ok r hr).1
end K82
set_option maxHeartbeats 1000000
namespace K82
open PySem PySem.Spec Pf
open L2 (atI ixN)
theorem log_sml {i : Int} (h0 : 0 ≤ i) (h1 : i < 10 ^ 45) : i.natAbs.log2 < 1920 := (int_small (by have e : ((10 ^ 60 : Nat) : Int) = 10 ^ 60 := by decide
                                                                                                   omega)).1
theorem join_one {y x : Str} : Txt.join y [x] = x := by
  refine TL.ext_tl ?_
  rw [tl_tjoin]; rfl
theorem law_text_ok {n c : Nat} {ss : List Int} {t p : Int} {ps : List Rn} {M : Mem} {E : PE0} {Q : PQ D} (o : LineOk ss t p) (h : TOk ss ps) (hc : M[c]? = some (.lst (ps.map Rn.d)))
    (hQ : ∀ M', Fr [] M M' → Q (.str (textS ss t p ps)) M') : Wp (PH (n + 1) "_law_text" [lineD ss t p, .ref c]) M Q E := by
  have h8 := h.len
  have l5 := o.l5
  have rn := rows_n (t := t) (p := p) h
  have ro := rows_ok o h
  rw [q_law_text]
  have hc2 := get_al (c' := .lst [.tup [.str "line", .tup (.int t :: .int p :: nts ss)]]) (get_al (c' := .lst []) hc)
  have g2 := get_al (c' := .lst [.tup [.str "line", .tup (.int t :: .int p :: nts ss)]]) (get_new (M := M) (c := .lst []))
  have k2 := get_new (M := al M (.lst [])) (c := .lst [.tup [.str "line", .tup (.int t :: .int p :: nts ss)]])
  have f2 : Fr [] M (al (al M (.lst [])) (.lst [.tup [.str "line", .tup (.int t :: .int p :: nts ss)]])) := Fr.al.trans Fr.al
  simp [g_law_text, List.replicate_succ, lineD, -Ws_nx, -Ws_rs]
  refine ⟨by omega, ?_⟩
  have hr : M.length < (al M (.lst [])).length := by rw [al_len]; omega
  generalize al (al M (.lst [])) (.lst [.tup [.str "line", .tup (.int t :: .int p :: nts ss)]]) = M2 at hc2 g2 k2 f2 ⊢
  generalize (al M (.lst [])).length = k at k2 hr ⊢
  generalize hrl : M.length = r at g2 hr ⊢
  simp [hc2]
  refine Wp_mapF ps Rn.d (fun r => .tup [.str "run", r.d]) (fun M' => M' = M2) rfl (fun M' e => by subst e; exact src_lst hc2) (by omega) (fun u hu M' e => ?_) fun M' e => ?_
  · subst e
    refine ⟨_, rfl, ?_⟩
    simp [wipeE]
  · subst e
    have k3 := get_al (c' := .lst (ps.map fun r => D.tup [.str "run", r.d])) k2
    have g3 := get_al (c' := .lst (ps.map fun r => D.tup [.str "run", r.d])) g2
    have f3 : Fr [] M (al M' (.lst (ps.map fun r => D.tup [.str "run", r.d]))) := f2.trans Fr.al
    simp [k3]
    refine ⟨by omega, ?_⟩
    have e1 : (D.tup [.str "line", .tup (.int t :: .int p :: nts ss)] :: ps.map fun r => D.tup [.str "run", r.d]) = (rowsN ss t p ps).map fun x => D.tup [.str x.1, .tup (nts x.2)] := by
      simp [rowsN, List.map_map]
      intro r hr
      simp [Rn.d, runNs, nts]
    rw [e1]
    generalize al M' (.lst (ps.map fun r => D.tup [.str "run", r.d])) = M3 at k3 g3 f3 ⊢
    have k4 := get_new (M := M3) (c := .lst ((rowsN ss t p ps).map fun x => D.tup [.str x.1, .tup (nts x.2)]))
    have g4 := get_al (c' := .lst ((rowsN ss t p ps).map fun x => D.tup [.str x.1, .tup (nts x.2)])) g3
    have f4 : Fr [] M (al M3 (.lst ((rowsN ss t p ps).map fun x => D.tup [.str x.1, .tup (nts x.2)]))) := f3.trans Fr.al
    have rk : r < M3.length := lt_of g3
    have hM := f4.len
    generalize al M3 (.lst ((rowsN ss t p ps).map fun x => D.tup [.str x.1, .tup (nts x.2)])) = M4 at k4 g4 f4 hM ⊢
    generalize M3.length = q at k4 rk ⊢
    refine Ws_for (n := (rowsN ss t p ps).length) (fun i e M' => Fr [] M M' ∧ M'[r]? = some (.lst (((rowsN ss t p ps).take i).map fun x => .str (rowS x.1 x.2))) ∧ M'[q]? = some (.lst ((rowsN ss t p ps).map fun x => D.tup [.str x.1, .tup (nts x.2)])) ∧
      ∃ o6 o7 o8, e = [some (D.tup [D.tup (nts ss), D.int t, D.int p]), some (.ref c), some (.ref r), some (.tup (nts ss)), some (.int t), some (.int p), o6, o7, o8, none]) (by rw [l_lst k4]; simp) ⟨f4, by simpa using g4, k4, _, _, _, rfl⟩ ?_ ?_
    · rintro i e M5 hi ⟨f5, g5, k5, o6, o7, o8, rfl⟩
      have hx := ro (rowsN ss t p ps)[i] (List.getElem_mem _)
      refine ⟨.tup [.str (rowsN ss t p ps)[i].1, .tup (nts (rowsN ss t p ps)[i].2)], _, by rw [a_lst k5]; simp [hi], rfl, ?_⟩
      have et : (rowsN ss t p ps).take (i + 1) = (rowsN ss t p ps).take i ++ [(rowsN ss t p ps)[i]] := by rw [List.take_succ]; simp [hi]
      rw [et]
      generalize (rowsN ss t p ps)[i] = x at hx ⊢
      obtain ⟨hw, hs⟩ := hx
      have s7 := hs.1
      simp
      refine Ws_for (n := x.2.length) (fun j e M' => M' = M5 ∧ ∃ o8, e = [some (D.tup [D.tup (nts ss), D.int t, D.int p]), some (.ref c), some (.ref r), some (.tup (nts ss)), some (.int t), some (.int p), some (.str (rowS x.1 (x.2.take j))), some (.tup (nts x.2)), o8, none]) (by simp) ⟨rfl, o8, by simp [rowS, wordsS, join_one]⟩ ?_ ?_
      · rintro j e M' hj ⟨rfl, o8, rfl⟩
        refine ⟨.int x.2[j], _, by simp [hj], rfl, ?_⟩
        have b := hs.2 x.2[j] (List.getElem_mem _)
        have sj : Sml (x.2.take j) := ⟨by simp; omega, fun i hi => hs.2 i (List.mem_of_mem_take hi)⟩
        have rl := row_len hw sj
        have nl := num_len b.1 b.2
        have e2 : rowS x.1 (x.2.take (j + 1)) = rowS x.1 (x.2.take j) ++ " " ++ numS x.2[j] := by
          unfold rowS
          rw [← join_snoc (by simp [wordsS])]
          have e9 : x.2.take (j + 1) = x.2.take j ++ [x.2[j]] := by rw [List.take_succ]; simp [hj]
          rw [e9]
          unfold wordsS
          rw [List.map_append]; rfl
        rw [e2]
        have l1 : (rowS x.1 (x.2.take j) ++ (" " : Str)).length = (rowS x.1 (x.2.take j)).length + 1 := by
          rw [TL.len_tl, TL.tl_append, List.length_append, ← TL.len_tl, ← TL.len_tl, sp_len]
        simp
        refine ⟨by rw [sp_len]; omega, log_sml b.1 b.2, by rw [l1]; omega⟩
      · rintro e M' ⟨rfl, o8, rfl⟩
        refine ⟨by simp, ?_⟩
        rw [List.take_of_length_le (Nat.le_refl _)]
        simp [g5]
        refine ⟨by omega, (f5.more (Y := [r]) (by simp)).trans (Fr.set (by simp)) |>.less (by intro n hn hl; simp at hn; omega), get_set g5, ?_⟩
        rw [List.getElem?_set_ne (by omega)]
        exact k5
    · rintro e M5 ⟨f5, g5, k5, o6, o7, o8, rfl⟩
      refine ⟨by rw [l_lst k5]; simp, ?_⟩
      rw [List.take_of_length_le (Nat.le_refl _)] at g5
      have e2 : ((rowsN ss t p ps).map fun x => D.str (rowS x.1 x.2)) = ((rowsN ss t p ps).map fun x => rowS x.1 x.2).map D.str := by rw [List.map_map]; rfl
      rw [e2] at g5
      have rw_ : ∀ z ∈ (rowsN ss t p ps).map (fun x => rowS x.1 x.2), z.length ≤ 400 := fun z hz => by
        obtain ⟨x, hx, rfl⟩ := List.mem_map.mp hz
        obtain ⟨a, b⟩ := ro x hx
        exact row_len a b
      have q1 := sum_len (b := 400) rw_
      have e3 : ((rowsN ss t p ps).map fun x => rowS x.1 x.2).length = (rowsN ss t p ps).length := by simp
      rw [e3] at q1
      have hq := hQ
      unfold textS at hq
      generalize (rowsN ss t p ps).map (fun x => rowS x.1 x.2) = ys at q1 e3 hq g5 ⊢
      simp [g5]
      rw [strsOf_map]
      simp
      refine ⟨?_, hq _ f5⟩
      rw [nl_len, e3]
      omega
end K82
set_option maxHeartbeats 1000000
namespace K82
open PySem PySem.Spec Pf
open L2 (atI ixN)
theorem env13 {e : Pf.Env} (h : e.length = 13) : ∃ a0 a1 a2 a3 a4 a5 a6 a7 a8 a9 a10 a11 a12, e = [a0, a1, a2, a3, a4, a5, a6, a7, a8, a9, a10, a11, a12] := match e, h with
  | [a0, a1, a2, a3, a4, a5, a6, a7, a8, a9, a10, a11, a12], _ => ⟨a0, a1, a2, a3, a4, a5, a6, a7, a8, a9, a10, a11, a12, rfl⟩
/-- what the law holds of its own text -/
structure Own (ss : List Int) (t p : Int) (ps : List Rn) (z s : Str) : Prop where
  o : LineOk ss t p
  len : ps.length ≤ 8
  tx : Tx 116 z
  rd : readW z = some (t :: p :: ss, ps.map runNs)
  sh : ∀ (M : Mem) (k : Nat), M[k]? = some (.lst (ps.map Rn.d)) → dShown (.tup [lineD ss t p, .ref k]) M = some s
theorem own_shown {ss : List Int} {t p : Int} {ps : List Rn} {z : Str} (hz : Tx 570 z) (h : readW z = some (t :: p :: ss, ps.map runNs)) : ∃ s, ∀ (M : Mem) (k : Nat), M[k]? = some (.lst (ps.map Rn.d)) → dShown (.tup [lineD ss t p, .ref k]) M = some s := by
  obtain ⟨s, hs⟩ := read_shown hz h
  refine ⟨s, fun M k hk => ?_⟩
  have e : ((ps.map runNs).map fun r => D.tup (nts r)) = ps.map Rn.d := by rw [List.map_map]; rfl
  have := hs M k (by rw [e]; exact hk)
  exact this
theorem draw82_ok {n i : Nat} {ns : List Int} {a2 a3 a4 a5 a6 a7 a8 a9 a10 a11 a12 : Option D} {M : Mem} {P : Po} {T : Pf.Env → Ev Out}
    (hQ : ∀ r c ss t p ps z s a6 M', Own ss t p ps z s → M'[c]? = some (.lst (ps.map Rn.d)) → Pt r M' → c ≠ r → Ws (T [some (.frz (ns.map .int)), some (.int (i : Nat)), some (.ref r), some (lineD ss t p), some (.ref c), a5, a6, a7, a8, some (.str z), some (.str s), a11, a12]) M' P) :
    Ws ((fun e => seqB (asgS (tg1 2) (bnd (argL [bnd (argL [getS 0 e, getS 1 e]) fun vs => PH (n + 13) "_law_cell_at" vs]) fun vs => PH (n + 13) "_law_pot" vs) e) fun e => seqB (asgS (tg1 3) (bnd (argL [getS 2 e]) fun vs => PH (n + 13) "_law_line" vs) e) fun e => seqB (asgS (tg1 4) (bnd (bnd (argL [bnd (argL [getS 2 e, Pf.ret (.int 9)]) fun vs => PH (n + 13) "_law_take" vs]) srcW) fun s => lcS s (tg1 6) (fun e => Pf.ret true) (fun e => bnd (argL [getS 2 e, getS 3 e, Pf.ret (.int 50)]) fun vs => PH (n + 13) "_law_run" vs) (wipeE e [6])) e) fun e => seqB (bnd (argL [bnd (argL [getS 3 e, getS 4 e]) fun vs => PH (n + 13) "_law_text" vs, bnd (bnd (argL [getS 3 e, getS 4 e]) newt) dRepr]) (set2 9 10 e)) T) [some (.frz (ns.map .int)), some (.int (i : Nat)), a2, a3, a4, a5, a6, a7, a8, a9, a10, a11, a12]) M P := by
  try simp [-Ws_nx, -Ws_rs]
  refine cell_at_ok (n + 12) ns i M _ _ fun v => ?_
  refine pot_ok fun M1 p1 f1 => ?_
  generalize M.length = r at p1 ⊢
  refine line_ok p1 fun ss t p M2 o p2 f2 => ?_
  try simp [-Ws_nx, -Ws_rs]
  refine take_ok p2 (by decide) (by decide) fun a M3 x0 x1 p3 f3 => ?_
  obtain ⟨m, rfl⟩ := Int.eq_ofNat_of_zero_le x0
  try simp [-Ws_nx, -Ws_rs]
  refine ⟨inR_of (by omega) (by omega), ?_⟩
  refine Wp_lc (n := m) (fun j acc M' => ∃ ws : List Rn, acc = ws.map Rn.d ∧ ws.length = j ∧ (∀ w ∈ ws, w.Ok ss.length ∧ w.t < 50) ∧ Pt r M') (by simp [Src.len]) (by omega) ⟨[], rfl, rfl, by simp, p3⟩ ?_ ?_
  · rintro j acc M4 hj ⟨ws, rfl, hlen, hw, p4⟩
    refine ⟨_, _, a_rng hj, rfl, ?_⟩
    simp [wipeE, -Ws_nx, -Ws_rs]
    refine run_ok o p4 (by decide) (by decide) fun rn M7 or rt p7 f7 => ?_
    refine ⟨ws ++ [rn], by simp, by simp [hlen], fun x hx => ?_, p7⟩
    rcases List.mem_append.mp hx with hx | hx
    · exact hw x hx
    · rw [List.mem_singleton] at hx
      subst hx
      exact ⟨or, rt⟩
  · rintro acc M4 ⟨ws, rfl, hlen, hw, p4⟩
    refine ⟨by simp [Src.len], ?_⟩
    have c5 := get_new (M := M4) (c := .lst (ws.map Rn.d))
    have p5 : Pt r (al M4 (.lst (ws.map Rn.d))) := p4.ad
    have rl := p4.lt
    generalize al M4 (.lst (ws.map Rn.d)) = M5 at c5 p5 ⊢
    generalize M4.length = c at c5 rl ⊢
    have tk : TOk ss ws := ⟨by omega, fun x hx => ⟨(hw x hx).1, by have := (hw x hx).2; omega⟩⟩
    have tx := text_short o tk fun x hx => (hw x hx).2
    have rd := readW_text o tk
    obtain ⟨s, hs⟩ := own_shown (tx.up (by omega)) rd
    try simp [-Ws_nx, -Ws_rs]
    refine law_text_ok (n := n + 12) o tk c5 fun M6 f6 => ?_
    have c6 := f6.at_ c5 (by simp)
    have p6 := p5.fr f6 (by simp)
    try simp [-Ws_nx, -Ws_rs]
    rw [hs _ _ c6]
    try simp [-Ws_nx, -Ws_rs]
    try simp only [Ws_nx]
    exact hQ r c ss t p ws _ s _ M6 ⟨o, by omega, tx, rd, hs⟩ c6 p6 (by omega)
end K82
set_option maxHeartbeats 1000000
namespace K82
open PySem PySem.Spec Pf
open L2 (atI ixN)
theorem w_repl {z p q : Str} {M : Mem} {E : PE0} {Q : PQ D} : Wp (dRepl (.str z) p q) M Q E = (z.length + (z.length + 1) * q.length ≤ 16777216 ∧ Q (.str (Txt.replace z p q)) M) := by
  exact rP_if
theorem repl_tx {N K c : Nat} {z q : Str} (h : Tx N z) (hq : ∀ x ∈ q.cps.toList, x < 0x110000) (hK : q.length ≤ K) : Tx (N + (N + 1) * K) (Txt.replace z ⟨#[c]⟩ q) := by
  have hl := h.len
  refine ⟨?_, fun x hx => ?_⟩
  · have a := TK.replace_len z ⟨#[c]⟩ q
    have b : (z.length + 1) * q.length ≤ (N + 1) * K := Nat.mul_le_mul (by omega) hK
    omega
  · rw [StrLaws.replace_one, ← TL.join_eq, ← tl_def, tl_tjoin] at hx
    rcases joinL_sub hx with hx | ⟨p, hp, hx⟩
    · exact hq x hx
    · obtain ⟨y, hy, rfl⟩ := List.mem_map.mp hp
      exact ((split_tx h (y := ⟨#[c]⟩) rfl).2.2 y hy).ok x hx
theorem lit_tx {N : Nat} {z : Str} (h : (decide (z.length ≤ N) && z.cps.all (· < 0x110000)) = true) : Tx N z := by
  rw [Bool.and_eq_true] at h
  refine ⟨of_decide_eq_true h.1, fun c hc => ?_⟩
  have := Array.all_eq_true'.mp h.2 c (Array.mem_toList_iff.mp hc)
  simpa using this
theorem al_set {M : Mem} {a b : Cell} : (al M a).set M.length b = al M b := by
  unfold al
  rw [List.set_append_right _ _ (Nat.le_refl _)]
  simp
theorem texts82_ok {n r c : Nat} {L : List D} {z s : Str} {a0 a1 a3 a5 a6 a7 a8 a11 a12 : Option D} {M : Mem} {P : Po} {T : Pf.Env → Ev Out} (hz : Tx 116 z) (gc : M[c]? = some (.lst L)) (hpt : Pt r M)
    (hQ : ∀ (x : Nat) (zs : List Str) (M' : Mem), M'[x]? = some (.lst (zs.map D.str)) → (∀ y ∈ zs, Tx 570 y) → zs.length = 12 → M'[c]? = some (.lst L) → Pt r M' → x ≠ r → x ≠ c → Ws (T [a0, a1, some (.ref r), a3, some (.ref c), some (.ref x), a6, a7, a8, some (.str z), some (.str s), a11, a12]) M' P) :
    Ws ((fun e => seqB (asgS (tg1 5) (bnd (argL [bnd (getS 9 e) fun x => bnd (Pf.ret (.str "\n")) fun y => dAdd x y, bnd (Pf.ret (.str "\n")) fun x => bnd (getS 9 e) fun y => dAdd x y, bnd (getS 9 e) fun x => bnd (Pf.ret (.str " ")) fun y => dAdd x y, bnd (Pf.ret (.str "\t")) fun x => bnd (getS 9 e) fun y => dAdd x y, Pf.ret (.str ""), bnd (getS 9 e) fun x => bnd (Pf.ret (.str "\nrun")) fun y => dAdd x y, bnd (getS 9 e) fun x => bnd (Pf.ret (.str "\nrun 0 0 3")) fun y => dAdd x y]) newl) e) fun e => seqB (asgS (tg1 5) (bnd (getS 5 e) fun x => bnd (bnd (argL [bnd (getS 9 e) fun x => dRepl x " " "\t", bnd (getS 9 e) fun x => dRepl x " " "  ", bnd (getS 9 e) fun x => dRepl x "\n" "\n\n", Pf.ret (.str "line")]) newl) fun y => dAdd x y) e) fun e => seqB (bnd (bnd (getS 5 e) fun x => bnd (chkL x) fun _ => bnd (Pf.ret (.str "line 1 1")) fun y => mAppend x y) fun _ => Pf.ret (.nx e)) T) [a0, a1, some (.ref r), a3, some (.ref c), a5, a6, a7, a8, some (.str z), some (.str s), a11, a12]) M P := by
  have zl := hz.len
  have l1 : ("\n" : Str).length = 1 := by decide +kernel
  have l2 : (" " : Str).length = 1 := by decide +kernel
  have l3 : ("\t" : Str).length = 1 := by decide +kernel
  have l4 : ("\nrun" : Str).length = 4 := by decide +kernel
  have l5 : ("\nrun 0 0 3" : Str).length = 10 := by decide +kernel
  have l6 : ("  " : Str).length = 2 := by decide +kernel
  have l7 : ("\n\n" : Str).length = 2 := by decide +kernel
  have t1 : Tx 117 (z ++ ("\n" : Str)) := add_tx hz (lit_tx (N := 1) (by decide +kernel))
  have t2 : Tx 117 (("\n" : Str) ++ z) := (add_tx (lit_tx (N := 1) (by decide +kernel)) hz).up (by omega)
  have t3 : Tx 117 (z ++ (" " : Str)) := add_tx hz (lit_tx (N := 1) (by decide +kernel))
  have t4 : Tx 117 (("\t" : Str) ++ z) := (add_tx (lit_tx (N := 1) (by decide +kernel)) hz).up (by omega)
  have t5 : Tx 10 ("" : Str) := lit_tx (by decide +kernel)
  have t6 : Tx 126 (z ++ ("\nrun" : Str)) := add_tx hz (lit_tx (N := 10) (by decide +kernel))
  have t7 : Tx 126 (z ++ ("\nrun 0 0 3" : Str)) := add_tx hz (lit_tx (N := 10) (by decide +kernel))
  have s1 : (" " : Str) = ⟨#[32]⟩ := by decide +kernel
  have s2 : ("\n" : Str) = ⟨#[10]⟩ := by decide +kernel
  have t8 : Tx 350 (Txt.replace z (" " : Str) ("\t" : Str)) := by
    rw [s1]; exact (repl_tx hz (lit_tx (N := 1) (by decide +kernel)).ok (Nat.le_of_eq l3)).up (by omega)
  have t9 : Tx 350 (Txt.replace z (" " : Str) ("  " : Str)) := by
    rw [s1]; exact (repl_tx hz (lit_tx (N := 2) (by decide +kernel)).ok (Nat.le_of_eq l6)).up (by omega)
  have tA : Tx 350 (Txt.replace z ("\n" : Str) ("\n\n" : Str)) := by
    rw [s2]; exact (repl_tx hz (lit_tx (N := 2) (by decide +kernel)).ok (Nat.le_of_eq l7)).up (by omega)
  have tB : Tx 10 ("line" : Str) := lit_tx (by decide +kernel)
  have tC : Tx 10 ("line 1 1" : Str) := lit_tx (by decide +kernel)
  simp [w_repl, l1, l2, l3, l4, l5, l6, l7, -Ws_nx, -Ws_rs]
  refine ⟨by omega, by omega, by omega, by omega, by omega, by omega, by omega, by omega, ?_⟩
  generalize z ++ ("\n" : Str) = y1 at t1 ⊢
  generalize ("\n" : Str) ++ z = y2 at t2 ⊢
  generalize z ++ (" " : Str) = y3 at t3 ⊢
  generalize ("\t" : Str) ++ z = y4 at t4 ⊢
  generalize z ++ ("\nrun" : Str) = y6 at t6 ⊢
  generalize z ++ ("\nrun 0 0 3" : Str) = y7 at t7 ⊢
  generalize Txt.replace z (" " : Str) ("\t" : Str) = y8 at t8 ⊢
  generalize Txt.replace z (" " : Str) ("  " : Str) = y9 at t9 ⊢
  generalize Txt.replace z ("\n" : Str) ("\n\n" : Str) = yA at tA ⊢
  have rl := hpt.lt
  have cl := lt_of gc
  have key : ∀ M3 : Mem, M3[c]? = some (.lst L) → Pt r M3 → M.length ≤ M3.length → Ws (T [a0, a1, some (.ref r), a3, some (.ref c), some (.ref M3.length), a6, a7, a8, some (.str z), some (.str s), a11, a12]) (al M3 (.lst [.str y1, .str y2, .str y3, .str y4, .str ("" : Str), .str y6, .str y7, .str y8, .str y9, .str yA, .str ("line" : Str), .str ("line 1 1" : Str)])) P := fun M3 g3 p3 hl => by
    refine hQ M3.length [y1, y2, y3, y4, ("" : Str), y6, y7, y8, y9, yA, ("line" : Str), ("line 1 1" : Str)] _ get_new ?_ rfl (get_al g3) p3.ad (by omega) (by omega)
    intro y hy
    simp only [List.mem_cons, List.not_mem_nil, or_false] at hy
    rcases hy with rfl | rfl | rfl | rfl | rfl | rfl | rfl | rfl | rfl | rfl | rfl | rfl
    · exact t1.up (by omega)
    · exact t2.up (by omega)
    · exact t3.up (by omega)
    · exact t4.up (by omega)
    · exact t5.up (by omega)
    · exact t6.up (by omega)
    · exact t7.up (by omega)
    · exact t8.up (by omega)
    · exact t9.up (by omega)
    · exact tA.up (by omega)
    · exact tB.up (by omega)
    · exact tC.up (by omega)
  have g1 := get_new (M := M) (c := .lst [.str y1, .str y2, .str y3, .str y4, .str ("" : Str), .str y6, .str y7])
  have c1 := get_al (c' := .lst [.str y1, .str y2, .str y3, .str y4, .str ("" : Str), .str y6, .str y7]) gc
  have p1 : Pt r (al M (.lst [.str y1, .str y2, .str y3, .str y4, .str ("" : Str), .str y6, .str y7])) := hpt.ad
  have n1 : (al M (.lst [.str y1, .str y2, .str y3, .str y4, .str ("" : Str), .str y6, .str y7])).length = M.length + 1 := al_len
  generalize al M (.lst [.str y1, .str y2, .str y3, .str y4, .str ("" : Str), .str y6, .str y7]) = M1 at g1 c1 p1 n1 ⊢
  generalize M.length = x1 at *
  simp [get_al g1, -Ws_nx, -Ws_rs]
  rw [al_set]
  have K2 := key _ (get_al (c' := .lst [.str y8, .str y9, .str yA, .str ("line" : Str)]) c1) p1.ad (by rw [al_len]; omega)
  try rw [Ws_nx]
  exact K2
end K82
set_option maxHeartbeats 1000000
namespace K82
open PySem PySem.Spec Pf
open L2 (atI ixN)
/-- how long a text may be behind some laps -/
def lapN : Nat → Nat
  | 0 => 116
  | n + 1 => 2 * lapN n + 32
theorem lap82_ok {n r : Nat} {y : Str} {a0 a1 a3 a4 a5 a6 a8 a9 a10 a11 a12 : Option D} {M : Mem} {P : Po} {k : Nat} (k1 : k ≤ 1) (hy : Tx (lapN k) y) (hpt : Pt r M)
    (hQ : ∀ y' M', Tx (lapN (k + 1)) y' → Pt r M' → Fr [r] M M' → P.nx [a0, a1, some (.ref r), a3, a4, a5, a6, some (.str y'), a8, a9, a10, a11, a12] M') :
    Ws ((fun e => seqB (asgS (tg1 7) (bnd (bnd (bnd (argL [Pf.ret (.fn "_law_row_turned"), Pf.ret (.fn "_law_sign_turned")]) newl) fun x => bnd (bnd (argL [getS 2 e, Pf.ret (.int 2)]) fun vs => PH (n + 13) "_law_take" vs) fun y => dIdx x y) fun x => bnd (chkF G0 x) fun f => bnd (argL [getS 2 e, getS 7 e]) fun vs => PH (n + 13) f vs) e) fun e => Pf.ret (.nx e)) [a0, a1, some (.ref r), a3, a4, a5, a6, some (.str y), a8, a9, a10, a11, a12]) M P := by
  have hN : lapN k ≤ 300 := by
    have : k = 0 ∨ k = 1 := by omega
    rcases this with rfl | rfl <;> decide
  have rl := hpt.lt
  simp [-Ws_nx, -Ws_rs]
  have g1 := get_new (M := M) (c := .lst [.fn "_law_row_turned", .fn "_law_sign_turned"])
  have p1 : Pt r (al M (.lst [.fn "_law_row_turned", .fn "_law_sign_turned"])) := hpt.ad
  have f1 : Fr [] M (al M (.lst [.fn "_law_row_turned", .fn "_law_sign_turned"])) := Fr.al
  generalize al M (.lst [.fn "_law_row_turned", .fn "_law_sign_turned"]) = M1 at g1 p1 f1 ⊢
  generalize M.length = x at g1 rl ⊢
  refine take_ok p1 (by decide) (by decide) fun b M2 b0 b1 p2 f2 => ?_
  have g2 := f2.at_ g1 (by simp; omega)
  have F2 := (f1.more (Y := [r]) (by simp)).trans f2
  have hb : b = 0 ∨ b = 1 := by omega
  rcases hb with rfl | rfl
  · simp [g2, -Ws_nx, -Ws_rs]
    refine ⟨by rfl, ?_⟩
    refine lrow_ok (n := n + 11) hy hN p2 fun y' M3 t3 p3 f3 => ?_
    try simp
    exact hQ y' M3 t3 p3 (F2.trans f3)
  · simp [g2, -Ws_nx, -Ws_rs]
    refine ⟨by rfl, ?_⟩
    refine lsign_ok (n := n + 11) hy (by omega) p2 fun y' M3 t3 p3 f3 => ?_
    try simp
    exact hQ y' M3 (t3.up (by simp only [lapN]; omega)) p3 (F2.trans f3)
theorem turn82_ok {n r c x : Nat} {L : List D} {zs : List Str} {z : Str} {a0 a1 a3 a4 a6 a7 a8 a10 a11 a12 : Option D} {M : Mem} {P : Po} (hz : Tx 116 z) (gx : M[x]? = some (.lst (zs.map D.str))) (hzs : ∀ y ∈ zs, Tx 570 y) (hl : zs.length ≤ 100) (gc : M[c]? = some (.lst L)) (hpt : Pt r M) (xr : x ≠ r) (xc : x ≠ c) (cr : c ≠ r)
    (hQ : ∀ (y : Str) o7 o11 M', Tx 570 y → M'[x]? = some (.lst ((zs ++ [y]).map D.str)) → M'[c]? = some (.lst L) → Pt r M' → P.nx [a0, a1, some (.ref r), a3, a4, some (.ref x), a6, o7, a8, some (.str z), a10, o11, a12] M') :
    Ws ((fun e => seqB (asgS (tg1 7) (getS 9 e) e) fun e => seqB (bnd (bnd (argL [bnd (Pf.ret (.int 1)) fun x => bnd (bnd (bnd (argL [getS 2 e, Pf.ret (.int 3)]) fun vs => PH (n + 13) "_law_take" vs) fun x => bnd (Pf.ret (.int 2)) fun y => dDiv x y) fun y => dAdd x y]) srcW) fun s => forS s (tg1 11) (fun e => seqB (asgS (tg1 7) (bnd (bnd (bnd (argL [Pf.ret (.fn "_law_row_turned"), Pf.ret (.fn "_law_sign_turned")]) newl) fun x => bnd (bnd (argL [getS 2 e, Pf.ret (.int 2)]) fun vs => PH (n + 13) "_law_take" vs) fun y => dIdx x y) fun x => bnd (chkF G0 x) fun f => bnd (argL [getS 2 e, getS 7 e]) fun vs => PH (n + 13) f vs) e) fun e => Pf.ret (.nx e)) e) fun e => seqB (bnd (bnd (getS 5 e) fun x => bnd (chkL x) fun _ => bnd (getS 7 e) fun y => mAppend x y) fun _ => Pf.ret (.nx e)) fun e => Pf.ret (.nx e)) [a0, a1, some (.ref r), a3, a4, some (.ref x), a6, a7, a8, some (.str z), a10, a11, a12]) M P := by
  simp [-Ws_nx, -Ws_rs]
  try rw [Ws_nx]
  try simp [-Ws_nx, -Ws_rs]
  refine take_ok hpt (by decide) (by decide) fun b M1 b0 b1 p1 f1 => ?_
  have gx1 := f1.at_ gx (by simp; omega)
  have gc1 := f1.at_ gc (by simp; omega)
  obtain ⟨m, hm, hm2⟩ : ∃ m : Nat, (1 + b / 2 : Int) = m ∧ m ≤ 2 := ⟨(1 + b / 2).toNat, by omega, by omega⟩
  try simp [-Ws_nx, -Ws_rs]
  rw [hm]
  refine ⟨by decide, inR_of (by omega) (by omega), ?_⟩
  refine Ws_for (n := m) (fun j e M' => ∃ y o11, e = [a0, a1, some (.ref r), a3, a4, some (.ref x), a6, some (.str y), a8, some (.str z), a10, o11, a12] ∧ Tx (lapN j) y ∧ Pt r M' ∧ Fr [r] M1 M') (by simp [Src.len]) ⟨z, a11, rfl, hz, p1, Fr.refl⟩ ?_ ?_
  · rintro j e M2 hj ⟨y, o11, rfl, ty, p2, f2⟩
    refine ⟨_, _, a_rng hj, rfl, ?_⟩
    have B := @lap82_ok n r y a0 a1 a3 a4 (some (.ref x)) a6 a8 (some (.str z)) a10
    refine B (by omega) ty p2 ?_
    intro y' M3 t3 p3 f3
    exact ⟨y', _, rfl, t3, p3, f2.trans f3⟩
  · rintro e M2 ⟨y, o11, rfl, ty, p2, f2⟩
    refine ⟨by simp [Src.len], ?_⟩
    have gx2 := f2.at_ gx1 (by simp; omega)
    have gc2 := f2.at_ gc1 (by simp; omega)
    have t2 : Tx 570 y := by
      have hm3 : m = 0 ∨ m = 1 ∨ m = 2 := by omega
      rcases hm3 with rfl | rfl | rfl
      · exact ty.up (by decide)
      · exact ty.up (by decide)
      · exact ty.up (by decide)
    simp [gx2, -Ws_nx, -Ws_rs]
    refine ⟨by omega, ?_⟩
    simp only [Ws_nx]
    refine hQ y _ _ _ t2 ?_ ?_ (p2.elim fun v e => ⟨v, by rw [List.getElem?_set_ne (by omega)]; exact e⟩)
    · simp [lt_of gx2]
    · rw [List.getElem?_set_ne (by omega)]; exact gc2
end K82
set_option maxHeartbeats 1000000
namespace K82
open PySem PySem.Spec Pf
open L2 (atI ixN)
theorem text_word : ∃ w, ∀ M : Mem, dShown (.str ("text" : Str)) M = some w := by
  have d : Dat [] [] 0 0 200000 (.str ("text" : Str)) := dat_str (by decide +kernel) (by decide +kernel)
  obtain ⟨s, _, hs⟩ := d.shown (by omega) (by omega) (by omega)
  refine ⟨s, fun M => ?_⟩
  have := hs [] Fr.refl
  exact this
theorem told_shown {n : Nat} {z : Str} {M : Mem} {E : PE0} {Q : PQ D} (hz : Tx 570 z) {s : Str} (hN : readW z = none → dShown (.str "text") [] = some s) (hY : ∀ ns rs, readW z = some (ns, rs) → ∀ (M' : Mem) (k : Nat), M'[k]? = some (.lst (rs.map fun r => .tup (nts r))) → dShown (.tup [lnD ns, .ref k]) M' = some s)
    (hQ : ∀ d M', Fr [] M M' → dShown d M' = some s → Q d M') : Wp (PH (n + 7) "_law_told" [.str z]) M Q E :=
  ltold_ok hz (fun h M1 f1 => hQ _ _ f1 (by
    have := hN h
    exact this)) fun ns rs h k M1 f1 lk g1 => hQ _ _ f1 (hY ns rs h M1 k g1)
theorem comp82_ok {n c : Nat} {ss : List Int} {t p : Int} {ps : List Rn} {z s y : Str} {a0 a1 a2 a3 a4 a5 a6 a8 a11 a12 : Option D} {M : Mem} {P : Po} (ho : Own ss t p ps z s) (hy : Tx 570 y)
    (hQ : ∀ o12 M', Fr [] M M' → P.nx [a0, a1, a2, a3, a4, a5, a6, some (.str y), a8, some (.str z), some (.str s), a11, o12] M') :
    Ws ((fun e => seqB (asgS (tg1 12) (bnd (argL [getS 7 e]) fun vs => PH (n + 13) "_law_reads" vs) e) fun e => seqB (ifS (bnd (bnd (getS 12 e) (isE false .none)) toB) (seqB (asgS (tg1 12) (Pf.ret (.str "text")) e) fun e => Pf.ret (.nx e)) (Pf.ret (.nx e))) fun e => seqB (ifS (orT (bnd (bnd (bnd (bnd (argL [getS 7 e]) fun vs => PH (n + 13) "_law_told" vs) dRepr) fun x => bnd (bnd (getS 12 e) dRepr) fun y => dCmp .NotEq x y) toB) (bnd (bnd (bnd (bnd (argL [getS 9 e]) fun vs => PH (n + 13) "_law_told" vs) dRepr) fun x => bnd (getS 10 e) fun y => dCmp .NotEq x y) toB)) (seqB (bnd (Pf.ret (.bl false)) fun d => Pf.ret (.rt d)) fun e => Pf.ret (.nx e)) (Pf.ret (.nx e))) fun e => Pf.ret (.nx e)) [a0, a1, a2, a3, a4, a5, a6, some (.str y), a8, some (.str z), some (.str s), a11, a12]) M P := by
  have own : ∀ (M1 : Mem) (E : PE0) (Q : PQ D), (∀ d M', Fr [] M1 M' → dShown d M' = some s → Q d M') → Wp (PH (n + 13) "_law_told" [.str z]) M1 Q E := fun M1 E Q h => by
    refine told_shown (n := n + 6) (ho.tx.up (by omega)) (fun h => ?_) (fun ns rs h M' k g => ?_) h
    · rw [ho.rd] at h; cases h
    · rw [ho.rd] at h
      cases h
      have e : ((ps.map runNs).map fun r => D.tup (nts r)) = ps.map Rn.d := by rw [List.map_map]; rfl
      rw [e] at g
      exact ho.sh M' k g
  simp [-Ws_nx, -Ws_rs]
  refine lreads_ok (n := n + 8) hy (fun hr M1 f1 => ?_) fun ns rs hr k M1 f1 lk g1 => ?_
  · simp [dIs, -Ws_nx, -Ws_rs]
    rw [Ws_nx]
    obtain ⟨w, hw⟩ : ∃ w, ∀ M : Mem, dShown (.str ("text" : Str)) M = some w := text_word
    simp [-Ws_nx, -Ws_rs]
    refine told_shown (n := n + 6) hy (s := w) (fun _ => hw _) (fun ns rs h => by rw [hr] at h; cases h) fun d M2 f2 e2 => ?_
    simp [e2, hw, -Ws_nx, -Ws_rs]
    refine own M2 _ _ fun d M3 f3 e3 => ?_
    simp [e3]
    exact hQ _ _ ((f1.trans f2).trans f3)
  · simp [dIs, -Ws_nx, -Ws_rs]
    try rw [Ws_nx]
    obtain ⟨w, hw⟩ := read_shown hy hr
    try simp [-Ws_nx, -Ws_rs]
    refine told_shown (n := n + 6) hy (s := w) (fun h => by rw [hr] at h; cases h) (fun ns' rs' h M' k' g' => ?_) fun d M2 f2 e2 => ?_
    · rw [hr] at h
      cases h
      exact hw M' k' g'
    · have g2 := f2.at_ g1 (by simp)
      simp [e2, hw M2 k g2, -Ws_nx, -Ws_rs]
      refine own M2 _ _ fun d M3 f3 e3 => ?_
      simp [e3]
      exact hQ _ _ ((f1.trans f2).trans f3)
theorem odd82_ok {n : Nat} {d : D} {a0 a1 a2 a3 a4 a5 a6 a7 a9 a10 a11 a12 : Option D} {M : Mem} {P : Po} (hd : dIsi d "str" M = some false)
    (hQ : P.nx [a0, a1, a2, a3, a4, a5, a6, a7, some d, a9, a10, a11, a12] M) :
    Ws ((fun e => seqB (ifS (bnd (bnd (bnd (argL [getS 8 e]) fun vs => PH (n + 13) "_law_told" vs) fun x => bnd (Pf.ret (.str "text")) fun y => dCmp .NotEq x y) toB) (seqB (bnd (Pf.ret (.bl false)) fun d => Pf.ret (.rt d)) fun e => Pf.ret (.nx e)) (Pf.ret (.nx e))) fun e => Pf.ret (.nx e)) [a0, a1, a2, a3, a4, a5, a6, a7, some d, a9, a10, a11, a12]) M P := by
  simp [-Ws_nx, -Ws_rs]
  refine ltold_odd (n := n + 6) hd ?_
  simp
  exact hQ
end K82
set_option maxHeartbeats 1000000
namespace K82
open PySem PySem.Spec Pf
open L2 (atI ixN)
theorem loopA82_ok {n r c : Nat} {L : List D} {x : Nat} {zs : List Str} {z : Str} {a0 a1 a3 a6 a7 a8 a10 a11 a12 : Option D} {M : Mem} {P : Po} {T : Pf.Env → Ev Out} (hz : Tx 116 z) (gx : M[x]? = some (.lst (zs.map D.str))) (hzs : ∀ y ∈ zs, Tx 570 y) (hl : zs.length = 12) (gc : M[c]? = some (.lst L)) (hpt : Pt r M) (xr : x ≠ r) (xc : x ≠ c) (cr : c ≠ r)
    (hQ : ∀ (zs : List Str) o6 o7 o11 M', M'[x]? = some (.lst (zs.map D.str)) → (∀ y ∈ zs, Tx 570 y) → zs.length = 26 → M'[c]? = some (.lst L) → Ws (T [a0, a1, some (.ref r), a3, some (.ref c), some (.ref x), o6, o7, a8, some (.str z), a10, o11, a12]) M' P) :
    Ws ((fun e => seqB (bnd (bnd (argL [Pf.ret (.int 14)]) srcW) fun s => forS s (tg1 6) (fun e => seqB (asgS (tg1 7) (getS 9 e) e) fun e => seqB (bnd (bnd (argL [bnd (Pf.ret (.int 1)) fun x => bnd (bnd (bnd (argL [getS 2 e, Pf.ret (.int 3)]) fun vs => PH (n + 13) "_law_take" vs) fun x => bnd (Pf.ret (.int 2)) fun y => dDiv x y) fun y => dAdd x y]) srcW) fun s => forS s (tg1 11) (fun e => seqB (asgS (tg1 7) (bnd (bnd (bnd (argL [Pf.ret (.fn "_law_row_turned"), Pf.ret (.fn "_law_sign_turned")]) newl) fun x => bnd (bnd (argL [getS 2 e, Pf.ret (.int 2)]) fun vs => PH (n + 13) "_law_take" vs) fun y => dIdx x y) fun x => bnd (chkF G0 x) fun f => bnd (argL [getS 2 e, getS 7 e]) fun vs => PH (n + 13) f vs) e) fun e => Pf.ret (.nx e)) e) fun e => seqB (bnd (bnd (getS 5 e) fun x => bnd (chkL x) fun _ => bnd (getS 7 e) fun y => mAppend x y) fun _ => Pf.ret (.nx e)) fun e => Pf.ret (.nx e)) e) T) [a0, a1, some (.ref r), a3, some (.ref c), some (.ref x), a6, a7, a8, some (.str z), a10, a11, a12]) M P := by
  simp [-Ws_nx, -Ws_rs]
  refine ⟨inR_of (by decide) (by decide), ?_⟩
  refine Ws_for (n := 14) (fun j e M' => ∃ zs' : List Str, ∃ o6 o7 o11, e = [a0, a1, some (.ref r), a3, some (.ref c), some (.ref x), o6, o7, a8, some (.str z), a10, o11, a12] ∧ M'[x]? = some (.lst (zs'.map D.str)) ∧ (∀ y ∈ zs', Tx 570 y) ∧ zs'.length = 12 + j ∧ M'[c]? = some (.lst L) ∧ Pt r M') (by simp [Src.len]) ⟨zs, a6, a7, a11, rfl, gx, hzs, hl, gc, hpt⟩ ?_ ?_
  · rintro j e M2 hj ⟨zs', o6, o7, o11, rfl, gx2, hz2, hl2, gc2, p2⟩
    refine ⟨_, _, a_rng hj, rfl, ?_⟩
    have B := @turn82_ok n r c x L zs' z a0 a1 a3 (some (.ref c)) (some (.int (0 + (j : Int) * 1))) o7 a8 a10 o11 a12 M2
    refine B hz gx2 hz2 (by omega) gc2 p2 xr xc cr ?_
    intro y o7 o11 M3 ty g3 c3 p3
    exact ⟨zs' ++ [y], _, o7, o11, rfl, g3, fun q hq => by
      rcases List.mem_append.mp hq with h | h
      · exact hz2 q h
      · rw [List.mem_singleton] at h; subst h; exact ty, by simp; omega, c3, p3⟩
  · rintro e M2 ⟨zs', o6, o7, o11, rfl, gx2, hz2, hl2, gc2, p2⟩
    exact ⟨by simp [Src.len], hQ zs' o6 o7 o11 M2 gx2 hz2 hl2 gc2⟩
theorem loopB82_ok {n x : Nat} {ss : List Int} {t p : Int} {ps : List Rn} {zs : List Str} {z s : Str} {a0 a1 a2 a3 a4 a6 a7 a8 a11 a12 : Option D} {M : Mem} {P : Po} {T : Pf.Env → Ev Out} (ho : Own ss t p ps z s) (gx : M[x]? = some (.lst (zs.map D.str))) (hzs : ∀ y ∈ zs, Tx 570 y) (hl : zs.length = 26)
    (hQ : ∀ o7 o12 M', Fr [] M M' → Ws (T [a0, a1, a2, a3, a4, some (.ref x), a6, o7, a8, some (.str z), some (.str s), a11, o12]) M' P) :
    Ws ((fun e => seqB (bnd (bnd (getS 5 e) srcOf) fun s => forS s (tg1 7) (fun e => seqB (asgS (tg1 12) (bnd (argL [getS 7 e]) fun vs => PH (n + 13) "_law_reads" vs) e) fun e => seqB (ifS (bnd (bnd (getS 12 e) (isE false .none)) toB) (seqB (asgS (tg1 12) (Pf.ret (.str "text")) e) fun e => Pf.ret (.nx e)) (Pf.ret (.nx e))) fun e => seqB (ifS (orT (bnd (bnd (bnd (bnd (argL [getS 7 e]) fun vs => PH (n + 13) "_law_told" vs) dRepr) fun x => bnd (bnd (getS 12 e) dRepr) fun y => dCmp .NotEq x y) toB) (bnd (bnd (bnd (bnd (argL [getS 9 e]) fun vs => PH (n + 13) "_law_told" vs) dRepr) fun x => bnd (getS 10 e) fun y => dCmp .NotEq x y) toB)) (seqB (bnd (Pf.ret (.bl false)) fun d => Pf.ret (.rt d)) fun e => Pf.ret (.nx e)) (Pf.ret (.nx e))) fun e => Pf.ret (.nx e)) e) T) [a0, a1, a2, a3, a4, some (.ref x), a6, a7, a8, some (.str z), some (.str s), a11, a12]) M P := by
  simp [gx, -Ws_nx, -Ws_rs]
  refine Ws_for (n := 26) (fun j e M' => ∃ o7 o12, e = [a0, a1, a2, a3, a4, some (.ref x), a6, o7, a8, some (.str z), some (.str s), a11, o12] ∧ Fr [] M M') (by rw [l_lst gx]; simp [hl]) ⟨a7, a12, rfl, Fr.refl⟩ ?_ ?_
  · rintro j e M2 hj ⟨o7, o12, rfl, f2⟩
    have gx2 := f2.at_ gx (by simp)
    have hj2 : j < zs.length := by omega
    refine ⟨.str zs[j], _, by rw [a_lst gx2]; simp [hj2], rfl, ?_⟩
    have B := @comp82_ok n 0 ss t p ps z s zs[j] a0 a1 a2 a3 a4 (some (.ref x)) a6 a8 a11 o12 M2
    refine B ho (hzs _ (List.getElem_mem _)) ?_
    intro o12 M3 f3
    exact ⟨_, o12, rfl, f2.trans f3⟩
  · rintro e M2 ⟨o7, o12, rfl, f2⟩
    have gx2 := f2.at_ gx (by simp)
    exact ⟨by rw [l_lst gx2]; simp [hl], hQ o7 o12 M2 f2⟩
theorem loopC82_ok {n : Nat} {ss : List Int} {t p : Int} {z : Str} {a0 a1 a2 a4 a5 a6 a7 a8 a10 a11 a12 : Option D} {M : Mem} {P : Po}
    (hQ : ∀ e' M', e'.length = 13 → e'[0]? = some a0 → P.nx e' M') :
    Ws ((fun e => seqB (bnd (bnd (bnd (argL [Pf.ret (.non), Pf.ret (.bl true), Pf.ret (.int 3), bnd (argL [getS 9 e]) newl, bnd (argL [getS 9 e]) newt, bnd (getS 9 e) fun x => newD [(.inl 0, x)], bnd (argL []) newl, getS 3 e]) newl) srcOf) fun s => forS s (tg1 8) (fun e => seqB (ifS (bnd (bnd (bnd (argL [getS 8 e]) fun vs => PH (n + 13) "_law_told" vs) fun x => bnd (Pf.ret (.str "text")) fun y => dCmp .NotEq x y) toB) (seqB (bnd (Pf.ret (.bl false)) fun d => Pf.ret (.rt d)) fun e => Pf.ret (.nx e)) (Pf.ret (.nx e))) fun e => Pf.ret (.nx e)) e) fun e => Pf.ret (.nx e)) [a0, a1, a2, some (lineD ss t p), a4, a5, a6, a7, a8, some (.str z), a10, a11, a12]) M P := by
  simp [-Ws_nx, -Ws_rs]
  have ga := get_al (c' := .lst []) (get_al (c' := .dct [(Sum.inl 0, D.str z)]) (get_new (M := M) (c := .lst [D.str z])))
  have gb := get_al (c' := .lst []) (get_new (M := al M (.lst [D.str z])) (c := .dct [(Sum.inl 0, D.str z)]))
  have gc := get_new (M := al (al M (.lst [D.str z])) (.dct [(Sum.inl 0, D.str z)])) (c := .lst [])
  generalize al (al (al M (.lst [D.str z])) (.dct [(Sum.inl 0, D.str z)])) (.lst []) = M3 at ga gb gc ⊢
  generalize (al (al M (.lst [D.str z])) (.dct [(Sum.inl 0, D.str z)])).length = c at gc ⊢
  generalize (al M (.lst [D.str z])).length = b at gb ⊢
  generalize M.length = a at ga ⊢
  generalize hds : [D.non, D.bl true, D.int 3, D.ref a, D.tup [D.str z], D.ref b, D.ref c, lineD ss t p] = ds
  have hl : ds.length = 8 := by rw [← hds]; rfl
  have ga2 := get_al (c' := .lst ds) ga
  have gb2 := get_al (c' := .lst ds) gb
  have gc2 := get_al (c' := .lst ds) gc
  have gx := get_new (M := M3) (c := .lst ds)
  generalize al M3 (.lst ds) = M4 at ga2 gb2 gc2 gx ⊢
  generalize M3.length = x at gx ⊢
  have odd : ∀ d ∈ ds, dIsi d "str" M4 = some false := fun d hd => by
    rw [← hds] at hd
    simp only [List.mem_cons, List.not_mem_nil, or_false] at hd
    rcases hd with rfl | rfl | rfl | rfl | rfl | rfl | rfl | rfl
    · rfl
    · rfl
    · rfl
    · unfold dIsi dTy; simp only [ga2]; rfl
    · rfl
    · unfold dIsi dTy; simp only [gb2]; rfl
    · unfold dIsi dTy; simp only [gc2]; rfl
    · rfl
  refine Ws_for (n := 8) (fun j e M' => M' = M4 ∧ ∃ o8, e = [a0, a1, a2, some (lineD ss t p), a4, a5, a6, a7, o8, some (.str z), a10, a11, a12]) (by rw [l_lst gx, hl]) ⟨rfl, a8, rfl⟩ ?_ ?_
  · rintro j e M' hj ⟨rfl, o8, rfl⟩
    have hj2 : j < ds.length := by omega
    refine ⟨ds[j], _, by rw [a_lst gx]; simp [hj2], rfl, ?_⟩
    have B := @odd82_ok n ds[j] a0 a1 a2 (some (lineD ss t p)) a4 a5 a6 a7 (some (.str z)) a10 a11 a12 M'
    refine B (odd _ (List.getElem_mem _)) ?_
    exact ⟨rfl, _, rfl⟩
  · rintro e M' ⟨rfl, o8, rfl⟩
    refine ⟨by rw [l_lst gx, hl], ?_⟩
    simp only [Ws_nx]
    exact hQ _ _ rfl rfl
theorem turnK82_ok {n i0 : Nat} {ns : List Int} {a2 a3 a4 a5 a6 a7 a8 a9 a10 a11 a12 : Option D} {M : Mem} {P : Po}
    (hQ : ∀ e' M', e'.length = 13 → e'[0]? = some (some (.frz (ns.map .int))) → P.nx e' M') :
    Ws ((fun e => seqB (asgS (tg1 2) (bnd (argL [bnd (argL [getS 0 e, getS 1 e]) fun vs => PH (n + 13) "_law_cell_at" vs]) fun vs => PH (n + 13) "_law_pot" vs) e) fun e => seqB (asgS (tg1 3) (bnd (argL [getS 2 e]) fun vs => PH (n + 13) "_law_line" vs) e) fun e => seqB (asgS (tg1 4) (bnd (bnd (argL [bnd (argL [getS 2 e, Pf.ret (.int 9)]) fun vs => PH (n + 13) "_law_take" vs]) srcW) fun s => lcS s (tg1 6) (fun e => Pf.ret true) (fun e => bnd (argL [getS 2 e, getS 3 e, Pf.ret (.int 50)]) fun vs => PH (n + 13) "_law_run" vs) (wipeE e [6])) e) fun e => seqB (bnd (argL [bnd (argL [getS 3 e, getS 4 e]) fun vs => PH (n + 13) "_law_text" vs, bnd (bnd (argL [getS 3 e, getS 4 e]) newt) dRepr]) (set2 9 10 e)) fun e => seqB (asgS (tg1 5) (bnd (argL [bnd (getS 9 e) fun x => bnd (Pf.ret (.str "\n")) fun y => dAdd x y, bnd (Pf.ret (.str "\n")) fun x => bnd (getS 9 e) fun y => dAdd x y, bnd (getS 9 e) fun x => bnd (Pf.ret (.str " ")) fun y => dAdd x y, bnd (Pf.ret (.str "\t")) fun x => bnd (getS 9 e) fun y => dAdd x y, Pf.ret (.str ""), bnd (getS 9 e) fun x => bnd (Pf.ret (.str "\nrun")) fun y => dAdd x y, bnd (getS 9 e) fun x => bnd (Pf.ret (.str "\nrun 0 0 3")) fun y => dAdd x y]) newl) e) fun e => seqB (asgS (tg1 5) (bnd (getS 5 e) fun x => bnd (bnd (argL [bnd (getS 9 e) fun x => dRepl x " " "\t", bnd (getS 9 e) fun x => dRepl x " " "  ", bnd (getS 9 e) fun x => dRepl x "\n" "\n\n", Pf.ret (.str "line")]) newl) fun y => dAdd x y) e) fun e => seqB (bnd (bnd (getS 5 e) fun x => bnd (chkL x) fun _ => bnd (Pf.ret (.str "line 1 1")) fun y => mAppend x y) fun _ => Pf.ret (.nx e)) fun e => seqB (bnd (bnd (argL [Pf.ret (.int 14)]) srcW) fun s => forS s (tg1 6) (fun e => seqB (asgS (tg1 7) (getS 9 e) e) fun e => seqB (bnd (bnd (argL [bnd (Pf.ret (.int 1)) fun x => bnd (bnd (bnd (argL [getS 2 e, Pf.ret (.int 3)]) fun vs => PH (n + 13) "_law_take" vs) fun x => bnd (Pf.ret (.int 2)) fun y => dDiv x y) fun y => dAdd x y]) srcW) fun s => forS s (tg1 11) (fun e => seqB (asgS (tg1 7) (bnd (bnd (bnd (argL [Pf.ret (.fn "_law_row_turned"), Pf.ret (.fn "_law_sign_turned")]) newl) fun x => bnd (bnd (argL [getS 2 e, Pf.ret (.int 2)]) fun vs => PH (n + 13) "_law_take" vs) fun y => dIdx x y) fun x => bnd (chkF G0 x) fun f => bnd (argL [getS 2 e, getS 7 e]) fun vs => PH (n + 13) f vs) e) fun e => Pf.ret (.nx e)) e) fun e => seqB (bnd (bnd (getS 5 e) fun x => bnd (chkL x) fun _ => bnd (getS 7 e) fun y => mAppend x y) fun _ => Pf.ret (.nx e)) fun e => Pf.ret (.nx e)) e) fun e => seqB (bnd (bnd (getS 5 e) srcOf) fun s => forS s (tg1 7) (fun e => seqB (asgS (tg1 12) (bnd (argL [getS 7 e]) fun vs => PH (n + 13) "_law_reads" vs) e) fun e => seqB (ifS (bnd (bnd (getS 12 e) (isE false .none)) toB) (seqB (asgS (tg1 12) (Pf.ret (.str "text")) e) fun e => Pf.ret (.nx e)) (Pf.ret (.nx e))) fun e => seqB (ifS (orT (bnd (bnd (bnd (bnd (argL [getS 7 e]) fun vs => PH (n + 13) "_law_told" vs) dRepr) fun x => bnd (bnd (getS 12 e) dRepr) fun y => dCmp .NotEq x y) toB) (bnd (bnd (bnd (bnd (argL [getS 9 e]) fun vs => PH (n + 13) "_law_told" vs) dRepr) fun x => bnd (getS 10 e) fun y => dCmp .NotEq x y) toB)) (seqB (bnd (Pf.ret (.bl false)) fun d => Pf.ret (.rt d)) fun e => Pf.ret (.nx e)) (Pf.ret (.nx e))) fun e => Pf.ret (.nx e)) e) fun e => seqB (bnd (bnd (bnd (argL [Pf.ret (.non), Pf.ret (.bl true), Pf.ret (.int 3), bnd (argL [getS 9 e]) newl, bnd (argL [getS 9 e]) newt, bnd (getS 9 e) fun x => newD [(.inl 0, x)], bnd (argL []) newl, getS 3 e]) newl) srcOf) fun s => forS s (tg1 8) (fun e => seqB (ifS (bnd (bnd (bnd (argL [getS 8 e]) fun vs => PH (n + 13) "_law_told" vs) fun x => bnd (Pf.ret (.str "text")) fun y => dCmp .NotEq x y) toB) (seqB (bnd (Pf.ret (.bl false)) fun d => Pf.ret (.rt d)) fun e => Pf.ret (.nx e)) (Pf.ret (.nx e))) fun e => Pf.ret (.nx e)) e) fun e => Pf.ret (.nx e)) [some (.frz (ns.map .int)), some (.int (i0 : Nat)), a2, a3, a4, a5, a6, a7, a8, a9, a10, a11, a12]) M P := by
  refine draw82_ok ?_
  intro r c ss t p ps z s a6 M1 ho gc p1 cr
  refine texts82_ok (n := n) ho.tx gc p1 ?_
  intro x zs M2 gx hzs hl gc2 p2 xr xc
  have A := @loopA82_ok n r c (ps.map Rn.d) x zs z (some (.frz (ns.map .int))) (some (.int (i0 : Nat))) (some (lineD ss t p)) a6 a7 a8 (some (.str s)) a11 a12 M2
  refine A ho.tx gx hzs hl gc2 p2 xr xc cr ?_
  intro zs3 o6 o7 o11 M3 g3 hz3 hl3 c3
  have B := @loopB82_ok n x ss t p ps zs3 z s (some (.frz (ns.map .int))) (some (.int (i0 : Nat))) (some (.ref r)) (some (lineD ss t p)) (some (.ref c)) o6 o7 a8 o11 a12 M3
  refine B ho g3 hz3 hl3 ?_
  intro o7 o12 M4 f4
  have C := @loopC82_ok n ss t p z (some (.frz (ns.map .int))) (some (.int (i0 : Nat))) (some (.ref r)) (some (.ref c)) (some (.ref x)) o6 o7 a8 (some (.str s)) o11 o12 M4 P
  exact C hQ
theorem law_ok (ns : List Int) (hl : ns.length ≤ 63) : Wp (PH 100 "law" [.frz (ns.map .int)]) [] (fun d _ => d = .bl true) (fun _ _ => False) := by
  rw [q_law 99]
  simp [g_law, List.replicate_succ]
  refine ⟨inR_of (by split <;> split <;> omega) (by split <;> split <;> omega), ?_⟩
  refine Ws_for (fun i e M => e.length = 13 ∧ e[0]? = some (some (.frz (ns.map .int)))) l_rng ⟨rfl, rfl⟩ ?_ ?_
  · rintro i0 e M hi ⟨hle, he0⟩
    obtain ⟨a0, a1', a2, a3, a4, a5, a6, a7, a8, a9, a10, a11, a12, rfl⟩ := env13 hle
    simp at he0
    subst he0
    refine ⟨_, _, a_rng hi, rfl, ?_⟩
    have e1 : (0 + (i0 : Int) * 1) = ((i0 : Nat) : Int) := by omega
    rw [e1]
    have B := @turnK82_ok 86 i0 ns a2 a3 a4 a5 a6 a7 a8 a9 a10 a11 a12 M
    refine B ?_
    intro e' M' h1 h2
    exact ⟨h1, h2⟩
  · rintro e M ⟨hle, he0⟩
    exact ⟨rfl, by simp⟩
theorem fin0 : rw0.Holds := end0 fun ns hn => by
  obtain ⟨a, M, e, rfl⟩ := (law_ok ns hn).ok
  exact ⟨M, e⟩
end K82
theorem PySem.Challenge.cw_puffline_k82_texts_bent_anywhere_holds : PySem.Challenge.rw_puffline_k82_texts_bent_anywhere.Holds := by
  exact K82.fin0
