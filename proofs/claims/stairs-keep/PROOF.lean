import PyProof.Rows.All
import Wide.All
import OpenK.AllK
import Wide.FinOn
import HandS.ForMost
import HandS.Deep
import HandS.SetFor
import PyProof.MaxThree
import PyProof.DictUpdate
import KE.KDictPairs
import KE.SortData
import HandS.Slots
import HandS.Star
import HandS.IterVal
import HandS.OwnIter
import HandS.DictComp
import HandS.Walk
import HandS.Conv
import HandS.TupSets
import KE.KeyNested
import HandS.TupAny
import HandS.TupLen
import HandS.Zip
import HandS.IsInst
import HandS.WordsDict
import HandS.Style
import HandS.More
import PySem.Challenge.RW_fewstamps_k63_whole_what_the_stairs_keep
set_option Elab.async false
set_option linter.all false
set_option maxRecDepth 100000
set_option maxHeartbeats 4000000
/-! FsA: immutable data over the abstract heap, and what expressions evaluate to. -/
namespace Fs
open PySem PySem.Spec L2

/-! ### tuples stay -/
def Tp (H H' : Hp) : Prop := ∀ a xs, H a = some (.tup xs) → H' a = some (.tup xs)
theorem Tp.refl (H : Hp) : Tp H H := fun _ _ h => h
theorem Tp.trans {H H1 H2 : Hp} (a : Tp H H1) (b : Tp H1 H2) : Tp H H2 := fun x o h => b x o (a x o h)
theorem _root_.L2.Same.tp {H H' : Hp} (e : Same H H') : Tp H H' := fun a xs h => e a _ h
theorem tp_upd {H : Hp} {a : Addr} {o : HO} (h : ∀ xs, H a ≠ some (.tup xs)) : Tp H (upd H a o) := fun b xs e => by
  rw [upd_ne (fun z => by rw [z] at e; exact h _ e)]
  exact e
theorem tp_lst {H : Hp} {a : Addr} {o : HO} {xs : List V} (h : H a = some (.lst xs)) : Tp H (upd H a o) := tp_upd fun ys e => by rw [h] at e; cases e
theorem tp_dT {H : Hp} {a : Addr} {o : HO} {kvs : List (List Key × V)} (h : H a = some (.dT kvs)) : Tp H (upd H a o) := tp_upd fun ys e => by rw [h] at e; cases e
theorem tp_dK {H : Hp} {a : Addr} {o : HO} {kvs : List (Key × V)} (h : H a = some (.dK kvs)) : Tp H (upd H a o) := tp_upd fun ys e => by rw [h] at e; cases e
theorem same_new {H : Hp} {a : Addr} {o : HO} (h : H a = none) : Same H (upd H a o) := fun b u e => by
  rw [upd_ne (ne_of_none e h)]
  exact e
/-- an object that H does not know may change -/
theorem same_mut {H H' : Hp} {p : Addr} {o : HO} (e : Same H H') (h : H p = none) : Same H (upd H' p o) := fun a u ha => by
  rw [upd_ne (ne_of_none ha h)]
  exact e a u ha

/-! ### immutable data -/
mutual
def Im (H : Hp) : PyData → V → Prop
  | .none, v => v = .non
  | .bool b, v => v = .bl b
  | .int i, v => v = .int i
  | .str x, v => v = .str x
  | .tuple ds, v => ∃ a xs, v = .ref a ∧ H a = some (.tup xs) ∧ ImL H ds xs
  | .list _, _ => False
  | .dict _, _ => False
def ImL (H : Hp) : List PyData → List V → Prop
  | [], xs => xs = []
  | d :: ds, xs => ∃ x r, xs = x :: r ∧ Im H d x ∧ ImL H ds r
end
mutual
theorem Im.mono {H H' : Hp} (t : Tp H H') : ∀ (d : PyData) (v : V), Im H d v → Im H' d v
  | .none, _, h => h
  | .bool _, _, h => h
  | .int _, _, h => h
  | .str _, _, h => h
  | .tuple ds, _, ⟨a, xs, e, h, r⟩ => ⟨a, xs, e, t a xs h, ImL.mono t ds xs r⟩
  | .list _, _, h => h
  | .dict _, _, h => h
theorem ImL.mono {H H' : Hp} (t : Tp H H') : ∀ (ds : List PyData) (xs : List V), ImL H ds xs → ImL H' ds xs
  | [], _, h => h
  | d :: ds, _, ⟨x, r, e, h1, h2⟩ => ⟨x, r, e, Im.mono t d x h1, ImL.mono t ds r h2⟩
end
theorem Im.up {H H' : Hp} {d : PyData} {v : V} (h : Im H d v) (t : Tp H H') : Im H' d v := Im.mono t d v h
theorem ImL.up {H H' : Hp} {ds : List PyData} {vs : List V} (h : ImL H ds vs) (t : Tp H H') : ImL H' ds vs := ImL.mono t ds vs h
theorem Im.sm {H H' : Hp} {d : PyData} {v : V} (h : Im H d v) (t : Same H H') : Im H' d v := h.up t.tp
theorem ImL.sm {H H' : Hp} {ds : List PyData} {vs : List V} (h : ImL H ds vs) (t : Same H H') : ImL H' ds vs := h.up t.tp
mutual
theorem Im.dp (K : PySem.W.Frag) {H : Hp} : ∀ (d : PyData) (v : V), Im H d v → Dp K H v d
  | .none, _, h => by cases h; exact .non
  | .bool _, _, h => by cases h; exact .bl _
  | .int _, _, h => by cases h; exact .int _
  | .str _, _, h => by cases h; exact .str _
  | .tuple ds, _, ⟨_, xs, e, h, r⟩ => by subst e; exact .tup (SqT.of h) (ImL.dp K ds xs r)
  | .list _, _, h => h.elim
  | .dict _, _, h => h.elim
theorem ImL.dp (K : PySem.W.Frag) {H : Hp} : ∀ (ds : List PyData) (vs : List V), ImL H ds vs → DpAll K H vs ds
  | [], _, h => by cases h; exact .nil
  | d :: ds, _, ⟨x, r, e, h1, h2⟩ => by subst e; exact .cons (Im.dp K d x h1) (ImL.dp K ds r h2)
end
theorem ImL.len {H : Hp} : ∀ {ds : List PyData} {xs : List V}, ImL H ds xs → xs.length = ds.length
  | [], _, h => by cases h; rfl
  | d :: ds, _, ⟨x, r, e, _, h2⟩ => by subst e; simp [ImL.len h2]
theorem ImL.get {H : Hp} : ∀ {ds : List PyData} {xs : List V} {i : Nat} {d : PyData}, ImL H ds xs → ds[i]? = some d → ∃ x, xs[i]? = some x ∧ Im H d x
  | [], _, _, _, _, e => by simp at e
  | d :: ds, _, 0, _, ⟨x, r, e, h1, _⟩, e2 => by
    subst e
    simp at e2
    subst e2
    exact ⟨x, rfl, h1⟩
  | d :: ds, _, i + 1, _, ⟨x, r, e, _, h2⟩, e2 => by
    subst e
    obtain ⟨y, a, b⟩ := ImL.get (i := i) h2 (by simpa using e2)
    exact ⟨y, by simpa using a, b⟩
theorem ImL.got {H : Hp} : ∀ {ds : List PyData} {xs : List V} {i : Nat} {x : V}, ImL H ds xs → xs[i]? = some x → ∃ d, ds[i]? = some d ∧ Im H d x
  | [], _, _, _, h, e => by cases h; simp at e
  | d :: ds, _, 0, _, ⟨x, r, e, h1, _⟩, e2 => by
    subst e
    simp at e2
    subst e2
    exact ⟨d, rfl, h1⟩
  | d :: ds, _, i + 1, _, ⟨x, r, e, _, h2⟩, e2 => by
    subst e
    obtain ⟨y, a, b⟩ := ImL.got (i := i) h2 (by simpa using e2)
    exact ⟨y, by simpa using a, b⟩
theorem ImL.app {H : Hp} : ∀ {ds es : List PyData} {xs ys : List V}, ImL H ds xs → ImL H es ys → ImL H (ds ++ es) (xs ++ ys)
  | [], _, _, _, h, h' => by cases h; exact h'
  | d :: ds, _, _, _, ⟨x, r, e, h1, h2⟩, h' => by subst e; exact ⟨x, _, rfl, h1, ImL.app h2 h'⟩
theorem ImL.one {H : Hp} {d : PyData} {x : V} (h : Im H d x) : ImL H [d] [x] := ⟨x, [], rfl, h, rfl⟩
theorem ImL.snoc {H : Hp} {ds : List PyData} {xs : List V} {d : PyData} {x : V} (h : ImL H ds xs) (h' : Im H d x) : ImL H (ds ++ [d]) (xs ++ [x]) := h.app (.one h')
theorem ImL.take {H : Hp} : ∀ {ds : List PyData} {xs : List V} (n : Nat), ImL H ds xs → ImL H (ds.take n) (xs.take n)
  | _, _, 0, _ => rfl
  | [], _, _ + 1, h => by cases h; rfl
  | d :: ds, _, n + 1, ⟨x, r, e, h1, h2⟩ => by subst e; exact ⟨x, _, rfl, h1, ImL.take n h2⟩
theorem ImL.drop {H : Hp} : ∀ {ds : List PyData} {xs : List V} (n : Nat), ImL H ds xs → ImL H (ds.drop n) (xs.drop n)
  | _, _, 0, h => h
  | [], _, _ + 1, h => by cases h; rfl
  | d :: ds, _, n + 1, ⟨x, r, e, h1, h2⟩ => by subst e; exact ImL.drop n h2
theorem ImL.of_get {H : Hp} : ∀ {ds : List PyData} {xs : List V}, xs.length = ds.length → (∀ (i : Nat) (d : PyData) (x : V), ds[i]? = some d → xs[i]? = some x → Im H d x) → ImL H ds xs
  | [], [], _, _ => rfl
  | [], _ :: _, h, _ => by cases h
  | _ :: _, [], h, _ => by cases h
  | d :: ds, x :: xs, h, k => ⟨x, xs, rfl, k 0 d x rfl rfl, ImL.of_get (Nat.succ.inj h) fun i a b h1 h2 => k (i + 1) a b (by simpa using h1) (by simpa using h2)⟩
theorem ImL.eraseIdx {H : Hp} : ∀ {ds : List PyData} {xs : List V} (n : Nat), ImL H ds xs → ImL H (ds.eraseIdx n) (xs.eraseIdx n)
  | [], _, _, h => by cases h; rfl
  | d :: ds, _, 0, ⟨x, r, e, h1, h2⟩ => by subst e; exact h2
  | d :: ds, _, n + 1, ⟨x, r, e, h1, h2⟩ => by subst e; exact ⟨x, _, rfl, h1, ImL.eraseIdx n h2⟩
theorem Im.tup {H : Hp} {a : Addr} {ds : List PyData} {xs : List V} (h : H a = some (.tup xs)) (r : ImL H ds xs) : Im H (.tuple ds) (.ref a) := ⟨a, xs, rfl, h, r⟩

/-- a list of immutable data -/
def Ls (H : Hp) (ds : List PyData) (v : V) : Prop := ∃ l xs, v = .ref l ∧ H l = some (.lst xs) ∧ ImL H ds xs
theorem Ls.sm {H H' : Hp} {ds : List PyData} {v : V} (h : Ls H ds v) (t : Same H H') : Ls H' ds v := by
  obtain ⟨l, xs, e, h, r⟩ := h
  exact ⟨l, xs, e, t _ _ h, r.sm t⟩
theorem Ls.dp (K : PySem.W.Frag) {H : Hp} {ds : List PyData} {v : V} (h : Ls H ds v) : Dp K H v (.list ds) := by
  obtain ⟨l, xs, rfl, h, r⟩ := h
  exact .lst (SqL.of h) (r.dp K)

/-! ### results: what is said of a value, kept while the heap grows -/
abbrev Rs := Hp → V → Prop
class Mo (R : Rs) : Prop where
  mo : ∀ {H H' : Hp} {v : V}, Same H H' → R H v → R H' v
def rX (x : V) : Rs := fun _ v => v = x
def rI (d : PyData) : Rs := fun H v => Im H d v
def rL (ds : List PyData) : Rs := fun H v => Ls H ds v
instance {x : V} : Mo (rX x) := ⟨fun _ h => h⟩
instance {d : PyData} : Mo (rI d) := ⟨fun e h => Im.sm h e⟩
instance {ds : List PyData} : Mo (rL ds) := ⟨fun e h => Ls.sm h e⟩
def EvR (te : TE) (σ : St) (H : Hp) (R : Rs) : Prop := ∀ H1, Same H H1 → ∀ Q : VK, (∀ v H2, Same H1 H2 → R H2 v → Q v H2) → te σ H1 Q
def EvIs (ta : TA) (σ : St) (H : Hp) (ds : List PyData) : Prop := ∀ H1, Same H H1 → ∀ Q : List V → Hp → Prop, (∀ vs H2, Same H1 H2 → ImL H2 ds vs → Q vs H2) → ta σ H1 Q
def EvB (tt : TT) (σ : St) (H : Hp) (b : Bool) : Prop := ∀ H1, Same H H1 → ∀ Q : Bool → Hp → Prop, (∀ H2, Same H1 H2 → Q b H2) → tt σ H1 Q
def EvO (to : TO) (σ : St) (H : Hp) (o : Option Int) : Prop := ∀ H1, Same H H1 → ∀ Q : Option Int → Hp → Prop, (∀ H2, Same H1 H2 → Q o H2) → to σ H1 Q

section
variable {K : PySem.W.Frag} {σ : St} {H H' : Hp} {ta tb tc te tx : TE} {t u : TT} {x y z v : V} {R S T U : Rs} {r : R2} {d e : PyData} {ds es : List PyData}
theorem EvR.go (h : EvR te σ H R) {Q : VK} (k : ∀ v H2, Same H H2 → R H2 v → Q v H2) : te σ H Q := h H (Same.refl H) Q k
theorem EvB.go {b : Bool} (h : EvB t σ H b) {Q : Bool → Hp → Prop} (k : ∀ H2, Same H H2 → Q b H2) : t σ H Q := h H (Same.refl H) Q k
theorem EvR.mono (e : Same H H') (h : EvR te σ H R) : EvR te σ H' R := fun H1 a Q q => h H1 (e.trans a) Q q
theorem EvB.mono {b : Bool} (e : Same H H') (h : EvB t σ H b) : EvB t σ H' b := fun H1 a Q q => h H1 (e.trans a) Q q
theorem EvR.imp (h : EvR te σ H R) (k : ∀ H2 v, Same H H2 → R H2 v → S H2 v) : EvR te σ H S := fun H1 e Q q => h H1 e Q fun v H2 e2 r => q v H2 e2 (k H2 v (e.trans e2) r)
theorem EvB.is {b c : Bool} (h : EvB t σ H b) (e : b = c) : EvB t σ H c := e ▸ h
theorem EvR.isI (h : EvR te σ H (rI d)) (q : d = e) : EvR te σ H (rI e) := q ▸ h
theorem EvR.isL (h : EvR te σ H (rL ds)) (q : ds = es) : EvR te σ H (rL es) := q ▸ h
theorem e_var {i : Nat} [Mo R] (h : σ[i]? = some (some v)) (r : R H v) : EvR (tVar i) σ H R := fun H1 e Q q => ⟨v, h, q v H1 (Same.refl H1) (Mo.mo e r)⟩
theorem e_x : EvR (tC v) σ H (rX v) := fun H1 _ _ q => q v H1 (Same.refl H1) rfl
theorem e_int {i : Int} : EvR (tC (.int i)) σ H (rI (.int i)) := fun H1 _ _ q => q _ H1 (Same.refl H1) rfl
theorem e_str {i : Str} : EvR (tC (.str i)) σ H (rI (.str i)) := fun H1 _ _ q => q _ H1 (Same.refl H1) rfl
theorem e_bl {i : Bool} : EvR (tC (.bl i)) σ H (rI (.bool i)) := fun H1 _ _ q => q _ H1 (Same.refl H1) rfl
theorem e_op [Mo R] (ha : EvR ta σ H R) (hb : EvR tb σ H S) (hr : ∀ x y H1, Same H H1 → R H1 x → S H1 y → ∀ Q : VK, (∀ v H2, Same H1 H2 → T H2 v → Q v H2) → r x y H1 Q) : EvR (tOp r ta tb) σ H T := fun H1 e Q q =>
  ha H1 e _ fun x H2 e2 hx => hb H2 (e.trans e2) _ fun y H3 e3 hy => hr x y H3 ((e.trans e2).trans e3) (Mo.mo e3 hx) hy Q fun v H4 e4 hv => q v H4 ((e2.trans e3).trans e4) hv
theorem e_un {r : V → Hp → VK → Prop} (ha : EvR ta σ H R) (hr : ∀ x H1, Same H H1 → R H1 x → ∀ Q : VK, (∀ v H2, Same H1 H2 → T H2 v → Q v H2) → r x H1 Q) : EvR (tUn r ta) σ H T := fun H1 e Q q =>
  ha H1 e _ fun x H2 e2 hx => hr x H2 (e.trans e2) hx Q fun v H4 e4 hv => q v H4 (e2.trans e4) hv
/-- numbers -/
theorem e_i0 {g : Int → Int → V} {i j : Int} (ha : EvR ta σ H (rI (.int i))) (hb : EvR tb σ H (rI (.int j))) (hg : ∀ H1, Im H1 d (g i j)) : EvR (tOp (rI0 g) ta tb) σ H (rI d) :=
  e_op ha hb fun x y H1 _ hx hy Q q => ⟨i, j, hx, hy, q _ H1 (Same.refl H1) (hg H1)⟩
theorem e_add {i j : Int} (ha : EvR ta σ H (rI (.int i))) (hb : EvR tb σ H (rI (.int j))) : EvR (tOp (rI0 fun i j => .int (i + j)) ta tb) σ H (rI (.int (i + j))) := e_i0 ha hb fun _ => rfl
theorem e_sub {i j : Int} (ha : EvR ta σ H (rI (.int i))) (hb : EvR tb σ H (rI (.int j))) : EvR (tOp (rI0 fun i j => .int (i - j)) ta tb) σ H (rI (.int (i - j))) := e_i0 ha hb fun _ => rfl
theorem e_iC {C : Int → Int → Prop} {g : Int → Int → V} {i j : Int} (ha : EvR ta σ H (rI (.int i))) (hb : EvR tb σ H (rI (.int j))) (hC : C i j) (hg : ∀ H1, Im H1 d (g i j)) : EvR (tOp (L2.rI C g) ta tb) σ H (rI d) :=
  e_op ha hb fun x y H1 _ hx hy Q q => ⟨i, j, hx, hy, hC, q _ H1 (Same.refl H1) (hg H1)⟩
theorem e_neg {i : Int} (ha : EvR ta σ H (rI (.int i))) : EvR (tUn (rU fun i => .int (-i)) ta) σ H (rI (.int (-i))) := e_un ha fun x H1 _ hx Q q => ⟨i, hx, q _ H1 (Same.refl H1) rfl⟩
/-- == and != of scalars -/
theorem e_eq (ha : EvR ta σ H (rX x)) (hb : EvR tb σ H (rX y)) (h : scal x y = true) : EvR (tOp rEq ta tb) σ H (rI (.bool (decide (x = y)))) :=
  e_op ha hb fun _ _ H1 _ hx hy Q q => ⟨by rw [hx, hy]; exact h, by rw [hx, hy]; exact q _ H1 (Same.refl H1) rfl⟩
theorem e_ne (ha : EvR ta σ H (rX x)) (hb : EvR tb σ H (rX y)) (h : scal x y = true) : EvR (tOp rNe ta tb) σ H (rI (.bool (!decide (x = y)))) :=
  e_op ha hb fun _ _ H1 _ hx hy Q q => ⟨by rw [hx, hy]; exact h, by rw [hx, hy]; exact q _ H1 (Same.refl H1) rfl⟩
theorem EvR.xi {i : Int} (h : EvR te σ H (rI (.int i))) : EvR te σ H (rX (.int i)) := h
theorem EvR.xs {i : Str} (h : EvR te σ H (rI (.str i))) : EvR te σ H (rX (.str i)) := h
theorem EvR.xb {i : Bool} (h : EvR te σ H (rI (.bool i))) : EvR te σ H (rX (.bl i)) := h
theorem EvR.ix {i : Int} (h : EvR te σ H (rX (.int i))) : EvR te σ H (rI (.int i)) := h
theorem EvR.sx {i : Str} (h : EvR te σ H (rX (.str i))) : EvR te σ H (rI (.str i)) := h
theorem EvR.bx {i : Bool} (h : EvR te σ H (rX (.bl i))) : EvR te σ H (rI (.bool i)) := h
/-- anything that Dp speaks of -/
class Dt (R : Rs) (d : outParam PyData) : Prop where
  dt : ∀ {K : PySem.W.Frag} {H : Hp} {v : V}, R H v → Dp K H v d
instance {d : PyData} : Dt (rI d) d := ⟨fun h => Im.dp _ _ _ h⟩
instance {ds : List PyData} : Dt (rL ds) (.list ds) := ⟨fun h => Ls.dp _ h⟩
theorem e_eqD [Mo R] [Dt R d] [Dt S e] (ha : EvR ta σ H R) (hb : EvR tb σ H S) (s1 : SeqAt.shaped d = true) (s2 : SeqAt.shaped e = true) : EvR (tOp (rEqD K) ta tb) σ H (rI (.bool (PyData.eqv d e))) :=
  e_op ha hb fun _ _ H1 _ hx hy Q q => ⟨d, e, Dt.dt hx, Dt.dt hy, s1, s2, q _ H1 (Same.refl H1) rfl⟩
theorem e_neD [Mo R] [Dt R d] [Dt S e] (ha : EvR ta σ H R) (hb : EvR tb σ H S) (s1 : SeqAt.shaped d = true) (s2 : SeqAt.shaped e = true) : EvR (tOp (rNeD K) ta tb) σ H (rI (.bool (!PyData.eqv d e))) :=
  e_op ha hb fun _ _ H1 _ hx hy Q q => ⟨d, e, Dt.dt hx, Dt.dt hy, s1, s2, q _ H1 (Same.refl H1) rfl⟩
theorem e_inD (ha : EvR ta σ H (rI d)) (hb : EvR tb σ H (rL ds)) (s1 : SeqAt.shaped d = true) (s2 : SeqAt.shaped (.list ds) = true) : EvR (tOp (rInD K) ta tb) σ H (rI (.bool (ds.any fun z => PyData.eqv z d))) :=
  e_op ha hb fun _ _ H1 _ hx hy Q q => ⟨d, ds, Im.dp _ _ _ hx, Ls.dp _ hy, s1, s2, q _ H1 (Same.refl H1) rfl⟩
theorem e_ninD (ha : EvR ta σ H (rI d)) (hb : EvR tb σ H (rL ds)) (s1 : SeqAt.shaped d = true) (s2 : SeqAt.shaped (.list ds) = true) : EvR (tOp (rNotInD K) ta tb) σ H (rI (.bool (!ds.any fun z => PyData.eqv z d))) :=
  e_op ha hb fun _ _ H1 _ hx hy Q q => ⟨d, ds, Im.dp _ _ _ hx, Ls.dp _ hy, s1, s2, q _ H1 (Same.refl H1) rfl⟩
/-- items -/
theorem ixN_lt {n : Nat} {i : Int} {j : Nat} (h : ixN n i = some j) : j < n := by
  unfold ixN at h
  split at h
  · split at h
    · cases h; omega
    · cases h
  · split at h
    · cases h; omega
    · cases h
theorem imL_at {H : Hp} {ds : List PyData} {xs : List V} {i : Int} (r : ImL H ds xs) (h : atI ds i = some d) : ∃ x, atI xs i = some x ∧ Im H d x := by
  unfold atI at h ⊢
  rw [r.len]
  cases e : ixN ds.length i with
  | none => rw [e] at h; cases h
  | some j =>
    rw [e] at h
    exact r.get h
theorem e_ixT {i : Int} (ha : EvR ta σ H (rI (.tuple ds))) (hb : EvR tb σ H (rI (.int i))) (h : atI ds i = some d) : EvR (tOp (rIxT K) ta tb) σ H (rI d) :=
  e_op ha hb fun x y H1 _ hx hy Q q => by
    obtain ⟨a, xs, rfl, ho, r⟩ := hx
    obtain ⟨z, hz, hd⟩ := imL_at r h
    exact ⟨a, xs, i, z, rfl, hy, SqT.of ho, hz, q z H1 (Same.refl H1) hd⟩
theorem e_ixL {i : Int} (ha : EvR ta σ H (rL ds)) (hb : EvR tb σ H (rI (.int i))) (h : atI ds i = some d) : EvR (tOp (rIxL K) ta tb) σ H (rI d) :=
  e_op ha hb fun x y H1 _ hx hy Q q => by
    obtain ⟨a, xs, rfl, ho, r⟩ := hx
    obtain ⟨z, hz, hd⟩ := imL_at r h
    exact ⟨a, xs, i, z, rfl, hy, SqL.of ho, hz, q z H1 (Same.refl H1) hd⟩
/-- displays -/
theorem a_nil : EvIs tNil σ H [] := fun H1 _ _ q => q [] H1 (Same.refl H1) rfl
theorem a_cons {tr : TA} (h : EvR ta σ H (rI d)) (hr : EvIs tr σ H ds) : EvIs (tCons ta tr) σ H (d :: ds) := fun H1 e Q q =>
  h H1 e _ fun x H2 e2 hx => hr H2 (e.trans e2) _ fun xs H3 e3 hxs => q _ H3 (e2.trans e3) ⟨x, xs, rfl, Im.sm hx e3, hxs⟩
theorem len_ok {n : Nat} (h : n ≤ 100000) : n ≤ sizeLine := Nat.le_trans h (by decide)
theorem len_lt {n : Nat} (h : n < 100000) : n < sizeLine := Nat.lt_of_lt_of_le h (by decide)
theorem e_tup {t : TA} (h : EvIs t σ H ds) (hl : ds.length ≤ 100000) : EvR (tTup t) σ H (rI (.tuple ds)) := fun H1 e Q q =>
  h H1 e _ fun vs H2 e2 r => ⟨len_ok (by rw [r.len]; exact hl), fun p hp => q _ _ (e2.trans (same_new hp)) (Im.tup upd_same (r.sm (same_new hp)))⟩
theorem e_lst {t : TA} (h : EvIs t σ H ds) (hl : ds.length ≤ 100000) : EvR (tLst t) σ H (rL ds) := fun H1 e Q q =>
  h H1 e _ fun vs H2 e2 r => ⟨len_ok (by rw [r.len]; exact hl), fun p hp => q _ _ (e2.trans (same_new hp)) ⟨p, vs, rfl, upd_same, r.sm (same_new hp)⟩⟩
/-- a list, its items behind others -/
theorem e_cat (ha : EvR ta σ H (rL ds)) (hb : EvR tb σ H (rL es)) (hl : ds.length + es.length ≤ 100000) : EvR (tOp rCat ta tb) σ H (rL (ds ++ es)) :=
  e_op ha hb fun x y H1 _ hx hy Q q => by
    obtain ⟨a, xs, rfl, ho, r⟩ := hx
    obtain ⟨b, ys, rfl, ho', r'⟩ := hy
    refine ⟨a, b, xs, ys, rfl, rfl, ho, ho', len_ok (by rw [r.len, r'.len]; exact hl), fun p hp => q _ _ (same_new hp) ⟨p, _, rfl, upd_same, (r.app r').sm (same_new hp)⟩⟩
/-- calls of built-ins -/
theorem e_cb1 {r : List V → Hp → VK → Prop} (ha : EvR ta σ H R) (hr : ∀ x H1, Same H H1 → R H1 x → ∀ Q : VK, (∀ v H2, Same H1 H2 → T H2 v → Q v H2) → r [x] H1 Q) : EvR (tCB r (tCons ta tNil)) σ H T := fun H1 e Q q =>
  ha H1 e _ fun x H2 e2 hx => hr x H2 (e.trans e2) hx Q fun v H4 e4 hv => q v H4 (e2.trans e4) hv
theorem e_cb2 {r : List V → Hp → VK → Prop} [Mo R] (ha : EvR ta σ H R) (hb : EvR tb σ H S) (hr : ∀ x y H1, Same H H1 → R H1 x → S H1 y → ∀ Q : VK, (∀ v H2, Same H1 H2 → T H2 v → Q v H2) → r [x, y] H1 Q) : EvR (tCB r (tCons ta (tCons tb tNil))) σ H T := fun H1 e Q q =>
  ha H1 e _ fun x H2 e2 hx => hb H2 (e.trans e2) _ fun y H3 e3 hy => hr x y H3 ((e.trans e2).trans e3) (Mo.mo e3 hx) hy Q fun v H4 e4 hv => q v H4 ((e2.trans e3).trans e4) hv
/-- calls of defs -/
theorem e_call1 {sp : Sp} {E : XK} (ha : EvR ta σ H R) (hr : ∀ x H1, Same H H1 → R H1 x → ∀ Q : VK, (∀ v H2, Same H1 H2 → T H2 v → Q v H2) → sp [x] H1 Q E) : EvR (tCall sp [] E (tCons ta tNil)) σ H T := fun H1 e Q q =>
  ha H1 e _ fun x H2 e2 hx => hr x H2 (e.trans e2) hx Q fun v H4 e4 hv => q v H4 (e2.trans e4) hv
theorem e_call2 {sp : Sp} {E : XK} [Mo R] (ha : EvR ta σ H R) (hb : EvR tb σ H S) (hr : ∀ x y H1, Same H H1 → R H1 x → S H1 y → ∀ Q : VK, (∀ v H2, Same H1 H2 → T H2 v → Q v H2) → sp [x, y] H1 Q E) : EvR (tCall sp [] E (tCons ta (tCons tb tNil))) σ H T := fun H1 e Q q =>
  ha H1 e _ fun x H2 e2 hx => hb H2 (e.trans e2) _ fun y H3 e3 hy => hr x y H3 ((e.trans e2).trans e3) (Mo.mo e3 hx) hy Q fun v H4 e4 hv => q v H4 ((e2.trans e3).trans e4) hv
theorem e_call3 {sp : Sp} {E : XK} [Mo R] [Mo S] (ha : EvR ta σ H R) (hb : EvR tb σ H S) (hc : EvR tc σ H U) (hr : ∀ x y z H1, Same H H1 → R H1 x → S H1 y → U H1 z → ∀ Q : VK, (∀ v H2, Same H1 H2 → T H2 v → Q v H2) → sp [x, y, z] H1 Q E) :
    EvR (tCall sp [] E (tCons ta (tCons tb (tCons tc tNil)))) σ H T := fun H1 e Q q =>
  ha H1 e _ fun x H2 e2 hx => hb H2 (e.trans e2) _ fun y H3 e3 hy => hc H3 ((e.trans e2).trans e3) _ fun z H4 e4 hz =>
    hr x y z H4 (((e.trans e2).trans e3).trans e4) (Mo.mo (e3.trans e4) hx) (Mo.mo e4 hy) hz Q fun v H5 e5 hv => q v H5 (((e2.trans e3).trans e4).trans e5) hv
def rLenS (K : PySem.W.Frag) : List V → Hp → VK → Prop := fun xs H Q => ∃ p ys, xs = [.ref p] ∧ (SqL K H p ys ∨ SqT K H p ys) ∧ Q (.int ys.length) H
def rListS (K : PySem.W.Frag) : List V → Hp → VK → Prop := fun xs H Q => ∃ p ys, xs = [.ref p] ∧ (SqL K H p ys ∨ SqT K H p ys) ∧ ∀ l, H l = none → Q (.ref l) (upd H l (.lst ys))
def rTupS (K : PySem.W.Frag) : List V → Hp → VK → Prop := fun xs H Q => ∃ p ys, xs = [.ref p] ∧ ((SqL K H p ys ∧ ∀ l, H l = none → Q (.ref l) (upd H l (.tup ys))) ∨ (SqT K H p ys ∧ Q (.ref p) H))
theorem e_lenL (ha : EvR ta σ H (rL ds)) : EvR (tCB (rLenS K) (tCons ta tNil)) σ H (rI (.int (ds.length : Int))) := e_cb1 ha fun x H1 _ hx Q q => by
  obtain ⟨a, xs, rfl, ho, r⟩ := hx
  exact ⟨a, xs, rfl, .inl (SqL.of ho), q _ H1 (Same.refl H1) (by rw [r.len]; rfl)⟩
theorem e_lenT (ha : EvR ta σ H (rI (.tuple ds))) : EvR (tCB (rLenS K) (tCons ta tNil)) σ H (rI (.int (ds.length : Int))) := e_cb1 ha fun x H1 _ hx Q q => by
  obtain ⟨a, xs, rfl, ho, r⟩ := hx
  exact ⟨a, xs, rfl, .inr (SqT.of ho), q _ H1 (Same.refl H1) (by rw [r.len]; rfl)⟩
theorem e_listL (ha : EvR ta σ H (rL ds)) : EvR (tCB (rListS K) (tCons ta tNil)) σ H (rL ds) := e_cb1 ha fun x H1 _ hx Q q => by
  obtain ⟨a, xs, rfl, ho, r⟩ := hx
  exact ⟨a, xs, rfl, .inl (SqL.of ho), fun l hl => q _ _ (same_new hl) ⟨l, xs, rfl, upd_same, r.sm (same_new hl)⟩⟩
theorem e_tupL (ha : EvR ta σ H (rL ds)) : EvR (tCB (rTupS K) (tCons ta tNil)) σ H (rI (.tuple ds)) := e_cb1 ha fun x H1 _ hx Q q => by
  obtain ⟨a, xs, rfl, ho, r⟩ := hx
  exact ⟨a, xs, rfl, .inl ⟨SqL.of ho, fun l hl => q _ _ (same_new hl) (Im.tup upd_same (r.sm (same_new hl)))⟩⟩
theorem imL_bools {H : Hp} : ∀ {bs : List Bool} {xs : List V}, ImL H (bs.map PyData.bool) xs → xs = bs.map V.bl
  | [], _, h => h
  | b :: bs, _, ⟨x, r, e, h1, h2⟩ => by rw [e, imL_bools h2, h1]; rfl
theorem imL_ints {H : Hp} : ∀ {bs : List Int} {xs : List V}, ImL H (bs.map PyData.int) xs → xs = bs.map V.int
  | [], _, h => h
  | b :: bs, _, ⟨x, r, e, h1, h2⟩ => by rw [e, imL_ints h2, h1]; rfl
theorem imL_strs {H : Hp} : ∀ {bs : List Str} {xs : List V}, ImL H (bs.map PyData.str) xs → xs = bs.map V.str
  | [], _, h => h
  | b :: bs, _, ⟨x, r, e, h1, h2⟩ => by rw [e, imL_strs h2, h1]; rfl
theorem ints_imL {H : Hp} : ∀ {bs : List Int}, ImL H (bs.map PyData.int) (bs.map V.int)
  | [] => rfl
  | b :: bs => ⟨_, _, rfl, rfl, ints_imL⟩
theorem e_all {bs : List Bool} (ha : EvR ta σ H (rL (bs.map PyData.bool))) : EvR (tCB (rAll K) (tCons ta tNil)) σ H (rI (.bool (bs.all id))) := e_cb1 ha fun x H1 _ hx Q q => by
  obtain ⟨a, xs, rfl, ho, r⟩ := hx
  exact ⟨a, bs, rfl, by rw [← imL_bools r]; exact SqL.of ho, q _ H1 (Same.refl H1) rfl⟩
theorem e_any {bs : List Bool} (ha : EvR ta σ H (rL (bs.map PyData.bool))) : EvR (tCB (rAny K) (tCons ta tNil)) σ H (rI (.bool (bs.any id))) := e_cb1 ha fun x H1 _ hx Q q => by
  obtain ⟨a, xs, rfl, ho, r⟩ := hx
  exact ⟨a, bs, rfl, by rw [← imL_bools r]; exact SqL.of ho, q _ H1 (Same.refl H1) rfl⟩
theorem e_sum {bs : List Int} (ha : EvR ta σ H (rL (bs.map PyData.int))) : EvR (tCB (rSum K) (tCons ta tNil)) σ H (rI (.int bs.sum)) := e_cb1 ha fun x H1 _ hx Q q => by
  obtain ⟨a, xs, rfl, ho, r⟩ := hx
  exact ⟨a, bs, rfl, by rw [← imL_ints r]; exact SqL.of ho, q _ H1 (Same.refl H1) rfl⟩
/-- slices -/
theorem o_none : EvO tNoPart σ H none := fun H1 _ _ q => q H1 (Same.refl H1)
theorem o_some {i : Int} (h : EvR te σ H (rI (.int i))) : EvO (tPart te) σ H (some i) := fun H1 e _ q => h H1 e _ fun x H2 e2 hx => ⟨i, hx, q H2 e2⟩
def cutD (xs : List PyData) (lo hi : Option Int) : List PyData := (xs.drop (HT.sIx xs.length 0 lo)).take (HT.sIx xs.length xs.length hi - HT.sIx xs.length 0 lo)
theorem imL_cut {H : Hp} {ds : List PyData} {xs : List V} (r : ImL H ds xs) (lo hi : Option Int) : ImL H (cutD ds lo hi) (cutV xs lo hi) := by
  unfold cutD cutV
  rw [r.len]
  exact (r.drop _).take _
theorem e_slL {tl th : TO} {lo hi : Option Int} (h : EvR te σ H (rL ds)) (h1 : EvO tl σ H lo) (h2 : EvO th σ H hi) : EvR (tSl (rSlL K) te tl th) σ H (rL (cutD ds lo hi)) := fun H1 e _ q =>
  h H1 e _ fun x H2 e2 hx => h1 H2 (e.trans e2) _ fun H3 e3 => h2 H3 ((e.trans e2).trans e3) _ fun H4 e4 => by
    obtain ⟨a, xs, rfl, ho, r⟩ := hx
    have e24 := e3.trans e4
    exact ⟨a, xs, rfl, SqL.of (e24 _ _ ho), fun p hp => q _ _ ((e2.trans e24).trans (same_new hp)) ⟨p, _, rfl, upd_same, imL_cut (r.sm (e24.trans (same_new hp))) _ _⟩⟩

/-! ### tests -/
theorem b_test {b : Bool} (h : EvR te σ H (rI (.bool b))) : EvB (tTest te) σ H b := fun H1 e _ q => h H1 e _ fun x H2 e2 hx => ⟨b, hx, q H2 e2⟩
theorem b_B {b : Bool} (h : EvR te σ H (rI (.bool b))) : EvB (tB te) σ H b := fun H1 e _ q => h H1 e _ fun x H2 e2 hx => ⟨b, hx, q H2 e2⟩
theorem b_yes : EvB tYes σ H true := fun H1 _ _ q => q H1 (Same.refl H1)
theorem b_and {a b : Bool} (h1 : EvB t σ H a) (h2 : a = true → EvB u σ H b) : EvB (tAnd t u) σ H (a && b) := fun H1 e Q q => h1 H1 e _ fun H2 e2 => by
  cases a with
  | true => exact h2 rfl H2 (e.trans e2) Q fun H3 e3 => q H3 (e2.trans e3)
  | false => exact q H2 e2
theorem b_or {a b : Bool} (h1 : EvB t σ H a) (h2 : a = false → EvB u σ H b) : EvB (tOr t u) σ H (a || b) := fun H1 e Q q => h1 H1 e _ fun H2 e2 => by
  cases a with
  | true => exact q H2 e2
  | false => exact h2 rfl H2 (e.trans e2) Q fun H3 e3 => q H3 (e2.trans e3)
theorem b_not {a : Bool} (h1 : EvB t σ H a) : EvB (tNot t) σ H (!a) := fun H1 e _ q => h1 H1 e _ fun H2 e2 => q H2 e2
theorem e_andV {a b : Bool} (h1 : EvR ta σ H (rI (.bool a))) (h2 : a = true → EvR tb σ H (rI (.bool b))) : EvR (tAndV ta tb) σ H (rI (.bool (a && b))) := fun H1 e Q q => h1 H1 e _ fun x H2 e2 hx => ⟨a, hx, by
  cases a with
  | true => exact h2 rfl H2 (e.trans e2) Q fun v H3 e3 => q v H3 (e2.trans e3)
  | false => exact q _ H2 e2 rfl⟩
theorem e_orV {a b : Bool} (h1 : EvR ta σ H (rI (.bool a))) (h2 : a = false → EvR tb σ H (rI (.bool b))) : EvR (tOrV ta tb) σ H (rI (.bool (a || b))) := fun H1 e Q q => h1 H1 e _ fun x H2 e2 hx => ⟨a, hx, by
  cases a with
  | true => exact q _ H2 e2 rfl
  | false => exact h2 rfl H2 (e.trans e2) Q fun v H3 e3 => q v H3 (e2.trans e3)⟩
theorem e_notV {a : Bool} (h1 : EvR ta σ H (rI (.bool a))) : EvR (tNotV ta) σ H (rI (.bool (!a))) := fun H1 e Q q => h1 H1 e _ fun x H2 e2 hx => ⟨a, hx, q _ H2 e2 rfl⟩
theorem e_if {b : Bool} (h : EvB t σ H b) (h1 : b = true → EvR ta σ H R) (h2 : b = false → EvR tb σ H R) : EvR (tIf t ta tb) σ H R := fun H1 e Q q => h H1 e _ fun H2 e2 => by
  cases b with
  | true => exact h1 rfl H2 (e.trans e2) Q fun v H3 e3 => q v H3 (e2.trans e3)
  | false => exact h2 rfl H2 (e.trans e2) Q fun v H3 e3 => q v H3 (e2.trans e3)

/-! ### statements -/
variable {D : Ends} {tu tw tz : TS} {g : TG}
theorem s_set {i : Nat} (h : EvR te σ H R) (k : ∀ v H1, Same H H1 → R H1 v → D.nx (σ.set i (some v)) H1) : tAsg te (gName i) D σ H := h.go fun v H1 e r => k v H1 e r
theorem q_set {i : Nat} (h : EvR te σ H R) (k : ∀ v H1, Same H H1 → R H1 v → tz D (σ.set i (some v)) H1) : tSeq (tAsg te (gName i)) tz D σ H := h.go fun v H1 e r => k v H1 e r
theorem s_ret (h : EvR te σ H R) (k : ∀ v H1, Same H H1 → R H1 v → D.rt v H1) : tRet te D σ H := h.go fun v H1 e r => k v H1 e r
theorem s_if {b : Bool} (h : EvB t σ H b) (h1 : b = true → ∀ H1, Same H H1 → tu D σ H1) (h2 : b = false → ∀ H1, Same H H1 → tw D σ H1) : tIfS t tu tw D σ H := h.go fun H1 e => by
  cases b with
  | true => exact h1 rfl H1 e
  | false => exact h2 rfl H1 e
theorem q_if {b : Bool} (h : EvB t σ H b) (h1 : b = true → ∀ H1, Same H H1 → tu { D with nx := tz D } σ H1) (h2 : b = false → ∀ H1, Same H H1 → tw { D with nx := tz D } σ H1) : tSeq (tIfS t tu tw) tz D σ H := s_if (D := { D with nx := tz D }) h h1 h2
theorem q_drop (h : EvR te σ H R) (k : ∀ v H1, Same H H1 → R H1 v → tz D σ H1) : tSeq (tDrop te) tz D σ H := h.go fun v H1 e r => k v H1 e r
theorem s_drop (h : EvR te σ H R) (k : ∀ v H1, Same H H1 → R H1 v → D.nx σ H1) : tDrop te D σ H := h.go fun v H1 e r => k v H1 e r
/-- l = [] -/
theorem q_nil {i : Nat} (k : ∀ p, H p = none → tz D (σ.set i (some (.ref p))) (upd H p (.lst []))) : tSeq (tAsg (tLst tNil) (gName i)) tz D σ H := ⟨Nat.zero_le _, fun p hp => k p hp⟩
/-- l.append(e) -/
theorem s_app {l : Addr} {xs : List V} (hl : H l = some (.lst xs)) (ha : EvR ta σ H (rX (.ref l))) (h : EvR te σ H R) (hz : xs.length < 100000) (k : ∀ v H1, Same H H1 → R H1 v → D.nx σ (upd H1 l (.lst (xs ++ [v])))) :
    tDrop (tBM K "list" rAppend ta (tCons te tNil)) D σ H := ha.go fun a H1 e1 ea => by
  cases ea
  exact ⟨Or.inl ⟨rfl, xs, SqL.of (e1 l _ hl)⟩, h H1 e1 _ fun v H2 e2 hv => ⟨l, xs, v, rfl, rfl, e2 l _ (e1 l _ hl), len_lt hz, k v H2 (e1.trans e2) hv⟩⟩
theorem q_app {l : Addr} {xs : List V} (hl : H l = some (.lst xs)) (ha : EvR ta σ H (rX (.ref l))) (h : EvR te σ H R) (hz : xs.length < 100000) (k : ∀ v H1, Same H H1 → R H1 v → tz D σ (upd H1 l (.lst (xs ++ [v])))) :
    tSeq (tDrop (tBM K "list" rAppend ta (tCons te tNil))) tz D σ H := s_app (D := { D with nx := tz D }) hl ha h hz k
end

/-! ### comprehensions over data -/
def upTo (n : Nat) : List Int := (List.range n).map fun k : Nat => (k : Int)
theorem upTo_length (n : Nat) : (upTo n).length = n := by simp [upTo]
section
variable {K : PySem.W.Frag} {α β : Type} {enc : α → PyData} {xs : List α} {σ : St} {H : Hp} {tl te : TE} {tt : TT} {g : TG} {vs : List Nat}
/-- what a turn of a comprehension does with the item x -/
def Turn1 (σ : St) (H : Hp) (g : TG) (tt : TT) (te : TE) (vs : List Nat) (d : PyData) (p : Bool) (f : PyData) : Prop :=
  ∀ v H1, Same H H1 → Im H1 d v → ∃ σ2, (∀ P : St → Hp → Prop, P σ2 H1 → g v (wipe σ vs) H1 P) ∧ wipe σ2 vs = wipe σ vs ∧ EvB tt σ2 H1 p ∧ (p = true → EvR te σ2 H1 (rI f))
/-- what stands in the new list at D behind the items pre -/
def LcW (H : Hp) (p : α → Bool) (f : α → PyData) (Dl : Addr) (pre : List α) (H' : Hp) : Prop := H Dl = none ∧ Same H H' ∧ ∃ ys, H' Dl = some (.lst ys) ∧ ImL H' ((pre.filter p).map f) ys
theorem lcW_turn {H H' : Hp} {p : α → Bool} {f : α → PyData} {Dl : Addr} {pre : List α} {x : α} {σ2 : St} (hz : pre.length < 90000) (w : LcW H p f Dl pre H') (ht : EvB tt σ2 H' (p x)) (he : p x = true → EvR te σ2 H' (rI (f x))) :
    tt σ2 H' fun b H3 => if b = true then te σ2 H3 fun y H4 => ∃ acc, H4 Dl = some (.lst acc) ∧ acc.length < sizeLine ∧ LcW H p f Dl (pre ++ [x]) (upd H4 Dl (.lst (acc ++ [y]))) else LcW H p f Dl (pre ++ [x]) H3 := by
  obtain ⟨h0, e0, ys, hD, r⟩ := w
  refine ht.go fun H3 e3 => ?_
  cases hp : p x with
  | true =>
    show te σ2 H3 fun y H4 => _
    refine (he hp) H3 e3 _ fun y H4 e4 hy => ⟨ys, e4 _ _ (e3 _ _ hD), ?_, h0, ?_, ys ++ [y], upd_same, ?_⟩
    · refine len_lt ?_
      rw [r.len, List.length_map]
      have := List.length_filter_le p pre
      omega
    · exact same_mut ((e0.trans e3).trans e4) h0
    · have tp4 : Tp H4 (upd H4 Dl (.lst (ys ++ [y]))) := tp_lst (e4 _ _ (e3 _ _ hD))
      rw [List.filter_append, List.map_append, List.filter_cons, if_pos hp]
      exact ((r.sm (e3.trans e4)).up tp4).app (.one (Im.up hy tp4))
  | false =>
    show LcW H p f Dl (pre ++ [x]) H3
    refine ⟨h0, e0.trans e3, ys, e3 _ _ hD, ?_⟩
    rw [List.filter_append, List.filter_cons, if_neg (by rw [hp]; decide)]
    simpa using r.sm e3
theorem split_at {xs : List α} {i : Nat} {x : α} (h : xs[i]? = some x) : xs.take (i + 1) = xs.take i ++ [x] ∧ x ∈ xs := by
  refine ⟨?_, List.mem_of_getElem? h⟩
  rw [List.take_succ, h]
  rfl
/-- [e for t in a list if ..] -/
theorem e_lcL (p : α → Bool) (f : α → PyData) (h : EvR tl σ H (rL (xs.map enc))) (hz : xs.length ≤ 80000) (turn : ∀ x ∈ xs, Turn1 σ H g tt te vs (enc x) (p x) (f x)) :
    EvR (tLc (iList K tl) g tt te vs) σ H (rL ((xs.filter p).map f)) := fun H0 e Q q => h H0 e _ fun v H1 e1 hv => by
  obtain ⟨a, zs, rfl, ho, r⟩ := hv
  refine ⟨a, rfl, ⟨zs, SqL.of ho⟩, fun Dl hD => lc_list (xs := zs) (fun i H' => LcW H1 p f Dl (xs.take i) H') ⟨hD, same_new hD, [], upd_same, rfl⟩ (fun i H' _ w => SqL.of (w.2.1 _ _ ho)) (fun i x H' hi w => ?_) (fun H' w => ?_)⟩
  · obtain ⟨d, hd, hm⟩ := r.got hi
    rw [List.getElem?_map] at hd
    cases hx : xs[i]? with
    | none => rw [hx] at hd; cases hd
    | some b =>
      rw [hx] at hd
      cases (Option.some.inj hd)
      obtain ⟨s1, s2⟩ := split_at hx
      obtain ⟨σ2, k1, k2, k3, k4⟩ := turn b s2 x H' ((e.trans e1).trans w.2.1) (Im.sm hm w.2.1)
      refine k1 _ ⟨k2, ?_⟩
      rw [s1]
      refine lcW_turn ?_ w k3 k4
      rw [List.length_take]
      omega
  · have hl : zs.length = xs.length := by rw [r.len, List.length_map]
    rw [hl, List.take_length] at w
    obtain ⟨_, e2, ys, hy, ry⟩ := w
    exact q _ H' (e1.trans e2) ⟨Dl, ys, rfl, hy, ry⟩
/-- [e for t in a tuple if ..] -/
theorem e_lcT (p : α → Bool) (f : α → PyData) (h : EvR tl σ H (rI (.tuple (xs.map enc)))) (hz : xs.length ≤ 80000) (turn : ∀ x ∈ xs, Turn1 σ H g tt te vs (enc x) (p x) (f x)) :
    EvR (tLc (iTup K tl) g tt te vs) σ H (rL ((xs.filter p).map f)) := fun H0 e Q q => h H0 e _ fun v H1 e1 hv => by
  obtain ⟨a, zs, rfl, ho, r⟩ := hv
  refine ⟨a, rfl, ⟨zs, SqT.of ho⟩, fun Dl hD => lc_tup (xs := zs) (fun i H' => LcW H1 p f Dl (xs.take i) H') ⟨hD, same_new hD, [], upd_same, rfl⟩ (fun i H' _ w => SqT.of (w.2.1 _ _ ho)) (fun i x H' hi w => ?_) (fun H' w => ?_)⟩
  · obtain ⟨d, hd, hm⟩ := r.got hi
    rw [List.getElem?_map] at hd
    cases hx : xs[i]? with
    | none => rw [hx] at hd; cases hd
    | some b =>
      rw [hx] at hd
      cases (Option.some.inj hd)
      obtain ⟨s1, s2⟩ := split_at hx
      obtain ⟨σ2, k1, k2, k3, k4⟩ := turn b s2 x H' ((e.trans e1).trans w.2.1) (Im.sm hm w.2.1)
      refine k1 _ ⟨k2, ?_⟩
      rw [s1]
      refine lcW_turn ?_ w k3 k4
      rw [List.length_take]
      omega
  · have hl : zs.length = xs.length := by rw [r.len, List.length_map]
    rw [hl, List.take_length] at w
    obtain ⟨_, e2, ys, hy, ry⟩ := w
    exact q _ H' (e1.trans e2) ⟨Dl, ys, rfl, hy, ry⟩
/-- over range(n) -/
theorem e_lcR1 {ta : TE} {n : Int} (p : Int → Bool) (f : Int → PyData) (h : EvR ta σ H (rI (.int n))) (hz : 0 ≤ n ∧ n ≤ 80000) (turn : ∀ i : Int, 0 ≤ i → i < n → Turn1 σ H g tt te vs (.int i) (p i) (f i)) :
    EvR (tLc (iRng1 (tCons ta tNil)) g tt te vs) σ H (rL (((upTo n.toNat).filter p).map f)) := fun H0 e Q q => h H0 e _ fun v H1 e1 hv => by
  cases hv
  refine ⟨n, rfl, by omega, by omega, fun Dl hD => lc_range (lo := 0) (n := n.toNat) (fun i H' => LcW H1 p f Dl ((upTo n.toNat).take i) H') ⟨hD, same_new hD, [], upd_same, rfl⟩ (fun i H' hi w => ?_) (fun H' w => ?_)⟩
  · have e0 : (0 : Int) + (i : Int) = (i : Int) := Int.zero_add _
    have hx : (upTo n.toNat)[i]? = some ((i : Int)) := by
      unfold upTo
      rw [List.getElem?_map, List.getElem?_range hi]
      rfl
    obtain ⟨s1, s2⟩ := split_at hx
    obtain ⟨σ2, k1, k2, k3, k4⟩ := turn (i : Int) (by omega) (by omega) (.int (i : Int)) H' ((e.trans e1).trans w.2.1) rfl
    rw [e0]
    refine k1 _ ⟨k2, ?_⟩
    rw [s1]
    refine lcW_turn ?_ w k3 k4
    rw [List.length_take, upTo_length]
    omega
  · have hl : (upTo n.toNat).take n.toNat = (upTo n.toNat) := by
      rw [List.take_of_length_le]
      rw [upTo_length]
      exact Nat.le_refl _
    rw [hl] at w
    obtain ⟨_, e2, ys, hy, ry⟩ := w
    exact q _ H' (e1.trans e2) ⟨Dl, ys, rfl, hy, ry⟩
end

/-! ### loops over data -/
section
variable {K : PySem.W.Frag} {α : Type} {enc : α → PyData} {xs : List α} {σ : St} {H : Hp} {tl : TE} {g : TG} {tb tz : TS} {D : Ends}
theorem s_forL (h : EvR tl σ H (rL (xs.map enc)))
    (k : ∀ a zs H1, Same H H1 → H1 a = some (.lst zs) → ∃ Pv : List α → St → Hp → Prop, Pv [] σ H1 ∧ (∀ pre σ' H', Pv pre σ' H' → H' a = some (.lst zs) ∧ Tp H1 H') ∧
      (∀ pre x post σ' H' v, xs = pre ++ x :: post → Pv pre σ' H' → Im H' (enc x) v → g v σ' H' fun σ2 H2 => tb { D with nx := Pv (pre ++ [x]), ct := Pv (pre ++ [x]), bk := D.nx } σ2 H2) ∧ (∀ σ' H', Pv xs σ' H' → D.nx σ' H')) :
    tFor (iList K tl) g tb D σ H := h.go fun v H1 e1 hv => by
  obtain ⟨a, zs, rfl, ho, r⟩ := hv
  obtain ⟨Pv, h0, hk, hs, hd⟩ := k a zs H1 e1 ho
  have hl : zs.length = xs.length := by rw [r.len, List.length_map]
  refine ⟨a, rfl, ⟨zs, SqL.of ho⟩, for_list (xs := zs) (fun i σ' H' => Pv (xs.take i) σ' H') h0 (fun i σ' H' _ p => SqL.of (hk _ _ _ p).1) (fun i x σ' H' hi p => ?_) (fun σ' H' p => ?_)⟩
  · obtain ⟨d, hd', hm⟩ := r.got hi
    rw [List.getElem?_map] at hd'
    cases hx : xs[i]? with
    | none => rw [hx] at hd'; cases hd'
    | some b =>
      rw [hx] at hd'
      cases (Option.some.inj hd')
      obtain ⟨s1, s2⟩ := split_at hx
      have hsp : xs = xs.take i ++ b :: xs.drop (i + 1) := by
        have hi' := (List.getElem?_eq_some_iff.mp hx)
        obtain ⟨hlt, hb⟩ := hi'
        rw [← hb, ← List.drop_eq_getElem_cons hlt, List.take_append_drop]
      have z := hs (xs.take i) b (xs.drop (i + 1)) σ' H' x hsp p (Im.up hm (hk _ _ _ p).2)
      show g x σ' H' fun σ2 H2 => tb { D with nx := fun σ' H' => Pv (xs.take (i + 1)) σ' H', ct := fun σ' H' => Pv (xs.take (i + 1)) σ' H', bk := D.nx } σ2 H2
      rw [s1]
      exact z
  · refine hd σ' H' ?_
    rw [hl, List.take_length] at p
    exact p
theorem s_forT (h : EvR tl σ H (rI (.tuple (xs.map enc))))
    (k : ∀ H1, Same H H1 → ∃ Pv : List α → St → Hp → Prop, Pv [] σ H1 ∧ (∀ pre σ' H', Pv pre σ' H' → Tp H1 H') ∧
      (∀ pre x post σ' H' v, xs = pre ++ x :: post → Pv pre σ' H' → Im H' (enc x) v → g v σ' H' fun σ2 H2 => tb { D with nx := Pv (pre ++ [x]), ct := Pv (pre ++ [x]), bk := D.nx } σ2 H2) ∧ (∀ σ' H', Pv xs σ' H' → D.nx σ' H')) :
    tFor (iTup K tl) g tb D σ H := h.go fun v H1 e1 hv => by
  obtain ⟨a, zs, rfl, ho, r⟩ := hv
  obtain ⟨Pv, h0, hk, hs, hd⟩ := k H1 e1
  have hl : zs.length = xs.length := by rw [r.len, List.length_map]
  refine ⟨a, rfl, ⟨zs, SqT.of ho⟩, for_tup (xs := zs) (fun i σ' H' => Pv (xs.take i) σ' H') h0 (fun i σ' H' _ p => SqT.of (hk _ _ _ p _ _ ho)) (fun i x σ' H' hi p => ?_) (fun σ' H' p => ?_)⟩
  · obtain ⟨d, hd', hm⟩ := r.got hi
    rw [List.getElem?_map] at hd'
    cases hx : xs[i]? with
    | none => rw [hx] at hd'; cases hd'
    | some b =>
      rw [hx] at hd'
      cases (Option.some.inj hd')
      obtain ⟨s1, s2⟩ := split_at hx
      have hsp : xs = xs.take i ++ b :: xs.drop (i + 1) := by
        have hi' := (List.getElem?_eq_some_iff.mp hx)
        obtain ⟨hlt, hb⟩ := hi'
        rw [← hb, ← List.drop_eq_getElem_cons hlt, List.take_append_drop]
      have z := hs (xs.take i) b (xs.drop (i + 1)) σ' H' x hsp p (Im.up hm (hk _ _ _ p))
      show g x σ' H' fun σ2 H2 => tb { D with nx := fun σ' H' => Pv (xs.take (i + 1)) σ' H', ct := fun σ' H' => Pv (xs.take (i + 1)) σ' H', bk := D.nx } σ2 H2
      rw [s1]
      exact z
  · refine hd σ' H' ?_
    rw [hl, List.take_length] at p
    exact p
end
end Fs

/-! FsB: a few more built-ins as rules: max of three ints, remove of data, update by a dict, dict of pairs with tuple keys, sorted of data. -/
namespace Fs
open PySem PySem.Spec L2

theorem _root_.L2.Room.u65 {k : Nat} {A : Around} (r : Room k A) : A.units + 65 < cLine := by have := r.un; omega

section
variable {X : Cx}
/-- max(a, b, c) of ints -/
theorem call_max3i (hc : X.calm = true) : CallR X (.builtin "max") (fun xs H Q => ∃ i j k, xs = [.int i, .int j, .int k] ∧ Q (.int (max (max i j) k)) H) := by
  intro pins s σ H xs us Q I r q
  obtain ⟨i, j, k, rfl, q⟩ := q
  cases r with
  | cons r1 r2 =>
    cases r2 with
    | cons r2 r3 =>
      cases r3 with
      | cons r3 r4 =>
        cases r4
        obtain ⟨t, rfl⟩ := r1
        obtain ⟨u, rfl⟩ := r2
        obtain ⟨x, rfl⟩ := r3
        refine max_three_ints (I.ok.hd hc) fun h' tk k' => ?_
        refine ⟨.int (max (max i j) k), H, I.kept (t' := tk) k', ?_, q⟩
        have : ∀ (v : Value) (m : Int), (∃ t, v = .int m t) → max (max i j) k = m → RelV (.int (max (max i j) k)) v := fun v m h e => by rw [e]; exact h
        split
        · split
          · exact this _ k ⟨_, rfl⟩ (by omega)
          · exact this _ j ⟨_, rfl⟩ (by omega)
        · split
          · exact this _ k ⟨_, rfl⟩ (by omega)
          · exact this _ i ⟨_, rfl⟩ (by omega)
end

/-! ### list.remove of an item whose == the state tells -/
theorem rem_loop {l : Addr} {items : Array Value} {n : Nat} {x : Value} {e : Value → Bool} {j : Nat} (hj : j < items.size) (hit : e items[j] = true) (hs1 : items.size ≤ sizeLine) :
    ∀ k i : Nat, j = i + k → (∀ m (hm : m < items.size), i ≤ m → m < j → e items[m] = false) → Meets (Builtin.«list.remove.loop» ⟨[.ref l, x, rawInt i], []⟩)
      (fun A R s => s.heap.get? l = some { cls := .type "list", dict := none, data := .seq items n, slots := #[] } ∧ (∀ y, y ∈ items → SeqAt.EqAt A.in1 s y x (e y)) ∧
        R (.ok (.ret .none)) { s with heap := s.heap.update l (Obj.mapSeq fun xs => xs.eraseIdxIfInBounds j) }) := by
  intro k
  induction k with
  | zero =>
    intro i hij hno prog w A R s h
    obtain ⟨hp, g, d, tk, os⟩ := s
    obtain ⟨hl, he, h⟩ := h
    obtain rfl : j = i := hij
    wp_walk using wpAny_loadPart' hl
    rw [show items[((j : Nat) : Int).toNat]? = some items[j] by simp [hj]]
    refine wpAny_bind (he _ (Array.getElem_mem hj) prog w _ _ ?_)
    rw [hit]
    have hz' : (items.eraseIdxIfInBounds j).size ≤ sizeLine + 1 := Nat.le_trans (by simp [Array.eraseIdxIfInBounds]; split <;> simp <;> omega) (Nat.le_succ_of_le hs1)
    wp_walk using (wpAny_updateSeq hl rfl (hz := hs1) (_hz' := hz')), wpAny_loadPart' hl
    simpa using h
  | succ k ih =>
    intro i hij hno prog w A R s h
    obtain ⟨hp, g, d, tk, os⟩ := s
    obtain ⟨hl, he, h⟩ := h
    have hlt : i < items.size := by omega
    wp_walk using wpAny_loadPart' hl
    rw [show items[((i : Nat) : Int).toNat]? = some items[i] by simp [hlt]]
    refine wpAny_bind (he _ (Array.getElem_mem hlt) prog w _ _ ?_)
    rw [hno i hlt (Nat.le_refl _) (by omega)]
    wp_walk
    rw [show ((i : Int) + 1) = ((i + 1 : Nat) : Int) by push_cast; rfl]
    refine ⟨plainId_quiet MeetsSeq.plain_remove_loop _, codeAny_builtin MeetsSeq.entry_remove_loop ?_⟩
    rw [Around.under_plainId MeetsSeq.plain_remove_loop _]
    exact ih (i + 1) (by omega) (fun m hm h1 h2 => hno m hm (by omega) h2) prog w A R _ ⟨hl, he, h⟩
theorem rem_meets {l : Addr} {items : Array Value} {n : Nat} {x : Value} {e : Value → Bool} {j : Nat} (hj : j < items.size) (hit : e items[j] = true) (hs1 : items.size ≤ sizeLine) (hno : ∀ m (hm : m < items.size), m < j → e items[m] = false) :
    Meets (Builtin.«list.remove» ⟨[.ref l, x], []⟩)
      (fun A R s => s.heap.get? l = some { cls := .type "list", dict := none, data := .seq items n, slots := #[] } ∧ (∀ y, y ∈ items → SeqAt.EqAt A.in1 s y x (e y)) ∧
        R (.ok (.ret .none)) { s with heap := s.heap.update l (Obj.mapSeq fun xs => xs.eraseIdxIfInBounds j) }) := by
  intro prog w A R s h
  obtain ⟨hp, g, d, tk, os⟩ := s
  obtain ⟨hl, he, h⟩ := h
  wp_walk using wpAny_loadPart' hl
  refine ⟨plainId_quiet MeetsSeq.plain_remove_loop _, codeAny_builtin MeetsSeq.entry_remove_loop ?_⟩
  rw [Around.under_plainId MeetsSeq.plain_remove_loop _]
  exact rem_loop hj hit hs1 j 0 (by omega) (fun m hm _ h2 => hno m hm h2) prog w A R _ ⟨hl, he, h⟩

section
variable {X : Cx}
/-- xs.remove(x): the first item equal to x goes -/
def rRemD (K : PySem.W.Frag) : V → List V → Hp → VK → Prop := fun x xs H Q => ∃ (l : Addr) (zs : List V) (ds : List PyData) (y : V) (d : PyData) (j : Nat) (z : PyData), x = V.ref l ∧ xs = [y] ∧ H l = some (.lst zs) ∧ DpAll K H zs ds ∧ Dp K H y d ∧
  SeqAt.shaped (.list ds) = true ∧ SeqAt.shaped d = true ∧ ds[j]? = some z ∧ PyData.eqv z d = true ∧ (∀ m z', m < j → ds[m]? = some z' → PyData.eqv z' d = false) ∧ Q .non (upd H l (.lst (zs.eraseIdx j)))
theorem mt_removeD (hc : X.calm = true) (hu : X.A.units + 65 < cLine) : MtR X "list.remove" (rRemD X.K) := by
  intro pins s σ H x xs v us Q I rx rxs h
  obtain ⟨l, zs, ds, y, d, j, z, rfl, rfl, hH, ha, hy, sl, sd, hz, hzj, hno, q⟩ := h
  cases rx
  obtain ⟨uy, rfl, ry⟩ := rxs.one
  obtain ⟨bs, r1⟩ := Dp.reads I d y uy hy ry
  obtain ⟨hzl, its, n, rv, hlen, e⟩ := I.lstM hH
  obtain ⟨as, h4⟩ := Dp.readsAll I ds _ its ha rv
  have hxs : PyData.canLayAll0 ds = true := SeqAt.canLay_of_shaped sl
  have hroom : X.A.units + 1 + min (PyData.depthAll ds) d.depth < cLine := PyProof.Rows.room_in_shaped sd hu
  have hn : its.length = ds.length := SeqAt.ReadsAll.length ds its as h4
  have hmap : its.map (SeqAt.readOf s.heap) = ds := SeqAt.readsAll_map ds its as hxs h4
  obtain ⟨hjd, _⟩ := List.getElem?_eq_some_iff.mp hz
  have hj : j < its.toArray.size := by rw [List.size_toArray]; omega
  have at_ : ∀ (m : Nat) (hm : m < its.toArray.size) (z' : PyData), ds[m]? = some z' → SeqAt.readOf s.heap its.toArray[m] = z' := by
    intro m hm z' hz'
    have hml : m < its.length := by simpa using hm
    rw [← hmap, List.getElem?_map, List.getElem?_eq_getElem hml] at hz'
    have e1 : SeqAt.readOf s.heap its[m] = z' := Option.some.inj hz'
    simpa using e1
  refine call_meets PySem.F.slot_list_remove ⟨_, e, rfl⟩ PySem.F.entry_list_remove (PySem.F.args_list_remove_2 _ _)
    (rem_meets (l := l) (n := n) (x := uy) (e := fun u => PyData.eqv (SeqAt.readOf s.heap u) d) (j := j) hj ?_ (by rw [List.size_toArray]; omega) ?_)
    ⟨e, SeqAt.items_eqAt (vs := its.toArray) h4 r1 hxs (SeqAt.canLay_of_shaped sd) hroom, ?_⟩
  · show PyData.eqv (SeqAt.readOf s.heap its.toArray[j]) d = true
    rw [at_ j hj z hz]
    exact hzj
  · intro m hm hmj
    have hmd : m < ds.length := by rw [List.size_toArray] at hm; omega
    show PyData.eqv (SeqAt.readOf s.heap its.toArray[m]) d = false
    rw [at_ m hm _ (List.getElem?_eq_getElem hmd)]
    exact hno m _ hmj (List.getElem?_eq_getElem hmd)
  · refine ⟨.non, _, I.lset (its' := its.eraseIdx j) (t' := s.toks) hH e ?_ (rv.eraseIdx j) ?_, rfl, q⟩
    · show its.toArray.eraseIdxIfInBounds j = (its.eraseIdx j).toArray
      rw [List.eraseIdxIfInBounds_toArray]
    · have z2 := len_erase zs j
      omega

/-- d.update(e), two dicts with keys that are ints and texts -/
def rUpdK : V → List V → Hp → VK → Prop := fun x xs H Q => ∃ (d o : Addr) (kvs more : List (Key × V)), x = V.ref d ∧ xs = [V.ref o] ∧ d ≠ o ∧ H d = some (.dK kvs) ∧ H o = some (.dK more) ∧ kvs.length + more.length ≤ 100000 ∧ Q .non (upd H d (.dK (mergeK kvs more)))
theorem mt_updateK (hc : X.calm = true) : MtR X "dict.update" rUpdK := by
  intro pins s σ H x xs v us Q I rx rxs h
  obtain ⟨d, o, kvs, more, rfl, rfl, hdo, hd, ho, hz, q⟩ := h
  cases rx
  obtain ⟨uy, rfl, ry⟩ := rxs.one
  cases ry
  obtain ⟨z1, hs1, vs, rel, dd⟩ := dk_of I.hok hd
  obtain ⟨z2, hs2, ws, rel2, dd2⟩ := dk_of I.hok ho
  have hzz : vs.length + ws.length ≤ sizeLine := by
    rw [← rel.length, ← rel2.length]
    exact Nat.le_trans hz (by decide)
  refine call_meetsIn PySem.F.slot_dict_update dd.typeIs PySem.F.entry_dict_update (PySem.F.args_dict_update_2 _ _) (meets_dict_update (mixKind X.prog X.w) d o hdo hs2) ⟨vs, ws, dd, dd2, hzz, fun h' hd' ho' hs' => ?_⟩
  have he : ∃ q, h'.get? d = some q := let ⟨q, _, _, hq, _⟩ := hd'; ⟨q, hq⟩
  have hl : (mergeK kvs more).length ≤ sizeLine := by
    refine Nat.le_trans (length_mergeK more kvs) ?_
    exact Nat.le_trans hz (by decide)
  exact ⟨.non, _, d_write I (by rw [hd]; exact True.intro) hs' he (dk_new hl hs1 (KV.merge rel2 rel) hd'), rfl, q⟩

/-- sorted(xs) of data that is alike: some arrangement in order -/
def rSortD (K : PySem.W.Frag) : List V → Hp → VK → Prop := fun vs H Q => ∃ (a : Addr) (xs : List V) (ds : List PyData), vs = [V.ref a] ∧ SqL K H a xs ∧ ImL H ds xs ∧ PySem.W.AllAlike ds ∧ PySem.W.Sortable ds ∧ ds.length ≤ 100000 ∧ (∀ d ∈ ds, d.depth ≤ 50) ∧
  ∀ (ds' : List PyData) (ys : List V) (p : Addr), H p = none → ds'.Perm ds → ds'.Pairwise (fun a b => PySem.W.dataLe false id a b = true) → ImL H ds' ys → Q (.ref p) (upd H p (.lst ys))
theorem each_of_vals {H : Hp} {pins : List (Addr × Obj)} {σ : St} {s : Shared} (I : Inv X pins σ H s) : ∀ {ds : List PyData} {xs : List V} {us : List Value}, ImL H ds xs → Vals xs us →
    PySem.W.EachIs (fun (v : Value) (b : V × PyData) => RelV b.1 v ∧ Im H b.2 b.1) us (xs.zip ds) ∧ PySem.W.EachIs (fun (v : Value) (b : V × PyData) => ∃ as, Reads s.heap v b.2 as) us (xs.zip ds)
  | [], _, _, h, r => by
    cases h
    cases r
    exact ⟨.nil, .nil⟩
  | d :: ds, _, _, ⟨x, r, e, h1, h2⟩, rv => by
    subst e
    cases rv with
    | cons a b =>
      obtain ⟨z1, z2⟩ := each_of_vals I h2 b
      exact ⟨.cons ⟨a, h1⟩ z1, .cons (Dp.reads I d x _ (h1.dp X.K) a) z2⟩
theorem vals_of_each {H : Hp} : ∀ {us : List Value} {bs : List (V × PyData)}, PySem.W.EachIs (fun (v : Value) (b : V × PyData) => RelV b.1 v ∧ Im H b.2 b.1) us bs → Vals (bs.map (·.1)) us ∧ ImL H (bs.map (·.2)) (bs.map (·.1))
  | _, _, .nil => ⟨.nil, rfl⟩
  | _, _, .cons h t => by
    obtain ⟨a, b⟩ := vals_of_each t
    exact ⟨.cons h.1 a, ⟨_, _, rfl, h.2, b⟩⟩
theorem zip_snd : ∀ {ds : List PyData} {xs : List V}, xs.length = ds.length → (xs.zip ds).map (·.2) = ds
  | [], [], _ => rfl
  | d :: ds, x :: xs, h => by
    rw [List.zip_cons_cons, List.map_cons, zip_snd (Nat.succ.inj h)]
  | [], _ :: _, h => by cases h
  | _ :: _, [], h => by cases h
theorem cr_sortD (hc : X.calm = true) (hu : X.A.units + 64 < cLine) : CallR X (.builtin "sorted") (rSortD X.K) := by
  intro pins s σ H vs us Q I r h
  obtain ⟨a, xs, ds, rfl, ha, him, hal, hso, hlen, hdep, q⟩ := h
  obtain ⟨its, rv, pl, hz⟩ := I.list ha
  rw [Vals.ref1 r]
  obtain ⟨e1, e2⟩ := each_of_vals I him rv
  have hm : (xs.zip ds).map (fun b : V × PyData => b.2) = ds := zip_snd him.len
  have hlz : (xs.zip ds).length = ds.length := by rw [List.length_zip, him.len, Nat.min_self]
  refine PySem.W.sorted_data (vs := its) (bs := xs.zip ds) (enc := fun b : V × PyData => b.2) (R := fun (v : Value) (b : V × PyData) => RelV b.1 v ∧ Im H b.2 b.1) pl.isList e1 e2 (by rw [hm]; exact hal) (by rw [hm]; exact hso)
    (by rw [hlz]; exact Nat.le_trans hlen (by decide)) (fun b hb => ?_) fun out hol he => ?_
  · have hb2 : b.2 ∈ ds := by rw [← hm]; exact List.mem_map.mpr ⟨b, hb, rfl⟩
    have := hdep _ hb2
    omega
  · obtain ⟨v1, v2⟩ := vals_of_each he
    have hT := PySem.W.sortLe_total (PyProof.Rows.listOrd PyProof.Rows.itemOrd) false (fun b : V × PyData => PySem.W.keyToks b.2)
    have pm := List.mergeSort_perm (xs.zip ds) (PySem.W.dataLe false fun b : V × PyData => b.2)
    have pw := PySem.W.sort_pairwise hT (xs.zip ds)
    obtain ⟨n, hn⟩ := PyProof.Rows.sortedAll_at s.heap its out.toArray
    have hf : H (s.heap.objs.size + 1) = none := I.hok.fresh (Nat.le_succ _)
    have hl : ((xs.zip ds).mergeSort (PySem.W.dataLe false fun b : V × PyData => b.2)).length ≤ 100000 := by rw [List.length_mergeSort, hlz]; exact hlen
    refine ⟨.ref (s.heap.objs.size + 1), _, I.laid (t' := s.toks) (o := .lst (((xs.zip ds).mergeSort (PySem.W.dataLe false fun b : V × PyData => b.2)).map (·.1))) (fun b u z => PyProof.Rows.sortedAll_old z) (Nat.le_succ _) ⟨?_, out, n, v1, hn⟩, rfl, ?_⟩
    · rw [List.length_map]
      exact Nat.le_trans hl (by decide)
    · refine q _ _ _ hf ?_ ?_ v2
      · have z := pm.map (fun b : V × PyData => b.2)
        rw [hm] at z
        exact z
      · exact List.pairwise_map.mpr pw
end

/-! ### dict(xs), xs a list of pairs whose first items are tuples -/
section
variable {X : Cx}
def rDictPT (K : PySem.W.Frag) : List V → Hp → VK → Prop := fun xs H Q => ∃ (a : Addr) (ps : List Addr) (kvs : List (List Key × Addr × V)), xs = [.ref a] ∧ SqL K H a (ps.map V.ref) ∧ ps.length ≤ 100000 ∧
  Paired (fun p kv => SqT K H p [.ref kv.2.1, kv.2.2] ∧ H kv.2.1 = some (.tup (kv.1.map kV))) ps kvs ∧ (kvs.map (·.1)).Nodup ∧
  ∀ p, H p = none → Q (.ref p) (upd H p (.dT (kvs.map fun kv => (kv.1, kv.2.2))))
theorem pairsT_of {pins : List (Addr × Obj)} {σ : St} {H : Hp} {s : Shared} (I : Inv X pins σ H s) : ∀ {ps : List Addr} {kvs : List (List Key × Addr × V)}, Paired (fun p kv => SqT X.K H p [.ref kv.2.1, kv.2.2] ∧ H kv.2.1 = some (.tup (kv.1.map kV))) ps kvs →
    ∃ prs : List (List Key × Addr × Value), KT H (kvs.map fun kv => (kv.1, kv.2.2)) prs ∧ prs.length = ps.length ∧ prs.map (·.1) = kvs.map (·.1) ∧
      ∀ (j : Nat) (q : List Key × Addr × Value), prs[j]? = some q → ∃ (b : Addr), ps[j]? = some b ∧ s.heap.IsTuple b #[.ref q.2.1, q.2.2] ∧ H q.2.1 = some (.tup (q.1.map kV))
  | _, _, .nil => ⟨[], .nil, rfl, rfl, fun j q e => by simp at e⟩
  | _, _, .cons (a := p) (b := kv) h t => by
    obtain ⟨prs, r, hl, hk, hp⟩ := pairsT_of I t
    obtain ⟨its, rv, ht, _⟩ := I.tuple h.1
    obtain ⟨u, y, ei, ru, ry⟩ := Vals.two rv
    subst ei
    cases ru
    refine ⟨(kv.1, kv.2.1, y) :: prs, .cons ⟨rfl, h.2, ry⟩ r, by rw [List.length_cons, List.length_cons, hl], by rw [List.map_cons, List.map_cons, hk], fun j q e => ?_⟩
    cases j with
    | zero =>
      cases Option.some.inj e
      exact ⟨p, rfl, ht, h.2⟩
    | succ j =>
      obtain ⟨b, e1, e2, e3⟩ := hp j q (by simpa using e)
      exact ⟨b, by simpa using e1, e2, e3⟩
theorem storedAllH_nodup {κ : Type} [DecidableEq κ] : ∀ (ps acc : List (κ × Addr × Value)), ((acc ++ ps).map (·.1)).Nodup → storedAllH acc ps = acc ++ ps
  | [], acc, _ => by simp [storedAllH]
  | p :: ps, acc, h => by
    have hn : atKey acc p.1 = none := by
      unfold atKey
      rw [Option.map_eq_none_iff, List.find?_eq_none]
      intro x hx hxp
      have e : x.1 = p.1 := of_decide_eq_true hxp
      rw [List.map_append, List.map_cons] at h
      have := (List.nodup_append.mp h).2.2 x.1 (List.mem_map.mpr ⟨x, hx, rfl⟩) p.1 List.mem_cons_self
      exact this e
    have hs : storedH acc p.1 p.2.1 p.2.2 = acc ++ [p] := by rw [storedH_new hn]
    show storedAllH (storedH acc p.1 p.2.1 p.2.2) ps = _
    rw [hs, storedAllH_nodup ps (acc ++ [p]) (by simpa using h)]
    simp
theorem call_dictPT (hc : X.calm = true) (hu : X.A.units + 64 < cLine) : CallR X (.type "dict") (rDictPT X.K) := by
  intro pins s σ H xs us Q I r h
  obtain ⟨a, ps, kvs, rfl, hq, hlen, hp, hnd, q⟩ := h
  rw [Vals.ref1 r]
  obtain ⟨its, rv, pl, hz⟩ := I.list hq
  have ei := refs_at rv
  subst ei
  obtain ⟨prs, rel, hl, hk, hpr⟩ := pairsT_of I hp
  obtain ⟨o, n, ho, hcl, hd, hdat⟩ := pl
  have ok : PlainSeq "list" s.heap a (ps.map Value.ref).toArray ∧ PairItems s.heap (ps.map Value.ref).toArray (fun j => ps.getD j 0) (prs.map fun q => (Value.ref q.2.1, q.2.2)) := by
    refine ⟨⟨o, n, ho, hcl, hd, hdat⟩, ?_, fun j k v e => ?_⟩
    · simp [hl]
    · rw [List.getElem?_map] at e
      cases e2 : prs[j]? with
      | none => rw [e2] at e; cases e
      | some q' =>
        rw [e2] at e
        cases Option.some.inj e
        obtain ⟨b, b1, b2, b3⟩ := hpr j q' e2
        have eb : ps.getD j 0 = b := by rw [List.getD_eq_getElem?_getD, b1]; rfl
        show (List.map Value.ref ps).toArray[j]? = some (Value.ref (ps.getD j 0)) ∧ PairAt s.heap (ps.getD j 0) (Value.ref q'.2.1) q'.2.2
        rw [eb]
        exact ⟨by simp [b1], .inl b2⟩
  refine call_dict_pairsH (knd := tupleKind (mixKind X.prog X.w)) (ps := prs) (PairArg.list a (ps.map Value.ref).toArray (fun j => ps.getD j 0) (prs.map fun q => (Value.ref q.2.1, q.2.2))) (I.ok.hd hc) ?_ ok ?_ ?_ (by rw [List.length_map, hl]; exact Nat.le_trans hlen (by decide)) fun h' tk hd' k => ?_
  · show X.A.in1.in1.units < cLine
    show X.A.units + 1 + 1 < cLine
    omega
  · refine ⟨by rw [List.length_map], fun i key v hr => ?_⟩
    have hr' : (prs.map fun q => (Value.ref q.2.1, q.2.2))[i]? = some (key, v) := hr
    rw [List.getElem?_map] at hr'
    cases e2 : prs[i]? with
    | none => rw [e2] at hr'; cases hr'
    | some q' =>
      rw [e2] at hr'
      cases Option.some.inj hr'
      exact ⟨q'.1, q'.2.1, rfl, rfl⟩
  · intro h' hk' x hx
    obtain ⟨j, hj, ej⟩ := List.getElem_of_mem hx
    obtain ⟨b, b1, b2, b3⟩ := hpr j x (by rw [List.getElem?_eq_getElem hj, ej])
    obtain ⟨ob, items, m, g1, g2, g3, g4⟩ := key_of I.hok b3
    exact ⟨ob, items, m, hk' _ _ (Nat.ne_of_lt (Heap.lt_size g1)) (by simp) g1, g2, g3, g4⟩
  · have hm : (s.heap.objs.size == sysModules) = false := beq_eq_false_iff_ne.mpr (Nat.ne_of_gt I.big)
    have hf : H s.heap.objs.size = none := I.hok.fresh (Nat.le_refl _)
    have hnd' : (prs.map (·.1)).Nodup := by rw [hk]; exact hnd
    rw [storedAllH_nodup prs [] (by simpa using hnd'), List.nil_append] at hd'
    obtain ⟨q', es, ep, hq', h2, h3, h4, _, h5⟩ := hd'
    have hlk : (kvs.map fun kv => (kv.1, kv.2.2)).length ≤ sizeLine := by
      rw [Paired.length rel, hl]
      exact Nat.le_trans hlen (by decide)
    refine ⟨.ref s.heap.objs.size, upd H s.heap.objs.size (.dT (kvs.map fun kv => (kv.1, kv.2.2))), I.laid (t' := tk) (fun b u z => k b u (by simp) z) (Nat.le_refl _) ⟨hlk, hm, prs, ?_, q', es, ep, hq', h2, h3, h4, h5⟩, rfl, q _ hf⟩
    exact rel.keeps fun c ys ec => by rw [upd_ne (ne_of_none ec hf)]; exact ec
end
end Fs

/-! FsC: instances with an __iter__ that gives a list's iterator; dict comprehensions with tuple keys. -/
namespace Fs
open PySem PySem.Spec L2

/-- the j-th slot of the instance at a holds the list at l -/
def LAt (K : PySem.W.Frag) (C : Addr) (j : Nat) (H : Hp) (a l : Addr) : Prop := ∃ dx vs, SlX.Slt H a C dx vs ∧ vs[j]? = some (some (.ref l)) ∧ ∃ xs, SqL K H l xs
/-- a promise that may speak of the state at the call -/
def FnS (P : Program) (w : World) (K : PySem.W.Frag) (mg : Str → Option Value) (base : Heap) (k : Nat) (f : Addr) (sp : Shared → Sp) : Prop :=
  ∀ (A : Around) (outer : List Env) (s : Shared) (H : Hp) (us : List Value) (vs : List V) (Q : VK) (E : XK), Room k A → Env0 P w K mg base A outer s H → Vals vs us → sp s vs H Q E →
    codeAny (model P w) A (.call (.ref f) ⟨us, []⟩) (CR CX0 outer P w H s Q E) s
/-- def __iter__(self): return iter(self.f) -/
def spIt (K : PySem.W.Frag) (C : Addr) (j : Nat) (s : Shared) : Sp := fun vs H Q _ => ∃ a l, vs = [.ref a] ∧ LAt K C j H a l ∧ ∀ it, H it = none → s.heap.objs.size ≤ it → Q (.ref it) (upd H it (ItO l it 0))
structure Itb (P : Program) (w : World) (K : PySem.W.Frag) (mg : Str → Option Value) (base : Heap) (k : Nat) (C fi : Addr) (j : Nat) : Prop where
  it : PySem.W.findIn K (.ref C) "__iter__" = some (some (.ref fi))
  itF : PySem.W.isFn K (.ref fi) = true
  nolen : PySem.W.findIn K (.ref C) "__len__" = some none
  nohint : PySem.W.findIn K (.ref C) "__length_hint__" = some none
  F : FnS P w K mg base k fi (spIt K C j)

section
variable {X : Cx} {pins : List (Addr × Obj)} {σ : St} {H : Hp} {s : Shared} {C fi a l : Addr} {k j : Nat} {A1 : Around}
/-- iter(o): behind it the iterator is known to the object, but not tracked -/
theorem own_it {Q : Value → Shared → Prop} (hA : Room k A1) (hfr : A1.frames = X.A.frames) (B : Itb X.prog X.w X.K X.mg X.base k C fi j) (I : Inv X pins σ H s) (h : LAt X.K C j H a l)
    (q : ∀ it s', Inv X pins σ H s' → s.heap.objs.size ≤ it → H it = none → s'.heap.IsListIter it l 0 → FpOk X pins H it → Q (.ref it) s') : wpAny (model X.prog X.w) A1 (pyIter (.ref a)) Q X.xe s := by
  obtain ⟨dx, vs, hs, hj, xs, hl⟩ := h
  obtain ⟨sl, od, r, J, _⟩ := SlX.slt_inst I hs
  obtain ⟨m, F⟩ := I.fr
  refine PySem.W.owit_iter F I.mod.kin J B.it B.itF ?_
  have e := I.env0
  have e0 : Env0 X.prog X.w X.K X.mg X.base A1 X.stack s H := ⟨by rw [hfr]; exact e.frames, e.mod, e.bs, e.bsz, e.funs, e.frf, e.hok, e.bare⟩
  refine wpAny_call (codeAny_mono (B.F A1 X.stack s H [.ref a] [.ref a] (fun v H' => ∃ it, v = .ref it ∧ H it = none ∧ s.heap.objs.size ≤ it ∧ H' = upd H it (ItO l it 0)) E0 hA e0 (.cons rfl .nil) ⟨a, l, rfl, ⟨dx, vs, hs, hj, xs, hl⟩, fun it hit hz => ⟨it, rfl, hit, hz, rfl⟩⟩) fun r s' hq => ?_)
  cases r with
  | error e => exact False.elim hq
  | ok fl =>
    cases fl with
    | ret u =>
      have hq2 : CE X.stack X.prog X.w H s (fun v H' => ∃ it, v = .ref it ∧ H it = none ∧ s.heap.objs.size ≤ it ∧ H' = upd H it (ItO l it 0)) u s' := hq
      obtain ⟨v, H', I', rv, it, ev, hn, hnew, eH⟩ := I.after hq2
      subst ev
      cases rv
      subst eH
      have eo := itO_get I' upd_same
      have hty : s'.TypeIs (.ref it) "list_iterator" := ⟨_, eo, rfl⟩
      have hφ : upd H it (ItO l it 0) it = some (.ext fun h => h.get? it = some (GNX.itObj l 0)) := upd_same
      have I2 := ItX.inv_drop I' hφ
      rw [ItX.dropH_upd hn] at I2
      have fp := ItX.inv_fp I' upd_same (Nat.le_trans I.sz hnew)
      rw [ItX.dropH_upd hn] at fp
      unfold PySem.W.OwitIt
      refine wpAny_specialOf hty slot_listiter_next.lookup ?_
      exact q it s' I2 hnew hn ⟨_, eo, rfl, rfl⟩ fp
    | next => exact False.elim hq
    | brk => exact False.elim hq
    | cont => exact False.elim hq
end

/-- the def by its body, as fn_of, the state at hand -/
theorem fnS_of {P : Program} {w : World} {K : PySem.W.Frag} {mg : Str → Option Value} {base : Heap} {k : Nat} {x qual : Str} {st : Stmt} {f : Addr} {fd : FuncData} {N ps : List Str} {sp : Shared → Sp} (F : Fun K x qual st f fd) (S : FnScope N ps (defScope st)) (hb : Binds K fd ps [])
    (len : ∀ s vs H Q E, sp s vs H Q E → vs.length = ps.length)
    (hbody : ∀ (cdv : Value) (A : Around) (outer : List Env) (s : Shared) (H : Hp) (vs : List V) (Q : VK) (E : XK), Room k (A.deeper (PyProof.Rows.envOfC qual (defScope st) s.heap.objs.size f cdv)) → sp s vs H Q E →
      ∃ t, PSs (cxOf CX0 P w K mg base N qual (defScope st) f cdv A outer s H E) (defBody st) t ∧ t { nx := fun _ H' => Q .non H', rt := Q } (start N vs) H) : FnS P w K mg base (k + 1) f sp := by
  obtain ⟨oc, od, kV, doc, pm, an, cdv, ct, osl, rfl, lk, hcd⟩ := F.ex
  intro A outer s H us vs Q E hr e0 r hsp
  have hl := len s _ _ _ _ hsp
  have KX : K.In s.heap := e0.mod.kin.keeps fun b o e => (e0.bs b o e).1
  have lim : s.heap.NoLimit := e0.mod.nolimit.keeps fun b o e => (e0.bs b o e).1
  have hkind : ∀ y ∈ ps.zip us, (defScope st).names.lookup y.1 = some .local ∨ ((defScope st).names.lookup y.1 = some .cell ∧ ((cellsFrom (s.heap.objs.size + 1) (defScope st).names []).lookup y.1).isSome = true) := by
    rintro ⟨n, v⟩ hy
    rcases S.par n (List.of_mem_zip hy).1 with q | q
    · exact .inl q
    · exact .inr ⟨q, PySem.W.cellsFrom_some _ _ _ (.inl q)⟩
  have hbs := hb s us KX (by rw [List.append_nil, ← r.length]; exact hl)
  rw [List.append_nil] at hbs
  refine codeAny_call_function hr.depth (KX _ _ lk) rfl S.co S.gen rfl (PySem.W.codeRec_of KX hcd) (hbs _ _ _ _ ?_)
  refine wpAny_newFunctionEnv_cells S.kind hkind fun env he s1 y => ?_
  subst he
  refine ⟨lim.keeps y.toInCall.keep, codeAny_func ?_⟩
  obtain ⟨t, ht, hq⟩ := hbody cdv A outer s H vs Q E (hr.deeper _) hsp
  have I := inv_start (CX := CX0) (qual := qual) (f := f) (cd := cdv) (E := E) S hr.hd e0 hl r y
  refine wpAny_mono (ht.run [] s1 (start N vs) H _ I hq) (fun fl s' hs => ?_) fun e s' hs => hs
  cases fl with
  | ret u =>
    obtain ⟨v, σ', H', J, rv, q⟩ := hs
    exact ⟨v, H', J.os, J.bare, J.base, J.hok, rv, q⟩
  | next =>
    obtain ⟨σ', H', J, q⟩ := hs
    exact ⟨V.non, H', J.os, J.bare, J.base, J.hok, rfl, q⟩
  | brk =>
    obtain ⟨_, _, _, q⟩ := hs
    exact False.elim q
  | cont =>
    obtain ⟨_, _, _, q⟩ := hs
    exact False.elim q

section
variable {X : Cx} {C fi : Addr} {k j : Nat}
/-- for .. in o -/
def iOwn (K : PySem.W.Frag) (C : Addr) (j : Nat) (te : TE) : TI := fun σ H R => te σ H fun x H1 => ∃ a l, x = .ref a ∧ LAt K C j H1 a l ∧ R (Itl K l) H1
theorem pi_own {tg e : Expr} {te : TE} (B : Itb X.prog X.w X.K X.mg X.base k C fi j) (hr : Room k X.A) (he : PE X e te) : PI X tg e (iOwn X.K C j te) := by
  refine ⟨fun pins s σ H R I h => ?_⟩
  refine thn (he.run pins s σ H _ I h) fun u s1 ⟨v, H1, I1, r1, a, l, ev, hL, q⟩ => ?_
  subst ev
  cases r1
  refine own_it hr rfl B I1 hL fun it s2 I2 _ hn hit fp => ?_
  exact ⟨it, [it], _, Itl X.K l, H1, rfl, I2, turn_list l it, hit, fun b hb => by rw [List.mem_singleton.mp hb]; exact fp, q⟩

theorem own_hintL {M : Model} {A : Around} {E : Value → Shared → Prop} {Q : Bool → Shared → Prop} {K : PySem.W.Frag} {ox : Obj} {od : Option Obj} {s : Shared} {a : Addr} (h1 : PySem.W.findIn K (.ref C) "__len__" = some none) (h2 : PySem.W.findIn K (.ref C) "__length_hint__" = some none)
    (hK : K.In s.heap) (J : PySem.W.InstAt s.heap a ox C od) (h : Q true s) : wpAny M A (Builtin.List.listLengthHint (.ref a)) Q E s := by
  unfold Builtin.List.listLengthHint
  refine wpAny_bind (wpAny_bind (J.type.here ((PySem.W.looks_findIn hK h1).here ?_)))
  refine PySem.W.KFB.if_not rfl ?_
  refine PySem.W.KFB.if_not rfl ?_
  exact wpAny_bind (wpAny_bind (J.type.here ((PySem.W.looks_findIn hK h2).here (wpAny_pure h))))

/-- the tracked list at S and the untracked record at it have changed -/
theorem hok_two {P : Program} {w : World} {H : Hp} {h h' : Heap} {S it : Addr} {zs : List V} {o : HO} (ok : HOk P w H h) (hS : H S = some (.lst zs)) (hit : H it = none) (k : ∀ b u, b ≠ S → b ≠ it → h.get? b = some u → h'.get? b = some u)
    (new : ObjOk P w (upd H S o) h' S o) : HOk P w (upd H S o) h' := fun b u q => by
  by_cases hb : b = S
  · subst hb
    rw [upd_same] at q
    cases q
    exact new
  · rw [upd_ne hb] at q
    have nS : ∀ c u, H c = some u → (∀ ys, u ≠ .lst ys) → c ≠ S := fun c u r n z => by
      rw [z, hS] at r
      exact n zs (Option.some.inj r).symm
    have nit : ∀ c u, H c = some u → c ≠ it := fun c u r z => by rw [z, hit] at r; cases r
    refine (ok b u q).stay (fun c v hc r => k c v ?_ ?_ r) (fun c r => by rw [upd_ne (nS c _ r fun _ z => nomatch z)]; exact r) fun c xs r => by rw [upd_ne (nS c _ r fun _ z => nomatch z)]; exact r
    · rcases hc with rfl | hc
      · exact hb
      · exact nS c _ hc fun _ z => nomatch z
    · rcases hc with rfl | hc
      · exact nit _ _ q
      · exact nit _ _ hc

/-- list(o) -/
def rListIt (K : PySem.W.Frag) (C : Addr) (j : Nat) : List V → Hp → VK → Prop := fun xs H Q => ∃ a l zs, xs = [.ref a] ∧ LAt K C j H a l ∧ H l = some (.lst zs) ∧ ∀ q, H q = none → Q (.ref q) (upd H q (.lst zs))
theorem slt_same {H H' : Hp} {a C dx : Addr} {vs : List (Option V)} (h : SlX.Slt H a C dx vs) (e : Same H H') : SlX.Slt H' a C dx vs := by
  rcases h with ⟨h1, h2⟩ | ⟨h1, h2⟩
  · exact .inl ⟨e _ _ h1, h2⟩
  · exact .inr ⟨e _ _ h1, e _ _ h2⟩
theorem lat_same {K : PySem.W.Frag} {H H' : Hp} {a l : Addr} (h : LAt K C j H a l) (e : Same H H') : LAt K C j H' a l := by
  obtain ⟨dx, vs, h1, h2, xs, h3⟩ := h
  exact ⟨dx, vs, slt_same h1 e, h2, xs, e.seq h3⟩
theorem call_listIt (B : Itb X.prog X.w X.K X.mg X.base k C fi j) (hr : Room (k + 2) X.A) : CallR X (.type "list") (rListIt X.K C j) := by
  intro pins s σ H xs us Q I rv h
  obtain ⟨a, l, zs, rfl, hL, hl, hq⟩ := h
  rw [Vals.ref1 rv]
  refine callType_codes (Q₁ := fun obj s₁ => obj = .ref s.heap.objs.size ∧ s₁ = { s with heap := s.heap.push { cls := .type "list", data := .seq #[] } }) PySem.F.called_list (PySem.F.typeCall_list_1 _) PySem.F.entry_list_init
    (code_list_new _ ⟨rfl, rfl⟩) ?_
  rintro obj s₁ ⟨rfl, rfl⟩
  have hS0 : (s.heap.push { cls := .type "list", data := .seq #[] }).get? s.heap.objs.size = some { cls := .type "list", data := .seq #[] } := Heap.get?_push_size _ rfl
  have fr : H s.heap.objs.size = none := I.hok.fresh (Nat.le_refl _)
  refine ⟨⟨_, hS0, rfl⟩, PySem.F.args_list_init_2 _ _, ?_⟩
  have I1 : Inv X pins σ (upd H s.heap.objs.size (.lst [])) { s with heap := s.heap.push { cls := .type "list", data := .seq #[] } } := I.lnew (its := []) (t' := s.toks) .nil (Nat.zero_le _)
  have hk := hq s.heap.objs.size fr
  generalize s.heap.objs.size = S at fr hS0 I1 hk ⊢
  show wpAny _ _ (Builtin.List.listItems (.ref S) >>= fun old => Builtin.List.listUpdate (.ref S) (fun _ => #[]) >>= fun _ => letGo old.toList.reverse >>= fun _ => Builtin.List.listExtendWith (.ref S) (.ref a) .none) _ _ _
  refine wpAny_bind ?_
  unfold Builtin.List.listItems
  refine wpAny_bind (wpAny_seqItems hS0 rfl (wpAny_pure ?_))
  show wpAny _ _ (updateSeq S (fun _ => #[]) >>= fun _ => letGo (#[] : Array Value).toList.reverse >>= fun _ => Builtin.List.listExtendWith (.ref S) (.ref a) .none) _ _ _
  refine wpAny_bind (wpAny_updateSeq hS0 rfl ?_)
  have I2 := I1.lset (f := fun _ => #[]) (its := []) (its' := []) (ys := []) (t' := s.toks) upd_same hS0 rfl .nil (Nat.zero_le _)
  rw [upd_upd] at I2
  refine wpAny_bind (wpAny_letGo ?_)
  have sS : Same H (upd H S (.lst [])) := same_new fr
  have hL2 := lat_same hL sS
  obtain ⟨dx, vs, hs, hj, xs, hxs⟩ := id hL2
  obtain ⟨sl, od, r, J, _⟩ := SlX.slt_inst I2 hs
  have hne : S ≠ a := fun z => by
    rcases hs with ⟨h1, _⟩ | ⟨h1, _⟩
    · rw [← z, upd_same] at h1; cases h1
    · rw [← z, upd_same] at h1; cases h1
  unfold Builtin.List.listExtendWith
  refine wpAny_bind (J.type.here ?_)
  have h1 : Builtin.List.listSameRef (.ref S) (.ref a) = false := by simp [Builtin.List.listSameRef, hne]
  have h2 : (Value.ref C == Value.type "list") = false := rfl
  have h3 : (Value.ref C == Value.type "tuple") = false := rfl
  simp only [h1, h2, h3, Bool.or_false, Bool.false_eq_true, if_false]
  refine wpAny_bind (own_it (A1 := X.A.in1.in1) (k := k) ?_ rfl B I2 hL2 fun it s2 I3 hsz hit hli fp => ?_)
  · exact hr.in1.in1
  obtain ⟨sl3, od3, r3, J3, _⟩ := SlX.slt_inst I3 hs
  refine wpAny_bind (wpAny_holding (own_hintL B.nolen B.nohint I3.kIn J3 ?_))
  have hlS : l ≠ S := ne_of_none hl fr
  have hl3 : upd H S (.lst []) l = some (.lst zs) := by rw [upd_ne hlS]; exact hl
  -- the loop, from any state that differs at S alone
  have loop : ∀ (h4 : Heap) (t4 c4 : Nat), Inv X pins σ (upd H S (.lst [])) { s2 with heap := h4, toks := t4 } → h4.IsListIter it l 0 → h4.get? S = some { cls := .type "list", data := .seq #[] c4 } →
      codeAny (model X.prog X.w) X.A.in1 (.builtin "list.extend.loop" ⟨[.ref S, .ref it, .none], []⟩) (wants (fun r s₂ => r = .none ∧ EP X pins σ Q (.ref S) s₂) X.xe) { s2 with heap := h4, toks := t4 } := by
    intro h4 t4 c4 I4 hli4 hS4
    obtain ⟨hzl, its, n, rv4, hln, hg4⟩ := I4.lstM hl3
    have hitS : S ≠ it := fun z => by rw [← z, upd_same] at hit; cases hit
    have hitl : l ≠ it := fun z => by rw [← z, hl3] at hit; cases hit
    have hh4 : X.A.in1.in1.handled = none := hr.hd
    have key := codeAny_extend_loopS (R := wants (fun r s₂ => r = .none ∧ EP X pins σ Q (.ref S) s₂) X.xe) (A := X.A.in1) ((Walks.list (prog := X.prog) (w := X.w) (A := X.A.in1.in1) hh4 it l hitl its.toArray).toS) (by rw [List.size_toArray, ← hln]; exact hzl) S
      (by simp only [List.mem_cons, List.not_mem_nil, or_false, not_or]; exact ⟨hitS, Ne.symm hlS⟩) .none its.toArray.size 0 { s2 with heap := h4, toks := t4 } #[] c4 (by omega) (Nat.zero_le _) ⟨hli4, ⟨_, hg4, rfl, n, rfl⟩⟩ hS4 (ItemsOf.nil _)
    refine key fun s5 acc' c' hm hS' hacc => ?_
    have hv : Vals zs acc'.toList := by
      refine vals_of_at (by have e := hacc.1; simp only [List.size_toArray, Array.length_toList] at e ⊢; omega) fun i x u hx hu => ?_
      have hu' : acc'[i]? = some u := by rw [← Array.getElem?_toList]; exact hu
      have hz : its.toArray[i]? = some u := hacc.2 i u hu'
      rw [List.getElem?_toArray] at hz
      obtain ⟨u2, hu2, r2⟩ := rv4.get hx
      rw [hz] at hu2
      cases hu2
      exact r2
    have kk : ∀ b u, b ≠ S → b ≠ it → h4.get? b = some u → s5.heap.get? b = some u := fun b u n1 n2 e => hm.heap b u (by simp only [List.mem_cons, List.not_mem_nil, or_false, not_or]; exact ⟨n1, n2⟩) e
    have hok : HOk X.prog X.w (upd (upd H S (.lst [])) S (.lst zs)) s5.heap := hok_two I4.hok upd_same hit kk ⟨hzl, acc'.toList, c', hv, hS'⟩
    have nS : ∀ b u, upd H S (.lst []) b = some u → (∀ ys, u ≠ .lst ys) → b ≠ S := fun b u e n z => by
      rw [z, upd_same] at e
      exact n _ (Option.some.inj e).symm
    have un : Un (frs X.stack) [it] (upd H S (.lst [])) (upd (upd H S (.lst [])) S (.lst zs)) h4 s5.heap := by
      have z1 : ∀ b, upd H S (.lst []) b = none → b ≠ S := fun b e z => by rw [z, upd_same] at e; cases e
      refine ⟨fun b o e n _ hx => kk b o (z1 b n) (fun z => hx (by simp [z])) e, fun b o e n _ hx => ⟨o.slots, kk b o (z1 b n) (fun z => hx (by simp [z])) e⟩, fun b o e n _ => by rw [upd_ne (z1 b n)]; exact n, fun b o e hx => ?_,
        fun b xs e => by rw [upd_ne (nS b _ e fun _ z => nomatch z)]; exact e, fun b o u e => by rw [upd_ne (nS b _ e fun _ z => nomatch z)]; exact e, fun b ps e => ⟨#[], by rw [upd_ne (nS b _ e fun _ z => nomatch z), e]; simp⟩⟩
      by_cases hb : b = S
      · subst hb
        exact ⟨_, hS'⟩
      · exact ⟨o, kk b o hb (fun z => hx (by simp [z])) e⟩
    have I5 : Inv X pins σ (upd (upd H S (.lst [])) S (.lst zs)) s5 := I4.call' (ch := [it]) hm.os un hok (by
      have g : s5.gens = s2.gens := hm.gens
      rw [g]
      exact I4.bare) fun b hb => by
        rw [List.mem_singleton.mp hb]
        obtain ⟨f0, f1, f2, f3, f4, f5⟩ := fp
        exact ⟨f3, f1, f4, f5⟩
    rw [upd_upd] at I5
    exact ⟨rfl, .ref S, _, I5, rfl, hk⟩
  obtain ⟨z, its, kk, r4, hl4, e4⟩ := I3.lstM upd_same
  cases r4
  refine wpAny_ite_split (fun _ => ?_) (fun _ => wpAny_pure ⟨plainId_quiet PySem.F.plain_extend_loop _, loop s2.heap s2.toks kk I3 hli e4⟩)
  refine wpAny_bind (wpAny_rule ?_)
  refine wpAny_bind ?_
  show wpAny _ _ (updateSeq S (·.push .none) >>= fun _ => updateSeq S (·.pop)) _ _ _
  refine wpAny_bind (wpAny_updateSeq e4 rfl ?_)
  have hitS : it ≠ S := fun z => by rw [z, upd_same] at hit; cases hit
  have I4 := I3.lset (f := (·.push Value.none)) (its' := [Value.none]) (ys := [.non]) (t' := s2.toks) upd_same e4 (by simp) (.cons rfl .nil) (by rw [List.length_singleton]; decide)
  obtain ⟨z5, its5, k5, r5, hl5, e5⟩ := I4.lstM upd_same
  obtain ⟨u5, rfl, ru5⟩ := r5.one
  refine wpAny_updateSeq e5 rfl ?_ (by show 1 ≤ sizeLine; decide) (by show 0 ≤ sizeLine + 1; exact Nat.zero_le _)
  have I5 := I4.lset (f := (·.pop)) (its := [u5]) (its' := []) (ys := []) (t' := s2.toks) upd_same e5 (by rfl) .nil (Nat.zero_le _)
  rw [upd_upd, upd_upd] at I5
  obtain ⟨_, its6, k6, r6, _, e6⟩ := I5.lstM upd_same
  cases r6
  refine wpAny_pure ⟨plainId_quiet PySem.F.plain_extend_loop _, loop _ _ k6 I5 ?_ e6⟩
  refine (hli.at fun o e => ?_)
  refine (Heap.get?_update_other _ _ (Ne.symm hitS)).trans ((Heap.get?_update_other _ _ (Ne.symm hitS)).trans e)
end
end Fs

/-! FsD: dict comprehensions whose keys are tuples, with one for and with two. -/
namespace Fs
open PySem PySem.Spec L2

/-! ### the model's words for such a comprehension, a body left open -/
/-- what a body is worth: from a state, the states in which it ends -/
abbrev Bdy := (Shared → Prop) → Shared → Prop
abbrev NoE : Value → Shared → Prop := fun _ _ => False
def testsRun (ifs : List Expr) (env : Env) : Sem Bool := forIn ifs true fun c r => if r = true then do let ok ← isTrue c env (eval c env); pure (ForInStep.yield ok) else pure (ForInStep.yield r)
/-- a turn of the loop over it: the next item is stored and tested, the body runs; T at its end, N at the loop's -/
def turnOf (M : Model) (A : Around) (it : Value) (tg : Expr) (ifs : List Expr) (env : Env) (Bd : Bdy) (N T : Shared → Prop) (s : Shared) : Prop :=
  wpAny M A (pyNext it) (fun r s₁ => match r with
    | none => N s₁
    | some v => wpAny M A (letOwnedTupleGo tg it v) (fun _ s₂ => wpAny M A (assign tg env v) (fun _ s₃ => wpAny M A (testsRun ifs env) (fun ok s₄ => if ok = true then Bd T s₄ else T s₄) NoE s₃) NoE s₂) NoE s₁) NoE s
/-- such a loop, by a word that falls -/
def LoopBy (M : Model) (A : Around) (C : Expr) (j : Nat) (acc : Value) (tg : Expr) (ifs : List Expr) (env : Env) (Bd : Bdy) : Prop :=
  ∀ (it : Value) (R : Result → Shared → Prop) (I : Nat → Shared → Prop), (∀ n s, I n s → turnOf M A it tg ifs env Bd (R (.ok .next)) (fun s' => ∃ m, m < n ∧ I m s') s) → ∀ n s, I n s → codeAny M A (.compLoop C j it acc env) R s

section
variable {prog : Program} {w : World} {A : Around} {kx vx t0 i0 t1 i1 : Expr} {ifs0 ifs1 : List Expr} {scope : Scope} {pos : Pos} {D : Addr} {env : Env}
/-- {k: v}: key, value, store -/
def bdPut (prog : Program) (w : World) (A : Around) (kx vx : Expr) (D : Addr) (env : Env) : Bdy := fun T s => wpAny (model prog w) A (eval kx env) (fun kv s₁ => wpAny (model prog w) A (eval vx env) (fun vv s₂ => wpAny (model prog w) A (dictSet D kv vv) (fun _ s₃ => T s₃) NoE s₂) NoE s₁) NoE s
theorem noE {α : Type} {t : Sem α} {Q Q' : α → Shared → Prop} {M : Model} {A : Around} {E : Value → Shared → Prop} {s : Shared} (h : wpAny M A t Q NoE s) (k : ∀ a s', Q a s' → Q' a s') : wpAny M A t Q' E s := wpAny_mono h k fun _ _ z => z.elim
theorem loop_dict1 : LoopBy (model prog w) A (.DictComp kx vx [⟨t0, i0, ifs0, 0⟩] scope pos) 0 (.ref D) t0 ifs0 env (bdPut prog w A kx vx D env) := by
  intro it R I turn n s h
  refine codeAny_loop rfl I (fun n s hI => ?_) n h
  show wpAny _ A ((compTurn (.DictComp kx vx [⟨t0, i0, ifs0, 0⟩] scope pos) 0 it (.ref D) env).onRaise (fun x => do noteFrame x env; theTreesLotGoes x)) _ _ s
  refine wpAny_noted ?_
  rw [compTurn_dict]
  refine wpAny_bind (wpAny_standAt (wpAny_bind (noE (turn n s hI) fun r s₁ h₁ => ?_)))
  cases r with
  | none => exact wpAny_pure h₁
  | some v =>
    refine wpAny_bind (noE h₁ fun _ s₂ h₂ => wpAny_bind (noE h₂ fun _ s₃ h₃ => wpAny_bind (noE h₃ fun ok s₄ h₄ => ?_)))
    cases ok with
    | false => exact wpAny_pure ⟨rfl, h₄⟩
    | true => exact wpAny_bind (wpAny_bind (noE h₄ fun kv s₅ h₅ => wpAny_bind (wpAny_holding (noE h₅ fun vv s₆ h₆ => wpAny_bind (wpAny_standAt (wpAny_holding (noE h₆ fun _ s₇ h₇ => wpAny_pure ⟨rfl, h₇⟩)))))))
/-- the second clause within the first -/
def bdIn (prog : Program) (w : World) (A : Around) (C : Expr) (i1 : Expr) (D : Addr) (env : Env) : Bdy := fun T s => wpAny (model prog w) A (eval i1 env) (fun x s₁ => wpAny (model prog w) A (pyIter x) (fun it s₂ => codeAny (model prog w) A (.compStart C 1 it (.ref D) env) (fun r s' => match r with
  | .ok _ => T s'
  | .error _ => False) s₂) NoE s₁) NoE s
theorem loop_dict2 (hs : ∀ x, foldedSetIterable i1 env x = pure x) : LoopBy (model prog w) A (.DictComp kx vx [⟨t0, i0, ifs0, 0⟩, ⟨t1, i1, ifs1, 0⟩] scope pos) 0 (.ref D) t0 ifs0 env
    (bdIn prog w A (.DictComp kx vx [⟨t0, i0, ifs0, 0⟩, ⟨t1, i1, ifs1, 0⟩] scope pos) i1 D env) := by
  intro it R I turn n s h
  refine codeAny_loop rfl I (fun n s hI => ?_) n h
  show wpAny _ A ((compTurn (.DictComp kx vx [⟨t0, i0, ifs0, 0⟩, ⟨t1, i1, ifs1, 0⟩] scope pos) 0 it (.ref D) env).onRaise (fun x => do noteFrame x env; theTreesLotGoes x)) _ _ s
  refine wpAny_noted ?_
  have e : compTurn (.DictComp kx vx [⟨t0, i0, ifs0, 0⟩, ⟨t1, i1, ifs1, 0⟩] scope pos) 0 it (.ref D) env = (do
      standAt i0.pos
      match ← pyNext it with
      | none => pure (.done .next)
      | some v =>
        letOwnedTupleGo t0 it v
        assign t0 env v
        let ok ← testsRun ifs0 env
        if ok then
          let x ← eval i1 env
          standAt i1.pos
          let x ← foldedSetIterable i1 env x
          let _ ← runOwn (.compStart (.DictComp kx vx [⟨t0, i0, ifs0, 0⟩, ⟨t1, i1, ifs1, 0⟩] scope pos) 1 (← holding [x] (pyIter x)) (.ref D) env) env
        again (.compLoop (.DictComp kx vx [⟨t0, i0, ifs0, 0⟩, ⟨t1, i1, ifs1, 0⟩] scope pos) 0 it (.ref D) env)) := by rfl
  rw [e]
  refine wpAny_bind (wpAny_standAt (wpAny_bind (noE (turn n s hI) fun r s₁ h₁ => ?_)))
  cases r with
  | none => exact wpAny_pure h₁
  | some v =>
    refine wpAny_bind (noE h₁ fun _ s₂ h₂ => wpAny_bind (noE h₂ fun _ s₃ h₃ => wpAny_bind (noE h₃ fun ok s₄ h₄ => ?_)))
    cases ok with
    | false => exact wpAny_pure ⟨rfl, h₄⟩
    | true =>
      refine wpAny_bind (noE h₄ fun x s₅ h₅ => ?_)
      refine wpAny_bind (wpAny_standAt (wpAny_bind (wpAny_of_eq (hs x) (wpAny_bind (wpAny_holding (noE h₅ fun it1 s₆ h₆ => ?_))))))
      refine wpAny_bind (wpAny_runOwn ?_)
      rw [Around.mark_none]
      refine codeAny_mono h₆ fun r s' hr => ?_
      cases r with
      | ok f => exact wpAny_pure ⟨rfl, hr⟩
      | error e => exact hr.elim
theorem loop_dict3 : LoopBy (model prog w) A (.DictComp kx vx [⟨t0, i0, ifs0, 0⟩, ⟨t1, i1, ifs1, 0⟩] scope pos) 1 (.ref D) t1 ifs1 env (bdPut prog w A kx vx D env) := by
  intro it R I turn n s h
  refine codeAny_loop rfl I (fun n s hI => ?_) n h
  show wpAny _ A ((compTurn (.DictComp kx vx [⟨t0, i0, ifs0, 0⟩, ⟨t1, i1, ifs1, 0⟩] scope pos) 1 it (.ref D) env).onRaise (fun x => do noteFrame x env; theTreesLotGoes x)) _ _ s
  refine wpAny_noted ?_
  have e : compTurn (.DictComp kx vx [⟨t0, i0, ifs0, 0⟩, ⟨t1, i1, ifs1, 0⟩] scope pos) 1 it (.ref D) env = (do
      standAt i1.pos
      match ← pyNext it with
      | none => pure (.done .next)
      | some v =>
        letOwnedTupleGo t1 it v
        assign t1 env v
        let ok ← testsRun ifs1 env
        if ok then
          (do
            let kv ← eval kx env
            let vv ← holding [kv] (eval vx env)
            standAt { kx.pos with endLine := vx.pos.endLine, endCol := vx.pos.endCol }
            holding [kv, vv] (dictSet D kv vv))
        again (.compLoop (.DictComp kx vx [⟨t0, i0, ifs0, 0⟩, ⟨t1, i1, ifs1, 0⟩] scope pos) 1 it (.ref D) env)) := by rfl
  rw [e]
  refine wpAny_bind (wpAny_standAt (wpAny_bind (noE (turn n s hI) fun r s₁ h₁ => ?_)))
  cases r with
  | none => exact wpAny_pure h₁
  | some v =>
    refine wpAny_bind (noE h₁ fun _ s₂ h₂ => wpAny_bind (noE h₂ fun _ s₃ h₃ => wpAny_bind (noE h₃ fun ok s₄ h₄ => ?_)))
    cases ok with
    | false => exact wpAny_pure ⟨rfl, h₄⟩
    | true => exact wpAny_bind (wpAny_bind (noE h₄ fun kv s₅ h₅ => wpAny_bind (wpAny_holding (noE h₅ fun vv s₆ h₆ => wpAny_bind (wpAny_standAt (wpAny_holding (noE h₆ fun _ s₇ h₇ => wpAny_pure ⟨rfl, h₇⟩)))))))
end

/-! ### over the abstract heap -/
/-- d[y] = v, as a comprehension does it -/
theorem d_dictPut {X : Cx} {pins : List (Addr × Obj)} {σ : St} {H H' : Hp} {s : Shared} {a : Addr} {y v : V} {u r : Value} {Q : Unit → Shared → Prop} (hu : X.A.units < cLine) (I : Inv X pins σ H s) (g : DPut H a y v H') (ry : RelV y u) (rv : RelV v r) (h : ∀ s', Inv X pins σ H' s' → Q () s') :
    wpAny (model X.prog X.w) X.A (dictSet a u r) Q NoE s := by
  rcases g with ⟨kvs, k, e, ey, l, eH⟩ | ⟨kvs, k, b, e, ey, eb, l, eH⟩
  · subst ey eH
    exact d_dictSet I e l ry rv h
  · subst ey eH
    cases (show u = Value.ref b from ry)
    obtain ⟨z, hd, xs, rel, dd⟩ := dt_of I.hok e
    have hz : xs.length ≤ sizeLine := by rw [← Paired.length rel]; exact z
    have hl : (putK kvs k v).length ≤ sizeLine := by have := length_putK kvs k v; omega
    refine wpAny_dictSet_heap (hsz := hz) hu (key_of I.hok eb) dd fun h' dd' hs => h _ ?_
    obtain ⟨q, es, ep, hq, h2, h3, h4, _, h5⟩ := dd'
    refine d_write I (by rw [e]; exact True.intro) hs ⟨q, hq⟩ ⟨hl, hd, _, (rel.put k eb rv).keeps fun c ys ec => ?_, q, es, ep, hq, h2, h3, h4, h5⟩
    rw [upd_ne (ne_of ec e (fun z => nomatch z))]
    exact ec
/-- the reading of a body: the dict, the slots, the heap, what is to be reached -/
abbrev TBd := Addr → St → Hp → (Hp → Prop) → Prop
def BodyOk (X : Cx) (vs : List Nat) (Bd : Bdy) (tb : St → Hp → (Hp → Prop) → Prop) : Prop :=
  ∀ (pins : List (Addr × Obj)) (s : Shared) (σ : St) (H : Hp) (Nx : Hp → Prop), Inv X pins σ H s → tb σ H Nx → ∀ T : Shared → Prop, (∀ s' ws H', (∀ i ∈ ws, i ∈ vs) → Inv X pins (wipe σ ws) H' s' → Nx H' → T s') → Bd T s
def tPut (tk tv : TE) : TBd := fun D σ H Nx => tk σ H fun y H1 => tv σ H1 fun z H2 => ∃ H3, DPut H2 D y z H3 ∧ Nx H3
theorem body_put {X : Cx} {vs : List Nat} {kx vx : Expr} {tk tv : TE} {D : Addr} (hu : X.A.units < cLine) (hx : X.xe = NoE) (hk : PE X kx tk) (hv : PE X vx tv) : BodyOk X vs (bdPut X.prog X.w X.A kx vx D X.env) (tPut tk tv D) := by
  intro pins s σ H Nx I h T hT
  unfold bdPut
  refine wpAny_mono (hk.run pins s σ H _ I h) (fun kv s1 ⟨y, H1, I1, r1, q1⟩ => ?_) fun e s' z => by rw [hx] at z; exact z
  refine wpAny_mono (hv.run pins s1 σ H1 _ I1 q1) (fun vv s2 ⟨z, H2, I2, r2, H3, q2, q3⟩ => ?_) fun e s' z => by rw [hx] at z; exact z
  exact d_dictPut hu I2 q2 r1 r2 fun s3 I3 => hT s3 [] H3 (fun i hi => (nomatch hi)) I3 q3
/-- a loop's reading -/
def tLoop (J : It) (g : TG) (tt : TT) (tb : St → Hp → (Hp → Prop) → Prop) (vs : List Nat) (σ : St) (H1 : Hp) (Qe : Hp → Prop) : Prop := ∃ W : Nat → Nat → Hp → Prop, (∃ m, W 0 m H1) ∧ ∀ i m H, W i m H →
  (J.stop i H ∧ Qe H) ∨ (J.go i H ∧ ∃ Nx : Hp → Prop, (∀ H', Nx H' → ∃ m', m' < m ∧ W (i + 1) m' H') ∧ ∀ x H', J.yld i H x H' → g x (wipe σ vs) H' fun σ2 H2 => wipe σ2 vs = wipe σ vs ∧ tt σ2 H2 fun b H3 => if b = true then tb σ2 H3 Nx else Nx H3)
/-- the loop by its reading, in a block whose slots σ0 all were wiped of vs -/
theorem loop_ok {X : Cx} {C : Expr} {j : Nat} {acc : Value} {tg : Expr} {ifs : List Expr} {Bd : Bdy} {g : TG} {tt : TT} {tb : St → Hp → (Hp → Prop) → Prop} {vs : List Nat} {σ0 : St} {Qe : Hp → Prop} {R : Result → Shared → Prop} {it : Addr} {fp : List Addr} {J : It} {tn : Nat → Heap → Prop} {pins : List (Addr × Obj)}
    (hc : X.calm = true) (hx : X.xe = NoE) (lb : LoopBy (model X.prog X.w) X.A C j acc tg ifs X.env Bd) (hg : PG X tg g) (ht : PTs X ifs tt) (hb : BodyOk X vs Bd tb) (T : Turn X.prog X.w X.K tg J fp it tn)
    (stat : ∀ {σ' : St} {H' : Hp} {s' : Shared}, Inv X pins σ' H' s' → (∀ b ∈ fp, H' b = none) → ∀ b ∈ fp, FpOk X pins H' b)
    (end_ : ∀ H' s', Inv X pins (wipe σ0 vs) H' s' → Qe H' → R (.ok .next) s') {s : Shared} {H : Hp} (I : Inv X pins (wipe σ0 vs) H s) (st : tn 0 s.heap) (nf : ∀ b ∈ fp, H b = none) (h : tLoop J g tt tb vs σ0 H Qe) :
    codeAny (model X.prog X.w) X.A (.compLoop C j (.ref it) acc X.env) R s := by
  obtain ⟨W, ⟨m0, w0⟩, turn⟩ := h
  refine lb (.ref it) R (fun n s' => ∃ i H', Inv X pins (wipe σ0 vs) H' s' ∧ tn i s'.heap ∧ (∀ b ∈ fp, H' b = none) ∧ W i n H') ?_ m0 s ⟨0, H, I, st, nf, w0⟩
  rintro n s5 ⟨i, H5, I5, st5, n5, w5⟩
  unfold turnOf
  rcases turn i n H5 w5 with ⟨stop, qq⟩ | ⟨go, Nx, hNx, step⟩
  · refine thn (T.done X rfl rfl rfl hc i pins s5 _ H5 NoE I5 (stat I5 n5) st5 stop) fun r s6 ⟨hr, I6⟩ => ?_
    subst hr
    exact end_ H5 s6 I6 qq
  · refine thn (T.item X rfl rfl rfl hc i pins s5 _ H5 NoE I5 (stat I5 n5) st5 go) fun r s6 ⟨u, hr, h6⟩ => ?_
    subst hr
    refine thn h6 fun _ s7 ⟨x, H7, I7, r7, y7, st7, n7⟩ => ?_
    have I7' := I7.pinned (stat I7 n7) (T.obj _ _ st7)
    refine wpAny_mono (hg.run _ s7 _ H7 x u _ I7' r7 (step x H7 y7)) (fun _ s8 ⟨σ8, H8, I8, hw8, q8⟩ => ?_) fun e s' z => by rw [hx] at z; exact z
    refine wpAny_mono (ht.run _ s8 σ8 H8 _ I8 q8) (fun b s9 ⟨H9, I9, q9⟩ => ?_) fun e s' z => by rw [hx] at z; exact z
    have fin : ∀ {ws : List Nat} {s' : Shared} {H' : Hp}, (∀ i ∈ ws, i ∈ vs) → Inv X (pins ++ pinsAt fp s7.heap) (wipe σ8 ws) H' s' → Nx H' → ∃ m, m < n ∧ ∃ i H', Inv X pins (wipe σ0 vs) H' s' ∧ tn i s'.heap ∧ (∀ b ∈ fp, H' b = none) ∧ W i m H' := by
      intro ws s' H' hws I' nx
      obtain ⟨m', hm, w'⟩ := hNx H' nx
      have pin' : ∀ b ∈ fp, ∀ o, s7.heap.get? b = some o → s'.heap.get? b = some o ∧ H' b = none := fun b hb o e =>
        let z := I'.pin (b, o) (List.mem_append_right _ (List.mem_append_right _ (mem_pinsAt hb e)))
        ⟨z.1, z.2.1⟩
      refine ⟨m', hm, i + 1, H', I'.unpinned.weak (by rw [← hw8, wipe_length, wipe_length]) (fun j v e => ?_), T.keep _ _ _ st7 fun b hb o e => (pin' b hb o e).1, fun b hb => ?_, w'⟩
      · rw [← hw8] at e
        obtain ⟨e1, e2⟩ := wipe_some e
        rw [wipe_out fun z => e2 (hws j z)]
        exact e1
      · obtain ⟨o, e, _⟩ := T.obj _ _ st7 b hb
        exact (pin' b hb o e).2
    cases b with
    | false =>
      show ∃ m, m < n ∧ _
      exact fin (ws := []) (fun i hi => (nomatch hi)) I9 q9
    | true =>
      show Bd _ s9
      exact hb (pins ++ pinsAt fp s7.heap) s9 σ8 H9 Nx I9 q9 _ fun s' ws H' a b c => fin a b c
/-- the second clause within the first -/
def tIn (wi : TI) (g : TG) (tt : TT) (tb : TBd) (vs1 : List Nat) : TBd := fun D σ H Nx => wi σ H fun J H1 => tLoop J g tt (tb D) vs1 σ H1 Nx
theorem compStart1_dict {prog : Program} {w : World} {A : Around} {R : Result → Shared → Prop} {s : Shared} {kx vx t0 i0 t1 i1 : Expr} {ifs0 ifs1 : List Expr} {scope : Scope} {pos : Pos} {it acc : Value} {env : Env}
    (h0 : codeAny (model prog w) A (.compLoop (.DictComp kx vx [⟨t0, i0, ifs0, 0⟩, ⟨t1, i1, ifs1, 0⟩] scope pos) 1 it acc env) R s)
    (h : wpAny (model prog w) A (pyIter it) (fun it' s' => codeAny (model prog w) A (.compLoop (.DictComp kx vx [⟨t0, i0, ifs0, 0⟩, ⟨t1, i1, ifs1, 0⟩] scope pos) 1 it' acc env) R s') (notedBy (model prog w) A env fun x s' => R (.error x) s') s) :
    codeAny (model prog w) A (.compStart (.DictComp kx vx [⟨t0, i0, ifs0, 0⟩, ⟨t1, i1, ifs1, 0⟩] scope pos) 1 it acc env) R s := by
  refine codeAny_of_tree ?_
  show wpAny _ _ ((compStart (.DictComp kx vx [⟨t0, i0, ifs0, 0⟩, ⟨t1, i1, ifs1, 0⟩] scope pos) 1 it acc env).onRaise (fun x => do noteFrame x env; standAt theWindowsPlace)) _ _ s
  refine wpAny_notedAt ?_
  unfold compStart
  show wpAny _ _ (ask >>= _) _ _ s
  refine wpAny_bind (wpAny_askSetting (wpAny_ite ?_))
  split
  · first
      | exact wpAny_bind (wpAny_pure (wpAny_pure (And.intro rfl h0)))
      | exact wpAny_pure (And.intro rfl h0)
  · refine wpAny_bind (wpAny_rule ?_)
    first
      | exact wpAny_bind (wpAny_standAt (wpAny_bind (wpAny_mono h (fun it' s' h' => wpAny_pure (And.intro rfl h')) fun _ _ x => x)))
      | (show wpAny _ _ (standAt i1.pos >>= _) _ _ s; exact wpAny_bind (wpAny_standAt (wpAny_bind (wpAny_mono h (fun it' s' h' => wpAny_pure (And.intro rfl h')) fun _ _ x => x))))
theorem body_in {X : Cx} {vs vs1 : List Nat} {kx vx t0 i0 t1 i1 : Expr} {ifs0 ifs1 : List Expr} {scope : Scope} {pos : Pos} {tk tv : TE} {wi : TI} {g : TG} {tt : TT} {D : Addr} (hc : X.calm = true) (hu : X.A.units < cLine) (hx : X.xe = NoE) (hv1 : ∀ i ∈ vs1, i ∈ vs)
    (hi : PI X t1 i1 wi) (hg : PG X t1 g) (ht : PTs X ifs1 tt) (hk : PE X kx tk) (hv : PE X vx tv) :
    BodyOk X vs (bdIn X.prog X.w X.A (.DictComp kx vx [⟨t0, i0, ifs0, 0⟩, ⟨t1, i1, ifs1, 0⟩] scope pos) i1 D X.env) (tIn wi g tt (tPut tk tv) vs1 D) := by
  intro pins s σ H Nx I h T hT
  unfold bdIn
  refine wpAny_mono (hi.run pins s σ H _ I h) (fun xv s1 hx1 => wpAny_mono hx1 (fun itv s2 h2 => ?_) fun e s' z => by rw [hx] at z; exact z) fun e s' z => by rw [hx] at z; exact z
  obtain ⟨it, fp, tn, J, H2, e, I2, Tn, st2, f2, q⟩ := h2
  subst e
  have stat : ∀ {σ' : St} {H' : Hp} {s' : Shared}, Inv X pins σ' H' s' → (∀ b ∈ fp, H' b = none) → ∀ b ∈ fp, FpOk X pins H' b := fun {σ' H' s'} _ hn b hb => ⟨hn b hb, (f2 b hb).2⟩
  have loop := loop_ok (R := fun r s' => match r with
    | .ok _ => T s'
    | .error _ => False) (it := it) (C := .DictComp kx vx [⟨t0, i0, ifs0, 0⟩, ⟨t1, i1, ifs1, 0⟩] scope pos) (acc := .ref D) (pins := pins) (σ0 := σ) (vs := vs1) (Qe := Nx) hc hx loop_dict3 hg ht (body_put (vs := vs1) (D := D) hu hx hk hv) Tn stat (fun H' s' I' nx => hT s' vs1 H' hv1 I' nx)
    (I2.weak (wipe_length _ _) fun j v e => (wipe_some e).1) st2 (fun b hb => (f2 b hb).1) q
  exact compStart1_dict loop (Tn.self X.A 0 _ _ _ st2 loop)

/-! ### the whole -/
section
variable {X : Cx}
def tDcG (wi : TI) (g : TG) (tt : TT) (tb : TBd) (vs : List Nat) : TE := fun σ H Q => wi σ H fun J H1 => ∀ D, H1 D = none → tLoop J g tt (tb D) vs σ (upd H1 D (.dT [])) fun H' => Q (.ref D) H'
theorem dcG_core {C : Expr} {tg iter : Expr} {ifs : List Expr} {gs : List Comprehension} {scope : Scope} {own : List (Str × Nat)} {pos' : Pos} {wi : TI} {g : TG} {tt : TT} {tb : TBd} {Bd : Addr → Env → Bdy} {pins : List (Addr × Obj)} {s : Shared} {σ : St} {H : Hp} {Q : VK}
    (hC : clausesOf C = ⟨tg, iter, ifs, 0⟩ :: gs) (hc : X.calm = true) (hN : X.N.Nodup) (I : Inv X pins σ H s) (hi : PI X tg iter wi) (ok : BlkOk X.N X.env.scope scope own)
    (hg : ∀ (s : Shared) (H : Hp) (C : Addr) (cl : List (Str × Addr)) (fp : List Addr), PG (X.blk s H scope (compEnvC scope cl C X.env) fp) tg g)
    (ht : ∀ (s : Shared) (H : Hp) (C : Addr) (cl : List (Str × Addr)) (fp : List Addr), PTs (X.blk s H scope (compEnvC scope cl C X.env) fp) ifs tt)
    (hb : ∀ (s : Shared) (H : Hp) (C : Addr) (cl : List (Str × Addr)) (fp : List Addr) (D : Addr), BodyOk (X.blk s H scope (compEnvC scope cl C X.env) fp) (own.map (·.2)) (Bd D (compEnvC scope cl C X.env)) (tb D))
    (lb : ∀ (D : Addr) (env : Env), LoopBy (model X.prog X.w) X.A C 0 (.ref D) tg ifs env (Bd D env))
    (st : ∀ (it acc : Value) (env : Env) (R : Result → Shared → Prop) (s : Shared), codeAny (model X.prog X.w) X.A (.compLoop C 0 it acc env) R s →
      wpAny (model X.prog X.w) X.A (pyIter it) (fun it' s' => codeAny (model X.prog X.w) X.A (.compLoop C 0 it' acc env) R s') (notedBy (model X.prog X.w) X.A env fun x s' => R (.error x) s') s → codeAny (model X.prog X.w) X.A (.compStart C 0 it acc env) R s)
    (hs : ∀ x, foldedSetIterable iter X.env x = pure x) (h : tDcG wi g tt tb (own.map (·.2)) σ H Q) :
    wpAny (model X.prog X.w) X.A (comprehension C scope X.env pos' newDict false (eval iter X.env) none) (EP X pins σ Q) X.xe s := by
  have hfree : ∀ y ∈ scope.names, y.2 = .free → ∃ c, X.env.cells.lookup y.1 = some c := fun y hy e => by
    rcases ok.free y hy e with k | k
    · exact I.ok.has _ (.inl k)
    · exact I.ok.has _ (.inr k)
  refine wpAny_comprehension_free (use := none) hC hs (closure_ok hfree) ok.kind (fun y hy e => by rw [ok.uniq y hy, e]) (thn (hi.run pins s σ H _ I h) fun xv s1 hx => thn hx fun itv s2 h2 => ?_)
  obtain ⟨it, fp, tn, J, H2, e, I2, T, st2, f2, q⟩ := h2
  subst e
  refine wpAny_newObj_type (newEnv_comp ?_)
  have hD : H2 s2.heap.objs.size = none := I2.hok.fresh (Nat.le_refl _)
  have w0 := q _ hD
  have I3 : Inv X pins σ (upd H2 s2.heap.objs.size (.dT [])) { s2 with heap := s2.heap.push { cls := .type "dict", data := .dict #[] } } := I2.laid (t' := s2.toks) (fun b o e => Heap.get?_push_of_some _ e) (Nat.le_refl _) (dt_empty s2.heap I2.big)
  have sz : ∀ b ∈ fp, b < s2.heap.objs.size := fun b hb => by
    obtain ⟨o, e, _⟩ := T.obj _ _ st2 b hb
    exact Heap.lt_size e
  have f3 : ∀ b ∈ fp, FpOk X pins (upd H2 s2.heap.objs.size (.dT [])) b ∧ b < (s2.heap.push { cls := .type "dict", data := .dict #[] }).objs.size := fun b hb => by
    have hlt := sz b hb
    refine ⟨⟨?_, (f2 b hb).2⟩, by rw [Heap.size_push]; exact Nat.lt_succ_of_lt hlt⟩
    rw [upd_ne (Nat.ne_of_lt hlt)]
    exact (f2 b hb).1
  have st3 : tn 0 (s2.heap.push { cls := .type "dict", data := .dict #[] }) := T.keep _ _ _ st2 fun b _ o e => Heap.get?_push_of_some _ e
  generalize s2.heap.objs.size = D at hD w0 I3 f3 ⊢
  generalize hs3 : ({ s2 with heap := s2.heap.push { cls := .type "dict", data := .dict #[] } } : Shared) = s3 at I3 ⊢
  have h3 : s3.heap = s2.heap.push { cls := .type "dict", data := .dict #[] } := by rw [← hs3]
  rw [← h3] at f3 st3
  generalize upd H2 D (.dT []) = H3 at w0 I3 f3
  have I4 := block_start I3 ok hN f3
  show codeAny _ _ (.compStart C 0 (.ref it) (.ref D) (compEnvC scope (cellsFrom (s3.heap.objs.size + 1) scope.names (cloFrom X.env.cells scope.names [])) s3.heap.objs.size X.env)) (compPost (model X.prog X.w) X.A X.xe none _ (.ref D) s3.heap.objs.size) { s3 with heap := pushCells (s3.heap.push { cls := .type "dict", data := .dict #[] }) scope.names }
  have pg := hg s3 H3 s3.heap.objs.size (cellsFrom (s3.heap.objs.size + 1) scope.names (cloFrom X.env.cells scope.names [])) fp
  have pt := ht s3 H3 s3.heap.objs.size (cellsFrom (s3.heap.objs.size + 1) scope.names (cloFrom X.env.cells scope.names [])) fp
  have pb := hb s3 H3 s3.heap.objs.size (cellsFrom (s3.heap.objs.size + 1) scope.names (cloFrom X.env.cells scope.names [])) fp D
  have lbD := lb D (compEnvC scope (cellsFrom (s3.heap.objs.size + 1) scope.names (cloFrom X.env.cells scope.names [])) s3.heap.objs.size X.env)
  have nfp : ∀ b ∈ fp, H3 b = none := fun b hb => (f3 b hb).1.1
  have st4 : tn 0 (pushCells (s3.heap.push { cls := .type "dict", data := .dict #[] }) scope.names) := T.keep _ _ _ st3 fun b _ o e => pushCells_keeps _ _ _ _ (Heap.get?_push_of_some _ e)
  generalize hce : compEnvC scope (cellsFrom (s3.heap.objs.size + 1) scope.names (cloFrom X.env.cells scope.names [])) s3.heap.objs.size X.env = ce at I4 pg pt pb lbD ⊢
  have cL : ce.locals = s3.heap.objs.size := by subst hce; rfl
  have stat : ∀ {σ' : St} {H' : Hp} {s' : Shared}, Inv (X.blk s3 H3 scope ce fp) [] σ' H' s' → (∀ b ∈ fp, H' b = none) → ∀ b ∈ fp, FpOk (X.blk s3 H3 scope ce fp) [] H' b := fun {σ' H' s'} I' hn b hb =>
    ⟨hn b hb, (I'.ok.exf b hb).1, I'.ok.exfs b hb, .inl hb, fun x c e => (I'.ok.exf b hb).2 x c e, fun p hp => absurd (show p ∈ ([] : List (Addr × Obj)) ++ [] from hp) (by simp)⟩
  have loop := loop_ok (X := X.blk s3 H3 scope ce fp) (R := compPost (model X.prog X.w) X.A X.xe none (EP X pins σ Q) (.ref D) s3.heap.objs.size) (it := it) (C := C) (acc := .ref D) (pins := []) (σ0 := σ) (Qe := fun H' => Q (.ref D) H')
    hc rfl lbD pg pt pb T stat (fun H5 s6 I6 qq => by
      have I7 : Inv X pins σ H5 s6 := I3.call' (ch := fp) I6.os I6.base I6.hok I6.bare fun b hb => ⟨(f3 b hb).1.2.2.2.1, (f3 b hb).1.2.1, (f3 b hb).1.2.2.2.2.1, (f3 b hb).1.2.2.2.2.2⟩
      have nC : H5 s3.heap.objs.size = none := by
        have z : H5 ce.locals = none := I6.free
        rw [cL] at z
        exact z
      obtain ⟨m, hn, _⟩ := I6.loc
      have hn : s6.heap.Ns ce.locals m := hn
      rw [cL] at hn
      have hf := I3.fpOk (Nat.le_refl _) nC
      refine ⟨m, hn, fun h'' sb => ?_⟩
      obtain ⟨f0, f1, f2, f3, f4, f5⟩ := hf
      exact ⟨.ref D, H5, I7.turned (t' := s6.toks) (fun b o hb e => (sb.2 b hb).trans e) f0 f1 f3 f4 f5, rfl, qq⟩) I4 st4 nfp w0
  exact st _ _ _ _ _ loop (T.self X.A 0 _ _ _ st4 loop)
/-- {k: v for t in iter if ..}, keys tuples -/
theorem pe_dcT {kx vx tg iter : Expr} {ifs : List Expr} {scope : Scope} {own : List (Str × Nat)} {pos : Pos} {wi : TI} {g : TG} {tt : TT} {tk tv : TE} (hc : X.calm = true) (hu : X.A.units < cLine) (hN : X.N.Nodup) (hi : PI X tg iter wi) (ok : BlkOk X.N X.env.scope scope own)
    (hg : ∀ (s : Shared) (H : Hp) (C : Addr) (cl : List (Str × Addr)) (fp : List Addr), PG (X.blk s H scope (compEnvC scope cl C X.env) fp) tg g) (ht : ∀ (s : Shared) (H : Hp) (C : Addr) (cl : List (Str × Addr)) (fp : List Addr), PTs (X.blk s H scope (compEnvC scope cl C X.env) fp) ifs tt)
    (hk : ∀ (s : Shared) (H : Hp) (C : Addr) (cl : List (Str × Addr)) (fp : List Addr), PE (X.blk s H scope (compEnvC scope cl C X.env) fp) kx tk)
    (he : ∀ (s : Shared) (H : Hp) (C : Addr) (cl : List (Str × Addr)) (fp : List Addr), PE (X.blk s H scope (compEnvC scope cl C X.env) fp) vx tv) (hs : ∀ x, foldedSetIterable iter X.env x = pure x := by intro _; rfl) :
    PE X (.DictComp kx vx [⟨tg, iter, ifs, 0⟩] scope pos) (tDcG wi g tt (tPut tk tv) (own.map (·.2))) := by
  refine ⟨fun pins s σ H Q I h => ?_⟩
  rw [arm_eval_DictComp]
  exact dcG_core (Bd := fun D env => bdPut X.prog X.w X.A kx vx D env) rfl hc hN I hi ok hg ht (fun s H C cl fp D => body_put hu rfl (hk s H C cl fp) (he s H C cl fp)) (fun D env => loop_dict1) (fun it acc env R s a b => codeAny_compStart_dict a b) hs h
/-- {k: v for t in iter if .. for u in iter' if ..}, keys tuples -/
theorem pe_dcT2 {kx vx tg iter tg1 iter1 : Expr} {ifs ifs1 : List Expr} {scope : Scope} {own : List (Str × Nat)} {vs1 : List Nat} {pos : Pos} {wi wi1 : TI} {g g1 : TG} {tt tt1 : TT} {tk tv : TE} (hc : X.calm = true) (hu : X.A.units < cLine) (hN : X.N.Nodup) (hi : PI X tg iter wi) (ok : BlkOk X.N X.env.scope scope own) (hv : ∀ i ∈ vs1, i ∈ own.map (·.2))
    (hg : ∀ (s : Shared) (H : Hp) (C : Addr) (cl : List (Str × Addr)) (fp : List Addr), PG (X.blk s H scope (compEnvC scope cl C X.env) fp) tg g) (ht : ∀ (s : Shared) (H : Hp) (C : Addr) (cl : List (Str × Addr)) (fp : List Addr), PTs (X.blk s H scope (compEnvC scope cl C X.env) fp) ifs tt)
    (hi1 : ∀ (s : Shared) (H : Hp) (C : Addr) (cl : List (Str × Addr)) (fp : List Addr), PI (X.blk s H scope (compEnvC scope cl C X.env) fp) tg1 iter1 wi1)
    (hg1 : ∀ (s : Shared) (H : Hp) (C : Addr) (cl : List (Str × Addr)) (fp : List Addr), PG (X.blk s H scope (compEnvC scope cl C X.env) fp) tg1 g1) (ht1 : ∀ (s : Shared) (H : Hp) (C : Addr) (cl : List (Str × Addr)) (fp : List Addr), PTs (X.blk s H scope (compEnvC scope cl C X.env) fp) ifs1 tt1)
    (hk : ∀ (s : Shared) (H : Hp) (C : Addr) (cl : List (Str × Addr)) (fp : List Addr), PE (X.blk s H scope (compEnvC scope cl C X.env) fp) kx tk)
    (he : ∀ (s : Shared) (H : Hp) (C : Addr) (cl : List (Str × Addr)) (fp : List Addr), PE (X.blk s H scope (compEnvC scope cl C X.env) fp) vx tv) (hs : ∀ x, foldedSetIterable iter X.env x = pure x := by intro _; rfl) (hs1 : ∀ env x, foldedSetIterable iter1 env x = pure x := by intro _ _; rfl) :
    PE X (.DictComp kx vx [⟨tg, iter, ifs, 0⟩, ⟨tg1, iter1, ifs1, 0⟩] scope pos) (tDcG wi g tt (tIn wi1 g1 tt1 (tPut tk tv) vs1) (own.map (·.2))) := by
  refine ⟨fun pins s σ H Q I h => ?_⟩
  rw [arm_eval_DictComp]
  exact dcG_core (Bd := fun D env => bdIn X.prog X.w X.A (.DictComp kx vx [⟨tg, iter, ifs, 0⟩, ⟨tg1, iter1, ifs1, 0⟩] scope pos) iter1 D env) rfl hc hN I hi ok hg ht (fun s H C cl fp D => body_in hc hu rfl hv (hi1 s H C cl fp) (hg1 s H C cl fp) (ht1 s H C cl fp) (hk s H C cl fp) (he s H C cl fp))
    (fun D env => loop_dict2 (hs1 env)) (fun it acc env R s a b => codeAny_compStart_dict a b) hs h
end
end Fs

/-! FsE: sets of nested tuples (texts and numbers): set(xs) of a list, sorted(set). -/
namespace Fs
open PySem PySem.Spec L2

abbrev NK := NestedKey
section
variable {P : Program} {w : World} {A : Around} {E : Value → Shared → Prop} {s : Shared}
/-- the tuple at a is the key k -/
abbrev KI (P : Program) (w : World) (h : Heap) (k : NK) (a : Addr) : Prop := (nestedKind P w).is h k a
theorem ki_keep {h h' : Heap} {k : NK} {b : Addr} (x : KI P w h k b) (hk : ∀ c o, h.get? c = some o → h'.get? c = some o) : KI P w h' k b :=
  ⟨NestedIs.at (fun c o vs n e _ => hk c o e) k _ x.1, x.2⟩
theorem ki_same {h h' : Heap} {k : NK} {a b : Addr} {o : Obj} {es : Array (Int × Value)} {ep : Nat} {t : SetTable} (x : KI P w h k b) (ho : h.get? a = some o) (hd : o.data = .set es ep t) (hs : Heap.SameBut a h h') : KI P w h' k b :=
  ⟨NestedIs.at (fun c oc vs n e d => (hs.2 c fun z => by
    subst z
    rw [ho] at e
    cases e
    rw [hd] at d
    cases d).trans e) k _ x.1, x.2⟩

/-! ### small questions -/
mutual
theorem ofAClass_key : ∀ (k : NK) (v : Value) (n : Nat) (s : Shared), NestedIs s.heap k v → k.depth ≤ n → ∀ (A : Around) (E : Value → Shared → Prop) (Q : Bool → Shared → Prop), Q false s → wpAny (model P w) A (ofAClassStatement n v) Q E s
  | .none, _, n, s, x, _, A, E, Q, h => by
    cases x
    cases n <;> exact wpAny_pure h
  | .num i, _, n, s, x, _, A, E, Q, h => by cases x <;> (cases n <;> exact wpAny_pure h)
  | .text y, _, n, s, x, _, A, E, Q, h => by
    cases x
    cases n <;> exact wpAny_pure h
  | .tup ks, _, n, s, x, hn, A, E, Q, h => by
    cases x with
    | @tup a o vs m _ ho hc hd hk =>
      simp only [NestedKey.depth] at hn
      cases n with
      | zero => omega
      | succ n =>
        have hT : s.TypeIs (.ref a) "tuple" := ⟨o, ho, hc⟩
        unfold ofAClassStatement
        refine wpAny_bind (wpAny_typeOf hT ?_)
        dsimp only
        have e : (("tuple" : String) == "tuple") = true := by decide
        simp only [e, if_true, Bool.not_true, Bool.false_eq_true, if_false]
        try refine wpAny_bind (wpAny_pure ?_)
        try simp only [Bool.not_true, Bool.false_eq_true, if_false]
        show wpAny _ _ (seqItems? (.ref a) >>= _) _ _ s
        refine wpAny_bind (wpAny_seqItems ho hd ?_)
        dsimp only
        refine wpAny_bind ?_
        show wpAny _ _ (forIn vs _ _) _ _ s
        rw [← Array.forIn_toList]
        refine wpAny_forIn_list _ (fun rest r s' => r.1 = none ∧ s' = s ∧ ∀ v ∈ rest, v ∈ vs.toList) _ ?_ ?_ _ _ ⟨rfl, rfl, fun _ z => z⟩
        · rintro v rest r s' ⟨hr, rfl, hall⟩
          refine wpAny_bind (ofAClass_keys ks vs.toList n s' hk (by omega) v (hall v List.mem_cons_self) _ _ _ ?_)
          simp only [Bool.false_eq_true, if_false]
          exact wpAny_pure ⟨rfl, rfl, fun u hu => hall u (List.mem_cons_of_mem _ hu)⟩
        · rintro ⟨r1, r2⟩ s' ⟨hr, rfl, _⟩
          simp only at hr
          subst hr
          exact wpAny_pure h
theorem ofAClass_keys : ∀ (ks : List NK) (vs : List Value) (n : Nat) (s : Shared), NestedAll s.heap ks vs → NestedKey.depthAll ks ≤ n → ∀ v ∈ vs, ∀ (A : Around) (E : Value → Shared → Prop) (Q : Bool → Shared → Prop), Q false s → wpAny (model P w) A (ofAClassStatement n v) Q E s
  | [], _, n, s, x, _, v, hv, A, E, Q, h => by cases x; cases hv
  | k :: ks, _, n, s, x, hn, v, hv, A, E, Q, h => by
    cases x with
    | cons x1 x2 =>
      simp only [NestedKey.depthAll] at hn
      rcases List.mem_cons.mp hv with e | hv
      · rw [e]; exact ofAClass_key k _ n s x1 (by omega) A E Q h
      · exact ofAClass_keys ks _ n s x2 (by omega) v hv A E Q h
end
mutual
theorem hashBy_key : ∀ (k : NK) (v : Value) (n : Nat) (s : Shared), NestedIs s.heap k v → ∀ (A : Around) (E : Value → Shared → Prop) (Q : Bool → Shared → Prop), (∀ b, Q b s) → wpAny (model P w) A (hashByValue n v) Q E s
  | .none, _, n, s, x, A, E, Q, h => by
    cases x
    cases n <;> exact wpAny_pure (h _)
  | .num i, _, n, s, x, A, E, Q, h => by cases x <;> (cases n <;> exact wpAny_pure (h _))
  | .text y, _, n, s, x, A, E, Q, h => by
    cases x
    cases n <;> exact wpAny_pure (h _)
  | .tup ks, _, n, s, x, A, E, Q, h => by
    cases x with
    | @tup a o vs m _ ho hc hd hk =>
      cases n with
      | zero => exact wpAny_pure (h _)
      | succ n =>
        have hT : s.TypeIs (.ref a) "tuple" := ⟨o, ho, hc⟩
        unfold hashByValue
        refine wpAny_bind (wpAny_specialOf hT F.slot_tuple_hash.lookup ?_)
        show wpAny _ _ (seqItems? (.ref a) >>= _) _ _ s
        refine wpAny_bind (wpAny_seqItems ho hd ?_)
        refine wpAny_bind ?_
        show wpAny _ _ (forIn vs _ _) _ _ s
        rw [← Array.forIn_toList]
        refine wpAny_forIn_list _ (fun rest r s' => (r.1 = none ∨ ∃ b, r.1 = some b) ∧ s' = s ∧ ∀ v ∈ rest, v ∈ vs.toList) _ ?_ ?_ _ _ ⟨.inl rfl, rfl, fun _ z => z⟩
        · rintro v rest r s' ⟨hr, rfl, hall⟩
          refine wpAny_bind (hashBy_keys ks vs.toList n s' hk v (hall v List.mem_cons_self) _ _ _ fun b => ?_)
          cases b with
          | true =>
            simp only [Bool.not_true, Bool.false_eq_true, if_false]
            exact wpAny_pure ⟨.inl rfl, rfl, fun u hu => hall u (List.mem_cons_of_mem _ hu)⟩
          | false =>
            simp only [Bool.not_false, if_true]
            exact wpAny_pure (wpAny_pure (h _))
        · rintro ⟨r1, r2⟩ s' ⟨hr, rfl, _⟩
          simp only at hr
          rcases hr with hr | ⟨b, hr⟩
          · subst hr
            exact wpAny_pure (h _)
          · subst hr
            exact wpAny_pure (h _)
theorem hashBy_keys : ∀ (ks : List NK) (vs : List Value) (n : Nat) (s : Shared), NestedAll s.heap ks vs → ∀ v ∈ vs, ∀ (A : Around) (E : Value → Shared → Prop) (Q : Bool → Shared → Prop), (∀ b, Q b s) → wpAny (model P w) A (hashByValue n v) Q E s
  | [], _, n, s, x, v, hv, A, E, Q, h => by cases x; cases hv
  | k :: ks, _, n, s, x, v, hv, A, E, Q, h => by
    cases x with
    | cons x1 x2 =>
      rcases List.mem_cons.mp hv with e | hv
      · rw [e]; exact hashBy_key k _ n s x1 A E Q h
      · exact hashBy_keys ks _ n s x2 v hv A E Q h
end
/-- a search among such tuples shows nothing -/
theorem seen_key {k : NK} {b : Addr} {Q : Bool → Shared → Prop} (hk : KI P w s.heap k b) {ys : List Value} (hy : ∀ y ∈ ys, ∃ k' c, y = Value.ref c ∧ KI P w s.heap k' c) (h : Q false s) :
    wpAny (model P w) A (searchCouldBeSeen (.ref b) ys) Q E s := by
  unfold searchCouldBeSeen
  refine wpAny_bind ?_
  refine wpAny_forIn_list _ (fun rest r s' => r.1 = none ∧ s' = s ∧ ∀ y ∈ rest, ∃ k' c, y = Value.ref c ∧ KI P w s.heap k' c) _ ?_ ?_ _ _ ⟨rfl, rfl, hy⟩
  · rintro v rest r s' ⟨hr, rfl, hall⟩
    obtain ⟨k', c, rfl, hc⟩ := hall v List.mem_cons_self
    have more : ∀ y ∈ rest, ∃ k' c, y = Value.ref c ∧ KI P w s'.heap k' c := fun u hu => hall u (List.mem_cons_of_mem _ hu)
    dsimp only
    by_cases hv : (b == c || (carriedByValue (.ref b) && carriedByValue (.ref c))) = true
    · exact wp_if_pos hv (wpAny_pure ⟨rfl, rfl, more⟩)
    · refine wp_if_neg hv ?_
      refine wpAny_bind ((nestedKind P w).quiet hk ?_)
      simp only [Bool.not_true, Bool.false_eq_true, if_false]
      refine wpAny_bind ((nestedKind P w).quiet hc ?_)
      simp only [Bool.not_true, Bool.false_eq_true, if_false]
      refine wpAny_bind (ofAClass_key k _ 8 s' hk.1 hk.2 _ _ _ ?_)
      simp only [Bool.false_eq_true, if_false]
      refine wpAny_bind (ofAClass_key k' _ 8 s' hc.1 hc.2 _ _ _ ?_)
      simp only [Bool.false_eq_true, if_false]
      exact wpAny_pure ⟨rfl, rfl, more⟩
  · rintro ⟨r1, r2⟩ s' ⟨hr, rfl, _⟩
    simp only at hr
    subst hr
    exact wpAny_pure h

/-! ### the set -/
abbrev hN (w : World) (k : NK) : Int := k.hash w
def rowsN (w : World) (L : List (Addr × NK)) : List (Int × Value) := L.map fun p => (hN w p.2, Value.ref p.1)
structure NSet (P : Program) (w : World) (h : Heap) (a : Addr) (L : List (Addr × NK)) (es : Array (Int × Value)) (ep : Nat) (t : SetTable) : Prop where
  ob : ∃ o, h.get? a = some o ∧ o.ExactSet ∧ o.data = .set es ep t
  rows : es.toList = rowsN w L
  tab : TabOk t (L.map fun p => hN w p.2)
  nd : (L.map (·.2)).Nodup
  tup : ∀ p ∈ L, KI P w h p.2 p.1
  led : w.params.followText "set-order" = true ∨ t.led = true
  room : L.length * 5 < t.mask * 3
  few : L.length < 64
variable {a : Addr} {L : List (Addr × NK)} {es : Array (Int × Value)} {ep : Nat} {t : SetTable}
theorem rows_len {L : List (Addr × NK)} {es : Array (Int × Value)} (h : es.toList = rowsN w L) : es.size = L.length := by
  have e := congrArg List.length h
  unfold rowsN at e
  rw [Array.length_toList, List.length_map] at e
  exact e
theorem NSet.fits (R : NSet P w s.heap a L es ep t) : t.fits es.size = true := by
  have h1 := R.tab.sz
  rw [List.length_map] at h1
  have h2 := rows_len R.rows
  have h3 := R.room
  unfold SetTable.fits SetTable.fill
  rw [R.tab.dm, Bool.and_eq_true, beq_iff_eq, decide_eq_true_eq]
  show t.place.size = es.size ∧ t.place.size + 0 ≤ t.mask
  omega
theorem entryN {i : Nat} {p : Addr × NK} (hr : es.toList = rowsN w L) (h : L[i]? = some p) : es[i]? = some (hN w p.2, Value.ref p.1) := by
  rw [← Array.getElem?_toList, hr]
  unfold rowsN
  rw [List.getElem?_map, h]
  rfl
theorem NSet.gw (R : NSet P w s.heap a L es ep t) : ¬ t.gaveWay = true := by
  unfold SetTable.gaveWay
  rw [mask_odd R.tab.mok]
  decide
theorem dummy_none (m : Nat) : ∀ (n : Nat) (p : SetTable.Probe), p.dummy = none → (nth m p n).dummy = none
  | 0, _, h => h
  | n + 1, p, h => dummy_none m n (adv m p) (by unfold adv; split <;> exact h)
/-- the search, from the c-th step of the way on; K is the first free place -/
theorem searchN_from (R : NSet P w s.heap a L es ep t) {x : Addr} {k : NK} (hx : KI P w s.heap k x) (hu : A.units + 8 < cLine) {K : Nat} (hKf : K < 10 * SetTable.turns t.mask)
    (hK : way t.mask (hN w k) K ∉ t.place.toList) (hKb : ∀ c, c < K → way t.mask (hN w k) c ∈ t.place.toList) {Q : SetFound → Shared → Prop}
    (hin : k ∈ L.map (·.2) → Q (.there none) s) (hout : k ∉ L.map (·.2) → Q (.free (way t.mask (hN w k) K) false) s) :
    ∀ (f c : Nat) (stand : Option SetTable.Probe), stand.getD (t.probeStart (hN w k)) = nth t.mask (runAt t.mask (SetTable.bits (hN w k) % (t.mask + 1)) (SetTable.bits (hN w k))) c → c ≤ K → K - c < f →
      (∀ (i : Nat) p, L[i]? = some p → p.2 = k → ∃ c', c ≤ c' ∧ c' < K ∧ t.place.toList[i]? = some (way t.mask (hN w k) c')) →
      wpAny (model P w) A (setSearchFrom a (.ref x) (hN w k) true f stand) Q E s
  | 0, c, stand, _, _, hf, _ => absurd hf (Nat.not_lt_zero _)
  | f + 1, c, stand, hst, hc, hf, hre => by
    obtain ⟨o, ho, hex, hd⟩ := R.ob
    rw [setSearchFrom_succ]
    refine wpAny_bind (wpAny_setState_of ho hd R.fits ?_)
    dsimp only
    refine wp_if_neg R.gw ?_
    try refine wpAny_bind (wpAny_pure ?_)
    generalize hp0 : runAt t.mask (SetTable.bits (hN w k) % (t.mask + 1)) (SetTable.bits (hN w k)) = p0 at hst
    have d0 : p0.dummy = none := by rw [← hp0]; rfl
    have wy : ∀ c, way t.mask (hN w k) c = (nth t.mask p0 c).j := fun c => by rw [← hp0]
    have sh : ∀ q, nth t.mask (nth t.mask p0 c) q = nth t.mask p0 (c + q) := fun q => (nth_add t.mask c _ q).symm
    have e1 : ∀ q, (nth t.mask (nth t.mask p0 c) q).j = way t.mask (hN w k) (c + q) := fun q => by rw [wy, sh]
    have spec := go_spec t R.tab.ris R.tab.dm (fun i => (es[i]?.map (·.1)).getD 0) (hN w k) (10 * SetTable.turns t.mask) (K - c) _ (dummy_none t.mask c p0 d0) (by omega)
      (fun q hq => by rw [e1]; exact hKb (c + q) (by omega)) (by rw [e1, show c + (K - c) = K by omega]; exact hK)
    have hashAt : ∀ (i : Nat) p, L[i]? = some p → (es[i]?.map (·.1)).getD 0 = hN w p.2 := fun i p hp => by
      rw [entryN R.rows hp]
      rfl
    rcases spec with ⟨q, i, hq, hi, hh, hno, hpr⟩ | ⟨hno, hpr⟩
    · have hpr' : t.probe (fun i => (es[i]?.map (·.1)).getD 0) (hN w k) (stand.getD (t.probeStart (hN w k))) = some (.candidate (way t.mask (hN w k) (c + q)) i (nth t.mask p0 (c + (q + 1)))) := by
        rw [hst, ← e1, ← sh]
        exact hpr
      rw [hpr']
      dsimp only
      rw [e1] at hi
      have hil : i < L.length := by
        have h1 : i < t.place.toList.length := (List.getElem?_eq_some_iff.mp hi).1
        have h2 := R.tab.sz
        rw [List.length_map] at h2
        rw [Array.length_toList] at h1
        omega
      have hp : L[i]? = some L[i] := List.getElem?_eq_getElem hil
      generalize L[i] = p at hp
      have hmem : p ∈ L := List.mem_of_getElem? hp
      have hsl : t.slot (way t.mask (hN w k) (c + q)) = .live i := slot_live R.tab.ris hi
      have rest : wpAny (model P w) A (searchRest a (.ref x) (hN w k) true f es t (way t.mask (hN w k) (c + q)) i (nth t.mask p0 (c + (q + 1)))) Q E s := by
        unfold searchRest
        rw [entryN R.rows hp]
        dsimp only
        refine wpAny_bind (wpAny_holding ((nestedKind P w).eqBool (show A.units + 8 < cLine from hu) (R.tup p hmem) hx ?_))
        refine wpAny_bind (wpAny_setState_of ho hd R.fits ?_)
        dsimp only
        by_cases hkk : p.2 = k
        · refine wp_if_pos (by simp [hkk]) (wpAny_pure (hin ?_))
          exact List.mem_map.mpr ⟨p, hmem, hkk⟩
        · refine wp_if_neg (by simp [hkk]) ?_
          try refine wpAny_bind (wpAny_pure ?_)
          rw [sameMem]
          dsimp only
          simp only [if_true, hsl, entryN R.rows hp]
          refine wpAny_bind (wpAny_isSame_ref_self (wpAny_bind (wpAny_pure ?_)))
          simp only [if_true]
          refine wp_if_neg (by simp [hkk]) ?_
          refine searchN_from R hx hu hKf hK hKb hin hout f (c + (q + 1)) _ (by rw [hp0]; rfl) (by omega) (by omega) fun i0 p1 h0 hk0 => ?_
          obtain ⟨c', a1, a2, a3⟩ := hre i0 p1 h0 hk0
          refine ⟨c', ?_, a2, a3⟩
          have hcase : c' < c + q ∨ c' = c + q ∨ c + q < c' := by omega
          rcases hcase with z | z | z
          · exfalso
            refine hno (c' - c) i0 (by omega) (by rw [e1, show c + (c' - c) = c' by omega]; exact a3) ?_
            exact (hashAt i0 p1 h0).trans (congrArg (hN w) hk0)
          · exfalso
            rw [z] at a3
            have s0 := slot_live R.tab.ris a3
            rw [hsl] at s0
            injection s0 with s0
            rw [← s0, hp] at h0
            exact hkk ((congrArg Prod.snd (Option.some.inj h0)).trans hk0)
          · omega
      by_cases hl : t.led = true
      · refine wp_if_neg (by simp [hl]) ?_
        try refine wpAny_bind (wpAny_pure ?_)
        exact rest
      · refine wp_if_pos (by simp [hl]) ?_
        refine wpAny_bind (seen_key hx (fun y hy => ?_) ?_)
        · obtain ⟨e, he, ee⟩ := List.mem_map.mp hy
          have he1 : e ∈ es ∧ e.1 = hN w k := by simpa using he
          have he2 : e ∈ es.toList := by simpa using he1.1
          rw [R.rows] at he2
          obtain ⟨p2, hp2, e2⟩ := List.mem_map.mp he2
          refine ⟨p2.2, p2.1, ?_, R.tup p2 hp2⟩
          rw [← ee, ← e2]
        · refine wp_if_neg (by decide) ?_
          try refine wpAny_bind (wpAny_pure ?_)
          exact rest
    · have hpr' : t.probe (fun i => (es[i]?.map (·.1)).getD 0) (hN w k) (stand.getD (t.probeStart (hN w k))) = some (.empty (way t.mask (hN w k) K) none) := by
        have e2 : way t.mask (hN w k) K = (nth t.mask (nth t.mask p0 c) (K - c)).j := by
          rw [e1, show c + (K - c) = K by omega]
        rw [hst, e2]
        exact hpr
      rw [hpr']
      dsimp only
      refine wpAny_pure (hout fun hm => ?_)
      obtain ⟨p1, h0, hk0⟩ := List.mem_map.mp hm
      obtain ⟨i0, hi0, e0⟩ := List.getElem_of_mem h0
      have h00 : L[i0]? = some p1 := by rw [List.getElem?_eq_getElem hi0, e0]
      obtain ⟨c', a1, a2, a3⟩ := hre i0 p1 h00 hk0
      refine hno (c' - c) i0 (by omega) (by rw [e1, show c + (c' - c) = c' by omega]; exact a3) ?_
      exact (hashAt i0 p1 h00).trans (congrArg (hN w) hk0)
theorem searchN (R : NSet P w s.heap a L es ep t) {x : Addr} {k : NK} (hx : KI P w s.heap k x) (hu : A.units + 8 < cLine) {Q : SetFound → Shared → Prop} (hin : k ∈ L.map (·.2) → Q (.there none) s)
    (hout : ∀ K, k ∉ L.map (·.2) → way t.mask (hN w k) K ∉ t.place.toList → (∀ c, c < K → way t.mask (hN w k) c ∈ t.place.toList) → Q (.free (way t.mask (hN w k) K) false) s) :
    wpAny (model P w) A (setSearch a (.ref x) (hN w k) true) Q E s := by
  have hroom := R.room
  obtain ⟨K, hKf, hK, hKb⟩ := R.tab.first (by rw [List.length_map]; omega) (hN w k)
  have hbig : 10 * SetTable.turns t.mask ≤ 1420 := by
    unfold SetTable.turns
    rcases R.tab.mok with e | e | e <;> omega
  unfold setSearch
  refine searchN_from R hx hu hKf hK hKb hin (fun hn => hout K hn hK hKb) 100000 0 none rfl (Nat.zero_le _) (by omega) fun i p hp hk => ?_
  have hi : (L.map fun p => hN w p.2)[i]? = some (hN w k) := by rw [List.getElem?_map, hp, ← hk]; rfl
  have hil : i < t.place.toList.length := by
    have h1 : i < L.length := (List.getElem?_eq_some_iff.mp hp).1
    have h2 := R.tab.sz
    rw [List.length_map] at h2
    rw [Array.length_toList]
    omega
  have hj := List.getElem?_eq_getElem hil
  obtain ⟨c, hc, e⟩ := R.tab.before hK hi hj
  exact ⟨c, Nat.zero_le _, hc, by rw [hj, e]⟩
/-! ### laying anew, adding -/
theorem rowsN_put (L : List (Addr × NK)) (p : Nat) (x : Addr) (k : NK) : rowsN w (L.take p ++ (x, k) :: L.drop p) = (rowsN w L).take p ++ (hN w k, Value.ref x) :: (rowsN w L).drop p := by
  unfold rowsN
  rw [List.map_append, List.map_cons, List.map_take, List.map_drop]
theorem filterMap_range {α : Type} (L : List α) : (List.range L.length).filterMap (fun i => L[i]?) = L := by
  have key : ∀ n, n ≤ L.length → (List.range n).filterMap (fun i => L[i]?) = L.take n := by
    intro n
    induction n with
    | zero => intro _; rfl
    | succ n ih =>
      intro hn
      have hlt : n < L.length := hn
      rw [List.range_succ, List.filterMap_append, ih (Nat.le_of_lt hlt), List.take_succ, List.getElem?_eq_getElem hlt, List.filterMap_cons_some (List.getElem?_eq_getElem hlt)]
      rfl
  rw [key L.length (Nat.le_refl _), List.take_length]
theorem orderN (L : List (Addr × NK)) (es : Array (Int × Value)) (order : Array Nat) (hr : es.toList = rowsN w L) (hp : order.toList.Perm (List.range L.length)) :
    ∃ L2, (order.filterMap (es[·]?)).toList = rowsN w L2 ∧ L2.Perm L ∧ (L2.map fun p => hN w p.2) = order.toList.map fun i => (es.map (·.1)).getD i 0 := by
  have hsz := rows_len hr
  refine ⟨order.toList.filterMap fun i => L[i]?, ?_, ?_, ?_⟩
  · rw [Array.toList_filterMap]
    have key : ∀ l : List Nat, l.filterMap (fun i => es[i]?) = rowsN w (l.filterMap fun i => L[i]?) := by
      intro l
      induction l with
      | nil => rfl
      | cons i l ih =>
        cases e : L[i]? with
        | none =>
          have e2 : es[i]? = none := Array.getElem?_eq_none (by rw [hsz]; exact List.getElem?_eq_none_iff.mp e)
          rw [List.filterMap_cons_none e2, List.filterMap_cons_none e, ih]
        | some p =>
          rw [List.filterMap_cons_some (entryN hr e), List.filterMap_cons_some e, ih]
          rfl
    exact key _
  · have h1 := hp.filterMap fun i => L[i]?
    rw [filterMap_range] at h1
    exact h1
  · have hall : ∀ i ∈ order.toList, i < L.length := fun i hi => List.mem_range.mp (hp.mem_iff.mp hi)
    generalize order.toList = l at hall ⊢
    induction l with
    | nil => rfl
    | cons i l ih =>
      have hi := hall i List.mem_cons_self
      rw [List.filterMap_cons_some (List.getElem?_eq_getElem hi), List.map_cons, List.map_cons, ih fun j hj => hall j (List.mem_cons_of_mem _ hj)]
      have e5 : (es.map (·.1))[i]? = some (hN w (L[i]).2) := by
        rw [Array.getElem?_map, entryN hr (List.getElem?_eq_getElem hi)]
        rfl
      simp [Array.getD_eq_getD_getElem?, e5]
theorem relayN {o : Obj} (ho : s.heap.get? a = some o) (hex : o.ExactSet) (hd : o.data = .set es ep t) (hrows : es.toList = rowsN w L) (hsz : t.place.size = es.size) (hdm : t.dummies = #[]) (hfl : es.size ≤ t.mask)
    (nd : (L.map (·.2)).Nodup) (tup : ∀ p ∈ L, KI P w s.heap p.2 p.1) (ld : w.params.followText "set-order" = true ∨ t.led = true) (few : L.length < 64) {wanted M : Nat}
    (hw : SetTable.sizeAbove wanted - 1 = M) (hM : MaskOk M) (hw2 : SetTable.sizeAbove wanted ≤ 128) (hn : L.length * 5 < M * 3) {Q : Unit → Shared → Prop}
    (hQ : ∀ h' L' es' ep' t', Heap.SameBut a s.heap h' → NSet P w h' a L' es' ep' t' → L'.Perm L → Q () { s with heap := h' }) : wpAny (model P w) A (setRelay a wanted) Q E s := by
  have hsl := rows_len hrows
  have hfits : t.fits es.size = true := by
    unfold SetTable.fits SetTable.fill
    rw [hdm, Bool.and_eq_true, beq_iff_eq, decide_eq_true_eq]
    show t.place.size = es.size ∧ t.place.size + 0 ≤ t.mask
    omega
  obtain ⟨t', order, e, hp, T, em, el, _, _⟩ := relaid_ok t (hs := es.map (·.1)) (wanted := wanted) hw hM (by rw [Array.size_map, hsl]; omega)
  rw [Array.size_map, hsl] at hp
  obtain ⟨L2, r1, r2, r3⟩ := orderN L es order hrows hp
  rw [← r3] at T
  have hs2 : (order.filterMap (es[·]?)).size = es.size := by rw [rows_len r1, r2.length_eq, hsl]
  rw [setRelay_eq]
  refine wpAny_bind (wpAny_setState_of ho hd hfits ?_)
  dsimp only
  refine wp_if_neg (by rw [sizeLine_eq]; omega) ?_
  try refine wpAny_bind (wpAny_pure ?_)
  rw [e]
  dsimp only
  refine wpAny_bind ?_
  refine wp_if_neg (by rw [hs2]; simp) ?_
  try refine wpAny_bind (wpAny_pure ?_)
  refine wpAny_pure ?_
  dsimp only
  refine wpAny_storeSet_of ho hd ?_ (by rw [hs2, hsl, sizeLine_eq]; omega)
  have sb : Heap.SameBut a s.heap (s.heap.update a (Obj.putSet (order.filterMap (es[·]?)) t')) := Heap.SameBut.update ..
  refine hQ _ L2 (order.filterMap (es[·]?)) (ep + 1) t' sb ?_ r2
  refine ⟨⟨_, store_at ho hd, ⟨hex.1, hex.2.1, hex.2.2⟩, rfl⟩, r1, T, (r2.map (·.2)).nodup_iff.mpr nd, fun p hpm => ki_same (tup p (r2.mem_iff.mp hpm)) ho hd sb, by rw [el]; exact ld, ?_, by rw [r2.length_eq]; exact few⟩
  rw [r2.length_eq, em]
  exact hn
theorem tabOk_plain {t : SetTable} {hs : List Int} (T : TabOk t hs) (b : Bool) : TabOk { t with plain := b } hs := ⟨T.ris, T.dm, T.sz, T.mok, T.bd, T.reach⟩
theorem addN (R : NSet P w s.heap a L es ep t) {x : Addr} {k : NK} (hx : KI P w s.heap k x) (hu : A.units + 8 < cLine) (hfew : L.length + 1 < 64) {Q : Bool → Shared → Prop}
    (hQ : ∀ b h' L' es' ep' t', Heap.SameBut a s.heap h' → NSet P w h' a L' es' ep' t' → (k ∈ L.map (·.2) → L' = L) → (k ∉ L.map (·.2) → L'.Perm ((x, k) :: L)) → Q b { s with heap := h' }) :
    wpAny (model P w) A (setAddHashed a (.ref x) (hN w k)) Q E s := by
  obtain ⟨o, ho, hex, hd⟩ := R.ob
  have hsl := rows_len R.rows
  have hroom := R.room
  unfold setAddHashed
  refine wpAny_holding ?_
  rw [show (100000 : Nat) = 99999 + 1 from rfl, setAddHashedIn_succ]
  refine wpAny_bind (wpAny_setState_of ho hd R.fits ?_)
  dsimp only
  refine wp_if_neg (by simp [byScan, Value.scannable]) ?_
  try refine wpAny_bind (wpAny_pure ?_)
  refine wpAny_bind (searchN R hx hu (fun hm => ?_) fun K hm hK hb => ?_)
  · dsimp only
    exact wpAny_pure (hQ false s.heap L es ep t (Heap.SameBut.refl a s.heap) R (fun _ => rfl) fun z => absurd hm z)
  · dsimp only
    refine wpAny_bind (wpAny_setState_of ho hd R.fits ?_)
    dsimp only
    obtain ⟨q1, q2, q3, q4, q5, q6, q7, q8, q9⟩ := R.tab.put hK hb
    generalize hpt : t.put (way t.mask (hN w k) K) = pt at q1 q3 q4 q5 q6 q7 q8 q9 ⊢
    obtain ⟨t1, p⟩ := pt
    dsimp only at q1 q3 q4 q5 q6 q7 q8 q9 ⊢
    subst q1
    -- what follows, the word plain left open
    have rest : ∀ bv : Bool, wpAny (model P w) A (do
        let t2 : SetTable := if bv then t1 else { t1 with plain := false }
        storeSet a (SetTable.insertAt es (SetTable.below t.place (way t.mask (hN w k) K)) (hN w k, Value.ref x)) t2
        if !false && t2.tooFull then setRelay a (SetTable.grown (es.size + 1))
        return true) Q E s := by
      intro bv
      generalize ht2 : (if bv then t1 else { t1 with plain := false } : SetTable) = t2
      have f1 : t2.mask = t1.mask := by rw [← ht2]; cases bv <;> rfl
      have f2 : t2.led = t1.led := by rw [← ht2]; cases bv <;> rfl
      have f3 : t2.tooFull = t1.tooFull := by rw [← ht2]; cases bv <;> rfl
      have f4 : ∀ hs, TabOk t1 hs → TabOk t2 hs := fun hs T => by
        rw [← ht2]
        cases bv with
        | true => exact T
        | false => exact tabOk_plain T false
      have hin : (SetTable.insertAt es (SetTable.below t.place (way t.mask (hN w k) K)) (hN w k, Value.ref x)).toList = rowsN w (L.take (SetTable.below t.place (way t.mask (hN w k) K)) ++ (x, k) :: L.drop (SetTable.below t.place (way t.mask (hN w k) K))) := by
        rw [SetTable.toList_insertAt, rowsN_put, R.rows]
      generalize SetTable.below t.place (way t.mask (hN w k) K) = p at q2 q3 hin ⊢
      have pm := put_perm L p (x, k)
      have hlen : (L.take p ++ (x, k) :: L.drop p).length = L.length + 1 := pm.length_eq
      have hhs : (L.take p ++ (x, k) :: L.drop p).map (fun p => hN w p.2) = (L.map fun p => hN w p.2).take p ++ hN w k :: (L.map fun p => hN w p.2).drop p := by
        rw [List.map_append, List.map_cons, List.map_take, List.map_drop]
      rw [← hhs] at q3
      have nd1 : ((L.take p ++ (x, k) :: L.drop p).map (·.2)).Nodup := by
        refine (pm.map (·.2)).nodup_iff.mpr ?_
        rw [List.map_cons]
        exact List.nodup_cons.mpr ⟨hm, R.nd⟩
      have hes := rows_len hin
      rw [hlen] at hes
      generalize SetTable.insertAt es p (hN w k, Value.ref x) = es1 at hin hes ⊢
      generalize L.take p ++ (x, k) :: L.drop p = L1 at pm hlen q3 nd1 hin
      have q3' := f4 _ q3
      dsimp only
      refine wpAny_bind (wpAny_storeSet_of ho hd ?_ (by rw [hes, sizeLine_eq]; omega))
      have sb : Heap.SameBut a s.heap (s.heap.update a (Obj.putSet es1 t2)) := Heap.SameBut.update ..
      have ho1 := store_at (es' := es1) (t' := t2) ho hd
      generalize s.heap.update a (Obj.putSet es1 t2) = h1 at sb ho1 ⊢
      have tup1 : ∀ p ∈ L1, KI P w h1 p.2 p.1 := fun p hp => by
        rcases List.mem_cons.mp (pm.mem_iff.mp hp) with e | hp
        · rw [e]; exact ki_same hx ho hd sb
        · exact ki_same (R.tup p hp) ho hd sb
      have ld1 : w.params.followText "set-order" = true ∨ t2.led = true := by rw [f2, q5]; exact R.led
      have hfi : t2.tooFull = decide (L1.length * 5 ≥ t1.mask * 3) := by
        rw [f3]
        unfold SetTable.tooFull
        rw [q9, List.length_map, hlen]
      by_cases hf : t2.tooFull = true
      · have hfull : (L.length + 1) * 5 ≥ t1.mask * 3 := by
          have h := hf
          rw [hfi, decide_eq_true_eq, hlen] at h
          exact h
        have hsz1 : t2.place.size = es1.size := by
          have h := q3'.sz
          rw [List.length_map, hlen] at h
          rw [h, hes]
        have cases2 : (t.mask = 7 ∧ L.length = 4) ∨ (t.mask = 31 ∧ L.length = 18) := by
          rcases R.tab.mok with e | e | e
          · left; rw [q4, e] at hfull; rw [e] at hroom; exact ⟨e, by omega⟩
          · right; rw [q4, e] at hfull; rw [e] at hroom; exact ⟨e, by omega⟩
          · exfalso; rw [q4, e] at hfull; omega
        have go : ∀ M, SetTable.sizeAbove (SetTable.grown (L.length + 1)) - 1 = M → MaskOk M → SetTable.sizeAbove (SetTable.grown (L.length + 1)) ≤ 128 → (L.length + 1) * 5 < M * 3 →
            wpAny (model P w) A (setRelay a (SetTable.grown (es.size + 1))) (fun _ s' => wpAny (model P w) A (pure true) Q E s') E { s with heap := h1 } := fun M h1' h2' h3' h4' => by
          rw [hsl]
          refine relayN (s := { s with heap := h1 }) ho1 ⟨hex.1, hex.2.1, hex.2.2⟩ rfl hin hsz1 q3'.dm (by rw [hes, f1, q4]; rcases cases2 with ⟨e, e2⟩ | ⟨e, e2⟩ <;> omega) nd1 tup1 ld1 (by rw [hlen]; exact hfew) h1' h2' h3' (by rw [hlen]; exact h4') ?_
          intro h2 L2 es2 ep2 t2' sb2 R2 pm2
          exact wpAny_pure (hQ true h2 L2 es2 ep2 t2' (sb.trans sb2) R2 (fun z => absurd z hm) fun _ => pm2.trans pm)
        have fin : wpAny (model P w) A (setRelay a (SetTable.grown (es.size + 1))) (fun _ s' => wpAny (model P w) A (pure true) Q E s') E { s with heap := h1 } := by
          rcases cases2 with ⟨_, e2⟩ | ⟨_, e2⟩
          · exact go 31 (by rw [e2, size_20]) (.inr (.inl rfl)) (by rw [e2, size_20]; decide) (by omega)
          · exact go 127 (by rw [e2, size_76]) (.inr (.inr rfl)) (by rw [e2, size_76]; decide) (by omega)
        first
          | exact wpAny_bind (wp_if_pos (by simp [hf]) fin)
          | exact wp_if_pos (by simp [hf]) (wpAny_bind fin)
      · have fin : Q true { s with heap := h1 } := by
          refine hQ true h1 L1 es1 (ep + 1) t2 sb ⟨⟨_, ho1, ⟨hex.1, hex.2.1, hex.2.2⟩, rfl⟩, hin, q3', nd1, tup1, ld1, ?_, by rw [hlen]; exact hfew⟩ (fun z => absurd z hm) fun _ => pm
          have h := hf
          rw [hfi, decide_eq_true_eq] at h
          rw [f1]
          omega
        first
          | exact wpAny_bind (wp_if_neg (by simp [hf]) (wpAny_pure (wpAny_pure fin)))
          | exact wp_if_neg (by simp [hf]) (wpAny_pure fin)
    by_cases hpl : t1.plain = true
    · first
        | (refine wpAny_bind ?_; refine wp_if_pos hpl ?_; refine hashBy_key k _ 8 s hx.1 _ _ _ fun bv => ?_; exact rest bv)
        | (refine wp_if_pos hpl (wpAny_bind ?_); refine hashBy_key k _ 8 s hx.1 _ _ _ fun bv => ?_; exact rest bv)
    · first
        | (refine wpAny_bind ?_; refine wp_if_neg hpl ?_; exact wpAny_pure (rest true))
        | (refine wp_if_neg hpl ?_; exact wpAny_bind (wpAny_pure (rest true)))
        | (refine wp_if_neg hpl ?_; exact rest true)
end

/-! ### set(xs) -/
structure GotN (ks : List (Addr × NK)) (i : Nat) (L : List (Addr × NK)) : Prop where
  sub : ∀ p ∈ L, p ∈ ks.take i
  all : ∀ p ∈ ks.take i, p.2 ∈ L.map (·.2)
  len : L.length ≤ i
theorem GotN.step {ks L L' : List (Addr × NK)} {i : Nat} {x : Addr × NK} (g : GotN ks i L) (h : ks[i]? = some x) (c1 : x.2 ∈ L.map (·.2) → L' = L) (c2 : x.2 ∉ L.map (·.2) → L'.Perm (x :: L)) : GotN ks (i + 1) L' := by
  have tk : ks.take (i + 1) = ks.take i ++ [x] := take_next h
  by_cases c : x.2 ∈ L.map (·.2)
  · rw [c1 c]
    refine ⟨fun p hp => by rw [tk]; exact List.mem_append_left _ (g.sub p hp), fun p hp => ?_, Nat.le_succ_of_le g.len⟩
    rw [tk] at hp
    rcases List.mem_append.mp hp with z | z
    · exact g.all p z
    · rw [List.mem_singleton.mp z]; exact c
  · have pm := c2 c
    refine ⟨fun p hp => ?_, fun p hp => ?_, by rw [pm.length_eq]; exact Nat.succ_le_succ g.len⟩
    · rw [tk]
      rcases List.mem_cons.mp (pm.mem_iff.mp hp) with e | z
      · rw [e]; exact List.mem_append_right _ (List.mem_singleton.mpr rfl)
      · exact List.mem_append_left _ (g.sub p z)
    · refine ((pm.map (·.2)).mem_iff).mpr ?_
      rw [tk] at hp
      rcases List.mem_append.mp hp with z | z
      · exact List.mem_cons_of_mem _ (g.all p z)
      · rw [List.mem_singleton.mp z]; exact List.mem_cons_self
section
variable {P : Program} {w : World} {A : Around} {E : Value → Shared → Prop} {s : Shared}
theorem NSet.keep {h h' : Heap} {a : Addr} {L : List (Addr × NK)} {es : Array (Int × Value)} {ep : Nat} {t : SetTable} (R : NSet P w h a L es ep t) (ha : ∀ o, h.get? a = some o → h'.get? a = some o) (ht : ∀ p ∈ L, KI P w h' p.2 p.1) : NSet P w h' a L es ep t := by
  obtain ⟨o, ho, r⟩ := R.ob
  exact ⟨⟨o, ha o ho, r⟩, R.rows, R.tab, R.nd, ht, R.led, R.room, R.few⟩
/-- the empty set as set() makes it -/
def bareSet (w : World) : Obj := { cls := .type "set", dict := none, data := .set #[] 0 (.fresh 0 0 (!w.params.followText "set-order")) }
theorem nset_bare {h : Heap} {a : Addr} (ho : h.get? a = some (bareSet w)) : NSet P w h a [] #[] 0 (.fresh 0 0 (!w.params.followText "set-order")) := by
  refine ⟨⟨_, ho, ⟨rfl, rfl, rfl⟩, rfl⟩, rfl, ⟨List.Pairwise.nil, rfl, rfl, .inl rfl, fun x hx => (by cases hx), fun i h j hi => (by simp at hi)⟩, List.nodup_nil, fun p hp => (by cases hp), ?_, (by show 0 * 5 < 7 * 3; decide), (by show 0 < 64; decide)⟩
  show _ ∨ (!w.params.followText "set-order") = true
  cases w.params.followText "set-order"
  · exact .inr rfl
  · exact .inl rfl
theorem upd_loopN {I : Addr} {fp wr : List Addr} {G : Array GenState → Array GenState → Prop} {n : Nat} {Pv : Nat → Value → Prop} {St : Nat → Shared → Prop} {R : Result → Shared → Prop}
    (W : WalksS P w A.in1 I fp wr G n Pv St) (S : Addr) (hSf : S ∉ fp) (ks : List (Addr × NK)) (hn : n = ks.length) (hfew : ks.length < 64) (hval : ∀ i v, Pv i v → ∃ p, ks[i]? = some p ∧ v = .ref p.1)
    (h0 : Heap) (hk : ∀ p ∈ ks, KI P w h0 p.2 p.1) (hS0 : h0.get? S = none) (hw0 : ∀ b ∈ wr, h0.get? b = none) (hu : A.in1.units + 8 < cLine) :
    ∀ (k i : Nat) (s : Shared), n - i = k → i ≤ n → St i s → (∀ b o, h0.get? b = some o → s.heap.get? b = some o) → (∃ L es ep t, NSet P w s.heap S L es ep t ∧ GotN ks i L) →
      (∀ s' L es ep t, Moved (S :: wr) G s s' → NSet P w s'.heap S L es ep t → GotN ks n L → (∀ b o, h0.get? b = some o → s'.heap.get? b = some o) → R (.ok (.ret .none)) s') →
      codeAny (model P w) A (.builtin "set.update.loop" ⟨[.ref S, .ref I], []⟩) R s := by
  have outW : S ∉ wr := fun h => hSf (W.sub _ h)
  have inc : ∀ b ∈ wr, b ∈ S :: wr := fun b hb => List.mem_cons_of_mem _ hb
  have old : ∀ {s s' : Shared}, Moved wr G s s' → (∀ b o, h0.get? b = some o → s.heap.get? b = some o) → ∀ b o, h0.get? b = some o → s'.heap.get? b = some o := fun hm hkp b o e =>
    hm.heap b o (fun hb => nomatch (hw0 b hb).symm.trans e) (hkp b o e)
  intro k
  induction k with
  | zero =>
    intro i s hk' hi hst hkp ⟨L, es, ep, t, hS, g⟩ hR
    obtain rfl : i = n := by omega
    refine codeAny_builtin PyProof.Rows.F.entry_set_update_loop ?_
    rw [Around.under_plainId PyProof.Rows.F.plain_set_update_loop _]
    show wpAny _ A.in1 (pyNext (.ref I) >>= _) _ _ s
    refine wpAny_bind (W.done s _ _ hst fun s' hm => ?_)
    show wpAny _ A.in1 (ret Value.none) _ _ s'
    exact wpAny_pure (hR s' L es ep t (hm.mono inc) (hS.keep (fun o e => hm.heap S o outW e) fun p hp => ki_keep (hk p (List.mem_of_mem_take (g.sub p hp))) (old hm hkp)) g (old hm hkp))
  | succ k ih =>
    intro i s hk' hi hst hkp ⟨L, es, ep, t, hS, g⟩ hR
    have hlt : i < n := by omega
    refine codeAny_builtin PyProof.Rows.F.entry_set_update_loop ?_
    rw [Around.under_plainId PyProof.Rows.F.plain_set_update_loop _]
    show wpAny _ A.in1 (pyNext (.ref I) >>= _) _ _ s
    refine wpAny_bind (W.item i s _ _ hlt hst fun v s' hP hst' hm => ?_)
    obtain ⟨p, hp, rfl⟩ := hval i v hP
    have hkp' := old hm hkp
    have hS' : NSet P w s'.heap S L es ep t := hS.keep (fun o e => hm.heap S o outW e) fun q hq => ki_keep (hk q (List.mem_of_mem_take (g.sub q hq))) hkp'
    have hx : KI P w s'.heap p.2 p.1 := ki_keep (hk p (List.mem_of_getElem? hp)) hkp'
    show wpAny _ A.in1 (holding [Value.ref p.1] (setAdd S (.ref p.1)) >>= _) _ _ s'
    refine wpAny_bind (wpAny_holding ?_)
    unfold setAdd
    refine wpAny_holding ?_
    refine wpAny_bind ((nestedKind P w).pyHash hu hx ?_)
    refine addN (s := { s' with toks := s'.toks + p.2.draws }) hS' hx hu (by have := g.len; omega) fun b h' L' es' ep' t' hsb hS2 c1 c2 => ?_
    have hkp2 : ∀ b o, h0.get? b = some o → h'.get? b = some o := fun b o e => (hsb.2 b (fun z => nomatch (by rw [z] at e; exact hS0.symm.trans e : (none : Option Obj) = some o))).trans (hkp' b o e)
    refine wpAny_pure ⟨plainId_quiet PyProof.Rows.F.plain_set_update_loop _, ih (i + 1) _ (by omega) hlt (W.frame _ s' _ _ hst' (Nat.le_add_right _ _) fun b hb o e => ?_) hkp2 ⟨L', es', ep', t', hS2, g.step hp c1 c2⟩ fun s'' L2 es2 ep2 t2 hm'' hS'' g'' hkp'' => ?_⟩
    · rw [hsb.2 b (fun h : b = S => hSf (by rw [← h]; exact hb))]; exact e
    · refine hR s'' L2 es2 ep2 t2 (Moved.trans W.gtrans ((hm.mono inc).then_heap (Nat.le_add_right _ _) fun b o hb e => ?_) hm'') hS'' g'' hkp''
      rw [hsb.2 b (fun h : b = S => hb (by rw [h]; exact List.mem_cons_self))]; exact e
theorem get_none {h : Heap} {b : Addr} (hb : h.objs.size ≤ b) : h.get? b = none := by
  cases q : h.get? b with
  | none => rfl
  | some o => exact absurd (Nat.lt_of_lt_of_le (Heap.lt_size q) hb) (Nat.lt_irrefl _)
theorem set_ofN {l : Addr} {items : Array Value} (ks : List (Addr × NK)) {Q : Value → Shared → Prop} (hh : A.handled = none) (hl : s.heap.IsList l items) (hit : items.toList = ks.map fun p => Value.ref p.1)
    (hk : ∀ p ∈ ks, KI P w s.heap p.2 p.1) (hfew : ks.length < 64) (hu : A.units + 12 < cLine)
    (h : ∀ (h' : Heap) (tk : Nat) L es ep t, NSet P w h' s.heap.objs.size L es ep t → GotN ks ks.length L → (∀ b o, s.heap.get? b = some o → h'.get? b = some o) → Q (.ref s.heap.objs.size) { s with heap := h', toks := tk }) :
    wpAny (model P w) A (call (.type "set") [.ref l]) Q E s := by
  have hisz : items.size = ks.length := by
    have q := congrArg List.length hit
    rw [Array.length_toList, List.length_map] at q
    exact q
  have hS : (s.heap.push (bareSet w)).get? s.heap.objs.size = some (bareSet w) := Heap.get?_push_size _ rfl
  have hT : Shared.TypeIs { s with heap := s.heap.push (bareSet w) } (.ref s.heap.objs.size) "set" := ⟨_, hS, rfl⟩
  obtain ⟨c, tl, hmro⟩ := PySem.F.called_set.mro
  have hmade := PySem.F.called_set.made
  have hsub := PySem.F.called_set.sub
  refine wpAny_call (codeAny_of_tree ?_)
  show wpAny _ _ (callAny (.type "set") _) _ _ _
  refine wpAny_pure ⟨Code.quiet_builtin _ (by decide +kernel), codeAny_builtin PySem.F.entry_type_call ?_⟩
  rw [Around.under_plain (weight_type_call_type "set" [.ref l] []) rfl]
  have h1 := PySem.F.called_set.notType
  have h2 := PySem.F.called_set.canCreate
  have hct := PySem.F.typeCall_set_1 (.ref l)
  repeat (any_goals (first | assumption | wp_step))
  refine codeAny_mono (code_set_led1 (.ref l) (E := E) (Q₁ := fun obj s₁ => obj = .ref s.heap.objs.size ∧ s₁ = { s with heap := s.heap.push (bareSet w) }) ⟨rfl, rfl⟩) fun r s₁ hr => ?_
  cases r with
  | error e => exact hr
  | ok fl => ?_
  cases fl with
  | ret obj => ?_
  | next => exact hr.elim
  | brk => exact hr.elim
  | cont => exact hr.elim
  obtain ⟨rfl, rfl⟩ := hr
  have hli := PySem.F.called_set.init.lookup
  have hbi := PySem.F.called_set.init.bind (.ref s.heap.objs.size)
  repeat (any_goals (first | assumption | wp_step))
  refine codeAny_mono (codeAny_call_builtin (R := wants (fun r s₂ => r = .none ∧ ∃ h' tk L es ep t, s₂ = { s with heap := h', toks := tk } ∧ NSet P w h' s.heap.objs.size L es ep t ∧ GotN ks ks.length L ∧
    (∀ b o, s.heap.get? b = some o → h'.get? b = some o)) E) PySem.F.called_set.init.plain PySem.F.entry_set_init (check_set_init_1 hT ?_)) fun r₂ s₂ hr₂ => ?fin
  case fin =>
    cases r₂ with
    | error e => exact hr₂
    | ok fl₂ =>
      cases fl₂ with
      | ret r =>
        obtain ⟨rfl, h', tk, L, es, ep, t, rfl, hS', g', hk'⟩ := hr₂
        repeat (any_goals (first | assumption | wp_step))
        exact h _ _ _ _ _ _ hS' g' hk'
      | _ => exact hr₂.elim
  obtain ⟨ol, hol, hcl, nl, hdl⟩ := hl
  obtain ⟨ocls, odict, odata, oslots⟩ := ol
  simp only at hcl hdl
  subst hcl; subst hdl
  have hol' : (s.heap.push (bareSet w)).get? l = some { cls := .type "list", dict := odict, data := .seq items nl, slots := oslots } := Heap.get?_push_of_some _ hol
  have hl1 : (s.heap.push (bareSet w)).IsList l items := ⟨_, hol', rfl, nl, rfl⟩
  have hsls := F.sub_list_set
  have hslf := F.sub_list_frozenset
  have hne : (Value.type "list" == Value.type "dict") = false := by decide
  unfold Builtin.«set.__init__» noKeywords Builtin.Frozenset.updateFrom
  generalize hPI : pyIter = PI
  wp_walk
  subst hPI
  refine wpAny_pyIter_list hl1 ?_
  refine wpAny_bind (wpAny_runValue ?_)
  have hlS : l < s.heap.objs.size := Heap.lt_size hol
  have hh3 : A.in1.in1.in1.handled = none := by simp [hh]
  have hz1 : (s.heap.push (bareSet w)).objs.size = s.heap.objs.size + 1 := Heap.size_push ..
  have hneI : l ≠ (s.heap.push (bareSet w)).objs.size := by
    rw [Heap.size_push]
    exact Nat.ne_of_lt (Nat.lt_succ_of_lt hlS)
  have hSf : s.heap.objs.size ∉ [(s.heap.push (bareSet w)).objs.size, l] := by
    rw [Heap.size_push]
    simp only [List.mem_cons, List.not_mem_nil, or_false, not_or]
    exact ⟨Nat.ne_of_lt (Nat.lt_succ_self _), Nat.ne_of_gt hlS⟩
  have hval : ∀ (i : Nat) (v : Value), items[i]? = some v → ∃ p, ks[i]? = some p ∧ v = .ref p.1 := fun i v hv => by
    have q : items.toList[i]? = some v := by rw [Array.getElem?_toList]; exact hv
    rw [hit, List.getElem?_map] at q
    cases hq : ks[i]? with
    | none => rw [hq] at q; cases q
    | some p =>
      rw [hq] at q
      exact ⟨p, rfl, (Option.some.inj q).symm⟩
  refine upd_loopN ((Walks.list hh3 _ l hneI items).toS) s.heap.objs.size hSf ks hisz hfew hval s.heap hk (get_none (Nat.le_refl _)) (fun b hb => get_none (by rw [List.mem_singleton.mp hb, Heap.size_push]; exact Nat.le_succ _)) ?hU (items.size - 0) 0 _ (by omega) (Nat.zero_le _)
    ⟨⟨_, Heap.get?_push_size _ rfl, rfl, rfl⟩, (hl1.push _)⟩ (fun b o e => Heap.get?_push_of_some _ (Heap.get?_push_of_some _ e)) ?hS0 ?hR
  case hU => show A.units + 1 + 1 + 1 + 8 < cLine; omega
  case hS0 => exact ⟨[], #[], 0, _, nset_bare (Heap.get?_push_of_some _ hS), ⟨fun p h => (by cases h), fun p h => (by simp at h), Nat.le_refl _⟩⟩
  case hR =>
    intro s' L es ep t hm hS' g' hkp
    obtain ⟨h', g2, d', tk', os'⟩ := s'
    have eg : g2 = s.gens := hm.gens
    have ed : d' = s.drawn := hm.drawn
    have eo : os' = s.os := hm.os
    subst eg; subst ed; subst eo
    show wpAny _ _ _ _ _ _
    refine wpAny_pure ?_
    show wpAny _ _ (ret Value.none) _ _ _
    rw [hisz] at g'
    exact wpAny_pure ⟨rfl, h', tk', L, es, ep, t, rfl, hS', g', hkp⟩
end

/-! ### the rules, for letters: pairs of events -/
/-- a text that == may be asked of -/
abbrev Nm := {x : Str // PyData.canLay0 (.str x) = true}
abbrev Ev := Nm × Int
abbrev Mg := Ev × Ev
def evD (e : Ev) : PyData := .tuple [.str e.1.1, .int e.2]
def mgD (m : Mg) : PyData := .tuple [evD m.1, evD m.2]
def mgK (m : Mg) : NK := .tup [.tup [.text m.1.1.1, .num m.1.2], .tup [.text m.2.1.1, .num m.2.2]]
theorem mgK_inj {m n : Mg} (h : mgK m = mgK n) : m = n := by
  obtain ⟨⟨a, b⟩, c, d⟩ := m
  obtain ⟨⟨a', b'⟩, c', d'⟩ := n
  unfold mgK at h
  simp only [NestedKey.tup.injEq, List.cons.injEq, NestedKey.text.injEq, NestedKey.num.injEq, and_true] at h
  obtain ⟨⟨h1, h2⟩, h3, h4⟩ := h
  rw [Subtype.ext h1, h2, Subtype.ext h3, h4]
section
variable {X : Cx} {pins : List (Addr × Obj)} {σ : St} {H : Hp} {s : Shared}
theorem ev_key (I : Inv X pins σ H s) {e : Ev} {v : V} {u : Value} (h : Im H (evD e) v) (r : RelV v u) : NestedIs s.heap (.tup [.text e.1.1, .num e.2]) u := by
  obtain ⟨a, xs, rfl, ha, x, rr, rfl, hx, y, r2, rfl, hy, e3⟩ := h
  have e3 : r2 = [] := e3
  subst e3
  cases r
  obtain ⟨its, rv, ⟨o, ho, hc, n, hd⟩, _⟩ := I.tuple (SqT.of ha)
  obtain ⟨u1, u2, ei, r1, r2⟩ := Vals.two rv
  subst ei
  have hx : x = .str e.1.1 := hx
  have hy : y = .int e.2 := hy
  subst hx hy
  obtain ⟨t1, rfl⟩ := r1
  obtain ⟨t2, rfl⟩ := r2
  exact .tup ho hc hd (.cons (.text _ _) (.cons (.int _ _) .nil))
theorem mg_key (I : Inv X pins σ H s) {m : Mg} {v : V} {a : Addr} (h : Im H (mgD m) (.ref a)) : KI X.prog X.w s.heap (mgK m) a := by
  refine ⟨?_, by show 2 ≤ 8; decide⟩
  obtain ⟨a', xs, e, ha, x, rr, rfl, hx, y, r2, rfl, hy, e3⟩ := h
  cases e
  have e3 : r2 = [] := e3
  subst e3
  obtain ⟨its, rv, ⟨o, ho, hc, n, hd⟩, _⟩ := I.tuple (SqT.of ha)
  obtain ⟨u1, u2, ei, r1, r2⟩ := Vals.two rv
  subst ei
  exact .tup ho hc hd (.cons (ev_key I hx r1) (.cons (ev_key I hy r2) .nil))
end
/-- the set at a, the tuples themselves left out -/
def NSet0 (w : World) (h : Heap) (a : Addr) (L : List (Addr × NK)) : Prop := ∃ (es : Array (Int × Value)) (ep : Nat) (t : SetTable), (∃ o, h.get? a = some o ∧ o.ExactSet ∧ o.data = .set es ep t) ∧ es.toList = rowsN w L ∧ TabOk t (L.map fun p => hN w p.2) ∧ (L.map (·.2)).Nodup ∧
  (w.params.followText "set-order" = true ∨ t.led = true) ∧ L.length * 5 < t.mask * 3 ∧ L.length < 64
def SetNO (w : World) (a : Addr) (L : List (Addr × NK)) : HO := .ext fun h => NSet0 w h a L
theorem setNO_new {P : Program} {w : World} {H : Hp} {h : Heap} {a : Addr} {L : List (Addr × NK)} {es : Array (Int × Value)} {ep : Nat} {t : SetTable} (R : NSet P w h a L es ep t) : ObjOk P w H h a (SetNO w a L) := by
  obtain ⟨o, ho, r⟩ := R.ob
  refine ⟨⟨es, ep, t, ⟨o, ho, r⟩, R.rows, R.tab, R.nd, R.led, R.room, R.few⟩, ⟨o, ho⟩, fun h1 h2 p k => ?_⟩
  obtain ⟨es', ep', t', ⟨o', ho', r'⟩, q'⟩ := (show NSet0 w h1 a L from p)
  exact ⟨es', ep', t', ⟨o', k o' ho', r'⟩, q'⟩
def kOf (p : Addr × Mg) : Addr × NK := (p.1, mgK p.2)
section
variable {X : Cx}
/-- set(xs), xs a list of letters -/
def rSetN (w : World) (K : PySem.W.Frag) : List V → Hp → VK → Prop := fun xs H Q => ∃ (l : Addr) (ks : List (Addr × Mg)), xs = [V.ref l] ∧ SqL K H l (ks.map fun p => V.ref p.1) ∧ (∀ p ∈ ks, Im H (mgD p.2) (.ref p.1)) ∧ ks.length < 64 ∧
  ∀ a (L : List (Addr × Mg)), H a = none → (∀ p ∈ L, p ∈ ks) → (∀ p ∈ ks, p.2 ∈ L.map (·.2)) → Q (.ref a) (upd H a (SetNO w a (L.map kOf)))
theorem refsN : ∀ {ks : List (Addr × Mg)} {us : List Value}, Vals (ks.map fun p => V.ref p.1) us → us = (ks.map kOf).map fun p => Value.ref p.1
  | [], _, .nil => rfl
  | p :: ks, _, .cons r t => by
    cases r
    rw [refsN t]
    rfl
theorem back_kOf {ks : List (Addr × Mg)} : ∀ {L : List (Addr × NK)}, (∀ p ∈ L, p ∈ ks.map kOf) → ∃ L' : List (Addr × Mg), L = L'.map kOf ∧ ∀ p ∈ L', p ∈ ks
  | [], _ => ⟨[], rfl, fun p h => (by cases h)⟩
  | q :: L, h => by
    obtain ⟨L', e, h'⟩ := back_kOf fun p hp => h p (List.mem_cons_of_mem _ hp)
    obtain ⟨r, hr, er⟩ := List.mem_map.mp (h q List.mem_cons_self)
    refine ⟨r :: L', by rw [List.map_cons, er, e], fun p hp => ?_⟩
    rcases List.mem_cons.mp hp with z | z
    · rw [z]; exact hr
    · exact h' p z
theorem cr_setN (hc : X.calm = true) (hu : X.A.units + 64 < cLine) : CallR X (.type "set") (rSetN X.w X.K) := by
  intro pins s σ H xs us Q I r h
  obtain ⟨l, ks, rfl, hl, hk, hf, q⟩ := h
  rw [Vals.ref1 r]
  obtain ⟨its, rv, pl, hz⟩ := I.list hl
  have hn : H s.heap.objs.size = none := I.hok.fresh (Nat.le_refl _)
  refine set_ofN (P := X.prog) (w := X.w) (ks.map kOf) (I.ok.hd hc) pl.isList (by simpa using refsN rv) (fun p hp => ?_) (by rw [List.length_map]; exact hf) (by omega) fun h' tk L es ep t R g k => ?_
  · obtain ⟨r, hr, e⟩ := List.mem_map.mp hp
    rw [← e]
    exact mg_key (v := .non) I (hk r hr)
  · rw [List.length_map] at g
    obtain ⟨L', e, hs⟩ := back_kOf (ks := ks) (L := L) fun p hp => List.mem_of_mem_take (g.sub p hp)
    subst e
    refine ⟨.ref s.heap.objs.size, upd H s.heap.objs.size (SetNO X.w s.heap.objs.size (L'.map kOf)), I.laid (t' := tk) k (Nat.le_refl _) (setNO_new R), rfl, q _ L' hn hs fun p hp => ?_⟩
    have z := g.all (kOf p) (by rw [List.take_of_length_le (by rw [List.length_map]; exact Nat.le_refl _)]; exact List.mem_map.mpr ⟨p, hp, rfl⟩)
    rw [List.map_map] at z
    obtain ⟨p2, h2, e2⟩ := List.mem_map.mp z
    have e3 : p2.2 = p.2 := mgK_inj e2
    exact List.mem_map.mpr ⟨p2, h2, e3⟩
/-- sorted(set) -/
def rSortSet (w : World) : List V → Hp → VK → Prop := fun vs H Q => ∃ (a : Addr) (L : List (Addr × Mg)), vs = [V.ref a] ∧ H a = some (SetNO w a (L.map kOf)) ∧ (∀ p ∈ L, Im H (mgD p.2) (.ref p.1)) ∧
  ∀ (L' : List (Addr × Mg)) (p : Addr), L'.Perm L → (L'.map (·.2)).Nodup → L'.Pairwise (fun q r => PySem.W.dataLe false id (mgD q.2) (mgD r.2) = true) → H p = none → Q (.ref p) (upd H p (.lst (L'.map fun q => V.ref q.1)))
theorem alike_mg (m n : Mg) : PySem.W.alike (mgD m) (mgD n) = true := rfl
theorem mg_noaddr {h : Heap} {v : Value} {m : Mg} {as : List Addr} (r : Reads h v (mgD m) as) : as = [] := by
  cases r with
  | tuple _ _ _ r =>
    generalize Array.toList _ = us at r
    cases r with
    | cons r1 r2 =>
      cases r2 with
      | cons r2 r3 =>
        cases r3
        have ev : ∀ {v : Value} {e : Ev} {as : List Addr}, Reads h v (evD e) as → as = [] := fun r => by
          cases r with
          | tuple _ _ _ r =>
            generalize Array.toList _ = us at r
            cases r with
            | cons r1 r2 =>
              cases r2 with
              | cons r2 r3 =>
                cases r3
                cases r1
                cases r2
                rfl
        rw [ev r1, ev r2]
        rfl
theorem reads_mg {pins : List (Addr × Obj)} {σ : St} {H : Hp} {s : Shared} (I : Inv X pins σ H s) {m : Mg} {a : Addr} (h : Im H (mgD m) (.ref a)) : ∃ as, Reads s.heap (.ref a) (mgD m) as := Dp.reads I _ _ _ (Im.dp X.K _ _ h) rfl

open PyProof.Rows in
theorem cr_sortSet (hc : X.calm = true) (hu : X.A.units + 64 < cLine) : CallR X (.builtin "sorted") (rSortSet X.w) := by
  intro pins s σ H vs us Q I r h
  obtain ⟨a, L, rfl, ha, hk, q⟩ := h
  obtain ⟨es, ep, t, ⟨o, ho, hex, hd⟩, rows, tab, nd, led, room, few⟩ : NSet0 X.w s.heap a (L.map kOf) := (I.hok a _ ha).1
  rw [Vals.ref1 r]
  have hsz := rows_len rows
  rw [List.length_map] at hsz few room
  have hfits : t.fits es.size = true := by
    have h1 := tab.sz
    rw [List.length_map, List.length_map] at h1
    unfold SetTable.fits SetTable.fill
    rw [tab.dm, Bool.and_eq_true, beq_iff_eq, decide_eq_true_eq]
    show t.place.size = es.size ∧ t.place.size + 0 ≤ t.mask
    omega
  refine Calls.call_function_entry kind_sorted plain_sorted entry_sorted (args_sorted1 _) ?_
  unfold Builtin.«sorted»
  refine wpAny_bind (m := checkCount "sorted" 1 1 _) (wpAny_pure ?_)
  refine wpAny_bind (collect_set (A := X.A.in1) (I.ok.hd hc) ⟨o, ho, hex.1, hd⟩ hfits (by unfold scanBound; omega) tab.ris led fun s1 vs k1 hz g1 o1 pm => ?_)
  have hes : es.toList.map (·.2) = (L.map fun q => Value.ref q.1) := by
    rw [rows]
    unfold rowsN
    rw [List.map_map, List.map_map]
    rfl
  rw [hes] at pm
  have one : ∀ p ∈ L, ∀ r ∈ L, p.1 = r.1 → p = r := fun p hp r hr e => by
    have a1 := mg_key (v := .non) I (hk p hp)
    have a2 := mg_key (v := .non) I (hk r hr)
    rw [e] at a1
    exact Prod.ext e (mgK_inj (NestedIs.inj _ _ _ a1.1 a2.1))
  have nL : L.Nodup := by
    rw [List.map_map] at nd
    exact nodup_of_map nd
  obtain ⟨L1, e1, hs1⟩ : ∃ L1 : List (Addr × Mg), vs = L1.map (fun q => Value.ref q.1) ∧ ∀ q ∈ L1, q ∈ L := by
    have : ∀ vs : List Value, (∀ v ∈ vs, v ∈ L.map fun q => Value.ref q.1) → ∃ L1 : List (Addr × Mg), vs = L1.map (fun q => Value.ref q.1) ∧ ∀ q ∈ L1, q ∈ L := by
      intro vs
      induction vs with
      | nil => exact fun _ => ⟨[], rfl, fun q hq => (by cases hq)⟩
      | cons v vs ih =>
        intro hv
        obtain ⟨q, hq, e⟩ := List.mem_map.mp (hv v List.mem_cons_self)
        obtain ⟨L1, e1, hs⟩ := ih fun u hu => hv u (List.mem_cons_of_mem _ hu)
        refine ⟨q :: L1, by rw [List.map_cons, e, e1], fun r hr => ?_⟩
        rcases List.mem_cons.mp hr with z | z
        · rw [z]; exact hq
        · exact hs r z
    exact this vs fun v hv => pm.mem_iff.mp hv
  subst e1
  have p1 : L1.Perm L := by
    have nref : (L.map fun q => Value.ref q.1).Nodup := by
      refine List.pairwise_map.mpr (List.Pairwise.imp_of_mem (fun {q r} hq hr hne e => ?_) nL)
      injection e with e
      exact hne (one q hq r hr e)
    refine (List.perm_ext_iff_of_nodup (nodup_of_map (pm.nodup_iff.mpr nref)) nL).mpr fun q => ⟨hs1 q, fun hq => ?_⟩
    obtain ⟨r, hr, e⟩ := List.mem_map.mp (pm.mem_iff.mpr (List.mem_map.mpr ⟨q, hq, rfl⟩))
    injection e with e
    rw [← one r (hs1 r hr) q hq e]
    exact hr
  have hvl : L1.length < 64 := by rw [p1.length_eq]; exact few
  refine wpAny_bind (wpAny_newList ?_ (by rw [List.length_map, sizeLine_eq]; omega))
  have hoL : (s1.heap.push (seqObj "list" (L1.map fun q => Value.ref q.1).toArray 0)).get? s1.heap.objs.size = some (seqObj "list" (L1.map fun q => Value.ref q.1).toArray 0) := Heap.get?_push_size _ rfl
  have kk : ∀ b u, s.heap.get? b = some u → (s1.heap.push (seqObj "list" (L1.map fun q => Value.ref q.1).toArray 0)).get? b = some u := fun b u e => Heap.get?_push_of_some _ (k1 b u e)
  have ech : ∀ M : List (Addr × Mg), (∀ q ∈ M, q ∈ L) → PySem.W.EachIs (fun (v : Value) (b : Addr × Mg) => v = .ref b.1 ∧ b ∈ L) (M.map fun q => Value.ref q.1) M ∧
      PySem.W.EachIs (fun (v : Value) (b : Addr × Mg) => ∃ as, Reads (s1.heap.push (seqObj "list" (L1.map fun q => Value.ref q.1).toArray 0)) v (mgD b.2) as ∧ s1.heap.objs.size ∉ as) (M.map fun q => Value.ref q.1) M := by
    intro M
    induction M with
    | nil => exact fun _ => ⟨.nil, .nil⟩
    | cons b M ih =>
      intro hM
      obtain ⟨z1, z2⟩ := ih fun q hq => hM q (List.mem_cons_of_mem _ hq)
      have hb := hM b List.mem_cons_self
      refine ⟨.cons ⟨rfl, hb⟩ z1, .cons ?_ z2⟩
      obtain ⟨as, ra⟩ := reads_mg I (hk b hb)
      refine ⟨as, PyProof.Rows.Reads.keeps kk ra, fun hm => ?_⟩
      rw [mg_noaddr ra] at hm
      cases hm
  obtain ⟨x1, x2⟩ := ech L1 hs1
  refine wpAny_bind (wpAny_holding (PySem.W.list_sort_data (s := { s1 with heap := s1.heap.push (seqObj "list" (L1.map fun q => Value.ref q.1).toArray 0) }) (R := fun (v : Value) (b : Addr × Mg) => v = .ref b.1 ∧ b ∈ L) (enc := fun b : Addr × Mg => mgD b.2) hoL x1 x2 ?_ ?_
    (by rw [sizeLine_eq]; omega) (fun b hb => ?_) fun out hol he => ?_))
  · exact PySem.W.AllAlike.of fun b b' => alike_mg _ _
  · exact PySem.W.Sortable.tuples fun b => ⟨_, _, rfl⟩
  · show X.A.units + 1 + 1 + 2 < cLine
    omega
  · obtain ⟨c, hc2⟩ := sortedHeap_at (vs := L1.map fun q => Value.ref q.1) (out := out.toArray) hoL
    have pm2 := List.mergeSort_perm L1 (PySem.W.dataLe false fun b : Addr × Mg => mgD b.2)
    have pw := PySem.W.sort_pairwise (PySem.W.sortLe_total (PyProof.Rows.listOrd PyProof.Rows.itemOrd) false (fun b : Addr × Mg => PySem.W.keyToks (mgD b.2))) L1
    generalize hL2 : L1.mergeSort (PySem.W.dataLe false fun b : Addr × Mg => mgD b.2) = L2 at he pm2
    have eo : out = L2.map fun q => Value.ref q.1 := by
      clear hol hc2 pm2 pw hL2
      induction he with
      | nil => rfl
      | cons h t ih => rw [ih, List.map_cons, h.1]
    have hv : Vals (L2.map fun q => V.ref q.1) out := by
      rw [eo]
      clear eo he pm2 pw hL2
      induction L2 with
      | nil => exact .nil
      | cons b t ih => exact .cons rfl ih
    have pL : L2.Perm L := pm2.trans p1
    have hn : H s1.heap.objs.size = none := I.hok.fresh hz
    have k2 : ∀ b u, s.heap.get? b = some u → (sortedHeap (s1.heap.push (seqObj "list" (L1.map fun q => Value.ref q.1).toArray 0)) s1.heap.objs.size (L1.map fun q => Value.ref q.1) out.toArray).get? b = some u := fun b u e => by
      have q := k1 b u e
      have hlt := Heap.lt_size q
      rw [sortedHeap_old (Nat.ne_of_lt hlt) (by rw [size_push']; exact Nat.lt_succ_of_lt hlt)]
      exact Heap.get?_push_of_some _ q
    refine wpAny_pure ⟨_, rfl, ?_⟩
    have J : Inv X pins σ (upd H s1.heap.objs.size (.lst (L2.map fun q => V.ref q.1))) { s with heap := sortedHeap (s1.heap.push (seqObj "list" (L1.map fun q => Value.ref q.1).toArray 0)) s1.heap.objs.size (L1.map fun q => Value.ref q.1) out.toArray, gens := s1.gens, drawn := s1.drawn, toks := s1.toks } :=
      I.call (ch := []) (Un.laid k2 hz hn) (I.hok.laid k2 hz ⟨by rw [List.length_map, pL.length_eq, sizeLine_eq]; omega, out, c, hv, hc2⟩) (by rw [g1]; exact I.bare) (fun _ z => nomatch z)
    have e : ({ s1 with heap := sortedHeap (s1.heap.push (seqObj "list" (L1.map fun q => Value.ref q.1).toArray 0)) s1.heap.objs.size (L1.map fun q => Value.ref q.1) out.toArray } : Shared) = { s with heap := sortedHeap (s1.heap.push (seqObj "list" (L1.map fun q => Value.ref q.1).toArray 0)) s1.heap.objs.size (L1.map fun q => Value.ref q.1) out.toArray, gens := s1.gens, drawn := s1.drawn, toks := s1.toks } := by
      cases s1
      cases s
      cases o1
      rfl
    show EP X pins σ Q _ _
    rw [e]
    refine ⟨.ref s1.heap.objs.size, _, J, rfl, q L2 _ pL ?_ ?_ hn⟩
    · rw [List.map_map] at nd
      have nd2 : (L.map (·.2)).Nodup := List.pairwise_map.mpr (List.Pairwise.imp (fun {a b} hne e => hne (congrArg mgK e)) (List.pairwise_map.mp nd))
      exact (pL.map (·.2)).nodup_iff.mpr nd2
    · rw [← hL2]
      exact pw
end
end Fs

/-! FsF: a typed environment for readings, what calls promise, events and dicts. -/
namespace Fs
open PySem PySem.Spec L2

/-! ### an environment: what each name holds -/
def Md : Bool → Hp → Hp → Prop
  | true => Tp
  | false => Same
theorem Md.of {m : Bool} {H H' : Hp} (e : Same H H') : Md m H H' := by
  cases m
  · exact e
  · exact e.tp
abbrev Gam := List (Option Rs)
def Mn (m : Bool) (R : Rs) : Prop := ∀ H H' v, Md m H H' → R H v → R H' v
def Sat (m : Bool) (Γ : Gam) (σ : St) (H : Hp) : Prop := Γ.length = σ.length ∧ ∀ (i : Nat) (R : Rs), Γ[i]? = some (some R) → Mn m R ∧ ∃ v, σ[i]? = some (some v) ∧ R H v
theorem mnI {m : Bool} {d : PyData} : Mn m (rI d) := fun H H' v e r => by
  cases m
  · exact Im.sm r e
  · exact Im.up r e
theorem mnX {m : Bool} {v : V} : Mn m (rX v) := fun _ _ _ _ r => r
theorem mnMo {R : Rs} [Mo R] : Mn false R := fun _ _ _ e r => Mo.mo e r
theorem mn_same {m : Bool} {R : Rs} (h : Mn m R) {H H' : Hp} {v : V} (e : Same H H') (r : R H v) : R H' v := h H H' v (Md.of e) r
theorem Sat.up {m : Bool} {Γ : Gam} {σ : St} {H H' : Hp} (S : Sat m Γ σ H) (e : Md m H H') : Sat m Γ σ H' :=
  ⟨S.1, fun i R h => by
    obtain ⟨a, v, b, r⟩ := S.2 i R h
    exact ⟨a, v, b, a _ _ _ e r⟩⟩
theorem Sat.sm {m : Bool} {Γ : Gam} {σ : St} {H H' : Hp} (S : Sat m Γ σ H) (e : Same H H') : Sat m Γ σ H' := S.up (Md.of e)
theorem Sat.set {m : Bool} {Γ : Gam} {σ : St} {H : Hp} (S : Sat m Γ σ H) (i : Nat) {R : Rs} {v : V} (a : Mn m R) (r : R H v) : Sat m (Γ.set i (some R)) (σ.set i (some v)) H := by
  refine ⟨by rw [List.length_set, List.length_set, S.1], fun j T h => ?_⟩
  by_cases hj : i = j
  · subst hj
    by_cases hi : i < Γ.length
    · rw [List.getElem?_set_self hi] at h
      cases h
      exact ⟨a, v, by rw [List.getElem?_set_self (by rw [← S.1]; exact hi)], r⟩
    · rw [List.getElem?_eq_none (by rw [List.length_set]; omega)] at h
      cases h
  · rw [List.getElem?_set_ne hj] at h
    obtain ⟨b, w, c, d⟩ := S.2 j T h
    exact ⟨b, w, by rw [List.getElem?_set_ne hj]; exact c, d⟩
theorem Sat.non {m : Bool} {Γ : Gam} {σ : St} {H : Hp} (S : Sat m Γ σ H) (i : Nat) : Sat m (Γ.set i none) (σ.set i none) H := by
  refine ⟨by rw [List.length_set, List.length_set, S.1], fun j T h => ?_⟩
  by_cases hj : i = j
  · subst hj
    by_cases hi : i < Γ.length
    · rw [List.getElem?_set_self hi] at h
      cases h
    · rw [List.getElem?_eq_none (by rw [List.length_set]; omega)] at h
      cases h
  · rw [List.getElem?_set_ne hj] at h
    obtain ⟨b, w, c, d⟩ := S.2 j T h
    exact ⟨b, w, by rw [List.getElem?_set_ne hj]; exact c, d⟩
theorem Sat.fgt {m : Bool} {Γ : Gam} {σ : St} {H : Hp} (S : Sat m Γ σ H) (i : Nat) : Sat m (Γ.set i none) σ H := by
  refine ⟨by rw [List.length_set, S.1], fun j R h => ?_⟩
  by_cases hj : i = j
  · subst hj
    by_cases hi : i < Γ.length
    · rw [List.getElem?_set_self hi] at h
      cases h
    · rw [List.getElem?_eq_none (by rw [List.length_set]; omega)] at h
      cases h
  · rw [List.getElem?_set_ne hj] at h
    exact S.2 j R h
def wipeG (Γ : Gam) : List Nat → Gam
  | [] => Γ
  | v :: vs => (wipeG Γ vs).set v none
theorem Sat.wipe {m : Bool} {Γ : Gam} {σ : St} {H : Hp} (S : Sat m Γ σ H) : ∀ vs, Sat m (wipeG Γ vs) (wipe σ vs) H
  | [] => S
  | v :: vs => (Sat.wipe S vs).non v
/-- entries may be forgotten -/
theorem Sat.less {m : Bool} {Γ Δ : Gam} {σ : St} {H : Hp} (S : Sat m Γ σ H) (l : Δ.length = Γ.length) (h : ∀ (i : Nat) (R : Rs), Δ[i]? = some (some R) → Γ[i]? = some (some R)) : Sat m Δ σ H :=
  ⟨l.trans S.1, fun i R e => S.2 i R (h i R e)⟩
theorem Sat.get {m : Bool} {Γ : Gam} {σ : St} {H : Hp} (S : Sat m Γ σ H) {i : Nat} {R : Rs} (h : Γ[i]? = some (some R)) : ∃ v, σ[i]? = some (some v) ∧ R H v := (S.2 i R h).2
/-- what stands at i may be said otherwise -/
theorem Sat.say {m : Bool} {Γ : Gam} {σ : St} {H : Hp} (S : Sat m Γ σ H) (i : Nat) {R T : Rs} (h : Γ[i]? = some (some R)) (a : Mn m T) (k : ∀ v, R H v → T H v) : Sat m (Γ.set i (some T)) σ H := by
  obtain ⟨v, hv, r⟩ := S.get h
  have z := S.set i a (k v r)
  have e : σ.set i (some v) = σ := by
    obtain ⟨hi, hh⟩ := List.getElem?_eq_some_iff.mp hv
    rw [← hh, List.set_getElem_self]
  rw [e] at z
  exact z
theorem ev {m : Bool} {Γ : Gam} {σ : St} {H : Hp} {i : Nat} {R : Rs} (S : Sat m Γ σ H) (h : Γ[i]? = some (some R)) : EvR (tVar i) σ H R := fun H1 e Q q => by
  obtain ⟨a, v, b, r⟩ := S.2 i R h
  exact ⟨v, b, q v H1 (Same.refl H1) (mn_same a e r)⟩

/-! ### wiping again what a target has set -/
theorem wipe_set {i : Nat} {x : Option V} : ∀ {vs : List Nat} {σ : St}, i ∈ vs → wipe (σ.set i x) vs = wipe σ vs
  | v :: vs, σ, h => by
    unfold wipe
    by_cases hi : i ∈ vs
    · rw [wipe_set hi]
    · rcases List.mem_cons.mp h with e | e
      · subst e
        have key : ∀ us : List Nat, i ∉ us → wipe (σ.set i x) us = (wipe σ us).set i x := by
          intro us
          induction us with
          | nil => intro _; rfl
          | cons u us ih =>
            intro hu
            have h1 : i ≠ u := fun z => hu (z ▸ List.mem_cons_self)
            unfold wipe
            rw [ih fun z => hu (List.mem_cons_of_mem _ z), List.set_comm _ _ h1]
        rw [key vs hi, List.set_set]
      · exact absurd e hi
theorem wipe_twice {σ : St} {vs : List Nat} : wipe (wipe σ vs) vs = wipe σ vs := by
  have key : ∀ us : List Nat, (∀ u ∈ us, u ∈ vs) → wipe (wipe σ us) vs = wipe σ vs := by
    intro us
    induction us with
    | nil => intro _; rfl
    | cons u us ih =>
      intro h
      show wipe ((wipe σ us).set u none) vs = _
      rw [wipe_set (h u List.mem_cons_self), ih fun z hz => h z (List.mem_cons_of_mem _ hz)]
  exact key vs fun _ h => h

/-! ### targets -/
/-- the target takes a value of which R is said, and then the names are as f says; none but those at is change -/
def Tg (g : TG) (R : Rs) (f : Gam → Gam) (js : List Nat) : Prop := ∀ (m : Bool) (Γ : Gam) (v : V) (σ : St) (H : Hp), Sat m Γ σ H → R H v → ∃ σ2, (∀ P : St → Hp → Prop, P σ2 H → g v σ H P) ∧ Sat m (f Γ) σ2 H ∧
  ∀ vs : List Nat, (∀ j ∈ js, j ∈ vs) → wipe σ2 vs = wipe σ vs
theorem tg_i {i : Nat} {d : PyData} : Tg (gName i) (rI d) (fun Γ => Γ.set i (some (rI d))) [i] := fun m Γ v σ H S r => ⟨σ.set i (some v), fun _ p => p, S.set i mnI r, fun vs h => wipe_set (h i List.mem_cons_self)⟩
theorem tg_x {i : Nat} {x : V} : Tg (gName i) (rX x) (fun Γ => Γ.set i (some (rX x))) [i] := fun m Γ v σ H S r => ⟨σ.set i (some v), fun _ p => p, S.set i mnX r, fun vs h => wipe_set (h i List.mem_cons_self)⟩
/-- tuple targets, the items data -/
def TgL (g : TGs) (ds : List PyData) (f : Gam → Gam) (js : List Nat) : Prop := ∀ (m : Bool) (Γ : Gam) (vs : List V) (σ : St) (H : Hp), Sat m Γ σ H → ImL H ds vs → ∃ σ2, (∀ P : St → Hp → Prop, P σ2 H → g vs σ H P) ∧ Sat m (f Γ) σ2 H ∧
  ∀ vs : List Nat, (∀ j ∈ js, j ∈ vs) → wipe σ2 vs = wipe σ vs
theorem tg_nil : TgL gNil [] id [] := fun m Γ vs σ H S r => ⟨σ, fun _ p => ⟨r, p⟩, S, fun _ _ => rfl⟩
theorem tg_cons {g : TG} {u : TGs} {d : PyData} {ds : List PyData} {f1 f2 : Gam → Gam} {j1 j2 : List Nat} (h : Tg g (rI d) f1 j1) (hs : TgL u ds f2 j2) : TgL (gCons g u) (d :: ds) (fun Γ => f2 (f1 Γ)) (j1 ++ j2) := fun m Γ vs σ H S r => by
  obtain ⟨x, rs, rfl, hx, hr⟩ := r
  obtain ⟨σ1, a1, S1, w1⟩ := h m Γ x σ H S hx
  obtain ⟨σ2, a2, S2, w2⟩ := hs m _ rs σ1 H S1 hr
  exact ⟨σ2, fun P p => ⟨x, rs, rfl, a1 _ (a2 P p)⟩, S2, fun vs hv => (w2 vs fun j hj => hv j (List.mem_append_right _ hj)).trans (w1 vs fun j hj => hv j (List.mem_append_left _ hj))⟩
theorem tg_tup {K : PySem.W.Frag} {n : Nat} {u : TGs} {ds : List PyData} {f : Gam → Gam} {js : List Nat} (h : TgL u ds f js) (hn : ds.length = n) : Tg (gTup K n u) (rI (.tuple ds)) f js := fun m Γ v σ H S r => by
  obtain ⟨a, xs, rfl, ha, hx⟩ := r
  obtain ⟨σ2, k, S2⟩ := h m Γ xs σ H S hx
  exact ⟨σ2, fun P p => ⟨a, xs, rfl, SqT.of ha, by rw [hx.len, hn], k P p⟩, S2⟩

/-! ### arguments -/
def Args : List Rs → Hp → List V → Prop
  | [], _, vs => vs = []
  | R :: Rs, H, vs => ∃ x xs, vs = x :: xs ∧ R H x ∧ Args Rs H xs
def EvA (ta : TA) (σ : St) (H : Hp) (as : List Rs) : Prop := ∀ H1, Same H H1 → ∀ Q : List V → Hp → Prop, (∀ vs H2, Same H1 H2 → Args as H2 vs → Q vs H2) → ta σ H1 Q
section
variable {K : PySem.W.Frag} {σ : St} {H H' : Hp} {ta tb tc te tx : TE} {t u : TT} {x y z v : V} {R S T U : Rs} {d e : PyData} {ds es : List PyData} {tr : TA} {as : List Rs} {m : Bool} {Γ : Gam}
theorem aa_nil : EvA tNil σ H [] := fun H1 _ Q q => q [] H1 (Same.refl H1) rfl
theorem aa_cons (hm : Mn false R) (h : EvR ta σ H R) (hr : EvA tr σ H as) : EvA (tCons ta tr) σ H (R :: as) := fun H1 e Q q => h H1 e _ fun v H2 e2 r => hr H2 (e.trans e2) _ fun vs H3 e3 a => q _ _ (e2.trans e3) ⟨v, vs, rfl, hm _ _ _ e3 r, a⟩
theorem aI {d : PyData} (h : EvR ta σ H (rI d)) (hr : EvA tr σ H as) : EvA (tCons ta tr) σ H (rI d :: as) := aa_cons mnI h hr
theorem aX {x : V} (h : EvR ta σ H (rX x)) (hr : EvA tr σ H as) : EvA (tCons ta tr) σ H (rX x :: as) := aa_cons mnX h hr
theorem aM [Mo R] (h : EvR ta σ H R) (hr : EvA tr σ H as) : EvA (tCons ta tr) σ H (R :: as) := aa_cons mnMo h hr
theorem EvA.go (h : EvA tr σ H as) {Q : List V → Hp → Prop} (k : ∀ vs H2, Same H H2 → Args as H2 vs → Q vs H2) : tr σ H Q := h H (Same.refl H) Q k

/-! ### what a def that changes nothing promises -/
def spS {ι : Type} (pre : ι → Prop) (as : ι → List Rs) (T : ι → Hp → Rs) : Sp := fun vs H Q _ => ∃ i, pre i ∧ Args (as i) H vs ∧ ∀ v H', Same H H' → T i H H' v → Q v H'
variable {ι : Type} {pre : ι → Prop} {As : ι → List Rs} {TT : ι → Hp → Rs} {E : XK} {C : Addr}
theorem e_call (i : ι) (hp : pre i) (ha : EvA tr σ H (As i)) : EvR (tCall (spS pre As TT) [] E tr) σ H (fun H' v => ∃ H0, Same H H0 ∧ TT i H0 H' v) := fun H1 e Q q =>
  ha H1 e _ fun vs H2 e2 a => ⟨i, hp, by rw [List.append_nil]; exact a, fun v H' e3 r => q v H' (e2.trans e3) ⟨H2, e.trans e2, r⟩⟩
theorem e_callT (i : ι) (hp : pre i) (ha : EvA tr σ H (As i)) (hT : ∀ H0 H' v, Same H H0 → TT i H0 H' v → T H' v) : EvR (tCall (spS pre As TT) [] E tr) σ H T := fun H1 e Q q =>
  ha H1 e _ fun vs H2 e2 a => ⟨i, hp, by rw [List.append_nil]; exact a, fun v H' e3 r => q v H' (e2.trans e3) (hT H2 H' v (e.trans e2) r)⟩
end

/-! ### what is walked -/
structure Yd (J : It) (ys : List PyData) (Kp : Hp → Prop) : Prop where
  stop : ∀ H', Kp H' → J.stop ys.length H'
  go : ∀ (i : Nat) H' d, ys[i]? = some d → Kp H' → J.go i H'
  yld : ∀ (i : Nat) H' x H'' d, ys[i]? = some d → Kp H' → J.yld i H' x H'' → Same H' H'' ∧ Im H'' d x
def IterD (m : Bool) (wi : TI) (σ : St) (H : Hp) (ys : List PyData) : Prop := ∀ H1, Same H H1 → ∀ R : It → Hp → Prop, (∀ J H2 (Kp : Hp → Prop), Same H1 H2 → Yd J ys Kp → (∀ H', Md m H2 H' → Kp H') → R J H2) → wi σ H1 R
section
variable {K : PySem.W.Frag} {σ : St} {H : Hp} {tl ta : TE} {tr : TA} {m : Bool} {ys zs : List PyData}
theorem at_last {α β : Type} {xs : List α} {ds : List β} (h : xs.length = ds.length) {i : Nat} {d : β} (e : ds[i]? = some d) : ∃ x, xs[i]? = some x := by
  have hi := (List.getElem?_eq_some_iff.mp e).1
  exact ⟨xs[i]'(by omega), List.getElem?_eq_getElem (by omega)⟩
theorem yd_l {a : Addr} {zs : List V} {Kp : Hp → Prop} (h : ∀ H', Kp H' → H' a = some (.lst zs) ∧ ImL H' ys zs) : Yd (Itl K a) ys Kp where
  stop := fun H' k => ⟨zs, SqL.of (h H' k).1, by rw [(h H' k).2.len]; exact Nat.le_refl _⟩
  go := fun i H' d e k => by
    obtain ⟨x, hx⟩ := at_last (h H' k).2.len e
    exact ⟨zs, x, SqL.of (h H' k).1, hx⟩
  yld := fun i H' x H'' d e k y => by
    obtain ⟨rfl, y⟩ := y
    obtain ⟨a1, a2⟩ := h _ k
    obtain ⟨z, hz, r⟩ := a2.get e
    rw [y zs (SqL.of a1)] at hz
    cases hz
    exact ⟨Same.refl _, r⟩
theorem yd_t {a : Addr} {zs : List V} {Kp : Hp → Prop} (h : ∀ H', Kp H' → H' a = some (.tup zs) ∧ ImL H' ys zs) : Yd (Itt K a) ys Kp where
  stop := fun H' k => ⟨zs, SqT.of (h H' k).1, by rw [(h H' k).2.len]; exact Nat.le_refl _⟩
  go := fun i H' d e k => by
    obtain ⟨x, hx⟩ := at_last (h H' k).2.len e
    exact ⟨zs, x, SqT.of (h H' k).1, hx⟩
  yld := fun i H' x H'' d e k y => by
    obtain ⟨rfl, y⟩ := y
    obtain ⟨a1, a2⟩ := h _ k
    obtain ⟨z, hz, r⟩ := a2.get e
    rw [y zs (SqT.of a1)] at hz
    cases hz
    exact ⟨Same.refl _, r⟩
theorem i_list (h : EvR tl σ H (rL ys)) : IterD false (iList K tl) σ H ys := fun H1 e R k => h H1 e _ fun v H2 e2 hv => by
  obtain ⟨a, zs, rfl, ho, r⟩ := hv
  exact ⟨a, rfl, ⟨zs, SqL.of ho⟩, k _ H2 (fun H' => H' a = some (.lst zs) ∧ ImL H' ys zs) e2 (yd_l fun _ z => z) fun H' e' => ⟨e' _ _ ho, r.sm e'⟩⟩
theorem i_tup (h : EvR tl σ H (rI (.tuple ys))) : IterD m (iTup K tl) σ H ys := fun H1 e R k => h H1 e _ fun v H2 e2 hv => by
  obtain ⟨a, zs, rfl, ho, r⟩ := hv
  refine ⟨a, rfl, ⟨zs, SqT.of ho⟩, k _ H2 (fun H' => H' a = some (.tup zs) ∧ ImL H' ys zs) e2 (yd_t fun _ z => z) fun H' e' => ?_⟩
  have t : Tp H2 H' := by
    cases m
    · exact (show Same H2 H' from e').tp
    · exact e'
  exact ⟨t _ _ ho, r.up t⟩
theorem i_rng {n : Int} (h : EvR ta σ H (rI (.int n))) (hz : 0 ≤ n ∧ n ≤ 100000) : IterD m (iRng1 (tCons ta tNil)) σ H ((upTo n.toNat).map PyData.int) := fun H1 e R k => h H1 e _ fun v H2 e2 hv => by
  cases hv
  refine ⟨n, rfl, by omega, by omega, k _ H2 (fun _ => True) e2 ⟨fun H' _ => ?_, fun i H' d e _ => ?_, fun i H' x H'' d e _ y => ?_⟩ fun _ _ => True.intro⟩
  · show n.toNat ≤ _
    rw [List.length_map, upTo_length]
    exact Nat.le_refl _
  · have := (List.getElem?_eq_some_iff.mp e).1
    rw [List.length_map, upTo_length] at this
    exact this
  · obtain ⟨rfl, rfl⟩ := y
    refine ⟨Same.refl _, ?_⟩
    have hi := (List.getElem?_eq_some_iff.mp e).1
    rw [List.length_map, upTo_length] at hi
    unfold upTo at e
    rw [List.map_map, List.getElem?_map, List.getElem?_range hi] at e
    cases e
    show V.int (0 + (i : Int)) = _
    rw [Int.zero_add]
def zipD (xs ys : List PyData) : List PyData := List.zipWith (fun a b => .tuple [a, b]) xs ys
theorem zipD_at {xs ys : List PyData} {i : Nat} {d : PyData} (h : (zipD xs ys)[i]? = some d) : ∃ a b, xs[i]? = some a ∧ ys[i]? = some b ∧ d = .tuple [a, b] := by
  unfold zipD at h
  rw [List.getElem?_zipWith] at h
  cases hx : xs[i]? with
  | none => rw [hx] at h; cases h
  | some a =>
    cases hy : ys[i]? with
    | none => rw [hx, hy] at h; cases h
    | some b =>
      rw [hx, hy] at h
      cases h
      exact ⟨a, b, rfl, rfl, rfl⟩
theorem zipD_len (xs ys : List PyData) : (zipD xs ys).length = min xs.length ys.length := by unfold zipD; rw [List.length_zipWith]
theorem i_zipT {xs ys : List PyData} (h : EvA tr σ H [rI (.tuple xs), rI (.tuple ys)]) : IterD m (RZ.iZipA K tr) σ H (zipD xs ys) := fun H1 e R k => h H1 e _ fun vs H2 e2 hv => by
  obtain ⟨v1, _, rfl, ⟨a, zs, rfl, ha, ra⟩, v2, _, rfl, ⟨b, ws, rfl, hb, rb⟩, rfl⟩ := hv
  refine ⟨a, b, zs, ws, rfl, .inr ⟨SqT.of ha, SqT.of hb, k _ H2 (fun H' => Tp H2 H') e2 ⟨fun H' t => ?_, fun i H' d e t => ?_, fun i H' x H'' d e t y => ?_⟩ fun H' e' => ?_⟩⟩
  · refine ⟨zs, ws, SqT.of (t _ _ ha), SqT.of (t _ _ hb), ?_⟩
    rw [zipD_len, ra.len, rb.len]
    omega
  · obtain ⟨p, q, e1, e2, _⟩ := zipD_at e
    obtain ⟨x, hx, _⟩ := ra.get e1
    obtain ⟨y, hy, _⟩ := rb.get e2
    exact ⟨zs, ws, x, y, SqT.of (t _ _ ha), SqT.of (t _ _ hb), hx, hy⟩
  · obtain ⟨T, x1, y1, rfl, hT, rfl, h1, h2⟩ := y
    obtain ⟨p, q, e1, e2, rfl⟩ := zipD_at e
    obtain ⟨x, hx, rx⟩ := ra.get e1
    obtain ⟨y, hy, ry⟩ := rb.get e2
    have q1 := h1 _ (SqT.of (t _ _ ha))
    have q2 := h2 _ (SqT.of (t _ _ hb))
    rw [hx] at q1
    rw [hy] at q2
    have s := same_new (o := .tup [x1, y1]) hT
    cases q1
    cases q2
    exact ⟨s, Im.tup upd_same ⟨_, _, rfl, (rx.up t).sm s, _, _, rfl, (ry.up t).sm s, rfl⟩⟩
  · cases m
    · exact (show Same H2 H' from e').tp
    · exact e'
theorem i_zipL {xs ys : List PyData} (h : EvA tr σ H [rL xs, rL ys]) : IterD false (RZ.iZipA K tr) σ H (zipD xs ys) := fun H1 e R k => h H1 e _ fun vs H2 e2 hv => by
  obtain ⟨v1, _, rfl, ⟨a, zs, rfl, ha, ra⟩, v2, _, rfl, ⟨b, ws, rfl, hb, rb⟩, rfl⟩ := hv
  refine ⟨a, b, zs, ws, rfl, .inl ⟨SqL.of ha, SqL.of hb, k _ H2 (fun H' => Same H2 H') e2 ⟨fun H' t => ?_, fun i H' d e t => ?_, fun i H' x H'' d e t y => ?_⟩ fun H' e' => e'⟩⟩
  · refine ⟨zs, ws, SqL.of (t _ _ ha), SqL.of (t _ _ hb), ?_⟩
    rw [zipD_len, ra.len, rb.len]
    omega
  · obtain ⟨p, q, e1, e2, _⟩ := zipD_at e
    obtain ⟨x, hx, _⟩ := ra.get e1
    obtain ⟨y, hy, _⟩ := rb.get e2
    exact ⟨zs, ws, x, y, SqL.of (t _ _ ha), SqL.of (t _ _ hb), hx, hy⟩
  · obtain ⟨T, x1, y1, rfl, hT, rfl, h1, h2⟩ := y
    obtain ⟨p, q, e1, e2, rfl⟩ := zipD_at e
    obtain ⟨x, hx, rx⟩ := ra.get e1
    obtain ⟨y, hy, ry⟩ := rb.get e2
    have q1 := h1 _ (SqL.of (t _ _ ha))
    have q2 := h2 _ (SqL.of (t _ _ hb))
    rw [hx] at q1
    rw [hy] at q2
    have s := same_new (o := .tup [x1, y1]) hT
    cases q1
    cases q2
    exact ⟨s, Im.tup upd_same ⟨_, _, rfl, (rx.sm t).sm s, _, _, rfl, (ry.sm t).sm s, rfl⟩⟩
/-- an instance that walks its list -/
theorem i_own {C a l : Addr} {j : Nat} {zs : List V} (h : EvR tl σ H (rX (.ref a))) (hL : LAt K C j H a l) (hl : H l = some (.lst zs)) (r : ImL H ys zs) : IterD false (iOwn K C j tl) σ H ys := fun H1 e R k => h H1 e _ fun v H2 e2 hv => by
  cases hv
  exact ⟨a, l, rfl, lat_same hL (e.trans e2), k _ H2 (fun H' => H' l = some (.lst zs) ∧ ImL H' ys zs) e2 (yd_l fun _ z => z) fun H' e' => ⟨e' _ _ (e2 _ _ (e _ _ hl)), r.sm ((e.trans e2).trans e')⟩⟩
end

/-! ### loops over what is walked -/
theorem loopH {J : It} {ys : List PyData} {Kp : Hp → Prop} {BODY : V → Hp → (Hp → Prop) → Prop} {H0 : Hp} {Qd : Hp → Prop} (y : Yd J ys Kp) (Pv : Nat → Hp → Prop) (h0 : Pv 0 H0) (hk : ∀ i H, i ≤ ys.length → Pv i H → Kp H)
    (step : ∀ (i : Nat) d x H H', ys[i]? = some d → Pv i H → Same H H' → Im H' d x → BODY x H' (Pv (i + 1))) (done : ∀ H, Pv ys.length H → Qd H) :
    ∃ W : Nat → Nat → Hp → Prop, (∃ m, W 0 m H0) ∧ ∀ i m H, W i m H → (J.stop i H ∧ Qd H) ∨ (J.go i H ∧ ∃ Nx : Hp → Prop, (∀ H', Nx H' → ∃ m', m' < m ∧ W (i + 1) m' H') ∧ ∀ x H', J.yld i H x H' → BODY x H' Nx) := by
  refine ⟨fun i m H => m = ys.length - i ∧ i ≤ ys.length ∧ Pv i H, ⟨ys.length, by simp, Nat.zero_le _, h0⟩, ?_⟩
  rintro i m H ⟨rfl, hi, p⟩
  have q := hk i H hi p
  by_cases hlt : i < ys.length
  · have e := List.getElem?_eq_getElem hlt
    refine .inr ⟨y.go i H _ e q, Pv (i + 1), fun H' p' => ⟨ys.length - (i + 1), by omega, rfl, hlt, p'⟩, fun x H' z => ?_⟩
    obtain ⟨s, r⟩ := y.yld i H x H' _ e q z
    exact step i _ x H H' e p s r
  · have e : i = ys.length := by omega
    subst e
    exact .inl ⟨y.stop H q, done H p⟩
theorem loopS {J : It} {ys : List PyData} {Kp : Hp → Prop} {BODY : V → St → Hp → (St → Hp → Prop) → Prop} {σ0 : St} {H0 : Hp} {Qd : St → Hp → Prop} (y : Yd J ys Kp) (Pv : Nat → St → Hp → Prop) (h0 : Pv 0 σ0 H0) (hk : ∀ i σ H, i ≤ ys.length → Pv i σ H → Kp H)
    (step : ∀ (i : Nat) d x σ H H', ys[i]? = some d → Pv i σ H → Same H H' → Im H' d x → BODY x σ H' (Pv (i + 1))) (done : ∀ σ H, Pv ys.length σ H → Qd σ H) :
    ∃ W : Nat → Nat → St → Hp → Prop, (∃ m, W 0 m σ0 H0) ∧ ∀ i m σ H, W i m σ H → (J.stop i H ∧ Qd σ H) ∨ (J.go i H ∧ ∃ N : St → Hp → Prop, (∀ σ' H', N σ' H' → ∃ m', m' < m ∧ W (i + 1) m' σ' H') ∧ ∀ x H', J.yld i H x H' → BODY x σ H' N) := by
  refine ⟨fun i m σ H => m = ys.length - i ∧ i ≤ ys.length ∧ Pv i σ H, ⟨ys.length, by simp, Nat.zero_le _, h0⟩, ?_⟩
  rintro i m σ H ⟨rfl, hi, p⟩
  have q := hk i σ H hi p
  by_cases hlt : i < ys.length
  · have e := List.getElem?_eq_getElem hlt
    refine .inr ⟨y.go i H _ e q, Pv (i + 1), fun σ' H' p' => ⟨ys.length - (i + 1), by omega, rfl, hlt, p'⟩, fun x H' z => ?_⟩
    obtain ⟨s, r⟩ := y.yld i H x H' _ e q z
    exact step i _ x σ H H' e p s r
  · have e : i = ys.length := by omega
    subst e
    exact .inl ⟨y.stop H q, done σ H p⟩
/-- a new list of data -/
def rLF (H0 : Hp) (ds : List PyData) : Rs := fun H v => ∃ l xs, v = .ref l ∧ H0 l = none ∧ H l = some (.lst xs) ∧ ImL H ds xs
instance {H0 : Hp} {ds : List PyData} : Mo (rLF H0 ds) := ⟨fun e ⟨l, xs, a, b, c, d⟩ => ⟨l, xs, a, b, e _ _ c, d.sm e⟩⟩
theorem rLF.l {H0 H : Hp} {ds : List PyData} {v : V} (h : rLF H0 ds H v) : Ls H ds v := by
  obtain ⟨l, xs, a, _, c, d⟩ := h
  exact ⟨l, xs, a, c, d⟩
theorem EvR.l {te : TE} {σ : St} {H H0 : Hp} {ds : List PyData} (h : EvR te σ H (rLF H0 ds)) : EvR te σ H (rL ds) := h.imp fun _ _ _ r => r.l
section
variable {K : PySem.W.Frag} {α β : Type} {enc : α → PyData} {xs : List α} {σ : St} {H : Hp} {wi wi1 : TI} {te : TE} {tt tt1 : TT} {g g1 : TG} {vs vs1 : List Nat} {m : Bool} {Γ : Gam} {F : α → Gam → Gam} {js js1 : List Nat}
theorem split2 {xs : List α} {i : Nat} {d : PyData} (h : (xs.map enc)[i]? = some d) : ∃ x, xs[i]? = some x ∧ d = enc x ∧ x ∈ xs ∧ xs.take (i + 1) = xs.take i ++ [x] ∧ xs = xs.take i ++ x :: xs.drop (i + 1) := by
  rw [List.getElem?_map] at h
  cases hx : xs[i]? with
  | none => rw [hx] at h; cases h
  | some b =>
    rw [hx] at h
    cases h
    obtain ⟨s1, s2⟩ := split_at hx
    obtain ⟨hlt, hb⟩ := List.getElem?_eq_some_iff.mp hx
    refine ⟨b, rfl, rfl, s2, s1, ?_⟩
    rw [← hb, ← List.drop_eq_getElem_cons hlt, List.take_append_drop]
/-- [e for t in .. if ..] -/
theorem e_lc (p : α → Bool) (f : α → PyData) (S : Sat m Γ σ H) (h : IterD false wi σ H (xs.map enc)) (hz : xs.length ≤ 80000) (hg : ∀ x ∈ xs, Tg g (rI (enc x)) (F x) js) (hj : ∀ j ∈ js, j ∈ vs)
    (turn : ∀ x ∈ xs, ∀ σ2 H2, Same H H2 → Sat m (F x (wipeG Γ vs)) σ2 H2 → EvB tt σ2 H2 (p x) ∧ (p x = true → EvR te σ2 H2 (rI (f x)))) :
    EvR (tLc wi g tt te vs) σ H (rLF H ((xs.filter p).map f)) := fun H0 e Q q => h H0 e _ fun J H1 Kp e1 y hK => by
  intro Dl hD
  have fr : H Dl = none := Same.free (e.trans e1) hD
  refine loopH (BODY := fun x H' Nx => g x (wipe σ vs) H' fun σ2 H2 => wipe σ2 vs = wipe σ vs ∧ tt σ2 H2 fun b H3 => if b = true then te σ2 H3 fun y H4 => ∃ acc, H4 Dl = some (.lst acc) ∧ acc.length < sizeLine ∧ Nx (upd H4 Dl (.lst (acc ++ [y]))) else Nx H3)
    y (fun i H' => LcW H1 p f Dl (xs.take i) H') ⟨hD, same_new hD, [], upd_same, rfl⟩ (fun i H' _ w => hK _ w.2.1) (fun i d x H' H'' ed w s r => ?_) (fun H' w => ?_)
  · obtain ⟨b, hb, rfl, hm, s1, _⟩ := split2 ed
    obtain ⟨σ2, k1, k2, k3⟩ := hg b hm m _ x _ H'' ((S.sm ((e.trans e1).trans (w.2.1.trans s))).wipe vs) r
    obtain ⟨t1, t2⟩ := turn b hm σ2 H'' ((e.trans e1).trans (w.2.1.trans s)) k2
    refine k1 _ ⟨(k3 vs hj).trans wipe_twice, ?_⟩
    rw [s1]
    obtain ⟨w1, w2, ys, w3, w4⟩ := w
    exact lcW_turn (by rw [List.length_take]; omega) ⟨w1, w2.trans s, ys, s _ _ w3, w4.sm s⟩ t1 t2
  · rw [List.length_map, List.take_length] at w
    obtain ⟨_, e2, ys, hy, ry⟩ := w
    exact q _ H' (e1.trans e2) ⟨Dl, ys, rfl, fr, hy, ry⟩
/-- two clauses, no conditions -/
theorem e_lc2 {enc1 : β → PyData} {ys : α → List β} {F1 : α → β → Gam → Gam} (f : α → β → PyData) (S : Sat true Γ σ H) (h : IterD false wi σ H (xs.map enc)) (hz : (xs.flatMap ys).length ≤ 80000)
    (hg : ∀ x ∈ xs, Tg g (rI (enc x)) (F x) js) (hj : ∀ j ∈ js, j ∈ vs)
    (turn : ∀ x ∈ xs, ∀ σ2 H2, Sat true (F x (wipeG Γ vs)) σ2 H2 → IterD true wi1 σ2 H2 ((ys x).map enc1)) (hg1 : ∀ x ∈ xs, ∀ y ∈ ys x, Tg g1 (rI (enc1 y)) (F1 x y) js1) (hj1 : ∀ j ∈ js1, j ∈ vs1)
    (turn1 : ∀ x ∈ xs, ∀ y ∈ ys x, ∀ σ2 H2, Sat true (F1 x y (wipeG (F x (wipeG Γ vs)) vs1)) σ2 H2 → EvR te σ2 H2 (rI (f x y))) :
    EvR (tLc2 wi g tYes wi1 g1 tYes te vs vs1) σ H (rLF H (xs.flatMap fun x => (ys x).map (f x))) := fun H0 e Q q => h H0 e _ fun J H1 Kp e1 yd hK => by
  intro Dl hD
  have fr : H Dl = none := Same.free (e.trans e1) hD
  let Wv : List PyData → Hp → Prop := fun ds H' => Same H1 H' ∧ ∃ zs, H' Dl = some (.lst zs) ∧ ImL H' ds zs
  refine loopH (BODY := fun x H' Nx => g x (wipe σ vs) H' fun σ2 H2 => wipe σ2 vs = wipe σ vs ∧ tYes σ2 H2 fun b H3 =>
    if b = true then wi1 σ2 H3 fun J1 H4 => ∃ W1 : Nat → Nat → Hp → Prop, (∃ m, W1 0 m H4) ∧ ∀ j k H, W1 j k H →
      (J1.stop j H ∧ Nx H) ∨ (J1.go j H ∧ ∃ Nx1 : Hp → Prop, (∀ H', Nx1 H' → ∃ k', k' < k ∧ W1 (j + 1) k' H') ∧ ∀ x H', J1.yld j H x H' → g1 x (wipe σ2 vs1) H' fun σ3 H5 => wipe σ3 vs1 = wipe σ2 vs1 ∧ tYes σ3 H5 fun b H6 =>
        if b = true then te σ3 H6 fun y H7 => ∃ acc, H7 Dl = some (.lst acc) ∧ acc.length < sizeLine ∧ Nx1 (upd H7 Dl (.lst (acc ++ [y]))) else Nx1 H6) else Nx H3)
    yd (fun i H' => Wv ((xs.take i).flatMap fun x => (ys x).map (f x)) H') ⟨same_new hD, [], upd_same, rfl⟩ (fun i H' _ w => hK _ w.1) (fun i d x H' H'' ed w s r => ?_) (fun H' w => ?_)
  · obtain ⟨b, hb, rfl, hm, s1, s2⟩ := split2 ed
    have e3 := (e.trans e1).trans (w.1.trans s)
    obtain ⟨σ2, k1, k2, k3⟩ := hg b hm true _ x _ H'' ((S.sm e3).wipe vs) r
    refine k1 _ ⟨(k3 vs hj).trans wipe_twice, ?_⟩
    show wi1 σ2 H'' _
    refine turn b hm σ2 H'' k2 H'' (Same.refl _) _ fun J1 H4 Kp1 e4 yd1 hK1 => ?_
    have w4 : Wv ((xs.take i).flatMap fun x => (ys x).map (f x)) H4 := by
      obtain ⟨w1, zs, w2, w3⟩ := w
      exact ⟨w1.trans (s.trans e4), zs, e4 _ _ (s _ _ w2), w3.sm (s.trans e4)⟩
    have hlen : (xs.take i).flatMap ys ++ ys b ++ (xs.drop (i + 1)).flatMap ys = xs.flatMap ys := by
      conv => rhs; rw [s2]
      simp
    have hlen2 := congrArg List.length hlen
    simp only [List.length_append] at hlen2
    have hl0 : ((xs.take i).flatMap fun x => (ys x).map (f x)).length = ((xs.take i).flatMap ys).length := by
      simp [List.length_flatMap]
    refine loopH (BODY := fun x H' Nx1 => g1 x (wipe σ2 vs1) H' fun σ3 H5 => wipe σ3 vs1 = wipe σ2 vs1 ∧ tYes σ3 H5 fun b H6 => if b = true then te σ3 H6 fun y H7 => ∃ acc, H7 Dl = some (.lst acc) ∧ acc.length < sizeLine ∧ Nx1 (upd H7 Dl (.lst (acc ++ [y]))) else Nx1 H6)
      yd1 (fun j H' => Tp H4 H' ∧ Wv ((xs.take i).flatMap (fun x => (ys x).map (f x)) ++ ((ys b).take j).map (f b)) H') ⟨Tp.refl _, by simpa using w4⟩ (fun j H' _ w => hK1 _ w.1) (fun j d2 x2 H5 H6 ed2 w5 s5 r5 => ?_) (fun H5 w5 => ?_)
    · obtain ⟨c, hc, rfl, hcm, c1, c2⟩ := split2 ed2
      have t6 : Tp H'' H6 := e4.tp.trans (w5.1.trans s5.tp)
      obtain ⟨σ3, m1, m2, m3⟩ := hg1 b hm c hcm true _ x2 _ H6 ((k2.up (m := true) t6).wipe vs1) r5
      refine m1 _ ⟨(m3 vs1 hj1).trans wipe_twice, ?_⟩
      refine turn1 b hm c hcm σ3 H6 m2 H6 (Same.refl _) _ fun y H7 e7 hy => ?_
      obtain ⟨w51, w52, zs, w53, w54⟩ := w5
      refine ⟨zs, e7 _ _ (s5 _ _ w53), ?_, ?_, ?_, zs ++ [y], upd_same, ?_⟩
      · refine len_lt ?_
        rw [w54.len, List.length_append, hl0, List.length_map, List.length_take]
        omega
      · exact w51.trans (s5.tp.trans (e7.tp.trans (tp_lst (e7 _ _ (s5 _ _ w53)))))
      · exact same_mut (w52.trans (s5.trans e7)) hD
      · have tp4 : Tp H7 (upd H7 Dl (.lst (zs ++ [y]))) := tp_lst (e7 _ _ (s5 _ _ w53))
        rw [c1, List.map_append, ← List.append_assoc]
        exact ((w54.sm (s5.trans e7)).up tp4).app (.one (Im.up hy tp4))
    · rw [List.length_map, List.take_length] at w5
      show Wv ((xs.take (i + 1)).flatMap fun x => (ys x).map (f x)) H5
      rw [s1, List.flatMap_append]
      simpa using w5.2
  · rw [List.length_map, List.take_length] at w
    obtain ⟨e2, zs, hy, ry⟩ := w
    exact q _ H' (e1.trans e2) ⟨Dl, zs, rfl, fr, hy, ry⟩
end

/-! ### dict comprehensions -/
theorem putK_new {κ : Type} [DecidableEq κ] {kvs : List (κ × V)} {k : κ} {v : V} (h : k ∉ kvs.map (·.1)) : putK kvs k v = kvs ++ [(k, v)] := by
  unfold putK
  rw [if_neg]
  intro z
  obtain ⟨p, hp, e⟩ := List.any_eq_true.mp z
  exact h (List.mem_map.mpr ⟨p, hp, of_decide_eq_true e⟩)
/-- a reading that makes a new object -/
def Makes (tv : TE) (o : HO) : Prop := ∀ σ H (Q : VK), (∀ p, H p = none → Q (.ref p) (upd H p o)) → tv σ H Q
theorem makes_lst : Makes (tLst tNil) (.lst []) := fun _ _ _ q => ⟨Nat.zero_le _, q⟩
theorem makes_dT : Makes tDNewT (.dT []) := fun _ _ _ q => q
/-- the new objects for the items pre, and the dict at D over them -/
structure Objs {α κ : Type} (key : α → κ) (mk : List (κ × V) → HO) (o : HO) (H0 : Hp) (D : Addr) (pre : List α) (adr : α → Addr) (H' : Hp) : Prop where
  d0 : H0 D = none
  sm : Same H0 H'
  d : H' D = some (mk (pre.map fun x => (key x, V.ref (adr x))))
  nw : ∀ x ∈ pre, H0 (adr x) = none ∧ H' (adr x) = some o ∧ adr x ≠ D
  inj : ∀ x ∈ pre, ∀ y ∈ pre, adr x = adr y → x = y
theorem Objs.step {α κ : Type} [DecidableEq α] {key : α → κ} {mk : List (κ × V) → HO} {o : HO} {H0 H' H2 : Hp} {D l : Addr} {pre : List α} {adr : α → Addr} {x : α} (w : Objs key mk o H0 D pre adr H') (e : Same H' H2) (hl : H2 l = none) (hx : x ∉ pre) :
    Objs key mk o H0 D (pre ++ [x]) (fun y => if y = x then l else adr y) (upd (upd H2 l o) D (mk ((pre ++ [x]).map fun y => (key y, V.ref (if y = x then l else adr y))))) := by
  have nDl : D ≠ l := ne_of_none (e _ _ w.d) hl
  have l0 : H0 l = none := Same.free (w.sm.trans e) hl
  have old : ∀ y ∈ pre, (if y = x then l else adr y) = adr y := fun y hy => if_neg (fun z : y = x => hx (z ▸ hy))
  have nl : ∀ y ∈ pre, adr y ≠ l := fun y hy => ne_of_none (e _ _ (w.nw y hy).2.1) hl
  refine ⟨w.d0, fun b u hb => ?_, upd_same, fun y hy => ?_, fun y hy z hz h => ?_⟩
  · rw [upd_ne (ne_of_none hb w.d0), upd_ne (ne_of_none hb l0)]
    exact e _ _ (w.sm _ _ hb)
  · rcases List.mem_append.mp hy with hy | hy
    · rw [old y hy]
      obtain ⟨a, b, c⟩ := w.nw y hy
      exact ⟨a, by rw [upd_ne c, upd_ne (nl y hy)]; exact e _ _ b, c⟩
    · rw [List.mem_singleton.mp hy, if_pos rfl]
      exact ⟨l0, by rw [upd_ne nDl.symm, upd_same], nDl.symm⟩
  · rcases List.mem_append.mp hy with hy | hy <;> rcases List.mem_append.mp hz with hz | hz
    · rw [old y hy, old z hz] at h
      exact w.inj y hy z hz h
    · rw [old y hy, List.mem_singleton.mp hz, if_pos rfl] at h
      exact absurd h (nl y hy)
    · rw [old z hz, List.mem_singleton.mp hy, if_pos rfl] at h
      exact absurd h.symm (nl z hz)
    · rw [List.mem_singleton.mp hy, List.mem_singleton.mp hz]
theorem Objs.more {α κ : Type} {key : α → κ} {mk : List (κ × V) → HO} {o : HO} {H0 H' H2 : Hp} {D : Addr} {pre : List α} {adr : α → Addr} (w : Objs key mk o H0 D pre adr H') (e : Same H' H2) : Objs key mk o H0 D pre adr H2 :=
  ⟨w.d0, w.sm.trans e, e _ _ w.d, fun x hx => ⟨(w.nw x hx).1, e _ _ (w.nw x hx).2.1, (w.nw x hx).2.2⟩, w.inj⟩
section
variable {K : PySem.W.Frag} {α : Type} [DecidableEq α] {enc : α → PyData} {xs : List α} {σ : St} {H : Hp} {wi : TI} {te tk tv : TE} {tt : TT} {g : TG} {vs : List Nat} {m : Bool} {Γ : Gam} {F : α → Gam → Gam} {js : List Nat}
theorem not_mem_take {xs : List α} {i : Nat} {x : α} (h : xs[i]? = some x) (nd : xs.Nodup) : x ∉ xs.take i := fun hm => by
  obtain ⟨j, hj, e⟩ := List.getElem_of_mem hm
  rw [List.length_take] at hj
  rw [List.getElem_take] at e
  obtain ⟨hi, e2⟩ := List.getElem?_eq_some_iff.mp h
  have := (List.getElem_inj nd).mp (e.trans e2.symm)
  omega
/-- {k: new object for t in ..}, the keys ints or texts -/
theorem e_dcKo {o : HO} (key : α → Key) (S : Sat true Γ σ H) (h : IterD false wi σ H (xs.map enc)) (hz : xs.length ≤ 80000) (hg : ∀ x ∈ xs, Tg g (rI (enc x)) (F x) js) (hj : ∀ j ∈ js, j ∈ vs) (hnd : xs.Nodup) (hkey : ∀ x y, key x = key y → x = y) (mv : Makes tv o) (ho : ∀ ys, o ≠ .tup ys)
    (turn : ∀ x ∈ xs, ∀ σ2 H2, Sat true (F x (wipeG Γ vs)) σ2 H2 → EvR tk σ2 H2 (rX (kV (key x)))) :
    EvR (tDc wi g tYes tk tv vs) σ H (fun H' v => ∃ d adr, v = .ref d ∧ Objs key .dK o H d xs adr H') := fun H0 e Q q => h H0 e _ fun J H1 Kp e1 y hK => by
  intro Dl hD
  have fr : H Dl = none := Same.free (e.trans e1) hD
  refine loopH (BODY := fun x H' Nx => g x (wipe σ vs) H' fun σ2 H2 => wipe σ2 vs = wipe σ vs ∧ tYes σ2 H2 fun b H3 => if b = true then tk σ2 H3 fun y H4 => tv σ2 H4 fun z H5 => ∃ kvs k, y = kV k ∧ H5 Dl = some (.dK kvs) ∧ kvs.length < sizeLine ∧ Nx (upd H5 Dl (.dK (putK kvs k z))) else Nx H3)
    y (fun i H' => ∃ adr, Objs key .dK o H1 Dl (xs.take i) adr H') ⟨fun _ => 0, hD, same_new hD, upd_same, fun x hx => (by cases hx), fun x hx => (by cases hx)⟩ (fun i H' _ ⟨_, w⟩ => hK _ w.sm) (fun i d x H' H'' ed w s r => ?_) (fun H' w => ?_)
  · obtain ⟨b, hb, rfl, hm, s1, _⟩ := split2 ed
    obtain ⟨adr, w⟩ := w
    obtain ⟨σ2, k1, k2, k3⟩ := hg b hm true _ x _ H'' ((S.sm ((e.trans e1).trans (w.sm.trans s))).wipe vs) r
    refine k1 _ ⟨(k3 vs hj).trans wipe_twice, ?_⟩
    refine turn b hm σ2 H'' k2 H'' (Same.refl _) _ fun kv H4 e4 hk => ?_
    refine mv σ2 H4 _ fun l hl => ?_
    have w4 := w.more (s.trans e4)
    have nDl : Dl ≠ l := ne_of_none w4.d hl
    have nx := not_mem_take hb hnd
    refine ⟨_, key b, hk, by rw [upd_ne nDl]; exact w4.d, ?_, fun y => if y = b then l else adr y, ?_⟩
    · rw [List.length_map, List.length_take]
      exact len_lt (by omega)
    · have st := w4.step (Same.refl _) hl nx
      rw [s1]
      have ek : putK ((xs.take i).map fun x => (key x, V.ref (adr x))) (key b) (V.ref l) = (xs.take i ++ [b]).map fun y => (key y, V.ref (if y = b then l else adr y)) := by
        rw [putK_new, List.map_append]
        · congr 1
          · refine List.map_congr_left fun y hy => ?_
            rw [if_neg (fun z : y = b => nx (z ▸ hy))]
          · show [(key b, V.ref l)] = [(key b, V.ref (if b = b then l else adr b))]
            rw [if_pos rfl]
        · rw [List.map_map]
          intro z
          obtain ⟨y, hy, e⟩ := List.mem_map.mp z
          exact nx (hkey y b e ▸ hy)
      rw [ek]
      exact st
  · rw [List.length_map, List.take_length] at w
    obtain ⟨adr, w⟩ := w
    refine q _ H' (e1.trans w.sm) ⟨Dl, adr, rfl, fr, (e.trans e1).trans w.sm, w.d, fun x hx => ⟨Same.free (e.trans e1) (w.nw x hx).1, (w.nw x hx).2⟩, w.inj⟩
/-- {e: new object for e in ..}, the keys tuples of ints and texts -/
theorem e_dcTo {o : HO} (key : α → List Key) (S : Sat true Γ σ H) (h : IterD false wi σ H (xs.map enc)) (hz : xs.length ≤ 80000) (hg : ∀ x ∈ xs, Tg g (rI (enc x)) (F x) js) (hj : ∀ j ∈ js, j ∈ vs) (hnd : xs.Nodup) (hkey : ∀ x y, key x = key y → x = y) (mv : Makes tv o) (ho : ∀ ys, o ≠ .tup ys)
    (turn : ∀ x ∈ xs, ∀ σ2 H2, Sat true (F x (wipeG Γ vs)) σ2 H2 → EvR tk σ2 H2 (fun H' v => ∃ b, v = .ref b ∧ H' b = some (.tup ((key x).map kV)))) :
    EvR (tDcG wi g tYes (tPut tk tv) vs) σ H (fun H' v => ∃ d adr, v = .ref d ∧ Objs key .dT o H d xs adr H') := fun H0 e Q q => h H0 e _ fun J H1 Kp e1 y hK => by
  intro Dl hD
  have fr : H Dl = none := Same.free (e.trans e1) hD
  refine loopH (BODY := fun x H' Nx => g x (wipe σ vs) H' fun σ2 H2 => wipe σ2 vs = wipe σ vs ∧ tYes σ2 H2 fun b H3 => if b = true then tPut tk tv Dl σ2 H3 Nx else Nx H3)
    y (fun i H' => ∃ adr, Objs key .dT o H1 Dl (xs.take i) adr H') ⟨fun _ => 0, hD, same_new hD, upd_same, fun x hx => (by cases hx), fun x hx => (by cases hx)⟩ (fun i H' _ ⟨_, w⟩ => hK _ w.sm) (fun i d x H' H'' ed w s r => ?_) (fun H' w => ?_)
  · obtain ⟨b, hb, rfl, hm, s1, _⟩ := split2 ed
    obtain ⟨adr, w⟩ := w
    obtain ⟨σ2, k1, k2, k3⟩ := hg b hm true _ x _ H'' ((S.sm ((e.trans e1).trans (w.sm.trans s))).wipe vs) r
    refine k1 _ ⟨(k3 vs hj).trans wipe_twice, ?_⟩
    refine turn b hm σ2 H'' k2 H'' (Same.refl _) _ fun kv H4 e4 hk => ?_
    refine mv σ2 H4 _ fun l hl => ?_
    obtain ⟨a, rfl, ha⟩ := hk
    have w4 := w.more (s.trans e4)
    have nDl : Dl ≠ l := ne_of_none w4.d hl
    have nx := not_mem_take hb hnd
    refine ⟨_, .inr ⟨_, key b, a, by rw [upd_ne nDl]; exact w4.d, rfl, by rw [upd_ne (ne_of_none ha hl)]; exact ha, ?_, rfl⟩, fun y => if y = b then l else adr y, ?_⟩
    · rw [List.length_map, List.length_take]
      exact len_lt (by omega)
    · have st := w4.step (Same.refl _) hl nx
      rw [s1]
      have ek : putK ((xs.take i).map fun x => (key x, V.ref (adr x))) (key b) (V.ref l) = (xs.take i ++ [b]).map fun y => (key y, V.ref (if y = b then l else adr y)) := by
        rw [putK_new, List.map_append]
        · congr 1
          · refine List.map_congr_left fun y hy => ?_
            rw [if_neg (fun z : y = b => nx (z ▸ hy))]
          · show [(key b, V.ref l)] = [(key b, V.ref (if b = b then l else adr b))]
            rw [if_pos rfl]
        · rw [List.map_map]
          intro z
          obtain ⟨y, hy, e⟩ := List.mem_map.mp z
          exact nx (hkey y b e ▸ hy)
      rw [ek]
      exact st
  · rw [List.length_map, List.take_length] at w
    obtain ⟨adr, w⟩ := w
    refine q _ H' (e1.trans w.sm) ⟨Dl, adr, rfl, fr, (e.trans e1).trans w.sm, w.d, fun x hx => ⟨Same.free (e.trans e1) (w.nw x hx).1, (w.nw x hx).2⟩, w.inj⟩
end
/-! ### dicts of data -/
/-- the dict at d: the keys xs in their order, the values f -/
def DV {α κ : Type} [DecidableEq κ] (key : α → κ) (mk : List (κ × V) → HO) (H : Hp) (d : Addr) (xs : List α) (f : α → PyData) : Prop := ∃ kvs, H d = some (mk kvs) ∧ kvs.map (·.1) = xs.map key ∧ ∀ x ∈ xs, ∃ v, valV kvs (key x) = some v ∧ Im H (f x) v
section
variable {α κ : Type} [DecidableEq κ] {key : α → κ} {mk : List (κ × V) → HO} {H H' : Hp} {d : Addr} {xs : List α} {f : α → PyData}
theorem valV_none {kvs : List (κ × V)} {k : κ} (h : k ∉ kvs.map (·.1)) : valV kvs k = none := by
  cases e : valV kvs k with
  | none => rfl
  | some v => exact absurd (valV_in e) h
theorem DV.up (D : DV key mk H d xs f) (e : ∀ o, H d = some o → H' d = some o) (t : Tp H H') : DV key mk H' d xs f := by
  obtain ⟨kvs, h1, h2, h3⟩ := D
  exact ⟨kvs, e _ h1, h2, fun x hx => by
    obtain ⟨v, a, b⟩ := h3 x hx
    exact ⟨v, a, b.up t⟩⟩
theorem DV.sm (D : DV key mk H d xs f) (e : Same H H') : DV key mk H' d xs f := D.up (fun o h => e _ _ h) e.tp
theorem DV.len {kvs : List (κ × V)} (h2 : kvs.map (·.1) = xs.map key) : kvs.length = xs.length := by
  have e := congrArg List.length h2
  simpa using e
/-- behind d[x] = v -/
theorem DV.put [DecidableEq α] (inj : ∀ x y, key x = key y → x = y) {kvs : List (κ × V)} {x : α} [Decidable (x ∈ xs)] {v : V} {e : PyData} (h2 : kvs.map (·.1) = xs.map key) (h3 : ∀ x ∈ xs, ∃ v, valV kvs (key x) = some v ∧ Im H (f x) v) (t : Tp H (upd H d (mk (putK kvs (key x) v)))) (r : Im H e v) :
    DV key mk (upd H d (mk (putK kvs (key x) v))) d (if x ∈ xs then xs else xs ++ [x]) (fun y => if y = x then e else f y) := by
  have any : (kvs.any fun kv => decide (kv.1 = key x)) = decide (x ∈ xs) := by
    rw [Bool.eq_iff_iff, List.any_eq_true, decide_eq_true_eq]
    constructor
    · rintro ⟨p, hp, e⟩
      have z : p.1 ∈ xs.map key := by rw [← h2]; exact List.mem_map.mpr ⟨p, hp, rfl⟩
      obtain ⟨y, hy, ey⟩ := List.mem_map.mp z
      rw [← inj y x (ey.trans (of_decide_eq_true e))]
      exact hy
    · intro hx
      have z : key x ∈ kvs.map (·.1) := by rw [h2]; exact List.mem_map.mpr ⟨x, hx, rfl⟩
      obtain ⟨p, hp, e⟩ := List.mem_map.mp z
      exact ⟨p, hp, decide_eq_true e⟩
  refine ⟨_, upd_same, ?_, fun y hy => ?_⟩
  · unfold putK
    rw [any]
    by_cases hx : x ∈ xs
    · rw [if_pos (decide_eq_true hx), if_pos hx, ← h2, List.map_map]
      refine List.map_congr_left fun p _ => ?_
      show (if p.1 = key x then (p.1, v) else p).1 = p.1
      split <;> rfl
    · rw [if_neg (by rw [decide_eq_true_eq]; exact hx), if_neg hx, List.map_append, List.map_append, h2]
      rfl
  · rw [valV_put]
    by_cases e1 : y = x
    · subst e1
      rw [if_pos rfl]
      refine ⟨v, rfl, ?_⟩
      show Im _ (if y = y then e else f y) v
      rw [if_pos rfl]
      exact r.up t
    · rw [if_neg fun z => e1 (inj _ _ z)]
      have hy2 : y ∈ xs := by
        by_cases hx : x ∈ xs
        · rwa [if_pos hx] at hy
        · rw [if_neg hx] at hy
          rcases List.mem_append.mp hy with hy | hy
          · exact hy
          · exact absurd (List.mem_singleton.mp hy) e1
      obtain ⟨u, a, b⟩ := h3 y hy2
      refine ⟨u, a, ?_⟩
      show Im _ (if y = x then e else f y) u
      rw [if_neg e1]
      exact b.up t
end
/-- the key of an event -/
def kE (e : Ev) : List Key := [.inr e.1.1, .inl e.2]
theorem kE_inj (a b : Ev) (h : kE a = kE b) : a = b := by
  unfold kE at h
  injection h with h1 h2
  injection h2 with h2
  injection h1 with h1
  injection h2 with h2
  exact Prod.ext (Subtype.ext h1) h2
def kI (i : Int) : Key := .inl i
def kS (x : Str) : Key := .inr x
theorem kI_inj (a b : Int) (h : kI a = kI b) : a = b := by injection h
theorem kS_inj (a b : Str) (h : kS a = kS b) : a = b := by injection h
/-- an event's tuple is its key -/
theorem ev_at {H : Hp} {e : Ev} {v : V} (h : Im H (evD e) v) : ∃ b, v = .ref b ∧ H b = some (.tup ((kE e).map kV)) := by
  obtain ⟨a, xs, rfl, ha, x, rr, rfl, hx, y, r2, rfl, hy, e3⟩ := h
  have hx : x = .str e.1.1 := hx
  have hy : y = .int e.2 := hy
  have e3 : r2 = [] := e3
  subst hx hy e3
  exact ⟨a, rfl, ha⟩
theorem ev_of {H : Hp} {e : Ev} {b : Addr} (h : H b = some (.tup ((kE e).map kV))) : Im H (evD e) (.ref b) := Im.tup h ⟨_, _, rfl, rfl, _, _, rfl, rfl, rfl⟩
section
variable {H : Hp} {d : Addr} {f : Ev → PyData} {xs : List Ev} {e : Ev} {y : V}
theorem DV.getE (D : DV kE .dT H d xs f) (h : Im H (evD e) y) (hx : e ∈ xs) : ∃ v, DGet H d y (some v) ∧ Im H (f e) v := by
  obtain ⟨kvs, h1, h2, h3⟩ := D
  obtain ⟨b, rfl, hb⟩ := ev_at h
  obtain ⟨v, a, r⟩ := h3 e hx
  exact ⟨v, a ▸ DGet.t h1 hb, r⟩
theorem DV.inE (D : DV kE .dT H d xs f) (h : Im H (evD e) y) : ∃ o, DGet H d y o ∧ o.isSome = decide (e ∈ xs) := by
  obtain ⟨kvs, h1, h2, h3⟩ := D
  obtain ⟨b, rfl, hb⟩ := ev_at h
  refine ⟨_, DGet.t h1 hb, ?_⟩
  by_cases hx : e ∈ xs
  · obtain ⟨v, a, r⟩ := h3 e hx
    rw [a]
    simp [hx]
  · rw [valV_none]
    · simp [hx]
    · rw [h2]
      intro z
      obtain ⟨q, hq, eq⟩ := List.mem_map.mp z
      exact hx (kE_inj _ _ eq ▸ hq)
theorem DV.putE (D : DV kE .dT H d xs f) (h : Im H (evD e) y) {v : V} {g : PyData} (r : Im H g v) (hz : xs.length < 100000) : ∃ H', DPut H d y v H' ∧ (∃ o, H' = upd H d (.dT o)) ∧ DV kE .dT H' d (if e ∈ xs then xs else xs ++ [e]) (fun z => if z = e then g else f z) := by
  obtain ⟨kvs, h1, h2, h3⟩ := D
  obtain ⟨b, rfl, hb⟩ := ev_at h
  refine ⟨_, .inr ⟨kvs, kE e, b, h1, rfl, hb, len_lt (by rw [DV.len h2]; exact hz), rfl⟩, ⟨_, rfl⟩, ?_⟩
  exact DV.put kE_inj h2 h3 (tp_dT h1) r
end
section
variable {α : Type} [DecidableEq α] {key : α → Key} {H : Hp} {d : Addr} {f : α → PyData} {xs : List α} {e : α}
theorem DV.getK (D : DV key .dK H d xs f) (hx : e ∈ xs) : ∃ v, DGet H d (kV (key e)) (some v) ∧ Im H (f e) v := by
  obtain ⟨kvs, h1, h2, h3⟩ := D
  obtain ⟨v, a, r⟩ := h3 e hx
  exact ⟨v, a ▸ DGet.k h1, r⟩
theorem DV.inK (inj : ∀ x y, key x = key y → x = y) (D : DV key .dK H d xs f) : ∃ o, DGet H d (kV (key e)) o ∧ (e ∈ xs → ∃ v, o = some v ∧ Im H (f e) v) ∧ (e ∉ xs → o = none) := by
  obtain ⟨kvs, h1, h2, h3⟩ := D
  refine ⟨_, DGet.k h1, fun hx => ?_, fun hx => ?_⟩
  · exact h3 e hx
  · rw [valV_none]
    rw [h2]
    intro z
    obtain ⟨q, hq, eq⟩ := List.mem_map.mp z
    exact hx (inj _ _ eq ▸ hq)
theorem DV.putKk (inj : ∀ x y, key x = key y → x = y) (D : DV key .dK H d xs f) {v : V} {g : PyData} (r : Im H g v) (hz : xs.length < 100000) : ∃ H', DPut H d (kV (key e)) v H' ∧ (∃ o, H' = upd H d (.dK o)) ∧ DV key .dK H' d (if e ∈ xs then xs else xs ++ [e]) (fun z => if z = e then g else f z) := by
  obtain ⟨kvs, h1, h2, h3⟩ := D
  refine ⟨_, .inl ⟨kvs, key e, h1, rfl, len_lt (by rw [DV.len h2]; exact hz), rfl⟩, ⟨_, rfl⟩, ?_⟩
  exact DV.put inj h2 h3 (tp_dK h1) r
end

/-! ### comprehensions that make dicts of data -/
section
variable {K : PySem.W.Frag} {α β : Type} {enc : α → PyData} {xs : List α} {σ : St} {H : Hp} {wi wi1 : TI} {te tk tv : TE} {tt : TT} {g g1 : TG} {vs vs1 : List Nat} {m : Bool} {Γ : Gam} {F : α → Gam → Gam} {js js1 : List Nat}
/-- {k: v for t in ..}: the keys key (k x) are ints or texts -/
theorem e_dcKv {γ : Type} [DecidableEq γ] {key : γ → Key} (inj : ∀ x y, key x = key y → x = y) (k : α → γ) (val : γ → PyData) (S : Sat true Γ σ H) (h : IterD false wi σ H (xs.map enc)) (hz : xs.length ≤ 80000) (hg : ∀ x ∈ xs, Tg g (rI (enc x)) (F x) js) (hj : ∀ j ∈ js, j ∈ vs) (hnd : (xs.map k).Nodup)
    (turn : ∀ x ∈ xs, ∀ σ2 H2, Sat true (F x (wipeG Γ vs)) σ2 H2 → EvR tk σ2 H2 (rX (kV (key (k x)))) ∧ EvR tv σ2 H2 (rI (val (k x)))) :
    EvR (tDc wi g tYes tk tv vs) σ H (fun H' v => ∃ d, v = .ref d ∧ H d = none ∧ DV key .dK H' d (xs.map k) val) := fun H0 e Q q => h H0 e _ fun J H1 Kp e1 y hK => by
  intro Dl hD
  have fr : H Dl = none := Same.free (e.trans e1) hD
  refine loopH (BODY := fun x H' Nx => g x (wipe σ vs) H' fun σ2 H2 => wipe σ2 vs = wipe σ vs ∧ tYes σ2 H2 fun b H3 => if b = true then tk σ2 H3 fun y H4 => tv σ2 H4 fun z H5 => ∃ kvs k, y = kV k ∧ H5 Dl = some (.dK kvs) ∧ kvs.length < sizeLine ∧ Nx (upd H5 Dl (.dK (putK kvs k z))) else Nx H3)
    y (fun i H' => Same H1 H' ∧ DV key .dK H' Dl ((xs.take i).map k) val) ⟨same_new hD, [], upd_same, rfl, fun x hx => (by cases hx)⟩ (fun i H' _ w => hK _ w.1) (fun i d x H' H'' ed w s r => ?_) (fun H' w => ?_)
  · obtain ⟨b, hb, rfl, hm, s1, _⟩ := split2 ed
    obtain ⟨σ2, k1, k2, k3⟩ := hg b hm true _ x _ H'' ((S.sm ((e.trans e1).trans (w.1.trans s))).wipe vs) r
    refine k1 _ ⟨(k3 vs hj).trans wipe_twice, ?_⟩
    obtain ⟨t1, t2⟩ := turn b hm σ2 H'' k2
    refine t1 H'' (Same.refl _) _ fun kv H4 e4 hk => ?_
    refine t2 H4 e4 _ fun v H5 e5 hv => ?_
    obtain ⟨kvs, q1, q2, q3⟩ := w.2.sm (s.trans (e4.trans e5))
    have hlen := DV.len q2
    rw [List.length_map, List.length_take] at hlen
    refine ⟨kvs, key (k b), hk, q1, len_lt (by omega), same_mut (w.1.trans (s.trans (e4.trans e5))) hD, ?_⟩
    have st := DV.put inj q2 q3 (mk := .dK) (d := Dl) (x := k b) (v := v) (e := val (k b)) (tp_dK q1) hv
    have nx : k b ∉ (xs.take i).map k := by
      have hb2 : (xs.map k)[i]? = some (k b) := by rw [List.getElem?_map, hb]; rfl
      have := not_mem_take hb2 hnd
      rwa [← List.map_take] at this
    rw [if_neg nx] at st
    rw [s1, List.map_append]
    have ef : (fun y => if y = k b then val (k b) else val y) = val := by
      funext y
      split
      · rename_i h
        rw [h]
      · rfl
    rw [ef] at st
    exact st
  · rw [List.length_map, List.take_length] at w
    exact q _ H' (e1.trans w.1) ⟨Dl, rfl, fr, w.2⟩
/-- {e: True for row in .. for e in row} -/
theorem e_dcT2v {ys : α → List Ev} {F1 : α → Ev → Gam → Gam} (S : Sat true Γ σ H) (h : IterD false wi σ H (xs.map enc)) (hz : (xs.flatMap ys).length ≤ 80000) (hnd : (xs.flatMap ys).Nodup)
    (hg : ∀ x ∈ xs, Tg g (rI (enc x)) (F x) js) (hj : ∀ j ∈ js, j ∈ vs)
    (turn : ∀ x ∈ xs, ∀ σ2 H2, Sat true (F x (wipeG Γ vs)) σ2 H2 → IterD true wi1 σ2 H2 ((ys x).map evD)) (hg1 : ∀ x ∈ xs, ∀ y ∈ ys x, Tg g1 (rI (evD y)) (F1 x y) js1) (hj1 : ∀ j ∈ js1, j ∈ vs1)
    (turn1 : ∀ x ∈ xs, ∀ y ∈ ys x, ∀ σ2 H2, Sat true (F1 x y (wipeG (F x (wipeG Γ vs)) vs1)) σ2 H2 → EvR tk σ2 H2 (rI (evD y)) ∧ EvR tv σ2 H2 (rI (.bool true))) :
    EvR (tDcG wi g tYes (tIn wi1 g1 tYes (tPut tk tv) vs1) vs) σ H (fun H' v => ∃ d, v = .ref d ∧ H d = none ∧ DV kE .dT H' d (xs.flatMap ys) (fun _ => .bool true)) := fun H0 e Q q => h H0 e _ fun J H1 Kp e1 yd hK => by
  intro Dl hD
  have fr : H Dl = none := Same.free (e.trans e1) hD
  refine loopH (BODY := fun x H' Nx => g x (wipe σ vs) H' fun σ2 H2 => wipe σ2 vs = wipe σ vs ∧ tYes σ2 H2 fun b H3 => if b = true then tIn wi1 g1 tYes (tPut tk tv) vs1 Dl σ2 H3 Nx else Nx H3)
    yd (fun i H' => Same H1 H' ∧ DV kE .dT H' Dl ((xs.take i).flatMap ys) (fun _ => .bool true)) ⟨same_new hD, [], upd_same, rfl, fun x hx => (by cases hx)⟩ (fun i H' _ w => hK _ w.1) (fun i d x H' H'' ed w s r => ?_) (fun H' w => ?_)
  · obtain ⟨b, hb, rfl, hm, s1, s2⟩ := split2 ed
    have e3 := (e.trans e1).trans (w.1.trans s)
    obtain ⟨σ2, k1, k2, k3⟩ := hg b hm true _ x _ H'' ((S.sm e3).wipe vs) r
    refine k1 _ ⟨(k3 vs hj).trans wipe_twice, ?_⟩
    show wi1 σ2 H'' _
    refine turn b hm σ2 H'' k2 H'' (Same.refl _) _ fun J1 H4 Kp1 e4 yd1 hK1 => ?_
    have hsplit : xs.flatMap ys = (xs.take i).flatMap ys ++ (ys b ++ (xs.drop (i + 1)).flatMap ys) := by
      conv => lhs; rw [s2]
      simp
    have hlen2 := congrArg List.length hsplit
    simp only [List.length_append] at hlen2
    refine loopH (BODY := fun x H' Nx1 => g1 x (wipe σ2 vs1) H' fun σ3 H5 => wipe σ3 vs1 = wipe σ2 vs1 ∧ tYes σ3 H5 fun b H6 => if b = true then tPut tk tv Dl σ3 H6 Nx1 else Nx1 H6)
      yd1 (fun j H' => Tp H4 H' ∧ Same H1 H' ∧ DV kE .dT H' Dl ((xs.take i).flatMap ys ++ (ys b).take j) (fun _ => .bool true)) ⟨Tp.refl _, w.1.trans (s.trans e4), by simpa using w.2.sm (s.trans e4)⟩ (fun j H' _ w => hK1 _ w.1) (fun j d2 x2 H5 H6 ed2 w5 s5 r5 => ?_) (fun H5 w5 => ?_)
    · obtain ⟨c, hc, rfl, hcm, c1, c2⟩ := split2 ed2
      have t6 : Tp H'' H6 := e4.tp.trans (w5.1.trans s5.tp)
      obtain ⟨σ3, m1, m2, m3⟩ := hg1 b hm c hcm true _ x2 _ H6 ((k2.up (m := true) t6).wipe vs1) r5
      refine m1 _ ⟨(m3 vs1 hj1).trans wipe_twice, ?_⟩
      obtain ⟨t1, t2⟩ := turn1 b hm c hcm σ3 H6 m2
      refine t1 H6 (Same.refl _) _ fun y H7 e7 hy => ?_
      refine t2 H7 e7 _ fun v H8 e8 hv => ?_
      have D8 := w5.2.2.sm (s5.trans (e7.trans e8))
      have nx : c ∉ (xs.take i).flatMap ys ++ (ys b).take j := by
        intro z
        rw [hsplit, c2, ← List.append_assoc, ← List.append_assoc] at hnd
        have h0 := (List.nodup_append.mp (List.nodup_append.mp hnd).1).2.2 c z c (by simp)
        exact h0 rfl
      obtain ⟨H9, p1, ⟨o, p2⟩, p3⟩ := D8.putE (hy.sm e8) hv (by rw [List.length_append, List.length_take]; omega)
      refine ⟨H9, p1, ?_, ?_, ?_⟩
      · obtain ⟨kvs, z1, _⟩ := D8
        rw [p2]
        exact w5.1.trans (s5.tp.trans (e7.tp.trans (e8.tp.trans (tp_dT z1))))
      · rw [p2]
        exact same_mut (w5.2.1.trans (s5.trans (e7.trans e8))) hD
      · rw [if_neg nx] at p3
        rw [c1, ← List.append_assoc]
        have ef : (fun y : Ev => if y = c then PyData.bool true else PyData.bool true) = fun _ => PyData.bool true := by
          funext y
          split <;> rfl
        rw [ef] at p3
        exact p3
    · rw [List.length_map, List.take_length] at w5
      refine ⟨w5.2.1, ?_⟩
      rw [s1, List.flatMap_append]
      simpa using w5.2.2
  · rw [List.length_map, List.take_length] at w
    exact q _ H' (e1.trans w.1) ⟨Dl, rfl, fr, w.2⟩
end
/-! ### for -/
section
variable {K : PySem.W.Frag} {α : Type} {enc : α → PyData} {xs : List α} {σ : St} {H : Hp} {wi : TI} {g : TG} {tb tz : TS} {m : Bool} {D : Ends}
/-- for t in ..: Pv speaks of the items met -/
theorem s_for (h : IterD m wi σ H (xs.map enc)) (k : ∀ H1, Same H H1 → ∃ Pv : List α → St → Hp → Prop, Pv [] σ H1 ∧ (∀ pre σ' H', Pv pre σ' H' → Md m H1 H') ∧
      (∀ pre x post σ' H' H'' v, xs = pre ++ x :: post → Pv pre σ' H' → Same H' H'' → Im H'' (enc x) v → g v σ' H'' fun σ2 H2 => tb { D with nx := Pv (pre ++ [x]), ct := Pv (pre ++ [x]), bk := D.nx } σ2 H2) ∧ (∀ σ' H', Pv xs σ' H' → D.nx σ' H')) :
    tFor wi g tb D σ H := h H (Same.refl H) _ fun J H1 Kp e y hK => by
  obtain ⟨Pv, h0, hk, hs, hd⟩ := k H1 e
  refine loopS (BODY := fun x σ H' N => g x σ H' fun σ2 H2 => tb { D with nx := N, ct := N, bk := D.nx } σ2 H2) y (fun i σ' H' => Pv (xs.take i) σ' H') h0 (fun i σ' H' _ p => hK _ (hk _ _ _ p)) (fun i d x σ' H' H'' ed p s r => ?_) (fun σ' H' p => ?_)
  · obtain ⟨b, hb, rfl, hm, s1, s2⟩ := split2 ed
    show g x σ' H'' fun σ2 H2 => tb { D with nx := Pv (xs.take (i + 1)), ct := Pv (xs.take (i + 1)), bk := D.nx } σ2 H2
    rw [s1]
    exact hs _ b _ σ' H' H'' x s2 p s r
  · refine hd σ' H' ?_
    rw [List.length_map, List.take_length] at p
    exact p
theorem q_for (h : IterD m wi σ H (xs.map enc)) (k : ∀ H1, Same H H1 → ∃ Pv : List α → St → Hp → Prop, Pv [] σ H1 ∧ (∀ pre σ' H', Pv pre σ' H' → Md m H1 H') ∧
      (∀ pre x post σ' H' H'' v, xs = pre ++ x :: post → Pv pre σ' H' → Same H' H'' → Im H'' (enc x) v → g v σ' H'' fun σ2 H2 => tb { D with nx := Pv (pre ++ [x]), ct := Pv (pre ++ [x]), bk := tz D } σ2 H2) ∧ (∀ σ' H', Pv xs σ' H' → tz D σ' H')) :
    tSeq (tFor wi g tb) tz D σ H := s_for (D := { D with nx := tz D }) h k
end
/-! ### statements with an environment -/
section
variable {K : PySem.W.Frag} {σ : St} {H H' : Hp} {ta tb tc te tx : TE} {t u : TT} {x y z v : V} {R S T U : Rs} {d e : PyData} {ds es : List PyData} {m : Bool} {Γ : Gam} {D : Ends} {tu tw tz : TS} {g : TG}
theorem g_set {i : Nat} (S : Sat m Γ σ H) (h : EvR te σ H R) (hm : Mn m R) (k : ∀ σ' H', Same H H' → Sat m (Γ.set i (some R)) σ' H' → tz D σ' H') : tSeq (tAsg te (gName i)) tz D σ H := q_set h fun v H1 e r => k _ _ e ((S.sm e).set i hm r)
theorem g_setI {i : Nat} (S : Sat m Γ σ H) (h : EvR te σ H (rI d)) (k : ∀ σ' H', Same H H' → Sat m (Γ.set i (some (rI d))) σ' H' → tz D σ' H') : tSeq (tAsg te (gName i)) tz D σ H := g_set S h mnI k
theorem l_set {i : Nat} (S : Sat m Γ σ H) (h : EvR te σ H R) (hm : Mn m R) (k : ∀ σ' H', Same H H' → Sat m (Γ.set i (some R)) σ' H' → D.nx σ' H') : tAsg te (gName i) D σ H := s_set h fun v H1 e r => k _ _ e ((S.sm e).set i hm r)
/-- a, b = e: a target of several names -/
theorem g_asg {f : Gam → Gam} {js : List Nat} (S : Sat m Γ σ H) (h : EvR te σ H (rI d)) (hg : Tg g (rI d) f js) (k : ∀ σ' H', Same H H' → Sat m (f Γ) σ' H' → tz D σ' H') : tSeq (tAsg te g) tz D σ H := h.go fun v H1 e r => by
  obtain ⟨σ2, a, S2, _⟩ := hg m Γ v σ H1 (S.sm e) r
  exact a _ (k σ2 H1 e S2)
/-- comparisons -/
theorem e_eqI {i j : Int} (ha : EvR ta σ H (rI (.int i))) (hb : EvR tb σ H (rI (.int j))) : EvR (tOp rEq ta tb) σ H (rI (.bool (decide (i = j)))) := (e_eq ha.xi hb.xi rfl).isI (by rw [dec_int]; by_cases h : i = j <;> simp [h])
theorem e_neI {i j : Int} (ha : EvR ta σ H (rI (.int i))) (hb : EvR tb σ H (rI (.int j))) : EvR (tOp rNe ta tb) σ H (rI (.bool (!decide (i = j)))) := (e_ne ha.xi hb.xi rfl).isI (by rw [dec_int]; by_cases h : i = j <;> simp [h])
theorem e_eqS {i j : Str} (ha : EvR ta σ H (rI (.str i))) (hb : EvR tb σ H (rI (.str j))) : EvR (tOp rEq ta tb) σ H (rI (.bool (decide (i = j)))) := (e_eq ha.xs hb.xs rfl).isI (by rw [dec_str]; by_cases h : i = j <;> simp [h])
theorem e_neS {i j : Str} (ha : EvR ta σ H (rI (.str i))) (hb : EvR tb σ H (rI (.str j))) : EvR (tOp rNe ta tb) σ H (rI (.bool (!decide (i = j)))) := (e_ne ha.xs hb.xs rfl).isI (by rw [dec_str]; by_cases h : i = j <;> simp [h])
theorem e_ltI {i j : Int} (ha : EvR ta σ H (rI (.int i))) (hb : EvR tb σ H (rI (.int j))) : EvR (tOp (rI0 fun i j => .bl (decide (i < j))) ta tb) σ H (rI (.bool (decide (i < j)))) := e_i0 ha hb fun _ => rfl
theorem e_leI {i j : Int} (ha : EvR ta σ H (rI (.int i))) (hb : EvR tb σ H (rI (.int j))) : EvR (tOp (rI0 fun i j => .bl (decide (i ≤ j))) ta tb) σ H (rI (.bool (decide (i ≤ j)))) := e_i0 ha hb fun _ => rfl
theorem e_gtI {i j : Int} (ha : EvR ta σ H (rI (.int i))) (hb : EvR tb σ H (rI (.int j))) : EvR (tOp (rI0 fun i j => .bl (decide (j < i))) ta tb) σ H (rI (.bool (decide (j < i)))) := e_i0 ha hb fun _ => rfl
theorem e_geI {i j : Int} (ha : EvR ta σ H (rI (.int i))) (hb : EvR tb σ H (rI (.int j))) : EvR (tOp (rI0 fun i j => .bl (decide (j ≤ i))) ta tb) σ H (rI (.bool (decide (j ≤ i)))) := e_i0 ha hb fun _ => rfl
/-- events -/
theorem eqv_ev (a b : Ev) : PyData.eqv (evD a) (evD b) = decide (a = b) := by
  show (PyData.eqv (.str a.1.1) (.str b.1.1) && (PyData.eqv (.int a.2) (.int b.2) && true)) = _
  have h1 : PyData.eqv (.str a.1.1) (.str b.1.1) = decide (a.1 = b.1) := by
    show (a.1.1 == b.1.1) = _
    rw [Bool.eq_iff_iff, beq_iff_eq, decide_eq_true_eq]
    exact ⟨Subtype.ext, fun h => congrArg Subtype.val h⟩
  have h2 : PyData.eqv (.int a.2) (.int b.2) = decide (a.2 = b.2) := by
    show (a.2 == b.2) = _
    rw [Bool.eq_iff_iff]; simp
  rw [h1, h2, Bool.and_true, Bool.eq_iff_iff]
  simp [Prod.ext_iff]
theorem can_ev (a : Ev) : PyData.canLay0 (evD a) = true := by
  show (PyData.canLay0 (.str a.1.1) && (PyData.canLay0 (.int a.2) && true)) = true
  rw [a.1.2]
  rfl
theorem sh_ev (a : Ev) : SeqAt.shaped (evD a) = true := by
  unfold SeqAt.shaped
  rw [can_ev]
  rfl
theorem sh_list {ds : List PyData} (h : ∀ d ∈ ds, d.canLay0 = true ∧ d.depth ≤ 60) : SeqAt.shaped (.list ds) = true := by
  have h1 : PyData.canLayAll0 ds = true ∧ PyData.depthAll ds ≤ 60 := by
    induction ds with
    | nil => exact ⟨rfl, Nat.zero_le _⟩
    | cons d ds ih =>
      obtain ⟨a, b⟩ := ih fun x hx => h x (List.mem_cons_of_mem _ hx)
      obtain ⟨c, e⟩ := h d List.mem_cons_self
      refine ⟨?_, ?_⟩
      · show (PyData.canLay0 d && PyData.canLayAll0 ds) = true
        rw [a, c]
        rfl
      · show max d.depth (PyData.depthAll ds) ≤ 60
        omega
  unfold SeqAt.shaped
  rw [Bool.and_eq_true, decide_eq_true_eq]
  refine ⟨h1.1, ?_⟩
  show PyData.depthAll ds + 1 ≤ 64
  omega
theorem sh_evs (es : List Ev) : SeqAt.shaped (.list (es.map evD)) = true := sh_list fun d hd => by
  obtain ⟨e, _, rfl⟩ := List.mem_map.mp hd
  exact ⟨can_ev e, by show 1 ≤ 60; decide⟩
theorem any_ev (es : List Ev) (e : Ev) : ((es.map evD).any fun z => PyData.eqv z (evD e)) = decide (e ∈ es) := by
  rw [List.any_map, Bool.eq_iff_iff, List.any_eq_true, decide_eq_true_eq]
  constructor
  · rintro ⟨x, hx, h⟩
    have h : PyData.eqv (evD x) (evD e) = true := h
    rw [eqv_ev, decide_eq_true_eq] at h
    exact h ▸ hx
  · intro h
    refine ⟨e, h, ?_⟩
    show PyData.eqv (evD e) (evD e) = true
    rw [eqv_ev, decide_eq_true_eq]
theorem e_eqE {a b : Ev} (ha : EvR ta σ H (rI (evD a))) (hb : EvR tb σ H (rI (evD b))) : EvR (tOp (rEqD K) ta tb) σ H (rI (.bool (decide (a = b)))) := (e_eqD ha hb (sh_ev a) (sh_ev b)).isI (by rw [eqv_ev])
theorem e_neE {a b : Ev} (ha : EvR ta σ H (rI (evD a))) (hb : EvR tb σ H (rI (evD b))) : EvR (tOp (rNeD K) ta tb) σ H (rI (.bool (!decide (a = b)))) := (e_neD ha hb (sh_ev a) (sh_ev b)).isI (by rw [eqv_ev])
theorem e_inE {a : Ev} {es : List Ev} (ha : EvR ta σ H (rI (evD a))) (hb : EvR tb σ H (rL (es.map evD))) : EvR (tOp (rInD K) ta tb) σ H (rI (.bool (decide (a ∈ es)))) := (e_inD ha hb (sh_ev a) (sh_evs es)).isI (by rw [any_ev])
theorem e_ninE {a : Ev} {es : List Ev} (ha : EvR ta σ H (rI (evD a))) (hb : EvR tb σ H (rL (es.map evD))) : EvR (tOp (rNotInD K) ta tb) σ H (rI (.bool (!decide (a ∈ es)))) := (e_ninD ha hb (sh_ev a) (sh_evs es)).isI (by rw [any_ev])
/-- dicts -/
theorem e_dget {o : Addr} {f : Ev → PyData} {xs : List Ev} {e : Ev} (hd : EvR ta σ H (rX (.ref o))) (hk : EvR tb σ H (rI (evD e))) (Dd : DV kE .dT H o xs f) (hx : e ∈ xs) : EvR (tDGet ta tb) σ H (rI (f e)) := fun H1 e1 Q q =>
  hd H1 e1 _ fun x H2 e2 hx2 => hk H2 (e1.trans e2) _ fun y H3 e3 hy => by
    obtain ⟨v, g, r⟩ := (Dd.sm (e1.trans (e2.trans e3))).getE hy hx
    exact ⟨o, v, hx2, g, q _ _ (e2.trans e3) r⟩
theorem e_din {o : Addr} {f : Ev → PyData} {xs : List Ev} {e : Ev} (hk : EvR tb σ H (rI (evD e))) (hd : EvR ta σ H (rX (.ref o))) (Dd : DV kE .dT H o xs f) : EvR (tDIn tb ta) σ H (rI (.bool (decide (e ∈ xs)))) := fun H1 e1 Q q =>
  hk H1 e1 _ fun y H2 e2 hy => hd H2 (e1.trans e2) _ fun x H3 e3 hx2 => by
    obtain ⟨v, g, r⟩ := (Dd.sm (e1.trans (e2.trans e3))).inE (hy.sm e3)
    exact ⟨o, v, hx2, g, q _ _ (e2.trans e3) (by rw [r]; rfl)⟩
theorem e_dnin {o : Addr} {f : Ev → PyData} {xs : List Ev} {e : Ev} (hk : EvR tb σ H (rI (evD e))) (hd : EvR ta σ H (rX (.ref o))) (Dd : DV kE .dT H o xs f) : EvR (tDNotIn tb ta) σ H (rI (.bool (!decide (e ∈ xs)))) := fun H1 e1 Q q =>
  hk H1 e1 _ fun y H2 e2 hy => hd H2 (e1.trans e2) _ fun x H3 e3 hx2 => by
    obtain ⟨v, g, r⟩ := (Dd.sm (e1.trans (e2.trans e3))).inE (hy.sm e3)
    exact ⟨o, v, hx2, g, q _ _ (e2.trans e3) (by rw [r]; rfl)⟩
theorem e_dgetK {α : Type} [DecidableEq α] {key : α → Key} {o : Addr} {f : α → PyData} {xs : List α} {e : α} (hd : EvR ta σ H (rX (.ref o))) (hk : EvR tb σ H (rX (kV (key e)))) (Dd : DV key .dK H o xs f) (hx : e ∈ xs) : EvR (tDGet ta tb) σ H (rI (f e)) := fun H1 e1 Q q =>
  hd H1 e1 _ fun x H2 e2 hx2 => hk H2 (e1.trans e2) _ fun y H3 e3 hy => by
    cases hy
    obtain ⟨v, g, r⟩ := (Dd.sm (e1.trans (e2.trans e3))).getK hx
    exact ⟨o, v, hx2, g, q _ _ (e2.trans e3) r⟩
/-- d[k] = v, k an event -/
theorem s_dput {o : Addr} {f : Ev → PyData} {xs : List Ev} {e : Ev} {gd : PyData} (hv : EvR tc σ H (rI gd)) (hd : EvR ta σ H (rX (.ref o))) (hk : EvR tb σ H (rI (evD e))) (Dd : DV kE .dT H o xs f) (hz : xs.length < 100000)
    (k : ∀ H1 w, Same H H1 → DV kE .dT (upd H1 o (.dT w)) o (if e ∈ xs then xs else xs ++ [e]) (fun z => if z = e then gd else f z) → Tp H (upd H1 o (.dT w)) → D.nx σ (upd H1 o (.dT w))) : sDPut ta tb tc D σ H := hv.go fun v H1 e1 rv => hd H1 e1 _ fun x H2 e2 hx => hk H2 (e1.trans e2) _ fun y H3 e3 hy => by
  have e13 := e1.trans (e2.trans e3)
  obtain ⟨H', p1, ⟨w, rfl⟩, p3⟩ := (Dd.sm e13).putE hy (rv.sm (e2.trans e3)) hz
  obtain ⟨kvs, z1, _⟩ := Dd.sm e13
  exact ⟨o, _, hx, p1, k _ _ e13 p3 (e13.tp.trans (tp_dT z1))⟩
theorem q_dput {o : Addr} {f : Ev → PyData} {xs : List Ev} {e : Ev} {gd : PyData} (hv : EvR tc σ H (rI gd)) (hd : EvR ta σ H (rX (.ref o))) (hk : EvR tb σ H (rI (evD e))) (Dd : DV kE .dT H o xs f) (hz : xs.length < 100000)
    (k : ∀ H1 w, Same H H1 → DV kE .dT (upd H1 o (.dT w)) o (if e ∈ xs then xs else xs ++ [e]) (fun z => if z = e then gd else f z) → Tp H (upd H1 o (.dT w)) → tz D σ (upd H1 o (.dT w))) : tSeq (sDPut ta tb tc) tz D σ H := s_dput (D := { D with nx := tz D }) hv hd hk Dd hz k
theorem s_dputK {α : Type} [DecidableEq α] {key : α → Key} (inj : ∀ x y, key x = key y → x = y) {o : Addr} {f : α → PyData} {xs : List α} {e : α} {gd : PyData} (hv : EvR tc σ H (rI gd)) (hd : EvR ta σ H (rX (.ref o))) (hk : EvR tb σ H (rX (kV (key e)))) (Dd : DV key .dK H o xs f) (hz : xs.length < 100000)
    (k : ∀ H1 w, Same H H1 → DV key .dK (upd H1 o (.dK w)) o (if e ∈ xs then xs else xs ++ [e]) (fun z => if z = e then gd else f z) → Tp H (upd H1 o (.dK w)) → D.nx σ (upd H1 o (.dK w))) : sDPut ta tb tc D σ H := hv.go fun v H1 e1 rv => hd H1 e1 _ fun x H2 e2 hx => hk H2 (e1.trans e2) _ fun y H3 e3 hy => by
  cases hy
  have e13 := e1.trans (e2.trans e3)
  obtain ⟨H', p1, ⟨w, rfl⟩, p3⟩ := (Dd.sm e13).putKk inj (rv.sm (e2.trans e3)) hz
  obtain ⟨kvs, z1, _⟩ := Dd.sm e13
  exact ⟨o, _, hx, p1, k _ _ e13 p3 (e13.tp.trans (tp_dK z1))⟩
/-- slots -/
theorem e_sl {C a dx p : Addr} {f : Str} {vs : List (Option V)} {i : Nat} (hd : EvR ta σ H (rX (.ref a))) (hs : SlX.Slt H a C dx vs) (c : SlX.SCls K C) (t : SlX.Slot1 K C f p i) (hv : vs[i]? = some (some v)) (r : R H v) (hm : Mn false R) : EvR (SlX.tSl K ta f) σ H R := fun H1 e1 Q q =>
  hd H1 e1 _ fun x H2 e2 hx => ⟨a, C, dx, p, vs, i, v, hx, slt_same hs (e1.trans e2), c, t, hv, q _ _ e2 (hm _ _ _ (e1.trans e2) r)⟩
end
end Fs

/-! FsM: what the program computes, in plain terms (definitions). -/
namespace Fs
open PySem

/-- a machine: its name, how many events, which are marked -/
abbrev Mc := Nm × Int × List Int
/-- a log: machines, letters -/
abbrev Lg := List Mc × List Mg
def mcD (m : Mc) : PyData := .tuple [.str m.1.1, .int m.2.1, .tuple (m.2.2.map .int)]
def lgD (L : Lg) : PyData := .tuple [.tuple (L.1.map mcD), .tuple (L.2.map mgD)]
def evs (L : Lg) : List Ev := L.1.flatMap fun m => (upTo m.2.1.toNat).map fun i => (m.1, i)
def mks (L : Lg) : List Ev := L.1.flatMap fun m => m.2.2.map fun i => (m.1, i)
/-- what comes next behind an event -/
def nxt (L : Lg) (e : Ev) : List Ev := (if (e.1, e.2 + 1) ∈ evs L then [(e.1, e.2 + 1)] else []) ++ (L.2.filter fun m => decide (m.1 = e)).map (·.2)
inductive Ahead (L : Lg) : Ev → Ev → Prop
  | one {a b} : a ∈ evs L → b ∈ nxt L a → Ahead L a b
  | more {a b c} : Ahead L a b → c ∈ nxt L b → Ahead L a c
open Classical in
noncomputable def ahead (L : Lg) (a b : Ev) : Bool := decide (Ahead L a b)
open Classical in
theorem ahead_iff {L : Lg} {a b : Ev} : ahead L a b = true ↔ Ahead L a b := by
  unfold ahead
  exact decide_eq_true_iff
/-- well-formed: names apart, sizes small, letters between known events, no circle -/
structure Well (L : Lg) : Prop where
  names : (L.1.map (·.1)).Nodup
  size : ∀ m ∈ L.1, 0 ≤ m.2.1 ∧ m.2.1 ≤ 100
  many : (evs L).length ≤ 100
  marks : ∀ m ∈ L.1, m.2.2.length ≤ 100
  few : L.1.length ≤ 10 ∧ L.2.length ≤ 100
  lets : ∀ m ∈ L.2, m.1 ∈ evs L ∧ m.2 ∈ evs L
  mark : ∀ e ∈ mks L, e ∈ evs L
  mknd : (mks L).Nodup
  bare : ∀ m ∈ L.1, m.1.1 ≠ ""
  rank : ∃ r : Ev → Nat, ∀ a b, a ∈ evs L → b ∈ nxt L a → r a < r b
theorem upTo_nodup (n : Nat) : (upTo n).Nodup := by
  unfold upTo
  refine List.pairwise_map.mpr (List.Pairwise.imp (fun {a b} h e => h ?_) List.nodup_range)
  exact Int.ofNat.inj e
theorem mem_upTo {n : Nat} {i : Int} : i ∈ upTo n ↔ 0 ≤ i ∧ i < n := by
  unfold upTo
  rw [List.mem_map]
  constructor
  · rintro ⟨k, hk, rfl⟩
    have := List.mem_range.mp hk
    omega
  · rintro ⟨h1, h2⟩
    exact ⟨i.toNat, List.mem_range.mpr (by omega), by omega⟩
theorem nodup_flat {α β : Type} {f : α → List β} {key : β → α} : ∀ {xs : List α}, xs.Nodup → (∀ x ∈ xs, (f x).Nodup) → (∀ x ∈ xs, ∀ y ∈ f x, key y = x) → (xs.flatMap f).Nodup
  | [], _, _, _ => List.nodup_nil
  | x :: xs, h, h1, h2 => by
    rw [List.flatMap_cons]
    obtain ⟨a, b⟩ := List.nodup_cons.mp h
    refine List.nodup_append.mpr ⟨h1 x List.mem_cons_self, nodup_flat b (fun y hy => h1 y (List.mem_cons_of_mem _ hy)) (fun y hy => h2 y (List.mem_cons_of_mem _ hy)), fun u hu v hv e => ?_⟩
    obtain ⟨y, hy, hv⟩ := List.mem_flatMap.mp hv
    have e1 := h2 x List.mem_cons_self u hu
    have e2 := h2 y (List.mem_cons_of_mem _ hy) v hv
    rw [e] at e1
    exact a (by rw [← e1, e2]; exact hy)
theorem evs_nodup {L : Lg} (W : Well L) : (evs L).Nodup := by
  unfold evs
  have key : ∀ ms : List Mc, (ms.map (·.1)).Nodup → (ms.flatMap fun m => (upTo m.2.1.toNat).map fun i => ((m.1, i) : Ev)).Nodup := by
    intro ms
    induction ms with
    | nil => exact fun _ => List.nodup_nil
    | cons m ms ih =>
      intro h
      rw [List.map_cons] at h
      obtain ⟨a, b⟩ := List.nodup_cons.mp h
      rw [List.flatMap_cons]
      refine List.nodup_append.mpr ⟨?_, ih b, fun u hu v hv e => ?_⟩
      · exact List.pairwise_map.mpr (List.Pairwise.imp (fun {x y} h e => h (congrArg Prod.snd e)) (upTo_nodup _))
      · obtain ⟨i, _, rfl⟩ := List.mem_map.mp hu
        obtain ⟨n, hn, hv⟩ := List.mem_flatMap.mp hv
        obtain ⟨j, _, rfl⟩ := List.mem_map.mp hv
        have e1 : m.1 = n.1 := congrArg (fun x : Ev => x.1) e
        exact a (by rw [e1]; exact List.mem_map.mpr ⟨n, hn, rfl⟩)
  exact key _ W.names
end Fs

/-! FsT: what of the text the walks lean on; the first walks. -/
namespace Fs
open PySem L2

def topS (i : Nat) : Stmt := PySem.Challenge.pw_fewstamps_k63_whole_what_the_stairs_keep.main.body.getD i (.Pass ⟨0, 0, 0, 0⟩)
/-- a class with slots as it stands behind the top; n its name there -/
structure TC (K : PySem.W.Frag) (mg : Str → Option Value) (n : Str) (C : Addr) : Prop where
  cl : SlX.SCls K C
  makes : PySem.W.makesIn K C = true
  kp : PySem.W.keepIn K (.ref C) = true
  g : mg n = some (.ref C)
/-- a def as it stands behind the top -/
structure TF (K : PySem.W.Frag) (mg : Str → Option Value) (n : Str) (st : Stmt) (ps : List Str) (f : Addr) (fd : FuncData) : Prop where
  F : Fun K n n st f fd
  g : mg n = some (.ref f)
  b : Binds K fd ps []
/-- a method as it stands behind the top -/
structure TM (K : PySem.W.Frag) (C : Addr) (n q : Str) (st : Stmt) (ps : List Str) (f : Addr) (fd : FuncData) : Prop where
  F : Fun K n q st f fd
  m : Meth K C n f
  b : Binds K fd ps []
/-- the built-ins' names are not the module's -/
structure TB (mg : Str → Option Value) : Prop where
  n_isinstance : mg "isinstance" = none
  n_list : mg "list" = none
  n_tuple : mg "tuple" = none
  n_len : mg "len" = none
  n_range : mg "range" = none
  n_iter : mg "iter" = none
  n_all : mg "all" = none
  n_any : mg "any" = none
  n_zip : mg "zip" = none
  n_sum : mg "sum" = none
  n_sorted : mg "sorted" = none
  n_set : mg "set" = none
  n_dict : mg "dict" = none
  n_int : mg "int" = none
  n_abs : mg "abs" = none
  n_max : mg "max" = none
  n_min : mg "min" = none
  n_bool : mg "bool" = none
  g_BARE : ∃ t, mg "BARE" = some (.str "" t)
/-- a promise of a def, with all that a call of it needs -/
structure GF (P : Program) (w : World) (K : PySem.W.Frag) (mg : Str → Option Value) (base : Heap) (k : Nat) (n : Str) (f : Addr) (fd : FuncData) (ps : List Str) (sp : Sp) : Prop where
  F : FnOk P w K mg base CX0 k f fd ps sp
  g : mg n = some (.ref f)
  kp : PySem.W.keepIn K (.ref f) = true
  b : Binds K fd ps []
structure GC (P : Program) (w : World) (K : PySem.W.Frag) (mg : Str → Option Value) (base : Heap) (k : Nat) (n : Str) (C f : Addr) (sp : Sp) : Prop where
  F : FnR P w K mg base CX0 k f sp
  g : mg n = some (.ref C)
  m : Mk K C f
structure GM (P : Program) (w : World) (K : PySem.W.Frag) (mg : Str → Option Value) (base : Heap) (k : Nat) (n : Str) (C f : Addr) (sp : Sp) : Prop where
  F : FnR P w K mg base CX0 k f sp
  c : SlX.SCls K C
  m : Meth K C n f
section
variable {P : Program} {w : World} {K : PySem.W.Frag} {mg : Str → Option Value} {base : Heap}
/-- the start of a body under an environment -/
theorem sat_start {m : Bool} {N : List Str} {vs : List V} {H : Hp} {as : List Rs} (h : Args as H vs) (hm : ∀ R ∈ as, Mn m R) : Sat m (as.map some ++ List.replicate (N.length - as.length) none) (L2.start N vs) H := by
  have hl : ∀ {as : List Rs} {vs : List V}, Args as H vs → vs.length = as.length := by
    intro as
    induction as with
    | nil => intro vs h; cases h; rfl
    | cons R as ih =>
      rintro vs ⟨x, xs, rfl, _, h⟩
      rw [List.length_cons, List.length_cons, ih h]
  have at_ : ∀ {as : List Rs} {vs : List V}, Args as H vs → ∀ (i : Nat) (R : Rs), as[i]? = some R → ∃ v, vs[i]? = some v ∧ R H v := by
    intro as
    induction as with
    | nil => intro vs h i R e; simp at e
    | cons T as ih =>
      rintro vs ⟨x, xs, rfl, hx, h⟩ i R e
      cases i with
      | zero => cases e; exact ⟨x, rfl, hx⟩
      | succ i =>
        obtain ⟨v, a, b⟩ := ih h i R (by simpa using e)
        exact ⟨v, by simpa using a, b⟩
  have e := hl h
  refine ⟨by unfold L2.start; simp [e], fun i R hi => ?_⟩
  by_cases hlt : i < as.length
  · rw [List.getElem?_append_left (by rw [List.length_map]; exact hlt), List.getElem?_map] at hi
    cases ha : as[i]? with
    | none => rw [ha] at hi; cases hi
    | some T =>
      rw [ha] at hi
      cases hi
      obtain ⟨v, a, b⟩ := at_ h i R ha
      refine ⟨hm R (List.mem_of_getElem? ha), v, ?_, b⟩
      unfold L2.start
      rw [List.getElem?_append_left (by rw [List.length_map]; omega), List.getElem?_map, a]
      rfl
  · rw [List.getElem?_append_right (by rw [List.length_map]; omega)] at hi
    have := List.mem_of_getElem? hi
    rw [List.mem_replicate] at this
    cases this.2
/-- a def that changes nothing: from its promise for one i -/
theorem fn_spS {m : Bool} {ι : Type} {pre : ι → Prop} {As : ι → List Rs} {TT : ι → Hp → Rs} {x qual : Str} {st : Stmt} {f : Addr} {fd : FuncData} {N ps : List Str} {k : Nat} (F : Fun K x qual st f fd) (S : FnScope N ps (defScope st)) (hl : ∀ i, (As i).length = ps.length) (hm : ∀ i, ∀ R ∈ As i, Mn m R)
    (hbody : ∀ (cdv : Value) (A : Around) (outer : List Env) (s : Shared) (H0 : Hp) (E : XK), Room k (A.deeper (PyProof.Rows.envOfC qual (defScope st) s.heap.objs.size f cdv)) →
      ∃ t, PSs (cxOf CX0 P w K mg base N qual (defScope st) f cdv A outer s H0 E).nox (defBody st) t ∧ ∀ i, pre i → ∀ (σ : St) (H : Hp), Sat m ((As i).map some ++ List.replicate (N.length - (As i).length) none) σ H → ∀ (Q : VK), (∀ v H', Same H H' → TT i H H' v → Q v H') → t { nx := fun _ H' => Q .non H', rt := Q } σ H) :
    FnOk P w K mg base CX0 (k + 1) f fd ps (spS pre As TT) := by
  have al : ∀ {as : List Rs} {H : Hp} {vs : List V}, Args as H vs → vs.length = as.length := by
    intro as
    induction as with
    | nil => intro H vs h; cases h; rfl
    | cons R as ih =>
      rintro H vs ⟨x, xs, rfl, _, h⟩
      rw [List.length_cons, List.length_cons, ih h]
  refine F.ok S (fun vs H Q E h => ?_) (fun cdv A outer s H vs Q E hr h => ?_)
  · obtain ⟨i, _, a, _⟩ := h
    rw [al a, hl i]
  · obtain ⟨i, hp, a, q⟩ := h
    obtain ⟨t, ht, hq⟩ := hbody cdv A outer s H E hr
    exact ⟨t, ht, hq i hp _ H (sat_start a (hm i)) Q q⟩

/-! ### tupled -/
abbrev s_tupled : Stmt := topS 2
/-- tuples within tuples, fewer than n deep -/
def Fits : Nat → PyData → Prop
  | 0, _ => False
  | n + 1, .tuple ds => ds.length ≤ 80000 ∧ ∀ x ∈ ds, Fits n x
  | _ + 1, _ => True
def spTupled (n : Nat) : Sp := spS (fun d : PyData => Fits n d) (fun d => [rI d]) (fun d _ => rI d)
theorem sc_tupled : FnScope ["thing", "part"] ["thing"] (defScope s_tupled) := ⟨rfl, rfl, rfl, by decide +kernel, rfl, by decide +kernel, by decide +kernel⟩
theorem isi_tl {K : PySem.W.Frag} {H : Hp} {σ : St} {te : TE} {d : PyData} (h : EvR te σ H (rI d)) : EvR (tCB (rIsiT K) (tCons te (tCons (tTup (tCons (tC (.ty "list")) (tCons (tC (.ty "tuple")) tNil))) tNil))) σ H (rI (.bool (match d with | .tuple _ => true | _ => false))) := fun H1 e Q q => by
  refine h H1 e _ fun v H2 e2 r => ?_
  refine ⟨by decide, fun p hp => ?_⟩
  have r2 := r.sm (same_new (o := .tup [.ty "list", .ty "tuple"]) hp)
  have k : Paired ClsV [V.ty "list", V.ty "tuple"] [Value.type "list", Value.type "tuple"] := .cons (.ty _) (.cons (.ty _) .nil)
  have fin := q (.bl (match d with | .tuple _ => true | _ => false)) _ (e2.trans (same_new (o := .tup [.ty "list", .ty "tuple"]) hp))
  cases d with
  | none => cases r2; exact ⟨_, p, _, _, _, false, rfl, upd_same, k, .base .non, by kernel_rfl, fin rfl⟩
  | bool b => cases r2; exact ⟨_, p, _, _, _, false, rfl, upd_same, k, .base (.bl b), by kernel_rfl, fin rfl⟩
  | int i => cases r2; exact ⟨_, p, _, _, _, false, rfl, upd_same, k, .base (.int i), by kernel_rfl, fin rfl⟩
  | str x => cases r2; exact ⟨_, p, _, _, _, false, rfl, upd_same, k, .base (.str x), by kernel_rfl, fin rfl⟩
  | tuple ds =>
    obtain ⟨a, xs, rfl, ha, _⟩ := r2
    exact ⟨_, p, _, _, _, true, rfl, upd_same, k, .base (.tup ha), by kernel_rfl, fin rfl⟩
  | list ds => exact r.elim
  | dict ds => exact r.elim
theorem ok_tupled {f : Addr} {fd : FuncData} (X : TF K mg "tupled" s_tupled ["thing"] f fd) (T : TB mg) : ∀ n, GF P w K mg base n "tupled" f fd ["thing"] (spTupled n) := by
  have nd := sc_tupled.nd
  intro n
  induction n with
  | zero => exact ⟨⟨fun vs H Q E ⟨i, h, _⟩ => (h : False).elim, fun A outer s H args us vs Q E _ _ _ _ ⟨i, h, _⟩ => (h : False).elim⟩, X.g, X.F.kp, X.b⟩
  | succ n G_tupled =>
    refine ⟨fn_spS (m := false) X.F sc_tupled (fun _ => rfl) (fun i R h => ?_) fun cdv A outer s H0 E hr => ?_, X.g, X.F.kp, X.b⟩
    · rw [List.mem_singleton.mp h]; exact mnI
    · have hu := hu_of hr
      refine ⟨_, (pss_one (ps_ret (pe_ifExp (pt_val (pe_callB call_isiT rfl T.n_isinstance (by decide +kernel) (pa_cons (pv 0) (pa_cons (pe_tup (pa_cons (pe_bltn (v := .ty "list") rfl T.n_list (by decide +kernel) rfl) (pa_cons (pe_bltn (v := .ty "tuple") rfl T.n_tuple (by decide +kernel) rfl) pa_nil))) pa_nil)))) (pe_callTy call_tuple_of rfl T.n_tuple (by decide +kernel) (pa_cons (pe_lc (own := [("part", 1)]) rfl nd (pi_tup (pv 0)) (blkOk_by (by kernel_rfl)) (fun _ _ _ _ _ => (pg_name (i := 1) nd rfl (by first | exact Or.inl rfl | exact Or.inr rfl))) (fun _ _ _ _ _ => pts_nil) (fun _ _ _ _ _ => (pe_call G_tupled.F (hr.mono (by first | decide | omega)) rfl G_tupled.g G_tupled.kp G_tupled.b .nil pass0 (pa_cons (pv 1) pa_nil)))) pa_nil)) (pv 0)))), ?_⟩
      intro d hd σ H S Q k
      refine s_ret (R := rI d) (e_if (b_B (isi_tl (ev S rfl))) (fun hb => ?_) (fun _ => ev S rfl)) k
      cases d with
      | tuple ds =>
        have e1 : ds.map (fun x => x) = ds := List.map_id' ds
        have e1 : ds.map (fun x => x) = ds := List.map_id' ds
        refine (e_tupL (EvR.l (e_lc (enc := fun x : PyData => x) (xs := ds) (F := fun x Γ => Γ.set 1 (some (rI x))) (fun _ => true) (fun x => x) S (i_tup (by rw [e1]; exact ev S rfl)) hd.1 (fun x _ => tg_i) (fun _ h => h) fun x hx σ2 H2 e2 S2 =>
          ⟨b_yes, fun _ => e_callT x (hd.2 x hx) (aI (ev S2 rfl) aa_nil) fun _ _ _ _ r => r⟩))).isI ?_
        simp
      | _ => cases hb
end
end Fs

/-! FsU: tools: a base heap without what changes; new instances; slots. -/
namespace Fs
open PySem L2

/-! ### the heap without what changes -/
open Classical in
noncomputable def Hid (H : Hp) (p : Addr → Prop) : Hp := fun b => if p b then none else H b
theorem hid_off {H : Hp} {p : Addr → Prop} {b : Addr} (h : p b) : Hid H p b = none := if_pos h
theorem hid_on {H : Hp} {p : Addr → Prop} {b : Addr} (h : ¬ p b) : Hid H p b = H b := if_neg h
theorem hid_same (H : Hp) (p : Addr → Prop) : Same (Hid H p) H := fun b o e => by
  unfold Hid at e
  split at e
  · cases e
  · exact e
/-- Hb is what stays, p is where there is change; there are no tuples there -/
structure Bs (p : Addr → Prop) (Hb H : Hp) : Prop where
  sm : Same Hb H
  off : ∀ b, p b → Hb b = none
  on : ∀ b, p b → H b ≠ none
  tp : Tp H Hb
theorem Bs.grow {p : Addr → Prop} {Hb H H1 : Hp} (B : Bs p Hb H) (e : Same H H1) (q : Addr → Prop) (hq : ∀ b, q b → H b = none ∧ ∃ o, H1 b = some o ∧ ∀ xs, o ≠ .tup xs) : ∃ Hb1, Bs (fun b => p b ∨ q b) Hb1 H1 ∧ Same Hb Hb1 ∧ ∀ l, H l = none → ¬ q l → Hb1 l = H1 l := by
  refine ⟨Hid H1 fun b => p b ∨ q b, ⟨hid_same _ _, fun b h => hid_off h, fun b h z => ?_, fun b xs h => ?_⟩, fun b o h => ?_, fun l h nq => hid_on fun z => z.elim (fun z => B.on l z h) nq⟩
  · rcases h with h | h
    · exact B.on b h (e.free z)
    · obtain ⟨_, o, ho, _⟩ := hq b h
      rw [ho] at z
      cases z
  · rw [hid_on fun z => ?_]
    · exact h
    · rcases z with z | z
      · cases hb : H b with
        | none => exact B.on b z hb
        | some o =>
          have h1 := e _ _ hb
          rw [h] at h1
          cases h1
          have := B.tp _ _ hb
          rw [B.off b z] at this
          cases this
      · obtain ⟨_, o, ho, hn⟩ := hq b z
        rw [ho] at h
        exact hn xs (Option.some.inj h)
  · rw [hid_on fun z => ?_]
    · exact e _ _ (B.sm _ _ h)
    · rcases z with z | z
      · rw [B.off b z] at h; cases h
      · have := B.sm _ _ h
        rw [(hq b z).1] at this
        cases this
theorem Bs.grow0 {p : Addr → Prop} {Hb H H1 : Hp} (B : Bs p Hb H) (e : Same H H1) : ∃ Hb1, Bs p Hb1 H1 ∧ Same Hb Hb1 ∧ ∀ l, H l = none → Hb1 l = H1 l := by
  obtain ⟨Hb1, h1, h2, h3⟩ := B.grow e (fun _ => False) (fun _ h => h.elim)
  exact ⟨Hb1, ⟨h1.sm, fun b h => h1.off b (.inl h), fun b h => h1.on b (.inl h), h1.tp⟩, h2, fun l hl => h3 l hl id⟩
theorem Bs.mut {p : Addr → Prop} {Hb H : Hp} {a : Addr} {o : HO} (B : Bs p Hb H) (h : p a) (ho : ∀ xs, o ≠ .tup xs) : Bs p Hb (upd H a o) := by
  refine ⟨same_mut B.sm (B.off a h), B.off, fun b hb z => ?_, fun b xs hb => ?_⟩
  · by_cases e : b = a
    · subst e
      rw [upd_same] at z
      cases z
    · rw [upd_ne e] at z
      exact B.on b hb z
  · by_cases e : b = a
    · subst e
      rw [upd_same] at hb
      exact absurd (Option.some.inj hb) (ho xs)
    · rw [upd_ne e] at hb
      exact B.tp b xs hb
/-- from nothing -/
theorem Bs.of {H : Hp} {p : Addr → Prop} (on : ∀ b, p b → ∃ o, H b = some o ∧ ∀ xs, o ≠ .tup xs) : Bs p (Hid H p) H := by
  refine ⟨hid_same _ _, fun b h => hid_off h, fun b h z => ?_, fun b xs h => ?_⟩
  · obtain ⟨o, ho, _⟩ := on b h
    rw [ho] at z
    cases z
  · rw [hid_on fun z => ?_]
    · exact h
    · obtain ⟨o, ho, hn⟩ := on b z
      rw [ho] at h
      exact hn xs (Option.some.inj h)
theorem Bs.im {p : Addr → Prop} {Hb H : Hp} (B : Bs p Hb H) {ds : List PyData} {xs : List V} (h : ImL H ds xs) : ImL Hb ds xs := h.up B.tp
theorem Bs.ne {p : Addr → Prop} {Hb H : Hp} (B : Bs p Hb H) {a b : Addr} (h : p a) {o : HO} (hb : Hb b = some o) : b ≠ a := fun z => by
  rw [z, B.off a h] at hb
  cases hb

/-! ### instances -/
def spMk (C : Addr) {ι : Type} (pre : ι → Prop) (as : ι → List Rs) (T : ι → Rs) : Sp := fun vs H Q _ => ∃ i H0 x dx rest, vs = V.ref x :: rest ∧ pre i ∧ H0 x = none ∧ H0 dx = none ∧ dx ≠ x ∧ H = upd (upd H0 dx (.own x)) x (.ins C dx []) ∧ Args (as i) H0 rest ∧ ∀ H', Same H0 H' → T i H' (.ref x) → Q .non H'
section
variable {K : PySem.W.Frag} {σ : St} {H H' : Hp} {ta tb tc te tx : TE} {v : V} {R T : Rs} {tr : TA} {ι : Type} {pre : ι → Prop} {As : ι → List Rs} {TT : ι → Rs} {E : XK} {C : Addr} {m : Bool} {Γ : Gam} {D : Ends} {tz : TS}
theorem e_make (i : ι) (hp : pre i) (ha : EvA tr σ H (As i)) : EvR (StX.tMakeR C (spMk C pre As TT) E tr) σ H (TT i) := fun H1 e Q q =>
  ha H1 e _ fun vs H2 e2 a => fun x dx hx hd hne => ⟨i, H2, x, dx, vs, rfl, hp, hx, hd, hne, rfl, a, fun H' e3 r => ⟨rfl, q _ H' (e2.trans e3) r⟩⟩
/-- an instance that is being made: its slots vs so far -/
structure Bld (C o dx : Addr) (H : Hp) (vs : List (Option V)) : Prop where
  slt : SlX.Slt H o C dx vs
  ne : dx ≠ o
  ex : H dx = some (.own o) ∨ H dx = some (.xd [])
theorem bld_new {H0 : Hp} {C x dx : Addr} (h : dx ≠ x) : Bld C x dx (upd (upd H0 dx (.own x)) x (.ins C dx [])) [] := ⟨.inl ⟨upd_same, rfl⟩, h, .inl (by rw [upd_ne h, upd_same])⟩
theorem Bld.sm {C o dx : Addr} {vs : List (Option V)} (B : Bld C o dx H vs) (e : Same H H') : Bld C o dx H' vs := ⟨slt_same B.slt e, B.ne, B.ex.imp (e _ _) (e _ _)⟩
theorem Bld.o_some {C o dx : Addr} {vs : List (Option V)} (B : Bld C o dx H vs) : H o ≠ none ∧ H dx ≠ none := by
  refine ⟨fun z => ?_, fun z => ?_⟩
  · rcases B.slt with ⟨h, _⟩ | ⟨h, _⟩ <;> rw [z] at h <;> cases h
  · rcases B.ex with h | h <;> rw [z] at h <;> cases h
theorem Bld.not_tup {C o dx : Addr} {vs : List (Option V)} (B : Bld C o dx H vs) : (∀ xs, H o ≠ some (.tup xs)) ∧ ∀ xs, H dx ≠ some (.tup xs) := by
  refine ⟨fun xs z => ?_, fun xs z => ?_⟩
  · rcases B.slt with ⟨h, _⟩ | ⟨h, _⟩ <;> rw [z] at h <;> cases h
  · rcases B.ex with h | h <;> rw [z] at h <;> cases h
theorem Bld.put {C o dx : Addr} {vs : List (Option V)} (B : Bld C o dx H vs) (i : Nat) (y : V) : Bld C o dx (SlX.slH H o C dx (SlX.putS i y vs)) (SlX.putS i y vs) ∧ Tp H (SlX.slH H o C dx (SlX.putS i y vs)) := by
  refine ⟨⟨SlX.slH_slt B.ne, B.ne, .inr (by unfold SlX.slH; rw [upd_ne B.ne, upd_same])⟩, fun b xs h => ?_⟩
  rw [SlX.slH_ne (fun z : b = o => B.not_tup.1 xs (by rw [← z]; exact h)) (fun z : b = dx => B.not_tup.2 xs (by rw [← z]; exact h))]
  exact h
theorem Bs.slH {p : Addr → Prop} {Hb : Hp} {C o dx : Addr} {vs : List (Option V)} (B : Bs p Hb H) (h1 : p o) (h2 : p dx) : Bs p Hb (SlX.slH H o C dx vs) := by
  unfold SlX.slH
  exact (B.mut h2 (by intro xs z; cases z)).mut h1 fun xs z => by
    have z : HO.ext _ = HO.tup xs := z
    cases z
/-- self.f = e -/
theorem s_sl {C o dx p : Addr} {f : Str} {vs : List (Option V)} {i : Nat} (hv : EvR tb σ H R) (ho : EvR ta σ H (rX (.ref o))) (B : Bld C o dx H vs) (c : SlX.SCls K C) (t : SlX.Slot1 K C f p i)
    (k : ∀ y H1, Same H H1 → R H1 y → ∀ H2, H2 = SlX.slH H1 o C dx (SlX.putS i y vs) → Bld C o dx H2 (SlX.putS i y vs) → Tp H1 H2 → D.nx σ H2) (hm : Mn false R) : SlX.sSl K ta tb f D σ H := hv.go fun y H1 e1 r => ho H1 e1 _ fun x H2 e2 hx => by
  cases hx
  have B2 := B.sm (e1.trans e2)
  obtain ⟨z1, z2⟩ := B2.put i y
  exact ⟨o, C, dx, p, vs, i, rfl, B2.slt, c, t, k y H2 (e1.trans e2) (hm _ _ _ e2 r) _ rfl z1 z2⟩
theorem q_sl {C o dx p : Addr} {f : Str} {vs : List (Option V)} {i : Nat} (hv : EvR tb σ H R) (ho : EvR ta σ H (rX (.ref o))) (B : Bld C o dx H vs) (c : SlX.SCls K C) (t : SlX.Slot1 K C f p i)
    (k : ∀ y H1, Same H H1 → R H1 y → ∀ H2, H2 = SlX.slH H1 o C dx (SlX.putS i y vs) → Bld C o dx H2 (SlX.putS i y vs) → Tp H1 H2 → tz D σ H2) (hm : Mn false R) : tSeq (SlX.sSl K ta tb f) tz D σ H := s_sl (D := { D with nx := tz D }) hv ho B c t k hm
/-- o.m(..): the receiver an instance of C with slots; the promise one that changes nothing -/
theorem e_meth {TS : ι → Hp → Rs} {a dx : Addr} {vs : List (Option V)} (i : ι) (hp : pre i) (ho : EvR ta σ H (rX (.ref a))) (hs : SlX.Slt H a C dx vs) (ha : EvA tr σ H as) (hA : ∀ H' xs, Same H H' → Args as H' xs → Args (As i) H' (V.ref a :: xs)) (hT : ∀ H0 H' v, Same H H0 → TS i H0 H' v → T H' v) :
    EvR (SlX.tMethSl C (spS pre As TS) E ta tr) σ H T := fun H1 e Q q =>
  ho H1 e _ fun x H2 e2 hx => ⟨a, dx, vs, hx, slt_same hs (e.trans e2), ha H2 (e.trans e2) _ fun ws H3 e3 aa => ⟨i, hp, by rw [hx]; exact hA H3 ws ((e.trans e2).trans e3) aa, fun v H' e4 r => q v H' ((e2.trans e3).trans e4) (hT H3 H' v ((e.trans e2).trans e3) r)⟩⟩
/-- d[k] where the dict holds other objects -/
theorem valV_objs {α κ : Type} [DecidableEq κ] {key : α → κ} (inj : ∀ x y, key x = key y → x = y) {adr : α → Addr} {e : α} : ∀ {xs : List α}, e ∈ xs → valV (xs.map fun x => (key x, V.ref (adr x))) (key e) = some (.ref (adr e))
  | x :: xs, h => by
    rw [List.map_cons]
    by_cases hx : key x = key e
    · rw [valV_pos (p := (key x, V.ref (adr x))) hx, inj _ _ hx]
    · rw [valV_neg (p := (key x, V.ref (adr x))) hx]
      rcases List.mem_cons.mp h with z | z
      · exact absurd (by rw [z]) hx
      · exact valV_objs inj z
theorem e_dgetO {o : Addr} {adr : Ev → Addr} {xs : List Ev} {e : Ev} (hd : EvR ta σ H (rX (.ref o))) (hk : EvR tb σ H (rI (evD e))) (h : H o = some (.dT (xs.map fun x => (kE x, V.ref (adr x))))) (hx : e ∈ xs) : EvR (tDGet ta tb) σ H (rX (.ref (adr e))) := fun H1 e1 Q q =>
  hd H1 e1 _ fun x H2 e2 hx2 => hk H2 (e1.trans e2) _ fun y H3 e3 hy => by
    obtain ⟨b, rfl, hb⟩ := ev_at hy
    refine ⟨o, .ref (adr e), hx2, ?_, q _ _ (e2.trans e3) rfl⟩
    rw [← valV_objs kE_inj hx]
    exact DGet.t ((e1.trans (e2.trans e3)) _ _ h) hb
theorem e_dinO {o : Addr} {adr : Ev → Addr} {xs : List Ev} {e : Ev} (hk : EvR tb σ H (rI (evD e))) (hd : EvR ta σ H (rX (.ref o))) (h : H o = some (.dT (xs.map fun x => (kE x, V.ref (adr x))))) : EvR (tDIn tb ta) σ H (rI (.bool (decide (e ∈ xs)))) := fun H1 e1 Q q =>
  hk H1 e1 _ fun y H2 e2 hy => hd H2 (e1.trans e2) _ fun x H3 e3 hx2 => by
    obtain ⟨b, rfl, hb⟩ := ev_at (hy.sm e3)
    refine ⟨o, _, hx2, DGet.t ((e1.trans (e2.trans e3)) _ _ h) hb, q _ _ (e2.trans e3) ?_⟩
    show V.bl _ = V.bl _
    by_cases hx : e ∈ xs
    · rw [valV_objs kE_inj hx]
      simp [hx]
    · rw [valV_none]
      · simp [hx]
      · rw [List.map_map]
        intro z
        obtain ⟨q2, hq, eq⟩ := List.mem_map.mp z
        exact hx (kE_inj _ _ eq ▸ hq)
theorem e_dgetKO {α : Type} {key : α → Key} (inj : ∀ x y, key x = key y → x = y) {o : Addr} {adr : α → Addr} {xs : List α} {e : α} (hd : EvR ta σ H (rX (.ref o))) (hk : EvR tb σ H (rX (kV (key e)))) (h : H o = some (.dK (xs.map fun x => (key x, V.ref (adr x))))) (hx : e ∈ xs) : EvR (tDGet ta tb) σ H (rX (.ref (adr e))) := fun H1 e1 Q q =>
  hd H1 e1 _ fun x H2 e2 hx2 => hk H2 (e1.trans e2) _ fun y H3 e3 hy => by
    cases hy
    refine ⟨o, .ref (adr e), hx2, ?_, q _ _ (e2.trans e3) rfl⟩
    rw [← valV_objs inj hx]
    exact DGet.k ((e1.trans (e2.trans e3)) _ _ h)
/-- a list at a known place -/
theorem e_at {l : Addr} {xs : List V} {ds : List PyData} (h : EvR te σ H (rX (.ref l))) (hl : H l = some (.lst xs)) (r : ImL H ds xs) : EvR te σ H (rL ds) := h.imp fun H2 v e hv => ⟨l, xs, hv, e _ _ hl, r.sm e⟩
end

/-! ### lists that change -/
section
variable {K : PySem.W.Frag} {σ : St} {H H' : Hp} {ta tb tc te tx : TE} {v : V} {R T : Rs} {ds es : List PyData} {d : PyData} {D : Ends} {tz : TS} {l : Addr} {zs : List V}
theorem e_listLF (ha : EvR ta σ H (rL ds)) : EvR (tCB (rListS K) (tCons ta tNil)) σ H (rLF H ds) := fun H1 e Q q => ha H1 e _ fun x H2 e2 hx => by
  obtain ⟨a, xs, rfl, ho, r⟩ := hx
  exact ⟨a, xs, rfl, .inl (SqL.of ho), fun l hl => q _ _ (e2.trans (same_new hl)) ⟨l, xs, rfl, (e.trans e2).free hl, upd_same, r.sm (same_new hl)⟩⟩
theorem e_lstF {t : TA} (h : EvIs t σ H ds) (hl : ds.length ≤ 100000) : EvR (tLst t) σ H (rLF H ds) := fun H1 e Q q =>
  h H1 e _ fun vs H2 e2 r => ⟨len_ok (by rw [r.len]; exact hl), fun p hp => q _ _ (e2.trans (same_new hp)) ⟨p, vs, rfl, (e.trans e2).free hp, upd_same, r.sm (same_new hp)⟩⟩
theorem s_pop {g : TG} (ho : EvR ta σ H (rX (.ref l))) (hl : H l = some (.lst zs)) (r : ImL H (ds ++ [d]) zs) (k : ∀ v H1 ws, Same H H1 → Im (upd H1 l (.lst ws)) d v → ImL (upd H1 l (.lst ws)) ds ws → Tp H1 (upd H1 l (.lst ws)) → g v σ (upd H1 l (.lst ws)) D.nx) : tAsg (tBM0 K "list" rPop ta) g D σ H := ho.go fun x H1 e1 hx => by
  cases hx
  have h1 := e1 _ _ hl
  have r1 := r.sm e1
  have hlen := r1.len
  rw [List.length_append, List.length_singleton] at hlen
  obtain ⟨y, hy, ry⟩ := r1.get (i := ds.length) (d := d) (by simp)
  have t1 : Tp H1 (upd H1 l (.lst zs.dropLast)) := tp_lst h1
  refine ⟨.inl ⟨rfl, zs, SqL.of h1⟩, l, zs, y, rfl, rfl, h1, by rw [hlen]; exact hy, k y H1 _ e1 (ry.up t1) ?_ t1⟩
  have z := (r1.up t1).take ds.length
  rw [List.take_left] at z
  have ed : zs.dropLast = zs.take ds.length := by
    rw [List.dropLast_eq_take, hlen]
    simp
  rw [← ed] at z
  exact z
theorem q_pop {g : TG} (ho : EvR ta σ H (rX (.ref l))) (hl : H l = some (.lst zs)) (r : ImL H (ds ++ [d]) zs) (k : ∀ v H1 ws, Same H H1 → Im (upd H1 l (.lst ws)) d v → ImL (upd H1 l (.lst ws)) ds ws → Tp H1 (upd H1 l (.lst ws)) → g v σ (upd H1 l (.lst ws)) (tz D)) : tSeq (tAsg (tBM0 K "list" rPop ta) g) tz D σ H := s_pop (D := { D with nx := tz D }) ho hl r k
theorem s_ext (ho : EvR ta σ H (rX (.ref l))) (hl : H l = some (.lst zs)) (r : ImL H ds zs) (hb : EvR tb σ H (rL es)) (hz : ds.length + es.length ≤ 100000) (k : ∀ H1 ws, Same H H1 → ImL (upd H1 l (.lst ws)) (ds ++ es) ws → Tp H1 (upd H1 l (.lst ws)) → D.nx σ (upd H1 l (.lst ws))) : tDrop (tBM K "list" rExtend ta (tCons tb tNil)) D σ H := ho.go fun x H1 e1 hx => by
  cases hx
  refine ⟨.inl ⟨rfl, zs, SqL.of (e1 _ _ hl)⟩, hb H1 e1 _ fun y H2 e2 hy => ?_⟩
  obtain ⟨b, ws, rfl, hb2, rb⟩ := hy
  have r2 := r.sm (e1.trans e2)
  have h2 := e2 _ _ (e1 _ _ hl)
  have t1 : Tp H2 (upd H2 l (.lst (zs ++ ws))) := tp_lst h2
  exact ⟨l, b, zs, ws, rfl, rfl, h2, hb2, len_ok (by rw [r2.len, rb.len]; exact hz), k H2 _ (e1.trans e2) ((r2.app rb).up t1) t1⟩
theorem s_appI (ho : EvR ta σ H (rX (.ref l))) (hl : H l = some (.lst zs)) (r : ImL H ds zs) (hb : EvR tb σ H (rI d)) (hz : ds.length < 100000) (k : ∀ H1 ws, Same H H1 → ImL (upd H1 l (.lst ws)) (ds ++ [d]) ws → Tp H1 (upd H1 l (.lst ws)) → D.nx σ (upd H1 l (.lst ws))) : tDrop (tBM K "list" rAppend ta (tCons tb tNil)) D σ H :=
  s_app hl ho hb (by rw [r.len]; exact hz) fun v H1 e1 rv => by
    have t1 : Tp H1 (upd H1 l (.lst (zs ++ [v]))) := tp_lst (e1 _ _ hl)
    exact k H1 _ e1 (((r.sm e1).up t1).snoc (rv.up t1)) t1
theorem q_appI (ho : EvR ta σ H (rX (.ref l))) (hl : H l = some (.lst zs)) (r : ImL H ds zs) (hb : EvR tb σ H (rI d)) (hz : ds.length < 100000) (k : ∀ H1 ws, Same H H1 → ImL (upd H1 l (.lst ws)) (ds ++ [d]) ws → Tp H1 (upd H1 l (.lst ws)) → tz D σ (upd H1 l (.lst ws))) : tSeq (tDrop (tBM K "list" rAppend ta (tCons tb tNil))) tz D σ H := s_appI (D := { D with nx := tz D }) ho hl r hb hz k
/-- while, the measure beside the state -/
theorem s_while {c : TT} {tb : TS} (W : Nat → St → Hp → Prop) {m : Nat} (h0 : W m σ H)
    (step : ∀ m σ H, W m σ H → ∃ b, EvB c σ H b ∧ ∀ H1, Same H H1 → (b = true → tb { D with nx := fun σ' H' => ∃ m', m' < m ∧ W m' σ' H', ct := fun σ' H' => ∃ m', m' < m ∧ W m' σ' H', bk := D.nx } σ H1) ∧ (b = false → D.nx σ H1)) : tWhile c tb D σ H := by
  refine ⟨W, ⟨m, h0⟩, fun m σ H w => ?_⟩
  obtain ⟨b, h, k⟩ := step m σ H w
  refine h.go fun H1 e => ?_
  cases b with
  | true =>
    rw [if_pos rfl]
    exact ⟨_, fun σ' H' h => h, (k H1 e).1 rfl⟩
  | false =>
    rw [if_neg Bool.false_ne_true]
    exact (k H1 e).2 rfl
theorem q_while {c : TT} {tb : TS} (W : Nat → St → Hp → Prop) {m : Nat} (h0 : W m σ H)
    (step : ∀ m σ H, W m σ H → ∃ b, EvB c σ H b ∧ ∀ H1, Same H H1 → (b = true → tb { D with nx := fun σ' H' => ∃ m', m' < m ∧ W m' σ' H', ct := fun σ' H' => ∃ m', m' < m ∧ W m' σ' H', bk := tz D } σ H1) ∧ (b = false → tz D σ H1)) : tSeq (tWhile c tb) tz D σ H := s_while (D := { D with nx := tz D }) W h0 step
end
theorem ml0 {m : Bool} : ∀ R ∈ ([] : List Rs), Mn m R := fun R h => by cases h
theorem ml {m : Bool} {R : Rs} {l : List Rs} (h : Mn m R) (t : ∀ T ∈ l, Mn m T) : ∀ T ∈ R :: l, Mn m T := fun T hT => by
  rcases List.mem_cons.mp hT with e | e
  · rw [e]; exact h
  · exact t T e
theorem mlI {m : Bool} {d : PyData} {l : List Rs} (t : ∀ T ∈ l, Mn m T) : ∀ T ∈ rI d :: l, Mn m T := ml mnI t
theorem mlX {m : Bool} {x : V} {l : List Rs} (t : ∀ T ∈ l, Mn m T) : ∀ T ∈ rX x :: l, Mn m T := ml mnX t
theorem DV.at {H : Hp} {d : Addr} {xs : List Ev} {f : Ev → PyData} (D : DV kE .dT H d xs f) : ∃ kvs, H d = some (.dT kvs) := by
  obtain ⟨kvs, h, _⟩ := D
  exact ⟨kvs, h⟩

/-! ### for, the walked list kept while other things change -/
def IterM (M : Hp → Hp → Prop) (wi : TI) (σ : St) (H : Hp) (ys : List PyData) : Prop := ∀ H1, Same H H1 → ∀ R : It → Hp → Prop, (∀ J H2 (Kp : Hp → Prop), Same H1 H2 → Yd J ys Kp → (∀ H', M H2 H' → Kp H') → R J H2) → wi σ H1 R
/-- what is new since H, and the tuples, stay -/
def Fz (H H2 H' : Hp) : Prop := (∀ a o, H a = none → H2 a = some o → H' a = some o) ∧ Tp H2 H'
/-- the object at l, and the tuples, stay -/
def At (l : Addr) (H2 H' : Hp) : Prop := H' l = H2 l ∧ Tp H2 H'
section
variable {K : PySem.W.Frag} {α : Type} {enc : α → PyData} {xs : List α} {σ : St} {H : Hp} {wi : TI} {g : TG} {tb tz : TS} {tl : TE} {m : Bool} {D : Ends} {M : Hp → Hp → Prop} {ys : List PyData}
theorem i_listA {l : Addr} {zs : List V} (h : EvR tl σ H (rX (.ref l))) (hl : H l = some (.lst zs)) (r : ImL H ys zs) : IterM (At l) (iList K tl) σ H ys := fun H1 e R k => h H1 e _ fun v H2 e2 hv => by
  cases hv
  have h2 := e2 _ _ (e _ _ hl)
  exact ⟨l, rfl, ⟨zs, SqL.of h2⟩, k _ H2 (fun H' => H' l = some (.lst zs) ∧ ImL H' ys zs) e2 (yd_l fun _ z => z) fun H' e' => ⟨e'.1.trans h2, (r.sm (e.trans e2)).up e'.2⟩⟩
theorem i_listF (h : EvR tl σ H (rLF H ys)) : IterM (Fz H) (iList K tl) σ H ys := fun H1 e R k => h H1 e _ fun v H2 e2 hv => by
  obtain ⟨a, zs, rfl, hn, ho, r⟩ := hv
  exact ⟨a, rfl, ⟨zs, SqL.of ho⟩, k _ H2 (fun H' => H' a = some (.lst zs) ∧ ImL H' ys zs) e2 (yd_l fun _ z => z) fun H' e' => ⟨e'.1 _ _ hn ho, r.up e'.2⟩⟩
theorem i_ownA {C a l : Addr} {j : Nat} {zs : List V} (h : EvR tl σ H (rX (.ref a))) (hL : LAt K C j H a l) (hl : H l = some (.lst zs)) (r : ImL H ys zs) : IterM (At l) (iOwn K C j tl) σ H ys := fun H1 e R k => h H1 e _ fun v H2 e2 hv => by
  cases hv
  have h2 := e2 _ _ (e _ _ hl)
  exact ⟨a, l, rfl, lat_same hL (e.trans e2), k _ H2 (fun H' => H' l = some (.lst zs) ∧ ImL H' ys zs) e2 (yd_l fun _ z => z) fun H' e' => ⟨e'.1.trans h2, (r.sm (e.trans e2)).up e'.2⟩⟩
theorem s_forM (h : IterM M wi σ H (xs.map enc)) (k : ∀ H1, Same H H1 → ∃ Pv : List α → St → Hp → Prop, Pv [] σ H1 ∧ (∀ pre σ' H', Pv pre σ' H' → M H1 H') ∧
      (∀ pre x post σ' H' H'' v, xs = pre ++ x :: post → Pv pre σ' H' → Same H' H'' → Im H'' (enc x) v → g v σ' H'' fun σ2 H2 => tb { D with nx := Pv (pre ++ [x]), ct := Pv (pre ++ [x]), bk := D.nx } σ2 H2) ∧ (∀ σ' H', Pv xs σ' H' → D.nx σ' H')) :
    tFor wi g tb D σ H := h H (Same.refl H) _ fun J H1 Kp e y hK => by
  obtain ⟨Pv, h0, hk, hs, hd⟩ := k H1 e
  refine loopS (BODY := fun x σ H' N => g x σ H' fun σ2 H2 => tb { D with nx := N, ct := N, bk := D.nx } σ2 H2) y (fun i σ' H' => Pv (xs.take i) σ' H') h0 (fun i σ' H' _ p => hK _ (hk _ _ _ p)) (fun i d x σ' H' H'' ed p s r => ?_) (fun σ' H' p => ?_)
  · obtain ⟨b, hb, rfl, hm, s1, s2⟩ := split2 ed
    show g x σ' H'' fun σ2 H2 => tb { D with nx := Pv (xs.take (i + 1)), ct := Pv (xs.take (i + 1)), bk := D.nx } σ2 H2
    rw [s1]
    exact hs _ b _ σ' H' H'' x s2 p s r
  · refine hd σ' H' ?_
    rw [List.length_map, List.take_length] at p
    exact p
theorem q_forM (h : IterM M wi σ H (xs.map enc)) (k : ∀ H1, Same H H1 → ∃ Pv : List α → St → Hp → Prop, Pv [] σ H1 ∧ (∀ pre σ' H', Pv pre σ' H' → M H1 H') ∧
      (∀ pre x post σ' H' H'' v, xs = pre ++ x :: post → Pv pre σ' H' → Same H' H'' → Im H'' (enc x) v → g v σ' H'' fun σ2 H2 => tb { D with nx := Pv (pre ++ [x]), ct := Pv (pre ++ [x]), bk := tz D } σ2 H2) ∧ (∀ σ' H', Pv xs σ' H' → tz D σ' H')) :
    tSeq (tFor wi g tb) tz D σ H := s_forM (D := { D with nx := tz D }) h k
/-- a method's promise as it is called -/
theorem fnR_of {P : Program} {w : World} {mg : Str → Option Value} {base : Heap} {k : Nat} {f : Addr} {fd : FuncData} {ps : List Str} {sp : Sp} (F : FnOk P w K mg base CX0 k f fd ps sp) (b : Binds K fd ps []) : FnR P w K mg base CX0 k f sp :=
  (F.raw b .nil).imp fun vs H Q E h => by rw [List.append_nil]; exact h
end
/-- o.m(..) for what it does -/
theorem s_meth {C a dx : Addr} {sp : Sp} {E : XK} {vs : List (Option V)} {σ : St} {H : Hp} {ta : TE} {tr : TA} {as : List Rs} {D : Ends} (ho : EvR ta σ H (rX (.ref a))) (hs : SlX.Slt H a C dx vs) (ha : EvA tr σ H as) (k : ∀ ws H1, Same H H1 → Args as H1 ws → sp (.ref a :: ws) H1 (fun _ H' => D.nx σ H') E) :
    tDrop (SlX.tMethSl C sp E ta tr) D σ H := ho.go fun x H1 e1 hx => ⟨a, dx, vs, hx, slt_same hs e1, by
    refine ha H1 e1 _ fun ws H2 e2 aa => ?_
    rw [hx]
    exact k ws H2 (e1.trans e2) aa⟩
theorem q_meth {C a dx : Addr} {sp : Sp} {E : XK} {vs : List (Option V)} {σ : St} {H : Hp} {ta : TE} {tr : TA} {as : List Rs} {D : Ends} {tz : TS} (ho : EvR ta σ H (rX (.ref a))) (hs : SlX.Slt H a C dx vs) (ha : EvA tr σ H as) (k : ∀ ws H1, Same H H1 → Args as H1 ws → sp (.ref a :: ws) H1 (fun _ H' => tz D σ H') E) :
    tSeq (tDrop (SlX.tMethSl C sp E ta tr)) tz D σ H := s_meth (D := { D with nx := tz D }) ho hs ha k
theorem Sat.pin {m : Bool} {Γ : Gam} {σ : St} {H : Hp} (S : Sat m Γ σ H) (i : Nat) {R : Rs} (h : Γ[i]? = some (some R)) : ∃ v, R H v ∧ Sat m (Γ.set i (some (rX v))) σ H := by
  obtain ⟨v, hv, r⟩ := S.get h
  refine ⟨v, r, ?_⟩
  have z := S.set i (mnX (v := v)) rfl
  have e : σ.set i (some v) = σ := by
    obtain ⟨hi, hh⟩ := List.getElem?_eq_some_iff.mp hv
    rw [← hh, List.set_getElem_self]
  rw [e] at z
  exact z
theorem e_methR {C : Addr} {ι : Type} {pre : ι → Prop} {As : ι → List Rs} {TS : ι → Hp → Rs} {E : XK} {σ : St} {H : Hp} {ta : TE} {tr : TA} {as : List Rs} {R T : Rs} (hR : ∀ H v, R H v → ∃ a dx vs, v = .ref a ∧ SlX.Slt H a C dx vs) (hm : Mn false R) (ho : EvR ta σ H R) (ha : EvA tr σ H as)
    (i : ι) (hp : pre i) (hAs : As i = R :: as) (hT : ∀ H0 H' v, Same H H0 → TS i H0 H' v → T H' v) : EvR (SlX.tMethSl C (spS pre As TS) E ta tr) σ H T := fun H1 e Q q =>
  ho H1 e _ fun x H2 e2 hx => by
    obtain ⟨a, dx, vs, rfl, hs⟩ := hR H2 x hx
    refine ⟨a, dx, vs, rfl, hs, ha H2 (e.trans e2) _ fun ws H3 e3 aa => ⟨i, hp, ?_, fun v H' e4 r => q v H' ((e2.trans e3).trans e4) (hT H3 H' v ((e.trans e2).trans e3) r)⟩⟩
    rw [hAs]
    exact ⟨_, ws, rfl, hm _ _ _ e3 hx, aa⟩
theorem Sat.tp {m : Bool} {Γ : Gam} {σ : St} {H : Hp} (S : Sat m Γ σ H) (h : ∀ R ∈ Γ.filterMap id, Mn true R) : Sat true Γ σ H :=
  ⟨S.1, fun i R e => ⟨h R (List.mem_filterMap.mpr ⟨some R, List.mem_of_getElem? e, rfl⟩), (S.2 i R e).2⟩⟩
theorem hid_same' {He H1 : Hp} {q : Addr → Prop} (e : Same He H1) (n : ∀ b, q b → He b = none) : Same He (Hid H1 q) := fun b o h => by
  rw [hid_on fun z => by rw [n b z] at h; cases h]
  exact e _ _ h
theorem e_known {te : TE} {σ : St} {H : Hp} {v : V} {R : Rs} (h : EvR te σ H (rX v)) (r : R H v) (hm : Mn false R) : EvR te σ H R := h.imp fun H2 u e hu => by
  cases hu
  exact hm _ _ _ e r
theorem atI_last {α : Type} {xs : List α} {x : α} : atI (xs ++ [x]) (-1) = some x := by
  have e : ixN (xs ++ [x]).length (-1) = some xs.length := by
    unfold ixN
    rw [if_neg (by decide), List.length_append, List.length_singleton, if_pos (by omega)]
    congr 1
    omega
  unfold atI
  rw [e]
  simp
theorem atI_zero {α : Type} {xs : List α} {x : α} : atI (x :: xs) 0 = some x := by
  unfold atI ixN
  simp
theorem atI_nat {α : Type} {xs : List α} {i : Nat} {x : α} (h : xs[i]? = some x) : atI xs (i : Int) = some x := by
  obtain ⟨hi, e⟩ := List.getElem?_eq_some_iff.mp h
  unfold atI ixN
  rw [if_pos (Int.natCast_nonneg i)]
  simp [hi, e]
theorem fT {α : Type} (l : List α) : l.filter (fun _ => true) = l := List.filter_eq_self.mpr fun _ _ => rfl
theorem t_meth {C a dx : Addr} {sp : Sp} {E : XK} {vs : List (Option V)} {σ : St} {H : Hp} {ta : TE} {tr : TA} {as : List Rs} {Q : VK} (ho : EvR ta σ H (rX (.ref a))) (hs : SlX.Slt H a C dx vs) (ha : EvA tr σ H as) (k : ∀ ws H1, Same H H1 → Args as H1 ws → sp (.ref a :: ws) H1 Q E) :
    SlX.tMethSl C sp E ta tr σ H Q := ho.go fun x H1 e1 hx => ⟨a, dx, vs, hx, slt_same hs e1, by
    refine ha H1 e1 _ fun ws H2 e2 aa => ?_
    rw [hx]
    exact k ws H2 (e1.trans e2) aa⟩
theorem b_meth {C a dx : Addr} {sp : Sp} {E : XK} {vs : List (Option V)} {σ : St} {H : Hp} {ta : TE} {tr : TA} {as : List Rs} {Q : Bool → Hp → Prop} (ho : EvR ta σ H (rX (.ref a))) (hs : SlX.Slt H a C dx vs) (ha : EvA tr σ H as) (k : ∀ ws H1, Same H H1 → Args as H1 ws → sp (.ref a :: ws) H1 (fun x H' => ∃ b, x = .bl b ∧ Q b H') E) :
    tB (SlX.tMethSl C sp E ta tr) σ H Q := t_meth ho hs ha k
theorem e_lenDT {K : PySem.W.Frag} {te : TE} {σ : St} {H : Hp} {d : Addr} {xs : List Ev} {f : Ev → PyData} (h : EvR te σ H (rX (.ref d))) (D : DV kE .dT H d xs f) : EvR (tCB rLenT (tCons te tNil)) σ H (rI (.int xs.length)) := fun H1 e Q q => h H1 e _ fun x H2 e2 hx => by
  cases hx
  obtain ⟨kvs, h1, h2, _⟩ := D.sm (e.trans e2)
  exact ⟨d, kvs, rfl, h1, q _ _ e2 (by rw [DV.len h2]; rfl)⟩
theorem e_newT {σ : St} {H : Hp} : EvR tDNewT σ H (fun H' v => ∃ d, v = .ref d ∧ H d = none ∧ H' d = some (.dT [])) := fun H1 e Q q => fun p hp => q _ _ (same_new hp) ⟨p, rfl, e.free hp, upd_same⟩
theorem dv_nil {H : Hp} {d : Addr} {f : Ev → PyData} (h : H d = some (.dT [])) : DV kE .dT H d [] f := ⟨[], h, rfl, fun x hx => by cases hx⟩
theorem newT_mn {H0 : Hp} : Mn false (fun H' v => ∃ d, v = V.ref d ∧ H0 d = none ∧ H' d = some (.dT [])) := fun _ _ _ e ⟨d, a, b, c⟩ => ⟨d, a, b, e _ _ c⟩
theorem q_ifN {t : TT} {tu tz : TS} {D : Ends} {σ : St} {H : Hp} {b : Bool} (h : EvB t σ H b) (h1 : b = true → ∀ H1, Same H H1 → tu { D with nx := tz D } σ H1) (h2 : b = false → ∀ H1, Same H H1 → tz D σ H1) : tSeq (tIfS t tu tNext) tz D σ H := q_if h h1 h2
theorem s_ifN {t : TT} {tu : TS} {D : Ends} {σ : St} {H : Hp} {b : Bool} (h : EvB t σ H b) (h1 : b = true → ∀ H1, Same H H1 → tu D σ H1) (h2 : b = false → ∀ H1, Same H H1 → D.nx σ H1) : tIfS t tu tNext D σ H := s_if h h1 h2
theorem e_lenDX {te : TE} {σ : St} {H H0 : Hp} {xs : List Ev} {f : Ev → PyData} (h : EvR te σ H (fun H' v => ∃ d, v = V.ref d ∧ H0 d = none ∧ DV kE .dT H' d xs f)) : EvR (tCB rLenT (tCons te tNil)) σ H (rI (.int xs.length)) := fun H1 e Q q => h H1 e _ fun x H2 e2 hx => by
  obtain ⟨d, rfl, _, kvs, h1, h2, _⟩ := hx
  exact ⟨d, kvs, rfl, h1, q _ _ e2 (by rw [DV.len h2]; rfl)⟩
/-- a comprehension whose turns change something -/
theorem t_lcM {α : Type} {enc : α → PyData} {xs : List α} {σ : St} {H H0 : Hp} {wi : TI} {g : TG} {tt : TT} {te : TE} {vs : List Nat} {M : Hp → Hp → Prop} {Q : VK} (h : IterM M wi σ H (xs.map enc)) (e0 : Same H H0)
    (k : ∀ H1 Dl, Same H0 H1 → H1 Dl = none → ∃ Pv : List α → Hp → Prop, Pv [] (upd H1 Dl (.lst [])) ∧ (∀ pre H', Pv pre H' → M H1 H') ∧
      (∀ pre x post H' H'' v, xs = pre ++ x :: post → Pv pre H' → Same H' H'' → Im H'' (enc x) v → g v (wipe σ vs) H'' fun σ2 H2 => wipe σ2 vs = wipe σ vs ∧ tt σ2 H2 fun b H3 => if b = true then te σ2 H3 fun y H4 => ∃ acc, H4 Dl = some (.lst acc) ∧ acc.length < sizeLine ∧ Pv (pre ++ [x]) (upd H4 Dl (.lst (acc ++ [y]))) else Pv (pre ++ [x]) H3) ∧
      (∀ H', Pv xs H' → Q (.ref Dl) H')) : tLc wi g tt te vs σ H0 Q := h H0 e0 _ fun J H1 Kp e y hK => by
  intro Dl hD
  obtain ⟨Pv, p0, pk, ps, pd⟩ := k H1 Dl e hD
  refine loopH (BODY := fun x H' Nx => g x (wipe σ vs) H' fun σ2 H2 => wipe σ2 vs = wipe σ vs ∧ tt σ2 H2 fun b H3 => if b = true then te σ2 H3 fun y H4 => ∃ acc, H4 Dl = some (.lst acc) ∧ acc.length < sizeLine ∧ Nx (upd H4 Dl (.lst (acc ++ [y]))) else Nx H3)
    y (fun i H' => Pv (xs.take i) H') p0 (fun i H' _ w => hK _ (pk _ _ w)) (fun i d x H' H'' ed w s r => ?_) (fun H' w => ?_)
  · obtain ⟨b, hb, rfl, hm, s1, s2⟩ := split2 ed
    have z := ps (xs.take i) b (xs.drop (i + 1)) H' H'' x s2 w s r
    rw [s1]
    exact z
  · rw [List.length_map, List.take_length] at w
    exact pd H' w
end Fs

/-! FsO: the class Order. -/
namespace Fs
open PySem L2
abbrev s_Oinit : Stmt := inClass (topS 4) 1
abbrev s_Oiter : Stmt := inClass (topS 4) 2
abbrev s_Olead : Stmt := inClass (topS 4) 3
abbrev s_Omarked : Stmt := inClass (topS 4) 4
abbrev s_Oahead : Stmt := inClass (topS 4) 7
structure TOr (K : PySem.W.Frag) (mg : Str → Option Value) (cO : Addr) : Prop where
  c : TC K mg "Order" cO
  sE : ∃ p, SlX.Slot1 K cO "own_events" p 0
  sM : ∃ p, SlX.Slot1 K cO "own_marked" p 1
  sN : ∃ p, SlX.Slot1 K cO "own_nexts" p 2
  sP : ∃ p, SlX.Slot1 K cO "own_past" p 3
/-- an order whose nexts stand, the past's dicts known by place -/
structure NextAt (cO : Addr) (L : Lg) (aP : Ev → Addr) (H : Hp) (o : Addr) : Prop where
  ex : ∃ (dx lE lM dN dP : Addr) (zE : List V) (aN : Ev → Addr) (zM : List V), SlX.Slt H o cO dx [some (.ref lE), some (.ref lM), some (.ref dN), some (.ref dP)] ∧ H lE = some (.lst zE) ∧ ImL H ((evs L).map evD) zE ∧ H lM = some (.lst zM) ∧ ImL H ((mks L).map evD) zM ∧
    H dN = some (.dT ((evs L).map fun x => (kE x, V.ref (aN x)))) ∧ H dP = some (.dT ((evs L).map fun x => (kE x, V.ref (aP x)))) ∧ ∀ e ∈ evs L, ∃ z, H (aN e) = some (.lst z) ∧ ImL H ((nxt L e).map evD) z
/-- what lead has done so far -/
structure LeadI (L : Lg) (ev : Ev) (pc pc' : Ev → List Ev) (ws : List Ev) : Prop where
  reach : ∀ w ∈ ws, Ahead L ev w ∧ w ∈ evs L
  other : ∀ b ∈ evs L, ∀ a, a ≠ ev → (a ∈ pc' b ↔ a ∈ pc b)
  sound : ∀ b ∈ evs L, ev ∈ pc' b → Ahead L ev b
  first : ∀ x ∈ nxt L ev, x ∈ ws ∨ ev ∈ pc' x
  next : ∀ b ∈ evs L, ev ∈ pc' b → ∀ x ∈ nxt L b, x ∈ ws ∨ ev ∈ pc' x
theorem nxt_evs {L : Lg} (W : Well L) {a x : Ev} (h : x ∈ nxt L a) : x ∈ evs L := by
  unfold nxt at h
  rcases List.mem_append.mp h with h | h
  · split at h
    · rename_i hc
      rw [List.mem_singleton.mp h]
      exact hc
    · cases h
  · obtain ⟨m, hm, rfl⟩ := List.mem_map.mp h
    exact (W.lets m (List.mem_filter.mp hm).1).2
theorem nxt_len {L : Lg} (W : Well L) (a : Ev) : (nxt L a).length ≤ 101 := by
  unfold nxt
  rw [List.length_append, List.length_map]
  have h1 := List.length_filter_le (fun m : Mg => decide (m.1 = a)) L.2
  have h2 := W.few.2
  split
  · rw [List.length_singleton]; omega
  · rw [List.length_nil]; omega
theorem LeadI.start {L : Lg} (W : Well L) {ev : Ev} (he : ev ∈ evs L) {pc : Ev → List Ev} (h : ∀ b ∈ evs L, ev ∉ pc b) : LeadI L ev pc pc (nxt L ev) :=
  ⟨fun w hw => ⟨.one he hw, nxt_evs W hw⟩, fun _ _ _ _ => Iff.rfl, fun b hb z => absurd z (h b hb), fun x hx => .inl hx, fun b hb z => absurd z (h b hb)⟩
theorem LeadI.skip {L : Lg} {ev : Ev} {pc pc' : Ev → List Ev} {ws : List Ev} {w : Ev} (I : LeadI L ev pc pc' (ws ++ [w])) (h : ev ∈ pc' w) : LeadI L ev pc pc' ws := by
  have key : ∀ x, x ∈ ws ++ [w] ∨ ev ∈ pc' x → x ∈ ws ∨ ev ∈ pc' x := fun x hx => by
    rcases hx with hx | hx
    · rcases List.mem_append.mp hx with z | z
      · exact .inl z
      · rw [List.mem_singleton.mp z]; exact .inr h
    · exact .inr hx
  exact ⟨fun x hx => I.reach x (List.mem_append_left _ hx), I.other, I.sound, fun x hx => key x (I.first x hx), fun b hb hm x hx => key x (I.next b hb hm x hx)⟩
theorem LeadI.put {L : Lg} (W : Well L) {ev : Ev} {pc pc' : Ev → List Ev} {ws : List Ev} {w : Ev} (I : LeadI L ev pc pc' (ws ++ [w])) (h : ev ∉ pc' w) : LeadI L ev pc (fun b => if b = w then pc' w ++ [ev] else pc' b) (ws ++ nxt L w) := by
  obtain ⟨hr, hwE⟩ := I.reach w (List.mem_append_right _ (List.mem_singleton.mpr rfl))
  have in_ : ∀ x, ev ∈ (if x = w then pc' w ++ [ev] else pc' x) ↔ x = w ∨ ev ∈ pc' x := fun x => by
    by_cases e : x = w
    · rw [if_pos e]; simp [e]
    · rw [if_neg e]; simp [e]
  have key : ∀ x, x ∈ ws ++ [w] ∨ ev ∈ pc' x → x ∈ ws ++ nxt L w ∨ ev ∈ (if x = w then pc' w ++ [ev] else pc' x) := fun x hx => by
    rw [in_]
    rcases hx with hx | hx
    · rcases List.mem_append.mp hx with z | z
      · exact .inl (List.mem_append_left _ z)
      · exact .inr (.inl (List.mem_singleton.mp z))
    · exact .inr (.inr hx)
  refine ⟨fun x hx => ?_, fun b hb a ha => ?_, fun b hb hm => ?_, fun x hx => key x (I.first x hx), fun b hb hm x hx => ?_⟩
  · rcases List.mem_append.mp hx with z | z
    · exact I.reach x (List.mem_append_left _ z)
    · exact ⟨.more hr z, nxt_evs W z⟩
  · rw [← I.other b hb a ha]
    by_cases e : b = w
    · show a ∈ (if b = w then _ else _) ↔ _
      rw [if_pos e, e]
      simp [ha]
    · show a ∈ (if b = w then _ else _) ↔ _
      rw [if_neg e]
  · rcases (in_ b).mp hm with e | e
    · rw [e]; exact hr
    · exact I.sound b hb e
  · rcases (in_ b).mp hm with e | e
    · rw [e] at hx
      exact .inl (List.mem_append_right _ hx)
    · exact key x (I.next b hb e x hx)
theorem LeadI.done {L : Lg} (W : Well L) {ev : Ev} {pc pc' : Ev → List Ev} (I : LeadI L ev pc pc' []) : ∀ b, Ahead L ev b → b ∈ evs L ∧ ev ∈ pc' b := by
  intro b h
  induction h with
  | one _ h =>
    refine ⟨nxt_evs W h, ?_⟩
    rcases I.first _ h with z | z
    · cases z
    · exact z
  | more h hc ih =>
    refine ⟨nxt_evs W hc, ?_⟩
    rcases I.next _ ih.1 ih.2 _ hc with z | z
    · cases z
    · exact z
theorem ahead_evs {L : Lg} (W : Well L) {a b : Ev} (h : Ahead L a b) : a ∈ evs L ∧ b ∈ evs L := by
  induction h with
  | one h1 h2 => exact ⟨h1, nxt_evs W h2⟩
  | more _ h2 ih => exact ⟨ih.1, nxt_evs W h2⟩
/-- fewer events are still unmarked -/
theorem count_less {es : List Ev} {p q : Ev → Bool} {w : Ev} (hw : w ∈ es) (h1 : p w = true) (h2 : q w = false) (h : ∀ x, q x = true → p x = true) : (es.filter q).length < (es.filter p).length := by
  induction es with
  | nil => cases hw
  | cons x es ih =>
    have le : ∀ ys : List Ev, (ys.filter q).length ≤ (ys.filter p).length := fun ys => by
      induction ys with
      | nil => exact Nat.le_refl _
      | cons y ys ih2 =>
        rw [List.filter_cons, List.filter_cons]
        by_cases hq : q y = true
        · rw [if_pos hq, if_pos (h y hq), List.length_cons, List.length_cons]; omega
        · rw [if_neg hq]
          split
          · rw [List.length_cons]; omega
          · exact ih2
    rw [List.filter_cons, List.filter_cons]
    rcases List.mem_cons.mp hw with e | e
    · subst e
      rw [if_pos h1, if_neg (by rw [h2]; exact Bool.false_ne_true), List.length_cons]
      have := le es
      omega
    · have := ih e
      by_cases hq : q x = true
      · rw [if_pos hq, if_pos (h x hq), List.length_cons, List.length_cons]; omega
      · rw [if_neg hq]
        split
        · rw [List.length_cons]; omega
        · exact this
section
variable {P : Program} {w : World} {K : PySem.W.Frag} {mg : Str → Option Value} {base : Heap} {cO : Addr}
/-- lead: from the past contents pc to those with ev put wherever it reaches -/
def spLead (cO : Addr) : Sp := fun vs H Q _ => ∃ (L : Lg) (aP : Ev → Addr) (Hc : Hp) (o : Addr) (eo : Ev) (pc : Ev → List Ev), Well L ∧ Args [rX (.ref o), rI (evD eo)] H vs ∧ eo ∈ evs L ∧ NextAt cO L aP Hc o ∧ Same Hc H ∧ (∀ e ∈ evs L, Hc (aP e) = none) ∧ (∀ e ∈ evs L, DV kE .dT H (aP e) (pc e) fun _ => .bool true) ∧
  (∀ e ∈ evs L, (pc e).length ≤ 200) ∧ (∀ x ∈ evs L, ∀ y ∈ evs L, aP x = aP y → x = y) ∧ (∀ b ∈ evs L, eo ∉ pc b) ∧ ∀ (H' : Hp) (pc' : Ev → List Ev), Same Hc H' → Tp H H' → (∀ e ∈ evs L, DV kE .dT H' (aP e) (pc' e) fun _ => .bool true) → (∀ e ∈ evs L, (pc' e).length ≤ (pc e).length + 1) → (∀ b ∈ evs L, ∀ a, a ∈ pc' b ↔ a ∈ pc b ∨ (a = eo ∧ Ahead L eo b)) → Q .non H'
theorem sc_lead : FnScope ["self", "event", "waiting", "here"] ["self", "event"] (defScope s_Olead) := ⟨rfl, rfl, rfl, by decide +kernel, rfl, by decide +kernel, by decide +kernel⟩
theorem ok_lead {f : Addr} {fd : FuncData} (X : TM K cO "lead" "Order.lead" s_Olead ["self", "event"] f fd) (T : TB mg) (O : TOr K mg cO) : FnOk P w K mg base CX0 1 f fd ["self", "event"] (spLead cO) := by
  have nd := sc_lead.nd
  refine X.F.ok sc_lead (fun vs H Q E h => ?_) (fun cdv A outer s H vs Q E hr h => ?_)
  · obtain ⟨L, aP, Hc, o, eo, pc, _, ⟨x, xs, rfl, _, y, ys, rfl, _, rfl⟩, _⟩ := h
    rfl
  · have hu := hu_of hr
    obtain ⟨L, aP, Hc, o, eo, pc, W, ha, hev, hN, sm, hoff, hD, hpl, hinj, hno, k⟩ := h
    refine ⟨_, (pss_cons (ps_set (i := 2) nd rfl (by first | exact Or.inl rfl | exact Or.inr rfl) (pe_callTy call_list_of rfl T.n_list (by decide +kernel) (pa_cons (pe_dget hu (SlX.pe_sl (pv 0)) (pv 1) (fun _ _ => rfl)) pa_nil)))
      (pss_one (ps_while PassesOwn.never (pt_cmpR op_gt (pe_callB call_len_seq rfl T.n_len PySem.boot_len (pa_cons (pv 2) pa_nil)) pe_int (nomark _)) (pss_cons (ps_set (i := 3) nd rfl (by first | exact Or.inl rfl | exact Or.inr rfl) (pe_bm0 PySem.F.plainAttrs_list PySem.F.slot_list_pop PySem.F.type_list_pop mt_pop (pv 2)))
      (pss_one (ps_if (pt_cmp (pc_dnotin hu (pv 1) (pe_dget hu (SlX.pe_sl (pv 0)) (pv 3) (fun _ _ => rfl)))) (pss_cons (ps_dput hu (pe_dget hu (SlX.pe_sl (pv 0)) (pv 3) (fun _ _ => rfl)) (pv 1) pe_bl rfl)
      (pss_one (ps_expr (pe_bm PySem.F.plainAttrs_list PySem.F.slot_list_extend PySem.F.type_list_extend mt_extend (pv 2) (pa_cons (pe_dget hu (SlX.pe_sl (pv 0)) (pv 3) (fun _ _ => rfl)) pa_nil))))) pss_nil)))))), ?_⟩
    have S := sat_start (m := true) (N := ["self", "event", "waiting", "here"]) ha (mlX (mlI ml0))
    obtain ⟨dx, lE, lM, dN, dP, zE, aN, zM, hs, hE, rE, hM, rM, hdN, hdP, hln⟩ := hN.ex
    obtain ⟨p2, sN⟩ := O.sN
    obtain ⟨p3, sP⟩ := O.sP
    obtain ⟨z0, hz0, rz0⟩ := hln eo hev
    refine q_set (e_listLF (e_at (e_dgetO (e_sl (ev S rfl) (slt_same hs sm) O.c.cl sN rfl rfl mnX) (ev S rfl) (sm _ _ hdN) hev) (sm _ _ hz0) (rz0.sm sm))) fun v H1 e1 r => ?_
    obtain ⟨wl, zw, rfl, hwl, hw1, rw1⟩ := r
    have hwc : Hc wl = none := sm.free hwl
    have S1 := (S.sm e1).set 2 (mnX (v := .ref wl)) rfl
    let cnt : (Ev → List Ev) → Nat := fun pc' => ((evs L).filter fun b => !decide (eo ∈ pc' b)).length
    refine s_while (fun m σ' H' => ∃ ws zs pc', Sat true [some (rX (.ref o)), some (rI (evD eo)), some (rX (.ref wl)), none] σ' H' ∧ Same Hc H' ∧ Tp H H' ∧ H' wl = some (.lst zs) ∧ ImL H' (ws.map evD) zs ∧ (∀ e ∈ evs L, DV kE .dT H' (aP e) (pc' e) fun _ => .bool true) ∧ LeadI L eo pc pc' ws ∧
      (∀ e ∈ evs L, (pc' e).length ≤ (pc e).length + (if eo ∈ pc' e then 1 else 0)) ∧ m = 200 * cnt pc' + ws.length ∧ m ≤ 20000 + 300) ⟨nxt L eo, zw, pc, S1, sm.trans e1, e1.tp, hw1, rw1, fun e he => (hD e he).sm e1, .start W hev hno, fun e he => by rw [if_neg (hno e he)]; exact Nat.le_refl _, rfl, ?_⟩ ?_
    · have h1 := nxt_len W eo
      have h2 := W.many
      have h3 := List.length_filter_le (fun b => !decide (eo ∈ pc b)) (evs L)
      show 200 * ((evs L).filter fun b => !decide (eo ∈ pc b)).length + _ ≤ _
      omega
    · rintro m σ' H' ⟨ws, zs, pc', S', sm', tp', hw, rw', hD', I, hlen', rfl, hm⟩
      refine ⟨_, b_test (e_gtI (e_lenL (e_at (ev S' rfl) hw rw')) e_int), fun H2 e2 => ⟨fun hb => ?_, fun hb => ?_⟩⟩
      · rw [decide_eq_true_eq, List.length_map] at hb
        obtain ⟨ws0, w0, rfl⟩ : ∃ ws0 w0, ws = ws0 ++ [w0] := by
          rcases List.eq_nil_or_concat ws with e | ⟨a, b, e⟩
          · rw [e] at hb
            exact absurd hb (by decide)
          · exact ⟨a, b, by rw [e, List.concat_eq_append]⟩
        rw [List.map_append] at rw'
        obtain ⟨hrw, hw0⟩ := I.reach w0 (List.mem_append_right _ (List.mem_singleton.mpr rfl))
        rw [List.length_append, List.length_singleton] at hm
        have dvne : ∀ {H : Hp} {zs : List V}, H wl = some (.lst zs) → ∀ e, DV kE .dT H (aP e) (pc' e) (fun _ => .bool true) → aP e ≠ wl := fun h e D z => by
          obtain ⟨kvs, h1, _⟩ := D
          rw [z, h] at h1
          cases h1
        refine q_pop (ev (S'.sm e2) rfl) (e2 _ _ hw) (rw'.sm e2) fun v H3 zs3 e3 hv hz3 t3 => ?_
        have sm3 : Same Hc (upd H3 wl (.lst zs3)) := same_mut (sm'.trans (e2.trans e3)) hwc
        have S3 := (S'.up (m := true) ((e2.trans e3).tp.trans t3)).set 3 mnI hv
        have D3 : ∀ e ∈ evs L, DV kE .dT (upd H3 wl (.lst zs3)) (aP e) (pc' e) fun _ => .bool true := fun e he => by
          have d1 := (hD' e he).sm (e2.trans e3)
          refine d1.up (fun o ho => ?_) t3
          rw [upd_ne (dvne ((e2.trans e3) _ _ hw) e d1)]
          exact ho
        refine s_if (b_B (e_dnin (ev S3 rfl) (e_dgetO (e_sl (ev S3 rfl) (slt_same hs sm3) O.c.cl sP rfl rfl mnX) (ev S3 rfl) (sm3 _ _ hdP) hw0) (D3 w0 hw0))) (fun hb2 H4 e4 => ?_) (fun hb2 H4 e4 => ?_)
        · have hn : eo ∉ pc' w0 := by simpa using hb2
          have S4 := S3.sm e4
          have sm4 := sm3.trans e4
          have hlw0 : (pc' w0).length ≤ 201 := by
            have h1 := hlen' w0 hw0
            have h2 := hpl w0 hw0
            rw [if_neg hn] at h1
            omega
          refine q_dput e_bl (e_dgetO (e_sl (ev S4 rfl) (slt_same hs sm4) O.c.cl sP rfl rfl mnX) (ev S4 rfl) (sm4 _ _ hdP) hw0) (ev S4 rfl) ((D3 w0 hw0).sm e4) (by omega) fun H5 kv5 e5 D5 t5 => ?_
          rw [if_neg hn] at D5
          have sm5 : Same Hc (upd H5 (aP w0) (.dT kv5)) := same_mut (sm4.trans e5) (hoff w0 hw0)
          have S5 := S4.up (m := true) t5
          have nwl : wl ≠ aP w0 := fun z => dvne (H := upd H3 wl (.lst zs3)) upd_same w0 (D3 w0 hw0) z.symm
          have hw5 : upd H5 (aP w0) (.dT kv5) wl = some (.lst zs3) := by rw [upd_ne nwl]; exact e5 _ _ (e4 _ _ upd_same)
          obtain ⟨zn, hzn, rzn⟩ := hln w0 hw0
          have hlnx := nxt_len W w0
          refine s_ext (ev S5 rfl) hw5 ((hz3.sm e4).up t5) (e_at (e_dgetO (e_sl (ev S5 rfl) (slt_same hs sm5) O.c.cl sN rfl rfl mnX) (ev S5 rfl) (sm5 _ _ hdN) hw0) (sm5 _ _ hzn) (rzn.sm sm5)) (by rw [List.length_map, List.length_map]; omega) fun H6 zs6 e6 r6 t6 => ?_
          have hcnt : cnt (fun b => if b = w0 then pc' w0 ++ [eo] else pc' b) < cnt pc' := by
            refine count_less hw0 (by simp [hn]) (by simp) fun x hx => ?_
            by_cases e : x = w0
            · rw [e] at hx; simp at hx
            · simpa [e] using hx
          refine ⟨200 * cnt (fun b => if b = w0 then pc' w0 ++ [eo] else pc' b) + (ws0 ++ nxt L w0).length, ?_, ws0 ++ nxt L w0, zs6, fun b => if b = w0 then pc' w0 ++ [eo] else pc' b, ?_, ?_, tp'.trans (e2.tp.trans (e3.tp.trans (t3.trans (e4.tp.trans (t5.trans (e6.tp.trans t6)))))), upd_same, ?_, fun e he => ?_, I.put W hn, fun e he => ?_, rfl, ?_⟩
          · rw [List.length_append, List.length_append, List.length_singleton]; omega
          · exact (S5.up (m := true) (e6.tp.trans t6)).fgt 3
          · exact same_mut (sm5.trans e6) hwc
          · rw [List.map_append]; exact r6
          · show DV kE .dT _ (aP e) (if e = w0 then pc' w0 ++ [eo] else pc' e) _
            have d5 : DV kE .dT (upd H5 (aP w0) (.dT kv5)) (aP e) (if e = w0 then pc' w0 ++ [eo] else pc' e) fun _ => .bool true := by
              by_cases h : e = w0
              · rw [if_pos h, h]
                have ef : (fun z => if z = eo then PyData.bool true else PyData.bool true) = fun _ => PyData.bool true := by
                  funext y
                  split <;> rfl
                rw [ef] at D5
                exact D5
              · rw [if_neg h]
                refine ((D3 e he).sm (e4.trans e5)).up (fun o ho => ?_) (tp_dT ((D3 w0 hw0).sm (e4.trans e5)).at.choose_spec)
                rw [upd_ne fun z => h (hinj e he w0 hw0 z)]; exact ho
            refine (d5.sm e6).up (fun o ho => ?_) t6
            rw [upd_ne fun z => ?_]
            · exact ho
            · obtain ⟨kvs, q1, _⟩ := d5
              rw [z, hw5] at q1
              cases q1
          · show (if e = w0 then pc' w0 ++ [eo] else pc' e).length ≤ (pc e).length + (if eo ∈ (if e = w0 then pc' w0 ++ [eo] else pc' e) then 1 else 0)
            have h1 := hlen' e he
            by_cases h : e = w0
            · rw [if_pos h]
              rw [h] at h1 ⊢
              rw [if_neg hn] at h1
              rw [if_pos (by simp), List.length_append, List.length_singleton]
              omega
            · rw [if_neg h]
              exact h1
          · rw [List.length_append]; omega
        · have hin : eo ∈ pc' w0 := by simpa using hb2
          refine ⟨200 * cnt pc' + ws0.length, by rw [List.length_append, List.length_singleton]; omega, ws0, zs3, pc', ?_, sm3.trans e4, tp'.trans (e2.tp.trans (e3.tp.trans (t3.trans e4.tp))), e4 _ _ upd_same, hz3.sm e4, fun e he => (D3 e he).sm e4, I.skip hin, hlen', rfl, by omega⟩
          exact (S3.sm e4).fgt 3
      · have hws : ws = [] := by
          rw [decide_eq_false_iff_not, List.length_map] at hb
          exact List.eq_nil_of_length_eq_zero (by omega)
        subst hws
        refine k H2 pc' (sm'.trans e2) (tp'.trans e2.tp) (fun e he => (hD' e he).sm e2) (fun e he => ?_) fun b hb2 a => ?_
        · have := hlen' e he
          split at this <;> omega
        · by_cases ea : a = eo
          · subst ea
            constructor
            · intro h
              exact .inr ⟨rfl, I.sound b hb2 h⟩
            · rintro (h | ⟨_, h⟩)
              · exact absurd h (hno b hb2)
              · exact (I.done W b h).2
          · rw [I.other b hb2 a ea]
            simp [ea]

/-- an order of the log L -/
def OrdAt (cO : Addr) (L : Lg) : Rs := fun H v => ∃ (o : Addr) (aP : Ev → Addr) (pc : Ev → List Ev), v = .ref o ∧ NextAt cO L aP H o ∧ ∀ e ∈ evs L, DV kE .dT H (aP e) (pc e) (fun _ => .bool true) ∧ ∀ a, a ∈ pc e ↔ Ahead L a e
theorem NextAt.sm {L : Lg} {aP : Ev → Addr} {H H' : Hp} {o : Addr} (N : NextAt cO L aP H o) (e : Same H H') : NextAt cO L aP H' o := by
  obtain ⟨dx, lE, lM, dN, dP, zE, aN, zM, hs, hE, rE, hM, rM, hdN, hdP, hln⟩ := N.ex
  exact ⟨dx, lE, lM, dN, dP, zE, aN, zM, slt_same hs e, e _ _ hE, rE.sm e, e _ _ hM, rM.sm e, e _ _ hdN, e _ _ hdP, fun x hx => by
    obtain ⟨z, a, b⟩ := hln x hx
    exact ⟨z, e _ _ a, b.sm e⟩⟩
instance {L : Lg} : Mo (OrdAt cO L) := ⟨fun e ⟨o, aP, pc, a, b, c⟩ => ⟨o, aP, pc, a, b.sm e, fun x hx => ⟨(c x hx).1.sm e, (c x hx).2⟩⟩⟩
def spOinit (cO : Addr) : Sp := spMk cO (fun L : Lg => Well L) (fun L => [rI (lgD L)]) (OrdAt cO)
theorem fits_ev (n : Nat) (e : Ev) : Fits (n + 2) (evD e) := ⟨by show 2 ≤ 80000; decide, fun x hx => by
  rcases List.mem_cons.mp hx with h | h
  · subst h; exact True.intro
  · rw [List.mem_singleton.mp h]; exact True.intro⟩
theorem fits_mg (n : Nat) (m : Mg) : Fits (n + 3) (mgD m) := ⟨by show 2 ≤ 80000; decide, fun x hx => by
  rcases List.mem_cons.mp hx with h | h
  · subst h; exact fits_ev n _
  · rw [List.mem_singleton.mp h]; exact fits_ev n _⟩
theorem fits_lg {L : Lg} (W : Well L) : Fits 6 (lgD L) := by
  refine ⟨by show 2 ≤ 80000; decide, fun x hx => ?_⟩
  rcases List.mem_cons.mp hx with h | h
  · subst h
    refine ⟨by rw [List.length_map]; have := W.few.1; omega, fun y hy => ?_⟩
    obtain ⟨m, hm, rfl⟩ := List.mem_map.mp hy
    refine ⟨by show 3 ≤ 80000; decide, fun z hz => ?_⟩
    rcases List.mem_cons.mp hz with h | hz
    · subst h; exact True.intro
    rcases List.mem_cons.mp hz with h | hz
    · subst h; exact True.intro
    rw [List.mem_singleton.mp hz]
    refine ⟨by rw [List.length_map]; have := W.marks m hm; omega, fun u hu => ?_⟩
    obtain ⟨i, _, rfl⟩ := List.mem_map.mp hu
    exact True.intro
  · rw [List.mem_singleton.mp h]
    refine ⟨by rw [List.length_map]; have := W.few.2; omega, fun y hy => ?_⟩
    obtain ⟨m, hm, rfl⟩ := List.mem_map.mp hy
    exact fits_mg 1 m
theorem evs_map (L : Lg) : (evs L).map evD = L.1.flatMap fun m => (upTo m.2.1.toNat).map fun i => evD (m.1, i) := by
  unfold evs
  rw [List.map_flatMap]
  congr 1
  funext m
  rw [List.map_map]
  rfl
theorem mks_map (L : Lg) : (mks L).map evD = L.1.flatMap fun m => m.2.2.map fun i => evD (m.1, i) := by
  unfold mks
  rw [List.map_flatMap]
  congr 1
  funext m
  rw [List.map_map]
  rfl
theorem evs_sum (L : Lg) : (L.1.flatMap fun m => upTo m.2.1.toNat).length = (evs L).length := by
  unfold evs
  rw [List.length_flatMap, List.length_flatMap]
  congr 1
  refine List.map_congr_left fun m _ => ?_
  rw [List.length_map]
theorem mks_sum (L : Lg) : (L.1.flatMap fun m => m.2.2).length = (mks L).length := by
  unfold mks
  rw [List.length_flatMap, List.length_flatMap]
  congr 1
  refine List.map_congr_left fun m _ => ?_
  rw [List.length_map]
theorem subset_len {α : Type} [DecidableEq α] : ∀ {l D : List α}, l.Nodup → (∀ x ∈ l, x ∈ D) → l.length ≤ D.length
  | [], _, _, _ => Nat.zero_le _
  | x :: l, D, hn, hs => by
    obtain ⟨h1, h2⟩ := List.nodup_cons.mp hn
    have hx : x ∈ D := hs x List.mem_cons_self
    have ih := subset_len (l := l) (D := D.erase x) h2 fun y hy => by
      have hne : y ≠ x := fun e => h1 (e ▸ hy)
      exact (List.mem_erase_of_ne hne).2 (hs y (List.mem_cons_of_mem _ hy))
    have e := List.length_erase_of_mem hx
    have hp : 0 < D.length := List.length_pos_of_mem hx
    rw [List.length_cons]
    omega
theorem mks_len {L : Lg} (W : Well L) : (mks L).length ≤ 100 := Nat.le_trans (subset_len W.mknd W.mark) W.many
theorem sc_Oinit : FnScope ["self", "log", "machines", "messages", "name", "many", "marks", "number", "event", "sent", "come"] ["self", "log"] (defScope s_Oinit) := ⟨rfl, rfl, rfl, by decide +kernel, rfl, by decide +kernel, by decide +kernel⟩
theorem ok_Oinit {f fT fL : Addr} {fd fdT : FuncData} (X : TM K cO "__init__" "Order.__init__" s_Oinit ["self", "log"] f fd) (T : TB mg) (O : TOr K mg cO) (G_tupled : GF P w K mg base 6 "tupled" fT fdT ["thing"] (spTupled 6)) (M_Order_lead : GM P w K mg base 1 "lead" cO fL (spLead cO)) :
    FnOk P w K mg base CX0 7 f fd ["self", "log"] (spOinit cO) := by
  have nd := sc_Oinit.nd
  refine X.F.ok sc_Oinit (fun vs H Q E h => ?_) (fun cdv A outer s H vs Q E hr h => ?_)
  · obtain ⟨i, H0, x, dx, rest, rfl, _, _, _, _, _, ⟨y, ys, rfl, _, rfl⟩, _⟩ := h
    rfl
  · have hu := hu_of hr
    obtain ⟨L, H0, o, dx, rest, rfl, W, ho0, hd0, hne, rfl, ha, k⟩ := h
    refine ⟨_, (pss_cons (ps_asg (pe_call G_tupled.F (hr.mono (by first | decide | omega)) rfl G_tupled.g G_tupled.kp G_tupled.b .nil pass0 (pa_cons (pv 1) pa_nil)) (pg_tup (by rfl) (pgs_cons (pg_name (i := 2) nd rfl (by first | exact Or.inl rfl | exact Or.inr rfl)) (pgs_cons (pg_name (i := 3) nd rfl (by first | exact Or.inl rfl | exact Or.inr rfl)) pgs_nil))))
      (pss_cons (SlX.ps_sl (pv 0) (pe_lc2 (own := [("name", 4), ("many", 5), ("marks", 6), ("number", 7)]) (g := (gTup K 3 (gCons (gName 4) (gCons (gName 5) (gCons (gName 6) gNil))))) (vs1 := [7]) rfl nd (pi_tup (pv 2)) (blkOk_by (by kernel_rfl)) (by decide) (fun _ _ _ _ _ => (pg_tup (by rfl) (pgs_cons (pg_name (i := 4) nd rfl (by first | exact Or.inl rfl | exact Or.inr rfl)) (pgs_cons (pg_name (i := 5) nd rfl (by first | exact Or.inl rfl | exact Or.inr rfl)) (pgs_cons (pg_name (i := 6) nd rfl (by first | exact Or.inl rfl | exact Or.inr rfl)) pgs_nil))))) (fun _ _ _ _ _ => pts_nil) (fun _ _ _ _ _ => (pi_range1 rfl T.n_range (pa_cons (pv 5) pa_nil))) (fun _ _ _ _ _ => (pg_name (i := 7) nd rfl (by first | exact Or.inl rfl | exact Or.inr rfl))) (fun _ _ _ _ _ => pts_nil) (fun _ _ _ _ _ => (pe_tup (pa_cons (pv 4) (pa_cons (pv 7) pa_nil))))))
      (pss_cons (SlX.ps_sl (pv 0) (pe_lc2 (own := [("name", 4), ("many", 5), ("marks", 6), ("number", 7)]) (wi1 := iTup K (tVar 6)) (g := (gTup K 3 (gCons (gName 4) (gCons (gName 5) (gCons (gName 6) gNil))))) (vs1 := [7]) rfl nd (pi_tup (pv 2)) (blkOk_by (by kernel_rfl)) (by decide) (fun _ _ _ _ _ => (pg_tup (by rfl) (pgs_cons (pg_name (i := 4) nd rfl (by first | exact Or.inl rfl | exact Or.inr rfl)) (pgs_cons (pg_name (i := 5) nd rfl (by first | exact Or.inl rfl | exact Or.inr rfl)) (pgs_cons (pg_name (i := 6) nd rfl (by first | exact Or.inl rfl | exact Or.inr rfl)) pgs_nil))))) (fun _ _ _ _ _ => pts_nil) (fun _ _ _ _ _ => (pi_tup (pv 6))) (fun _ _ _ _ _ => (pg_name (i := 7) nd rfl (by first | exact Or.inl rfl | exact Or.inr rfl))) (fun _ _ _ _ _ => pts_nil) (fun _ _ _ _ _ => (pe_tup (pa_cons (pv 4) (pa_cons (pv 7) pa_nil))))))
      (pss_cons (SlX.ps_sl (pv 0) (pe_dcT (own := [("event", 8)]) rfl hr.units0 nd (pi_list (SlX.pe_sl (pv 0))) (blkOk_by (by kernel_rfl)) (fun _ _ _ _ _ => (pg_name (i := 8) nd rfl (by first | exact Or.inl rfl | exact Or.inr rfl))) (fun _ _ _ _ _ => pts_nil) (fun _ _ _ _ _ => (pv 8)) (fun _ _ _ _ _ => (pe_lst pa_nil))))
      (pss_cons (ps_for PassesOwn.never rfl (pi_list (pe_callTy call_list_of rfl T.n_list (by decide +kernel) (pa_cons (SlX.pe_sl (pv 0)) pa_nil))) (pg_tup (by rfl) (pgs_cons (pg_name (i := 4) nd rfl (by first | exact Or.inl rfl | exact Or.inr rfl)) (pgs_cons (pg_name (i := 7) nd rfl (by first | exact Or.inl rfl | exact Or.inr rfl)) pgs_nil))) (pss_one (ps_if (pt_cmp (pc_din hu (pe_tup (pa_cons (pv 4) (pa_cons (pe_op op_add (pv 7) pe_int) pa_nil))) (SlX.pe_sl (pv 0)))) (pss_one (ps_expr (pe_bm PySem.F.plainAttrs_list PySem.F.slot_list_append PySem.F.type_list_append mt_append (pe_dget hu (SlX.pe_sl (pv 0)) (pe_tup (pa_cons (pv 4) (pa_cons (pv 7) pa_nil))) (fun _ _ => rfl)) (pa_cons (pe_tup (pa_cons (pv 4) (pa_cons (pe_op op_add (pv 7) pe_int) pa_nil))) pa_nil)))) pss_nil)))
      (pss_cons (ps_for PassesOwn.never rfl (pi_tup (pv 3)) (pg_tup (by rfl) (pgs_cons (pg_name (i := 9) nd rfl (by first | exact Or.inl rfl | exact Or.inr rfl)) (pgs_cons (pg_name (i := 10) nd rfl (by first | exact Or.inl rfl | exact Or.inr rfl)) pgs_nil))) (pss_one (ps_expr (pe_bm PySem.F.plainAttrs_list PySem.F.slot_list_append PySem.F.type_list_append mt_append (pe_dget hu (SlX.pe_sl (pv 0)) (pv 9) (fun _ _ => rfl)) (pa_cons (pv 10) pa_nil)))))
      (pss_cons (SlX.ps_sl (pv 0) (pe_dcT (own := [("event", 8)]) rfl hr.units0 nd (pi_list (SlX.pe_sl (pv 0))) (blkOk_by (by kernel_rfl)) (fun _ _ _ _ _ => (pg_name (i := 8) nd rfl (by first | exact Or.inl rfl | exact Or.inr rfl))) (fun _ _ _ _ _ => pts_nil) (fun _ _ _ _ _ => (pv 8)) (fun _ _ _ _ _ => pe_dnewT)))
      (pss_one (ps_for PassesOwn.never rfl (pi_list (SlX.pe_sl (pv 0))) (pg_name (i := 8) nd rfl (by first | exact Or.inl rfl | exact Or.inr rfl)) (pss_one (ps_expr (SlX.pe_methSl (pv 0) M_Order_lead.c M_Order_lead.m M_Order_lead.F (hr.mono (by first | decide | omega)) pass0 (pa_cons (pv 8) pa_nil))))))))))))), ?_⟩
    have e0 : Same H0 (upd (upd H0 dx (.own o)) o (.ins cO dx [])) := same_mut (same_new hd0) ho0
    have A0 : Args [rX (.ref o), rI (lgD L)] (upd (upd H0 dx (.own o)) o (.ins cO dx [])) (.ref o :: rest) := by
      obtain ⟨y, ys, rfl, hy, rfl⟩ := ha
      exact ⟨_, _, rfl, rfl, y, [], rfl, Im.sm hy e0, rfl⟩
    have S := sat_start (m := true) (N := ["self", "log", "machines", "messages", "name", "many", "marks", "number", "event", "sent", "come"]) A0 (mlX (mlI ml0))
    have B : Bld cO o dx (upd (upd H0 dx (.own o)) o (.ins cO dx [])) [] := bld_new hne
    have Z : Bs (fun b => b = o ∨ b = dx) H0 (upd (upd H0 dx (.own o)) o (.ins cO dx [])) := by
      refine ⟨e0, fun b h => ?_, fun b h => ?_, fun b xs h => ?_⟩
      · rcases h with h | h <;> subst h <;> assumption
      · rcases h with h | h <;> subst h
        · exact B.o_some.1
        · exact B.o_some.2
      · have n1 : b ≠ o := fun z => B.not_tup.1 xs (z ▸ h)
        have n2 : b ≠ dx := fun z => B.not_tup.2 xs (z ▸ h)
        rw [upd_ne n1, upd_ne n2] at h
        exact h
    obtain ⟨pE, sE⟩ := O.sE
    obtain ⟨pM, sM⟩ := O.sM
    obtain ⟨pN, sN⟩ := O.sN
    obtain ⟨pP, sP⟩ := O.sP
    generalize upd (upd H0 dx (.own o)) o (.ins cO dx []) = H at S B Z
    refine g_asg S (e_callT (lgD L) (fits_lg W) (aI (ev S rfl) aa_nil) fun _ _ _ _ r => r) (tg_tup (tg_cons tg_i (tg_cons tg_i tg_nil)) rfl) fun σ1 H1 e1 S1 => ?_
    replace B := B.sm e1
    obtain ⟨Hb, Z, sb1, _⟩ := Z.grow0 e1
    -- own_events
    refine q_sl (R := rLF H1 ((evs L).map evD)) ?_ (ev S1 rfl) B O.c.cl sE (fun y H2 e2 r H3 eH B3 t3 => ?_) mnMo
    · rw [evs_map]
      refine e_lc2 (enc := mcD) (enc1 := PyData.int) (ys := fun m => upTo m.2.1.toNat) (F := fun m Γ => ((Γ.set 4 (some (rI (.str m.1.1)))).set 5 (some (rI (.int m.2.1)))).set 6 (some (rI (.tuple (m.2.2.map .int))))) (F1 := fun m i Γ => Γ.set 7 (some (rI (.int i)))) (fun m i => evD (m.1, i)) S1 (i_tup (ev S1 rfl)) ?_
        (fun m _ => tg_tup (tg_cons tg_i (tg_cons tg_i (tg_cons tg_i tg_nil))) rfl) (by decide) (fun m hm σ2 H2 S2 => i_rng (ev S2 rfl) ?_) (fun m _ i _ => tg_i) (by decide) fun m hm i hi σ2 H2 S2 => e_tup (a_cons (ev S2 rfl) (a_cons (ev S2 rfl) a_nil)) (by show 2 ≤ 100000; decide)
      · rw [evs_sum]; have := W.many; omega
      · have := W.size m hm; omega
    obtain ⟨lE, zE, rfl, nE, hE, rE⟩ := r
    obtain ⟨Hb2, Z2, sb2, nw2⟩ := Z.grow0 e2
    have hE2 : Hb2 lE = some (.lst zE) := (nw2 lE nE).trans hE
    have rE2 := Z2.im rE
    have Z3 := Z2.slH (C := cO) (vs := SlX.putS 0 (.ref lE) []) (.inl rfl) (.inr rfl)
    rw [← eH] at Z3
    have S3 := (S1.sm e2).up (m := true) t3
    clear eH nw2 nE hE rE
    -- own_marked
    refine q_sl (R := rLF H3 ((mks L).map evD)) ?_ (ev S3 rfl) B3 O.c.cl sM (fun y H4 e4 r H5 eH B5 t5 => ?_) mnMo
    · rw [mks_map]
      refine e_lc2 (enc := mcD) (enc1 := PyData.int) (ys := fun m => m.2.2) (F := fun m Γ => ((Γ.set 4 (some (rI (.str m.1.1)))).set 5 (some (rI (.int m.2.1)))).set 6 (some (rI (.tuple (m.2.2.map .int))))) (F1 := fun m i Γ => Γ.set 7 (some (rI (.int i)))) (fun m i => evD (m.1, i)) S3 (i_tup (ev S3 rfl)) ?_
        (fun m _ => tg_tup (tg_cons tg_i (tg_cons tg_i (tg_cons tg_i tg_nil))) rfl) (by decide) (fun m hm σ2 H2 S2 => i_tup (ev S2 rfl)) (fun m _ i _ => tg_i) (by decide) fun m hm i hi σ2 H2 S2 => e_tup (a_cons (ev S2 rfl) (a_cons (ev S2 rfl) a_nil)) (by show 2 ≤ 100000; decide)
      rw [mks_sum]; have := mks_len W; omega
    obtain ⟨lM, zM, rfl, nM, hM, rM⟩ := r
    obtain ⟨Hb4, Z4, sb4, nw4⟩ := Z3.grow0 e4
    have hM4 : Hb4 lM = some (.lst zM) := (nw4 lM nM).trans hM
    have rM4 := Z4.im rM
    have hE4 := sb4 _ _ hE2
    have rE4 := rE2.sm sb4
    have Z5 := Z4.slH (C := cO) (vs := SlX.putS 1 (.ref lM) (SlX.putS 0 (.ref lE) [])) (.inl rfl) (.inr rfl)
    rw [← eH] at Z5
    have S5 := (S3.sm e4).up (m := true) t5
    clear eH nw4 nM hM rM
    have ndE := evs_nodup W
    -- own_nexts
    refine q_sl (R := fun H' v => ∃ d adr, v = .ref d ∧ Objs kE .dT (.lst []) H5 d (evs L) adr H') ?_ (ev S5 rfl) B5 O.c.cl sN (fun y H6 e6 r H7 eH B7 t7 => ?_) (fun H H' v e ⟨d, adr, a, b⟩ => ⟨d, adr, a, b.more e⟩)
    · refine e_dcTo (xs := evs L) (enc := evD) (F := fun x Γ => Γ.set 8 (some (rI (evD x)))) kE S5 (i_list (e_at (e_sl (ev S5 rfl) B5.slt O.c.cl sE rfl rfl mnX) (Z5.sm _ _ hE4) (rE4.sm Z5.sm))) (by have := W.many; omega) (fun x _ => tg_i) (by decide) ndE kE_inj makes_lst (fun _ z => nomatch z) fun x hx σ2 H2 S2 => (ev (R := rI (evD x)) S2 rfl).imp fun H' v _ r => ev_at r
    obtain ⟨dN, aN, rfl, J⟩ := r
    obtain ⟨Hb6, Z6, sb6, nw6⟩ := Z5.grow e6 (fun b => ∃ x ∈ evs L, b = aN x) fun b ⟨x, hx, eb⟩ => by
      subst eb
      exact ⟨(J.nw x hx).1, _, (J.nw x hx).2.1, fun xs z => nomatch z⟩
    have hN6 : Hb6 dN = _ := (nw6 dN J.d0 fun ⟨x, hx, z⟩ => (J.nw x hx).2.2 z.symm).trans J.d
    have hE6 := sb6 _ _ hE4
    have rE6 := rE4.sm sb6
    have hM6 := sb6 _ _ hM4
    have rM6 := rM4.sm sb6
    have Z7 := Z6.slH (C := cO) (vs := SlX.putS 2 (.ref dN) (SlX.putS 1 (.ref lM) (SlX.putS 0 (.ref lE) []))) (.inl (.inl rfl)) (.inl (.inr rfl))
    rw [← eH] at Z7
    have S7 := (S5.sm e6).up (m := true) t7
    have nOl : ∀ x ∈ evs L, aN x ≠ o ∧ aN x ≠ dx := fun x hx => by
      have h1 := B5.o_some
      have h2 := (J.nw x hx).1
      exact ⟨fun z => h1.1 (z ▸ h2), fun z => h1.2 (z ▸ h2)⟩
    have lN7 : ∀ x ∈ evs L, H7 (aN x) = some (.lst []) := fun x hx => by
      rw [eH, SlX.slH_ne (nOl x hx).1 (nOl x hx).2]
      exact (J.nw x hx).2.1
    have injN := J.inj
    have s7 := B7.slt
    clear eH nw6 J
    -- what holds while the nexts are filled: the own next for those in pre
    let Fill : (Ev → List Ev) → St → Hp → Prop := fun nc σ' H' => Sat true [some (rX (.ref o)), some (rI (lgD L)), some (rI (.tuple (L.1.map mcD))), some (rI (.tuple (L.2.map mgD))), none, none, none, none, none, none, none] σ' H' ∧ (∃ Hx, Same Hb6 Hx ∧ Bs (fun b => (b = o ∨ b = dx) ∨ ∃ x ∈ evs L, b = aN x) Hx H') ∧
      Bld cO o dx H' (SlX.putS 2 (.ref dN) (SlX.putS 1 (.ref lM) (SlX.putS 0 (.ref lE) []))) ∧ ∀ x ∈ evs L, ∃ z, H' (aN x) = some (.lst z) ∧ ImL H' ((nc x).map evD) z
    have Bld_mut : ∀ {H : Hp} {l : Addr} {z z' : List V} {vs : List (Option V)}, Bld cO o dx H vs → H l = some (.lst z) → Bld cO o dx (upd H l (.lst z')) vs := fun {H l z z' vs} B h => by
      have n1 : o ≠ l := fun e => by
        rcases B.slt with ⟨q, _⟩ | ⟨q, _⟩ <;> rw [e, h] at q <;> cases q
      have n2 : dx ≠ l := fun e => by
        rcases B.ex with q | q <;> rw [e, h] at q <;> cases q
      refine ⟨?_, B.ne, B.ex.imp (fun q => by rw [upd_ne n2]; exact q) (fun q => by rw [upd_ne n2]; exact q)⟩
      rcases B.slt with ⟨q, q2⟩ | ⟨q, q2⟩
      · exact .inl ⟨by rw [upd_ne n1]; exact q, q2⟩
      · exact .inr ⟨by rw [upd_ne n1]; exact q, by rw [upd_ne n2]; exact q2⟩
    have fill_put : ∀ {nc : Ev → List Ev} {σ' : St} {H' H2 : Hp} {x y : Ev} {ws : List V}, x ∈ evs L → Fill nc σ' H' → Same H' H2 → ImL (upd H2 (aN x) (.lst ws)) ((nc x ++ [y]).map evD) ws → Tp H2 (upd H2 (aN x) (.lst ws)) → Fill (fun z => if z = x then nc x ++ [y] else nc z) σ' (upd H2 (aN x) (.lst ws)) := fun {nc σ' H' H2 x y ws} hx hF e hw ht => by
      obtain ⟨f1, f2, f3, f4⟩ := hF
      obtain ⟨z, hz, _⟩ := f4 x hx
      refine ⟨(f1.sm e).up (m := true) ht, ?_, Bld_mut (f3.sm e) (e _ _ hz), fun b hb => ?_⟩
      · obtain ⟨Hx, a1, a2⟩ := f2
        obtain ⟨Hy, b1, b2, _⟩ := a2.grow0 e
        exact ⟨Hy, a1.trans b2, b1.mut (.inr ⟨x, hx, rfl⟩) fun xs q => nomatch q⟩
      · show ∃ z, _ ∧ ImL _ ((if b = x then nc x ++ [y] else nc b).map evD) z
        by_cases h : b = x
        · rw [if_pos h, h]
          exact ⟨ws, upd_same, hw⟩
        · rw [if_neg h]
          obtain ⟨z2, hz2, rz2⟩ := f4 b hb
          exact ⟨z2, by rw [upd_ne fun q => h (injN b hb x hx q)]; exact e _ _ hz2, (rz2.sm e).up ht⟩
    have fill_sm : ∀ {nc : Ev → List Ev} {σ' : St} {H' H2 : Hp}, Fill nc σ' H' → Same H' H2 → Fill nc σ' H2 := fun {nc σ' H' H2} hF e => by
      obtain ⟨f1, ⟨Hx, a1, a2⟩, f3, f4⟩ := hF
      obtain ⟨Hy, b1, b2, _⟩ := a2.grow0 e
      exact ⟨f1.sm e, ⟨Hy, a1.trans b2, b1⟩, f3.sm e, fun b hb => by
        obtain ⟨z2, hz2, rz2⟩ := f4 b hb
        exact ⟨z2, e _ _ hz2, rz2.sm e⟩⟩
    have fill_f : ∀ {nc : Ev → List Ev} {σ' : St} {H' : Hp}, Fill nc σ' H' → Same Hb6 H' := fun {nc σ' H'} hF => by
      obtain ⟨f1, ⟨Hx, a1, a2⟩, f3, f4⟩ := hF
      exact a1.trans a2.sm
    have S7' : Fill (fun _ => []) σ1 H7 := ⟨(((((((S7.fgt 4).fgt 5).fgt 6).fgt 7).fgt 8).fgt 9).fgt 10), ⟨Hb6, Same.refl _, Z7⟩, B7, fun x hx => ⟨[], lN7 x hx, rfl⟩⟩
    have hN0 : ∀ {nc : Ev → List Ev} {σ' : St} {H' : Hp}, Fill nc σ' H' → H' dN = some (.dT ((evs L).map fun x => (kE x, V.ref (aN x)))) := fun hF => fill_f hF _ _ hN6
    clear S7 Z7 lN7
    let own : Ev → List Ev := fun e => if (e.1, e.2 + 1) ∈ evs L then [(e.1, e.2 + 1)] else []
    refine q_forM (enc := evD) (xs := evs L) (i_listF (e_listLF (e_at (e_sl (ev S7'.1 rfl) B7.slt O.c.cl sE rfl rfl mnX) (fill_f S7' _ _ hE6) (rE6.sm (fill_f S7'))))) fun H8 e8 => ⟨fun pre σ' H' => Fill (fun x => if x ∈ pre then own x else []) σ' H' ∧ Fz H7 H8 H', ?_, fun pre σ' H' h => h.2, fun pre x post σ' H' H'' v esp hF sm hv => ?_, fun σ' H' hF => ?_⟩
    · have e1 : (fun x => if x ∈ ([] : List Ev) then own x else []) = fun _ => ([] : List Ev) := by
        funext x
        rw [if_neg (by simp)]
      show Fill (fun x => if x ∈ ([] : List Ev) then own x else []) σ1 H8 ∧ Fz H7 H8 H8
      rw [e1]
      exact ⟨fill_sm S7' e8, fun _ _ _ h => h, Tp.refl _⟩
    · obtain ⟨hF, hz1, hz2⟩ := hF
      have hF := fill_sm hF sm
      have hx : x ∈ evs L := by rw [esp]; simp
      have hpre : x ∉ pre := by
        rw [esp] at ndE
        have := (List.nodup_append.mp ndE).2.2
        exact fun h => this x h x List.mem_cons_self rfl
      obtain ⟨σ2, a2, S2, _⟩ := (tg_tup (K := K) (n := 2) (tg_cons (tg_i (i := 4)) (tg_cons (tg_i (i := 7)) tg_nil)) rfl : Tg _ (rI (evD x)) _ _) true _ v σ' H'' hF.1 hv
      refine a2 _ ?_
      have fin : ∀ {nc : Ev → List Ev} {H3 : Hp}, Sat true _ σ2 H3 → Fill nc σ' H3 → Fill nc σ2 H3 := fun {nc H3} S h => ⟨(Sat.fgt (S : Sat true (([some (rX (.ref o)), some (rI (lgD L)), some (rI (.tuple (L.1.map mcD))), some (rI (.tuple (L.2.map mgD))), none, none, none, none, none, none, none].set 4 (some (rI (.str x.1.1)))).set 7 (some (rI (.int x.2)))) σ2 H3) 4).fgt 7, h.2⟩
      have old : ∀ {H3 H4 : Hp}, Same H'' H3 → (∀ a, H7 a = none → H4 a = H3 a) → Tp H3 H4 → Fz H7 H8 H4 := fun h1 h2 h3 => ⟨fun a o n e => by rw [h2 a n]; exact h1 _ _ (sm _ _ (hz1 a o n e)), hz2.trans (sm.tp.trans (h1.tp.trans h3))⟩
      have hN9 := hN0 hF
      refine s_if (b_B (e_dinO (e := (x.1, x.2 + 1)) (e_tup (a_cons (ev S2 rfl) (a_cons (e_add (ev S2 rfl) e_int) a_nil)) (by show 2 ≤ 100000; decide)) (e_sl (ev S2 rfl) hF.2.2.1.slt O.c.cl sN rfl rfl mnX) hN9)) (fun hb H3 e3 => ?_) (fun hb H3 e3 => ?_)
      · have hF3 := fill_sm hF e3
        have S3 := S2.sm e3
        obtain ⟨z, hz, rz⟩ := hF3.2.2.2 x hx
        replace rz : ImL H3 ((if x ∈ pre then own x else []).map evD) z := rz
        rw [if_neg hpre] at rz
        refine s_appI (d := evD (x.1, x.2 + 1)) (e_dgetO (e := x) (e_sl (ev S3 rfl) hF3.2.2.1.slt O.c.cl sN rfl rfl mnX) (e_tup (a_cons (ev S3 rfl) (a_cons (ev S3 rfl) a_nil)) (by show 2 ≤ 100000; decide)) (hN0 hF3) hx) hz rz (e_tup (a_cons (ev S3 rfl) (a_cons (e_add (ev S3 rfl) e_int) a_nil)) (by show 2 ≤ 100000; decide)) (by show 0 < 100000; decide) fun H4 ws e4 rw4 t4 => ?_
        have hf4 := fill_put (y := (x.1, x.2 + 1)) (nc := fun x => if x ∈ pre then own x else []) hx hF3 e4 (by rw [if_neg hpre]; exact rw4) t4
        refine ⟨fin ((S3.sm e4).up (m := true) t4) ?_, old (e3.trans e4) (fun b n => upd_ne fun q => ?_) t4⟩
        · have ef : (fun z => if z = x then (if x ∈ pre then own x else []) ++ [(x.1, x.2 + 1)] else if z ∈ pre then own z else []) = fun z => if z ∈ pre ++ [x] then own z else [] := by
            funext z
            by_cases h : z = x
            · rw [if_pos h, if_neg hpre, if_pos (by rw [h]; simp), h]
              show _ = if (x.1, x.2 + 1) ∈ evs L then [(x.1, x.2 + 1)] else []
              rw [if_pos (by simpa using hb)]
              rfl
            · rw [if_neg h]
              simp [h]
          rw [ef] at hf4
          exact hf4
        · obtain ⟨z7, q7, _⟩ := S7'.2.2.2 x hx
          rw [q, q7] at n
          cases n
      · have hf3 := fill_sm hF e3
        refine ⟨fin (S2.sm e3) ?_, old e3 (fun b n => rfl) (Tp.refl _)⟩
        have ef : (fun z => if z ∈ pre then own z else []) = fun z => if z ∈ pre ++ [x] then own z else [] := by
          funext z
          by_cases h : z = x
          · rw [if_neg (by rw [h]; exact hpre), if_pos (by rw [h]; simp), h]
            show [] = if (x.1, x.2 + 1) ∈ evs L then [(x.1, x.2 + 1)] else []
            rw [if_neg (by simpa using hb)]
          · simp [h]
        rw [ef] at hf3
        exact hf3
    · have hF : Fill (fun x => if x ∈ evs L then own x else []) σ' H' := hF.1
      clear S7'
      -- the letters
      refine q_for (m := true) (enc := mgD) (xs := L.2) (i_tup (ev hF.1 rfl)) fun H8 e8 => ⟨fun pre σ' H' => Fill (fun x => (if x ∈ evs L then own x else []) ++ (pre.filter fun m => decide (m.1 = x)).map (·.2)) σ' H' ∧ Tp H8 H', ?_, fun pre σ' H' h => h.2, fun pre x post σ3 H3 H4 v esp hF3 sm hv => ?_, fun σ3 H3 hF3 => ?_⟩
      · have e1 : (fun x : Ev => (if x ∈ evs L then own x else []) ++ (([] : List Mg).filter fun m => decide (m.1 = x)).map (·.2)) = fun x => if x ∈ evs L then own x else [] := by
          funext x
          simp
        show Fill (fun x : Ev => (if x ∈ evs L then own x else []) ++ (([] : List Mg).filter fun m => decide (m.1 = x)).map (·.2)) σ' H8 ∧ Tp H8 H8
        rw [e1]
        exact ⟨fill_sm hF e8, Tp.refl _⟩
      · obtain ⟨hF3, t3⟩ := hF3
        have hF4 := fill_sm hF3 sm
        have hxm : x ∈ L.2 := by rw [esp]; simp
        obtain ⟨hs1, hs2⟩ := W.lets x hxm
        obtain ⟨σ2, a2, S2, _⟩ := (tg_tup (K := K) (n := 2) (tg_cons (tg_i (i := 9)) (tg_cons (tg_i (i := 10)) tg_nil)) rfl : Tg _ (rI (mgD x)) _ _) true _ v σ3 H4 hF4.1 hv
        refine a2 _ ?_
        obtain ⟨z, hz, rz⟩ := hF4.2.2.2 x.1 hs1
        have hlen : ((if x.1 ∈ evs L then own x.1 else []) ++ (pre.filter fun m => decide (m.1 = x.1)).map (·.2)).length ≤ 101 := by
          have h1 := nxt_len W x.1
          have h2 := W.few.2
          have h3 := List.length_filter_le (fun m : Mg => decide (m.1 = x.1)) pre
          have h4 := congrArg List.length esp
          rw [List.length_append, List.length_cons] at h4
          rw [if_pos hs1, List.length_append, List.length_map]
          show (if (x.1.1, x.1.2 + 1) ∈ evs L then [(x.1.1, x.1.2 + 1)] else []).length + _ ≤ _
          split
          · rw [List.length_singleton]; omega
          · rw [List.length_nil]; omega
        refine s_appI (d := evD x.2) (e_dgetO (e := x.1) (e_sl (ev S2 rfl) hF4.2.2.1.slt O.c.cl sN rfl rfl mnX) (ev S2 rfl) (hN0 hF4) hs1) hz rz (ev S2 rfl) (by rw [List.length_map]; exact Nat.lt_of_le_of_lt hlen (by decide)) fun H5 ws e5 rw5 t5 => ?_
        have hf5 := fill_put (y := x.2) (nc := fun y => (if y ∈ evs L then own y else []) ++ (pre.filter fun m => decide (m.1 = y)).map (·.2)) hs1 hF4 e5 (by rw [List.map_append]; exact rw5) t5
        have ef : (fun z => if z = x.1 then ((if x.1 ∈ evs L then own x.1 else []) ++ (pre.filter fun m => decide (m.1 = x.1)).map (·.2)) ++ [x.2] else (if z ∈ evs L then own z else []) ++ (pre.filter fun m => decide (m.1 = z)).map (·.2)) =
            fun z => (if z ∈ evs L then own z else []) ++ ((pre ++ [x]).filter fun m => decide (m.1 = z)).map (·.2) := by
          funext z
          by_cases h : z = x.1
          · rw [if_pos h, h, List.filter_append, List.map_append, List.append_assoc]
            simp
          · rw [if_neg h, List.filter_append, List.map_append]
            have h' : ¬ x.1 = z := fun q => h q.symm
            simp [h']
        rw [ef] at hf5
        exact ⟨⟨(Sat.fgt (((S2.sm e5).up (m := true) t5 : Sat true (([some (rX (.ref o)), some (rI (lgD L)), some (rI (.tuple (L.1.map mcD))), some (rI (.tuple (L.2.map mgD))), none, none, none, none, none, none, none].set 9 (some (rI (evD x.1)))).set 10 (some (rI (evD x.2)))) σ2 _)) 9).fgt 10, hf5.2⟩, t3.trans (sm.tp.trans (e5.tp.trans t5))⟩
      · have hF3 : Fill (fun x => (if x ∈ evs L then own x else []) ++ (L.2.filter fun m => decide (m.1 = x)).map (·.2)) σ3 H3 := hF3.1
        have hnx : ∀ x ∈ evs L, ∃ z, H3 (aN x) = some (.lst z) ∧ ImL H3 ((nxt L x).map evD) z := fun x hx => by
          obtain ⟨z, a, b⟩ := hF3.2.2.2 x hx
          replace b : ImL H3 (((if x ∈ evs L then own x else []) ++ (L.2.filter fun m => decide (m.1 = x)).map (·.2)).map evD) z := b
          rw [if_pos hx] at b
          exact ⟨z, a, b⟩
        have hE3 := fill_f hF3 _ _ hE6
        have rE3 := rE6.sm (fill_f hF3)
        have hM3 := fill_f hF3 _ _ hM6
        have rM3 := rM6.sm (fill_f hF3)
        have hN3 := hN0 hF3
        obtain ⟨S3, ⟨Hx, x1, x2⟩, B3, _⟩ := hF3
        have nOl3 : ∀ x ∈ evs L, aN x ≠ o ∧ aN x ≠ dx := nOl
        -- own_past
        refine q_sl (R := fun H' v => ∃ d adr, v = .ref d ∧ Objs kE .dT (.dT []) H3 d (evs L) adr H') ?_ (ev S3 rfl) B3 O.c.cl sP (fun y H4 e4 r H5 eH B5 t5 => ?_) (fun H H' v e ⟨d, adr, a, b⟩ => ⟨d, adr, a, b.more e⟩)
        · refine e_dcTo (xs := evs L) (enc := evD) (F := fun x Γ => Γ.set 8 (some (rI (evD x)))) kE S3 (i_list (e_at (e_sl (ev S3 rfl) B3.slt O.c.cl sE rfl rfl mnX) hE3 rE3)) (by have := W.many; omega) (fun x _ => tg_i) (by decide) ndE kE_inj makes_dT (fun _ z => nomatch z) fun x hx σ2 H2 S2 => (ev (R := rI (evD x)) S2 rfl).imp fun H' v _ r => ev_at r
        obtain ⟨dP, aP, rfl, J⟩ := r
        have off : ∀ {b : Addr} {u : HO}, H3 b = some u → b ≠ o → b ≠ dx → H5 b = some u := fun {b u} h n1 n2 => by
          rw [eH, SlX.slH_ne n1 n2]
          exact e4 _ _ h
        have lne : ∀ {b : Addr} {z : List V}, H3 b = some (.lst z) → b ≠ o ∧ b ≠ dx := fun {b z} h => by
          refine ⟨fun e => ?_, fun e => ?_⟩
          · rcases B3.slt with ⟨q, _⟩ | ⟨q, _⟩ <;> rw [← e, h] at q <;> cases q
          · rcases B3.ex with q | q <;> rw [← e, h] at q <;> cases q
        have dne : ∀ {b : Addr} {z : List (List Key × V)}, H3 b = some (.dT z) → b ≠ o ∧ b ≠ dx := fun {b z} h => by
          refine ⟨fun e => ?_, fun e => ?_⟩
          · rcases B3.slt with ⟨q, _⟩ | ⟨q, _⟩ <;> rw [← e, h] at q <;> cases q
          · rcases B3.ex with q | q <;> rw [← e, h] at q <;> cases q
        have t45 : Tp H4 H5 := t5
        have t35 : Tp H3 H5 := e4.tp.trans t5
        have pne : ∀ x ∈ evs L, aP x ≠ o ∧ aP x ≠ dx := fun x hx => by
          have h2 := (J.nw x hx).1
          exact ⟨fun z => B3.o_some.1 (z ▸ h2), fun z => B3.o_some.2 (z ▸ h2)⟩
        have dpne : dP ≠ o ∧ dP ≠ dx := ⟨fun z => B3.o_some.1 (z ▸ J.d0), fun z => B3.o_some.2 (z ▸ J.d0)⟩
        have hE5 := off hE3 (lne hE3).1 (lne hE3).2
        have hM5 := off hM3 (lne hM3).1 (lne hM3).2
        have hN5 := off hN3 (dne hN3).1 (dne hN3).2
        have hP5 : H5 dP = some (.dT ((evs L).map fun x => (kE x, V.ref (aP x)))) := by
          rw [eH, SlX.slH_ne dpne.1 dpne.2]
          exact J.d
        have hp5 : ∀ x ∈ evs L, H5 (aP x) = some (.dT []) := fun x hx => by
          rw [eH, SlX.slH_ne (pne x hx).1 (pne x hx).2]
          exact (J.nw x hx).2.1
        have S5 := (S3.sm e4).up (m := true) t45
        have Zc : Bs (fun b => ∃ x ∈ evs L, b = aP x) (Hid H5 fun b => ∃ x ∈ evs L, b = aP x) H5 := Bs.of fun b ⟨x, hx, eb⟩ => ⟨_, eb ▸ hp5 x hx, by intro xs q; cases q⟩
        generalize hHc : (Hid H5 fun b => ∃ x ∈ evs L, b = aP x) = Hc at Zc
        have inc : ∀ {b : Addr} {u : HO}, H5 b = some u → (∀ x ∈ evs L, b ≠ aP x) → Hc b = some u := fun {b u} h n => by
          rw [← hHc, hid_on fun ⟨x, hx, q⟩ => n x hx q]
          exact h
        have nP : ∀ {b : Addr} {u : HO}, H3 b = some u → ∀ x ∈ evs L, b ≠ aP x := fun h x hx q => by
          rw [q, (J.nw x hx).1] at h
          cases h
        have NA : NextAt cO L aP Hc o := by
          refine ⟨dx, lE, lM, dN, dP, zE, aN, zM, ?_, inc hE5 (nP hE3), Zc.im (rE3.up t35), inc hM5 (nP hM3), Zc.im (rM3.up t35), inc hN5 (nP hN3), inc hP5 fun x hx q => (J.nw x hx).2.2 q.symm, fun x hx => ?_⟩
          · rcases B5.slt with ⟨q1, q2⟩ | ⟨q1, q2⟩
            · exact .inl ⟨inc q1 fun x hx q => (pne x hx).1 q.symm, q2⟩
            · exact .inr ⟨inc q1 fun x hx q => (pne x hx).1 q.symm, inc q2 fun x hx q => (pne x hx).2 q.symm⟩
          · obtain ⟨z, a, b⟩ := hnx x hx
            exact ⟨z, inc (off a (nOl x hx).1 (nOl x hx).2) (nP a), Zc.im (b.up t35)⟩
        have s05 : Same H0 H5 := fun b u hb => by
          have h3 : H3 b = some u := x2.sm _ _ (x1 _ _ (sb6 _ _ (sb4 _ _ (sb2 _ _ (sb1 _ _ hb)))))
          exact off h3 (ne_of_none hb ho0) (ne_of_none hb hd0)
        clear eH Z6 hnx
        have hEc := inc hE5 (nP hE3)
        have offP : ∀ e ∈ evs L, Hc (aP e) = none := fun e he => Zc.off _ ⟨e, he, rfl⟩
        have injP := J.inj
        refine s_forM (enc := evD) (xs := evs L) (M := At lE) (i_listA (l := lE) (e_sl (ev S5 rfl) B5.slt O.c.cl sE rfl rfl mnX) hE5 (rE3.up t35)) fun H6 e6 => ⟨fun pre σ' H' => Sat true [some (rX (.ref o)), some (rI (lgD L)), some (rI (.tuple (L.1.map mcD))), some (rI (.tuple (L.2.map mgD))), none, none, none, none, none, none, none] σ' H' ∧ Same Hc H' ∧ Tp H6 H' ∧ ∃ pc : Ev → List Ev, ∀ e ∈ evs L,
          DV kE .dT H' (aP e) (pc e) (fun _ => .bool true) ∧ (pc e).length ≤ pre.length ∧ ∀ a, a ∈ pc e ↔ a ∈ pre ∧ Ahead L a e, ?_, fun pre σ' H' h => ⟨?_, h.2.2.1⟩, fun pre x post σ4 H7 H8 v esp hF sm hv => ?_, fun σ4 H7 hF => ?_⟩
        · exact ⟨S5.sm e6, Zc.sm.trans e6, Tp.refl _, fun _ => [], fun e he => ⟨⟨[], e6 _ _ (hp5 e he), rfl, fun x hx => (by cases hx)⟩, Nat.zero_le _, fun a => by simp⟩⟩
        · rw [h.2.1 _ _ hEc, e6 _ _ hE5]
        · obtain ⟨S6, sm6, tp6, pc, hpc⟩ := hF
          have hx : x ∈ evs L := by rw [esp]; simp
          have hpre : x ∉ pre := by
            rw [esp] at ndE
            have := (List.nodup_append.mp ndE).2.2
            exact fun h => this x h x List.mem_cons_self rfl
          have hlen : pre.length ≤ 100 := by
            have h1 := W.many
            have h2 := congrArg List.length esp
            rw [List.length_append] at h2
            omega
          have S7 := (S6.sm sm).set 8 mnI hv
          obtain ⟨dx', vs', hsl⟩ : ∃ dx' vs', SlX.Slt Hc o cO dx' vs' := by
            obtain ⟨dx', _, _, _, _, _, _, _, q, _⟩ := NA.ex
            exact ⟨_, _, q⟩
          refine s_meth (C := cO) (a := o) (as := [rI (evD x)]) (σ := σ4.set 8 (some v)) (ev S7 rfl) (slt_same hsl (sm6.trans sm)) (aI (ev S7 rfl) aa_nil) fun ws H9 e9 aa => ⟨L, aP, Hc, o, x, pc, W, ⟨_, _, rfl, rfl, aa⟩, hx, NA, sm6.trans (sm.trans e9), offP, fun e he => (hpc e he).1.sm (sm.trans e9), fun e he => Nat.le_trans (hpc e he).2.1 (by omega), injP, fun b hb h => hpre (((hpc b hb).2.2 x).mp h).1, fun H' pc' q1 q2 q3 q4 q5 => ?_⟩
          · refine ⟨((S7.up (m := true) (e9.tp.trans q2)).fgt 8), q1, tp6.trans (sm.tp.trans (e9.tp.trans q2)), pc', fun e he => ⟨q3 e he, ?_, fun a => ?_⟩⟩
            · have h1 := q4 e he
              have h2 := (hpc e he).2.1
              rw [List.length_append, List.length_singleton]
              omega
            · rw [q5 e he a, (hpc e he).2.2 a, List.mem_append, List.mem_singleton]
              constructor
              · rintro (⟨h1, h2⟩ | ⟨h1, h2⟩)
                · exact ⟨.inl h1, h2⟩
                · exact ⟨.inr h1, h1 ▸ h2⟩
              · rintro ⟨h1 | h1, h2⟩
                · exact .inl ⟨h1, h2⟩
                · exact .inr ⟨h1, h1 ▸ h2⟩
        · obtain ⟨S6, sm6, tp6, pc, hpc⟩ := hF
          have off0 : Same H0 Hc := fun b u hb => inc (s05 _ _ hb) (nP (x2.sm _ _ (x1 _ _ (sb6 _ _ (sb4 _ _ (sb2 _ _ (sb1 _ _ hb)))))))
          refine k H7 (off0.trans sm6) ⟨o, aP, pc, rfl, NA.sm sm6, fun e he => ⟨(hpc e he).1, fun a => ?_⟩⟩
          rw [(hpc e he).2.2 a]
          refine ⟨fun h => h.2, fun h => ⟨?_, h⟩⟩
          exact (ahead_evs W h).1

/-- is_ahead: the order answers -/
def spOahead (cO : Addr) : Sp := spS (fun i : Lg × Ev × Ev => i.2.2 ∈ evs i.1) (fun i => [OrdAt cO i.1, rI (evD i.2.1), rI (evD i.2.2)]) (fun i _ => rI (.bool (ahead i.1 i.2.1 i.2.2)))
theorem sc_Oahead : FnScope ["self", "one", "other"] ["self", "one", "other"] (defScope s_Oahead) := ⟨rfl, rfl, rfl, by decide +kernel, rfl, by decide +kernel, by decide +kernel⟩
theorem ok_Oahead {f : Addr} {fd : FuncData} (X : TM K cO "is_ahead" "Order.is_ahead" s_Oahead ["self", "one", "other"] f fd) (O : TOr K mg cO) : FnOk P w K mg base CX0 1 f fd ["self", "one", "other"] (spOahead cO) := by
  have nd := sc_Oahead.nd
  refine fn_spS (m := false) X.F sc_Oahead (fun _ => rfl) (fun i => ml mnMo (mlI (mlI ml0))) fun cdv A outer s H0 E hr => ?_
  have hu := hu_of hr
  refine ⟨_, (pss_one (ps_ret (pe_cmp (pc_din hu (pv 1) (pe_dget hu (SlX.pe_sl (pv 0)) (pv 2) (fun _ _ => rfl))) rfl))), ?_⟩
  rintro ⟨L, a, b⟩ hb σ H S Q k
  obtain ⟨v, ⟨o, aP, pc, rfl, N, hpc⟩, S1⟩ := S.pin 0 rfl
  obtain ⟨dx, lE, lM, dN, dP, zE, aN, zM, hs, hE, rE, hM, rM, hdN, hdP, hln⟩ := N.ex
  obtain ⟨pP, sP⟩ := O.sP
  refine s_ret (R := rI (.bool (ahead L a b))) ((e_din (ev S1 rfl) (e_dgetO (e_sl (ev S1 rfl) hs O.c.cl sP rfl rfl mnX) (ev S1 rfl) hdP hb) (hpc b hb).1).isI ?_) k
  refine congrArg PyData.bool ?_
  rw [Bool.eq_iff_iff, decide_eq_true_eq, ahead_iff]
  exact (hpc b hb).2 a
def spOmarked (cO : Addr) : Sp := spS (fun _ : Lg => True) (fun L => [OrdAt cO L]) (fun L H0 => rLF H0 ((mks L).map evD))
theorem sc_Omarked : FnScope ["self"] ["self"] (defScope s_Omarked) := ⟨rfl, rfl, rfl, by decide +kernel, rfl, by decide +kernel, by decide +kernel⟩
theorem ok_Omarked {f : Addr} {fd : FuncData} (X : TM K cO "marked" "Order.marked" s_Omarked ["self"] f fd) (T : TB mg) (O : TOr K mg cO) : FnOk P w K mg base CX0 1 f fd ["self"] (spOmarked cO) := by
  have nd := sc_Omarked.nd
  refine fn_spS (m := false) X.F sc_Omarked (fun _ => rfl) (fun i => ml mnMo ml0) fun cdv A outer s H0 E hr => ?_
  have hu := hu_of hr
  refine ⟨_, (pss_one (ps_ret (pe_callTy call_list_of rfl T.n_list (by decide +kernel) (pa_cons (SlX.pe_sl (pv 0)) pa_nil)))), ?_⟩
  rintro L _ σ H S Q k
  obtain ⟨v, ⟨o, aP, pc, rfl, N, hpc⟩, S1⟩ := S.pin 0 rfl
  obtain ⟨dx, lE, lM, dN, dP, zE, aN, zM, hs, hE, rE, hM, rM, hdN, hdP, hln⟩ := N.ex
  obtain ⟨pM, sM⟩ := O.sM
  exact s_ret (e_listLF (e_at (e_sl (ev S1 rfl) hs O.c.cl sM rfl rfl mnX) hM rM)) k
theorem sc_Oiter : FnScope ["self"] ["self"] (defScope s_Oiter) := ⟨rfl, rfl, rfl, by decide +kernel, rfl, by decide +kernel, by decide +kernel⟩
theorem ok_Oiter {f : Addr} {fd : FuncData} (X : TM K cO "__iter__" "Order.__iter__" s_Oiter ["self"] f fd) (T : TB mg) (O : TOr K mg cO) (h1 : PySem.W.findIn K (.ref cO) "__len__" = some none) (h2 : PySem.W.findIn K (.ref cO) "__length_hint__" = some none) : Itb P w K mg base 1 cO f 0 := by
  refine ⟨X.m.at_, X.m.fn, h1, h2, fnS_of X.F sc_Oiter X.b (fun s vs H Q E h => ?_) fun cdv A outer s H vs Q E hr h => ?_⟩
  · obtain ⟨a, l, rfl, _⟩ := h
    rfl
  · obtain ⟨a, l, rfl, ⟨dx, us, hs, hj, xs, hx⟩, k⟩ := h
    obtain ⟨pE, sE⟩ := O.sE
    refine ⟨_, pss_one (ps_ret (pe_callB ItX.call_iterN rfl T.n_iter (by decide +kernel) (pa_cons (SlX.pe_sl (pv 0)) pa_nil))), ?_⟩
    exact ⟨_, rfl, a, cO, dx, pE, us, 0, _, rfl, hs, O.c.cl, sE, hj, l, xs, rfl, hx, fun it h1 h2 => k it h1 h2⟩
end
end Fs

/-! FsN: coming, the matching, the stairs: definitions and what the walks need of them. -/
namespace Fs
open PySem

/-! ### no circle -/
theorem ahead_rank {L : Lg} {r : Ev → Nat} (h : ∀ a b, a ∈ evs L → b ∈ nxt L a → r a < r b) (W : ∀ a x, x ∈ nxt L a → x ∈ evs L) {a b : Ev} (A : Ahead L a b) : a ∈ evs L ∧ b ∈ evs L ∧ r a < r b := by
  induction A with
  | one h1 h2 => exact ⟨h1, W _ _ h2, h _ _ h1 h2⟩
  | more _ h2 ih => exact ⟨ih.1, W _ _ h2, Nat.lt_trans ih.2.2 (h _ _ ih.2.1 h2)⟩
theorem ahead_trans {L : Lg} {a b c : Ev} (h1 : Ahead L a b) (h2 : Ahead L b c) : Ahead L a c := by
  induction h2 with
  | one _ h => exact .more h1 h
  | more _ h ih => exact .more ih h
/-- the least of a list that is not empty -/
theorem exists_least {α : Type} (r : α → Nat) : ∀ {l : List α}, l ≠ [] → ∃ x ∈ l, ∀ y ∈ l, r x ≤ r y
  | [], h => absurd rfl h
  | [x], _ => ⟨x, List.mem_cons_self, fun y hy => by rw [List.mem_singleton.mp hy]; exact Nat.le_refl _⟩
  | x :: y :: l, _ => by
    obtain ⟨z, hz, h⟩ := exists_least r (l := y :: l) (by simp)
    by_cases c : r x ≤ r z
    · refine ⟨x, List.mem_cons_self, fun u hu => ?_⟩
      rcases List.mem_cons.mp hu with e | e
      · rw [e]; exact Nat.le_refl _
      · exact Nat.le_trans c (h u e)
    · refine ⟨z, List.mem_cons_of_mem _ hz, fun u hu => ?_⟩
      rcases List.mem_cons.mp hu with e | e
      · rw [e]; omega
      · exact h u e

/-! ### coming -/
noncomputable def firstOf (L : Lg) (left : List Ev) : List Ev := left.filter fun e => !(left.any fun o => ahead L o e)
noncomputable def comeF (L : Lg) : Nat → List Ev → List Ev
  | 0, _ => []
  | n + 1, left => match firstOf L left with
    | [] => []
    | e :: _ => e :: comeF L n (left.erase e)
noncomputable def come (L : Lg) : List Ev := comeF L (evs L).length (evs L)

/-! ### the matching -/
/-- what is taken: the events in their order, by which -/
abbrev Tk := List Ev × (Ev → Ev)
def aPut (T : Tk) (e v : Ev) : Tk := (if e ∈ T.1 then T.1 else T.1 ++ [e], fun z => if z = e then v else T.2 z)
/-- the loop of pull over the events os, rec being the pull within -/
def pullL (ah : Ev → Ev → Bool) (rec : Ev → Tk → List Ev → Bool × Tk × List Ev) (e : Ev) : List Ev → Tk → List Ev → Bool × Tk × List Ev
  | [], T, S => (false, T, S)
  | o :: os, T, S =>
    if o ∉ S ∧ ah e o = true then
      if o ∉ T.1 then (true, aPut T o e, S ++ [o])
      else
        let r := rec (T.2 o) T (S ++ [o])
        if r.1 = true then (true, aPut r.2.1 o e, r.2.2) else pullL ah rec e os r.2.1 r.2.2
    else pullL ah rec e os T S
def pullM (ah : Ev → Ev → Bool) (es : List Ev) : Nat → Ev → Tk → List Ev → Bool × Tk × List Ev
  | 0, _, T, S => (false, T, S)
  | n + 1, e, T, S => pullL ah (pullM ah es n) e es T S
def matchM (ah : Ev → Ev → Bool) (es : List Ev) : List Ev → Tk → Tk
  | [], T => T
  | e :: l, T => matchM ah es l (pullM ah es 31 e T []).2.1
def widthM (ah : Ev → Ev → Bool) (es : List Ev) : Int := (es.length : Int) - ((matchM ah es es ([], id)).1.length : Int)
theorem firstOf_some {L : Lg} (W : Well L) {ls : List Ev} (h : ls ≠ []) (hs : ∀ x ∈ ls, x ∈ evs L) (nx : ∀ a x, x ∈ nxt L a → x ∈ evs L) : ∃ e r, firstOf L ls = e :: r ∧ e ∈ ls := by
  obtain ⟨r, hr⟩ := W.rank
  obtain ⟨x, hx, hl⟩ := exists_least r h
  have hm : x ∈ firstOf L ls := by
    unfold firstOf
    rw [List.mem_filter]
    refine ⟨hx, ?_⟩
    rw [Bool.not_eq_true', List.any_eq_false]
    intro o ho ha
    have := (ahead_rank hr nx (ahead_iff.mp ha)).2.2
    have := hl o ho
    omega
  cases e : firstOf L ls with
  | nil => rw [e] at hm; cases hm
  | cons a r =>
    refine ⟨a, r, rfl, ?_⟩
    have : a ∈ firstOf L ls := by rw [e]; exact List.mem_cons_self
    unfold firstOf at this
    exact (List.mem_filter.mp this).1
theorem comeF_step {L : Lg} {ls : List Ev} {e : Ev} {r : List Ev} (h : firstOf L ls = e :: r) (he : e ∈ ls) : comeF L ls.length ls = e :: comeF L (ls.erase e).length (ls.erase e) := by
  have hl := List.length_erase_of_mem he
  have hp := List.length_pos_of_mem he
  have e1 : ls.length = (ls.erase e).length + 1 := by omega
  rw [e1, comeF, h]
/-- what is true of the taken and the seen all along -/
structure PInv (dom : Ev → Prop) (es : List Ev) (T : Tk) (S : List Ev) : Prop where
  tnd : T.1.Nodup
  tin : ∀ x ∈ T.1, x ∈ es ∧ dom (T.2 x)
  snd : S.Nodup
  sin : ∀ x ∈ S, x ∈ es
theorem nodup_snoc {α : Type} {l : List α} {x : α} (h : l.Nodup) (hx : x ∉ l) : (l ++ [x]).Nodup := List.nodup_append.mpr ⟨h, List.nodup_cons.mpr ⟨List.not_mem_nil, List.nodup_nil⟩, fun a ha b hb e => hx (by rw [← List.mem_singleton.mp hb, ← e]; exact ha)⟩
theorem PInv.see {dom : Ev → Prop} {es : List Ev} {T : Tk} {S : List Ev} (I : PInv dom es T S) {o : Ev} (ho : o ∈ es) (h : o ∉ S) : PInv dom es T (S ++ [o]) :=
  ⟨I.tnd, I.tin, nodup_snoc I.snd h, fun x hx => by
    rcases List.mem_append.mp hx with z | z
    · exact I.sin x z
    · rw [List.mem_singleton.mp z]; exact ho⟩
theorem PInv.put {dom : Ev → Prop} {es : List Ev} {T : Tk} {S : List Ev} (I : PInv dom es T S) {o e : Ev} (ho : o ∈ es) (he : dom e) : PInv dom es (aPut T o e) S := by
  refine ⟨?_, fun x hx => ?_, I.snd, I.sin⟩
  · show (if o ∈ T.1 then T.1 else T.1 ++ [o]).Nodup
    by_cases h : o ∈ T.1
    · rw [if_pos h]; exact I.tnd
    · rw [if_neg h]; exact nodup_snoc I.tnd h
  · have hx : x ∈ (if o ∈ T.1 then T.1 else T.1 ++ [o]) := hx
    show x ∈ es ∧ dom (if x = o then e else T.2 x)
    by_cases h : x = o
    · rw [if_pos h, h]; exact ⟨ho, he⟩
    · rw [if_neg h]
      by_cases h2 : o ∈ T.1
      · rw [if_pos h2] at hx; exact I.tin x hx
      · rw [if_neg h2] at hx
        rcases List.mem_append.mp hx with z | z
        · exact I.tin x z
        · exact absurd (List.mem_singleton.mp z) h
theorem pullL_inv {dom : Ev → Prop} {ah : Ev → Ev → Bool} {es : List Ev} {rec : Ev → Tk → List Ev → Bool × Tk × List Ev} (hrec : ∀ t T S, dom t → PInv dom es T S → PInv dom es (rec t T S).2.1 (rec t T S).2.2 ∧ ∀ x ∈ S, x ∈ (rec t T S).2.2) {e : Ev} (he : dom e) :
    ∀ (os : List Ev) (T : Tk) (S : List Ev), (∀ x ∈ os, x ∈ es) → PInv dom es T S → PInv dom es (pullL ah rec e os T S).2.1 (pullL ah rec e os T S).2.2 ∧ ∀ x ∈ S, x ∈ (pullL ah rec e os T S).2.2
  | [], T, S, _, I => ⟨I, fun _ h => h⟩
  | o :: os, T, S, ho, I => by
    have h1 := ho o List.mem_cons_self
    have h2 : ∀ x ∈ os, x ∈ es := fun x hx => ho x (List.mem_cons_of_mem _ hx)
    unfold pullL
    by_cases c : o ∉ S ∧ ah e o = true
    · rw [if_pos c]
      have I1 := I.see h1 c.1
      by_cases c2 : o ∉ T.1
      · rw [if_pos c2]
        exact ⟨I1.put h1 he, fun x hx => List.mem_append_left _ hx⟩
      · rw [if_neg c2]
        have ht : o ∈ T.1 := Classical.not_not.mp c2
        obtain ⟨I2, s2⟩ := hrec (T.2 o) T (S ++ [o]) (I.tin o ht).2 I1
        generalize rec (T.2 o) T (S ++ [o]) = r at I2 s2
        show PInv dom es (if r.1 = true then (true, aPut r.2.1 o e, r.2.2) else pullL ah rec e os r.2.1 r.2.2).2.1 (if r.1 = true then (true, aPut r.2.1 o e, r.2.2) else pullL ah rec e os r.2.1 r.2.2).2.2 ∧ ∀ x ∈ S, x ∈ (if r.1 = true then (true, aPut r.2.1 o e, r.2.2) else pullL ah rec e os r.2.1 r.2.2).2.2
        by_cases c3 : r.1 = true
        · rw [if_pos c3]
          exact ⟨I2.put h1 he, fun x hx => s2 x (List.mem_append_left _ hx)⟩
        · rw [if_neg c3]
          obtain ⟨I3, s3⟩ := pullL_inv hrec he os r.2.1 r.2.2 h2 I2
          exact ⟨I3, fun x hx => s3 x (s2 x (List.mem_append_left _ hx))⟩
    · rw [if_neg c]
      exact pullL_inv hrec he os T S h2 I
theorem pullM_inv {dom : Ev → Prop} {ah : Ev → Ev → Bool} {es : List Ev} : ∀ (n : Nat) (e : Ev) (T : Tk) (S : List Ev), dom e → PInv dom es T S → PInv dom es (pullM ah es n e T S).2.1 (pullM ah es n e T S).2.2 ∧ ∀ x ∈ S, x ∈ (pullM ah es n e T S).2.2
  | 0, e, T, S, _, I => ⟨I, fun _ h => h⟩
  | n + 1, e, T, S, he, I => pullL_inv (fun t T S ht I => pullM_inv n t T S ht I) he es T S (fun _ h => h) I
def unseen (es S : List Ev) : Nat := (es.filter fun x => !decide (x ∈ S)).length
theorem unseen_le {es S S2 : List Ev} (h : ∀ x ∈ S, x ∈ S2) : unseen es S2 ≤ unseen es S := by
  unfold unseen
  induction es with
  | nil => exact Nat.le_refl _
  | cons x es ih =>
    rw [List.filter_cons, List.filter_cons]
    by_cases h1 : x ∈ S2
    · rw [if_neg (by simp [h1])]
      split
      · rw [List.length_cons]; omega
      · exact ih
    · have h0 : x ∉ S := fun z => h1 (h x z)
      rw [if_pos (by simp [h1]), if_pos (by simp [h0]), List.length_cons, List.length_cons]
      omega

/-! ### the growth -/
def bareN : Nm := ⟨"", by decide +kernel⟩
noncomputable def openB (L : Lg) (row : List Ev) (e : Ev) : Bool := match row.getLast? with
  | none => true
  | some x => ahead L x e
noncomputable def gah (L : Lg) (rows : List (List Ev)) (a b : Ev) : Bool :=
  if a.1 = bareN ∨ b.1 = bareN then (!decide (b.1 = bareN)) && openB L (rows.getD a.2.toNat []) b else ahead L a b
def elderE (rows : List (List Ev)) : List Ev := (upTo rows.length).map fun i => (bareN, i)
def newE (L : Lg) (std : Nm → Int) : List Ev := (mks L).filter fun e => decide (std e.1 ≤ e.2)
def rowsD (rows : List (List Ev)) : PyData := .tuple (rows.map fun r => .tuple (r.map evD))
/-- the log as it was at the stand -/
def elderL (L : Lg) (std : Nm → Int) : Lg := (L.1.map fun m => (m.1, std m.1, m.2.2.filter fun i => decide (i < std m.1)), L.2.filter fun m => decide (m.2.2 < std m.2.1))
/-- each event ahead of the next -/
noncomputable def chainB (L : Lg) (row : List Ev) : Bool := (row.zip row.tail).all fun p => ahead L p.1 p.2
theorem ev_name {L : Lg} {e : Ev} (h : e ∈ evs L) : ∃ m ∈ L.1, m.1 = e.1 ∧ 0 ≤ e.2 ∧ e.2 < m.2.1 := by
  unfold evs at h
  obtain ⟨m, hm, h⟩ := List.mem_flatMap.mp h
  obtain ⟨i, hi, rfl⟩ := List.mem_map.mp h
  have := mem_upTo.mp hi
  exact ⟨m, hm, rfl, this.1, by have := this.2; show i < m.2.1; omega⟩
theorem ev_bare {L : Lg} (W : Well L) {e : Ev} (h : e ∈ evs L) : e.1 ≠ bareN := by
  obtain ⟨m, hm, e1, _⟩ := ev_name h
  intro z
  exact W.bare m hm (by rw [e1, z]; rfl)

/-! ### the stairs -/
/-- the steps' counters, the counters' rows -/
abbrev SS := List (List Int) × List (List Ev)
def firstN (m : Int) : Int := (m * (m + 1)).fdiv 2
def beginM (s : SS) : SS := (s.1 ++ [(upTo (s.1.length + 1)).map fun i => (s.2.length : Int) + i], s.2 ++ List.replicate (s.1.length + 1) [])
def sortI (l : List Int) : List Int := l.mergeSort fun a b => decide (a ≤ b)
def rowOf (s : SS) (n : Int) : List Ev := s.2.getD n.toNat []
noncomputable def fitM (L : Lg) (s : SS) (k : Nat) (e : Ev) : List Int :=
  ((sortI (s.1.getD k [])).filter fun n => (rowOf s n).getLast?.any fun x => ahead L x e) ++ (sortI (s.1.getD k [])).filter fun n => (rowOf s n).isEmpty
def openM (s : SS) (k : Nat) : SS := if k = s.1.length then beginM s else s
/-- the step that fits, the stairs begun as far as looked -/
noncomputable def stepM (L : Lg) (e : Ev) : Nat → SS → Nat → SS × Nat
  | 0, s, k => (s, k)
  | f + 1, s, k => if fitM L (openM s k) k e = [] then stepM L e f (openM s k) (k + 1) else (openM s k, k)
def moveM (s : SS) (k : Nat) (c : Int) (e : Ev) : SS :=
  ((if k = 0 then s.1 else (s.1.set k (c :: s.1.getD (k - 1) [])).set (k - 1) ((s.1.getD k []).filter fun n => !decide (n = c))), s.2.set c.toNat (rowOf s c ++ [e]))
noncomputable def putM (L : Lg) (s : SS) (e : Ev) : SS × Int × Nat :=
  let r := stepM L e 20 s 0
  let c := (fitM L r.1 r.2 e).headD 0
  (moveM r.1 r.2 c e, c, r.2 + 1)
def rowsM (s : SS) : List (List Ev) := s.2.filter fun r => !r.isEmpty
/-- numbers within, as many as the steps say -/
structure SOk (s : SS) : Prop where
  cnt : (s.2.length : Int) = firstN s.1.length
  few : s.1.length ≤ 10
  num : ∀ l ∈ s.1, ∀ n ∈ l, 0 ≤ n ∧ n < s.2.length
  row : ∀ r ∈ s.2, r.length ≤ 100
  nd : ∀ l ∈ s.1, l.length ≤ 200
theorem openM_mono (s : SS) (k : Nat) : s.1.length ≤ (openM s k).1.length := by
  unfold openM
  split
  · show s.1.length ≤ (s.1 ++ [_]).length
    rw [List.length_append, List.length_singleton]
    omega
  · exact Nat.le_refl _
theorem stepM_mono (L : Lg) (e : Ev) : ∀ (f : Nat) (s : SS) (k : Nat), s.1.length ≤ (stepM L e f s k).1.1.length
  | 0, _, _ => Nat.le_refl _
  | f + 1, s, k => by
    unfold stepM
    split
    · exact Nat.le_trans (openM_mono s k) (stepM_mono L e f _ _)
    · exact openM_mono s k
theorem stepM_open (L : Lg) (e : Ev) (f : Nat) (s : SS) (k : Nat) : (openM s k).1.length ≤ (stepM L e (f + 1) s k).1.1.length := by
  unfold stepM
  split
  · exact stepM_mono L e f _ _
  · exact Nat.le_refl _

/-! ### the stairs of a log -/
noncomputable def comeK (L : Lg) : List Ev := (come L).filter fun e => decide (e ∈ mks L)
noncomputable def stAfter (L : Lg) (es : List Ev) : SS := es.foldl (fun s e => (putM L s e).1) ([], [])
noncomputable def toldF (L : Lg) : SS → List Ev → List (Ev × Int × Nat)
  | _, [] => []
  | s, e :: es => (e, (putM L s e).2.1, (putM L s e).2.2) :: toldF L (putM L s e).1 es
noncomputable def stairsM (L : Lg) : List (Ev × Int × Nat) := toldF L ([], []) (comeK L)
def tdD (t : Ev × Int × Nat) : PyData := .tuple [evD t.1, .int t.2.1, .int (t.2.2 : Int)]
/-- all goes well with the stairs of L -/
structure StOk (L : Lg) : Prop where
  ok : ∀ pre post, comeK L = pre ++ post → SOk (stAfter L pre)
  st : ∀ pre e post, comeK L = pre ++ e :: post → (stepM L e 20 (stAfter L pre) 0).1.1.length ≤ 10
theorem toldF_snoc (L : Lg) : ∀ (es : List Ev) (s : SS) (e : Ev), toldF L s (es ++ [e]) = toldF L s es ++ [(e, (putM L (es.foldl (fun s e => (putM L s e).1) s) e).2.1, (putM L (es.foldl (fun s e => (putM L s e).1) s) e).2.2)]
  | [], s, e => rfl
  | x :: es, s, e => by
    show (x, _) :: toldF L (putM L s x).1 (es ++ [e]) = _
    rw [toldF_snoc L es]
    rfl
theorem stAfter_snoc (L : Lg) (es : List Ev) (e : Ev) : stAfter L (es ++ [e]) = (putM L (stAfter L es) e).1 := by
  unfold stAfter
  rw [List.foldl_append]
  rfl
theorem comeF_sub (L : Lg) : ∀ (n : Nat) (ls : List Ev), ∀ x ∈ comeF L n ls, x ∈ ls
  | 0, ls, x, h => by cases h
  | n + 1, ls, x, h => by
    unfold comeF at h
    cases e : firstOf L ls with
    | nil => rw [e] at h; cases h
    | cons a r =>
      rw [e] at h
      have ha : a ∈ ls := by
        have : a ∈ firstOf L ls := by rw [e]; exact List.mem_cons_self
        unfold firstOf at this
        exact (List.mem_filter.mp this).1
      rcases List.mem_cons.mp h with q | q
      · rw [q]; exact ha
      · exact List.mem_of_mem_erase (comeF_sub L n _ x q)
theorem come_sub {L : Lg} {x : Ev} (h : x ∈ come L) : x ∈ evs L := comeF_sub L _ _ x h
theorem comeF_len (L : Lg) : ∀ (n : Nat) (ls : List Ev), (comeF L n ls).length ≤ n
  | 0, _ => Nat.le_refl _
  | n + 1, ls => by
    unfold comeF
    cases e : firstOf L ls with
    | nil => exact Nat.zero_le _
    | cons a r =>
      show (a :: comeF L n (ls.erase a)).length ≤ n + 1
      rw [List.length_cons]
      have := comeF_len L n (ls.erase a)
      omega
end Fs

/-! FsP: coming; the crowd. -/
namespace Fs
open PySem L2
abbrev s_coming : Stmt := topS 5
abbrev s_Cinit : Stmt := inClass (topS 7) 1
abbrev s_Citer : Stmt := inClass (topS 7) 2
abbrev s_Cpull : Stmt := inClass (topS 7) 3
abbrev s_Cwidth : Stmt := inClass (topS 7) 4
abbrev s_crowd_of : Stmt := topS 8
abbrev s_width : Stmt := topS 9
section
variable {K : PySem.W.Frag} {σ : St} {H H' : Hp} {ta tb tc te tx : TE} {R T : Rs} {D : Ends} {tz : TS} {m : Bool} {Γ : Gam}
/-- a, b = e, f through a tuple -/
theorem q_two {i j : Nat} {T : Hp → Rs} (S : Sat m Γ σ H) (ha : EvR ta σ H R) (hb : ∀ He, Same H He → EvR tb σ He (T He)) (hT : ∀ He, Mn false (T He)) (k : ∀ v u σ' He H', Same H He → R He v → Same He H' → T He H' u → Sat m ((Γ.set i (some (rX v))).set j (some (rX u))) σ' H' → tz D σ' H') :
    tSeq (tAsg (tTup (tCons ta (tCons tb tNil))) (gTup K 2 (gCons (gName i) (gCons (gName j) gNil)))) tz D σ H := ha.go fun v H1 e1 r => (hb H1 e1).go fun u H2 e2 s => ⟨by show 2 ≤ sizeLine; decide, fun p hp => by
  have e3 : Same H2 (upd H2 p (.tup [v, u])) := same_new hp
  refine ⟨p, [v, u], rfl, SqT.of upd_same, rfl, v, [u], rfl, u, [], rfl, rfl, ?_⟩
  exact k v u _ H1 _ e1 r (e2.trans e3) (hT _ _ _ _ e3 s) (((S.sm (e1.trans (e2.trans e3))).set i mnX rfl).set j mnX rfl)⟩
/-- list(o) of an instance that walks its list -/
theorem e_listIt {C a l : Addr} {j : Nat} {zs : List V} {ds : List PyData} (h : EvR te σ H (rX (.ref a))) (hL : LAt K C j H a l) (hl : H l = some (.lst zs)) (r : ImL H ds zs) : EvR (tCB (rListIt K C j) (tCons te tNil)) σ H (rLF H ds) := fun H1 e Q q => h H1 e _ fun x H2 e2 hx => by
  cases hx
  exact ⟨a, l, zs, rfl, lat_same hL (e.trans e2), e2 _ _ (e _ _ hl), fun p hp => q _ _ (e2.trans (same_new hp)) ⟨p, zs, rfl, (e.trans e2).free hp, upd_same, r.sm ((e.trans e2).trans (same_new hp))⟩⟩
/-- l.remove(e) -/
theorem s_remE {l : Addr} {zs : List V} {es : List Ev} {e : Ev} (ho : EvR ta σ H (rX (.ref l))) (hl : H l = some (.lst zs)) (r : ImL H (es.map evD) zs) (hb : EvR tb σ H (rI (evD e))) (he : e ∈ es)
    (k : ∀ H1 ws, Same H H1 → ImL (upd H1 l (.lst ws)) ((es.erase e).map evD) ws → Tp H1 (upd H1 l (.lst ws)) → D.nx σ (upd H1 l (.lst ws))) : tDrop (tBM K "list" (rRemD K) ta (tCons tb tNil)) D σ H := ho.go fun x H1 e1 hx => by
  cases hx
  refine ⟨.inl ⟨rfl, zs, SqL.of (e1 _ _ hl)⟩, hb H1 e1 _ fun y H2 e2 hy => ?_⟩
  have h2 := e2 _ _ (e1 _ _ hl)
  have r2 := r.sm (e1.trans e2)
  obtain ⟨pre, post, es_eq, hn⟩ := List.eq_append_cons_of_mem he
  have t1 : Tp H2 (upd H2 l (.lst (zs.eraseIdx pre.length))) := tp_lst h2
  have er : es.erase e = pre ++ post := by
    rw [es_eq, List.erase_append_right _ hn, List.erase_cons_head]
  have er2 : (es.map evD).eraseIdx pre.length = (pre ++ post).map evD := by
    rw [es_eq, List.map_append, List.eraseIdx_append_of_length_le (by simp)]
    simp
  refine ⟨l, zs, es.map evD, y, evD e, pre.length, evD e, rfl, rfl, h2, r2.dp _, Im.dp _ _ _ hy, sh_evs es, sh_ev e, ?_, ?_, ?_, k H2 _ (e1.trans e2) ?_ t1⟩
  · rw [List.getElem?_map, es_eq]
    simp
  · rw [eqv_ev]
    simp
  · intro i z hi hz
    rw [List.getElem?_map, es_eq, List.getElem?_append_left hi, List.getElem?_eq_getElem hi] at hz
    cases hz
    show PyData.eqv (evD pre[i]) (evD e) = false
    rw [eqv_ev, decide_eq_false_iff_not]
    intro z
    exact hn (z ▸ List.getElem_mem hi)
  · have z := (r2.up t1).eraseIdx pre.length
    rw [er2] at z
    rw [er]
    exact z
theorem q_remE {l : Addr} {zs : List V} {es : List Ev} {e : Ev} (ho : EvR ta σ H (rX (.ref l))) (hl : H l = some (.lst zs)) (r : ImL H (es.map evD) zs) (hb : EvR tb σ H (rI (evD e))) (he : e ∈ es)
    (k : ∀ H1 ws, Same H H1 → ImL (upd H1 l (.lst ws)) ((es.erase e).map evD) ws → Tp H1 (upd H1 l (.lst ws)) → tz D σ (upd H1 l (.lst ws))) : tSeq (tDrop (tBM K "list" (rRemD K) ta (tCons tb tNil))) tz D σ H := s_remE (D := { D with nx := tz D }) ho hl r hb he k
end
section
variable {P : Program} {w : World} {K : PySem.W.Frag} {mg : Str → Option Value} {base : Heap} {cO cC : Addr}
theorem ordAt_slt {L : Lg} {H : Hp} {v : V} (h : OrdAt cO L H v) : ∃ a dx vs, v = .ref a ∧ SlX.Slt H a cO dx vs := by
  obtain ⟨o, aP, pc, rfl, N, _⟩ := h
  obtain ⟨dx, _, _, _, _, _, _, _, q, _⟩ := N.ex
  exact ⟨o, dx, _, rfl, q⟩
theorem ordAt_lat {L : Lg} {H : Hp} {v : V} (h : OrdAt cO L H v) : ∃ o l zs, v = .ref o ∧ LAt K cO 0 H o l ∧ H l = some (.lst zs) ∧ ImL H ((evs L).map evD) zs := by
  obtain ⟨o, aP, pc, rfl, N, _⟩ := h
  obtain ⟨dx, lE, _, _, _, zE, _, _, q, hE, rE, _⟩ := N.ex
  exact ⟨o, lE, zE, rfl, ⟨dx, _, q, rfl, zE, SqL.of hE⟩, hE, rE⟩
/-- coming -/
def spComing : Sp := spS (fun L : Lg => Well L) (fun L => [rI (lgD L)]) (fun L H0 => rLF H0 ((come L).map evD))
theorem sc_coming : FnScope ["log", "order", "found", "left", "event", "other"] ["log"] (defScope s_coming) := ⟨rfl, rfl, rfl, by decide +kernel, rfl, by decide +kernel, by decide +kernel⟩
theorem ok_coming {f fO fA fI : Addr} {fd : FuncData} (X : TF K mg "coming" s_coming ["log"] f fd) (T : TB mg) (G_Order : GC P w K mg base 7 "Order" cO fO (spOinit cO)) (M_Order_is_ahead : GM P w K mg base 1 "is_ahead" cO fA (spOahead cO)) (I_Order : Itb P w K mg base 1 cO fI 0) :
    FnOk P w K mg base CX0 9 f fd ["log"] spComing := by
  have nd := sc_coming.nd
  refine fn_spS (m := true) X.F sc_coming (fun _ => rfl) (fun i => mlI ml0) fun cdv A outer s H0 E hr => ?_
  have hu := hu_of hr
  refine ⟨_, (pss_cons (ps_asg (pe_tup (pa_cons (StX.pe_makeR G_Order.m G_Order.F (hr.mono (by first | decide | omega)) rfl G_Order.g pass0 (pa_cons (pv 0) pa_nil)) (pa_cons (pe_lst pa_nil) pa_nil))) (pg_tup (by rfl) (pgs_cons (pg_name (i := 1) nd rfl (by first | exact Or.inl rfl | exact Or.inr rfl)) (pgs_cons (pg_name (i := 2) nd rfl (by first | exact Or.inl rfl | exact Or.inr rfl)) pgs_nil))))
      (pss_cons (ps_set (i := 3) nd rfl (by first | exact Or.inl rfl | exact Or.inr rfl) (pe_callTy (call_listIt I_Order (hr.mono (by first | decide | omega))) rfl T.n_list (by decide +kernel) (pa_cons (pv 1) pa_nil)))
      (pss_cons (ps_while PassesOwn.never (pt_cmpR op_gt (pe_callB call_len_seq rfl T.n_len PySem.boot_len (pa_cons (pv 3) pa_nil)) pe_int (nomark _)) (pss_cons (ps_expr (pe_bm PySem.F.plainAttrs_list PySem.F.slot_list_append PySem.F.type_list_append mt_append (pv 2) (pa_cons (pe_ix ix_list (pe_lc (own := [("event", 4)]) (tt := (tNot (tB (tCB (rAny K) (tCons (tLc (iList K _) _ _ _ _) tNil))))) rfl nd (pi_list (pv 3)) (blkOk_by (by kernel_rfl)) (fun _ _ _ _ _ => (pg_name (i := 4) nd rfl (by first | exact Or.inl rfl | exact Or.inr rfl))) (fun _ _ _ _ _ => (pts_one (pt_not (pt_val (pe_callB (cr_any rfl) rfl T.n_any (by decide +kernel) (pa_cons (pe_lc (own := [("other", 5)]) rfl nd (pi_list (pv 3)) (blkOk_by (by kernel_rfl)) (fun _ _ _ _ _ => (pg_name (i := 5) nd rfl (by first | exact Or.inl rfl | exact Or.inr rfl))) (fun _ _ _ _ _ => pts_nil) (fun _ _ _ _ _ => (SlX.pe_methSl (pv 1) M_Order_is_ahead.c M_Order_is_ahead.m M_Order_is_ahead.F (hr.mono (by first | decide | omega)) pass0 (pa_cons (pv 5) (pa_cons (pv 4) pa_nil))))) pa_nil)))))) (fun _ _ _ _ _ => (pv 4))) pe_int (fun _ _ => rfl)) pa_nil)))
      (pss_one (ps_expr (pe_bm PySem.F.plainAttrs_list PySem.F.slot_list_remove PySem.F.type_list_remove (mt_removeD rfl hr.u65) (pv 3) (pa_cons (pe_ix ix_list (pv 2) (pe_un un_neg pe_int) (fun _ _ => rfl)) pa_nil))))))
      (pss_one (ps_ret (pv 2)))))), ?_⟩
  intro L W σ H S Q k
  refine q_two (R := OrdAt cO L) (T := fun He => rLF He []) S (e_make L W (aI (ev S rfl) aa_nil)) (fun He _ => e_lstF a_nil (by decide)) (fun _ => mnMo) fun v u σ1 He H1 e1 hO e1' hF S1 => ?_
  obtain ⟨o, lO, zO, rfl, hL, hl, rO⟩ := ordAt_lat (K := K) hO
  obtain ⟨fl, zf, rfl, hfn, hf, rf⟩ := hF
  cases rf
  have Z1 : Bs (fun b => b = fl) (Hid H1 fun b => b = fl) H1 := Bs.of fun b hb => ⟨_, hb ▸ hf, by intro xs q; cases q⟩
  have hO1 : OrdAt cO L (Hid H1 fun b => b = fl) (.ref o) := mnMo _ _ _ (hid_same' e1' fun b hb => hb ▸ hfn) hO
  generalize (Hid H1 fun b => b = fl) = Hb at Z1 hO1
  refine q_set (e_listIt (ev S1 rfl) (lat_same hL e1') (e1' _ _ hl) (rO.sm e1')) fun v H2 e2 r => ?_
  obtain ⟨ll, zl, rfl, hln, hl2, rl2⟩ := r
  obtain ⟨Hb2, Z2, sb2, _⟩ := Z1.grow e2 (fun b => b = ll) fun b hb => ⟨hb ▸ hln, _, hb ▸ hl2, by intro xs q; cases q⟩
  have hO2 : OrdAt cO L Hb2 (.ref o) := mnMo _ _ _ sb2 hO1
  have S2 := (S1.sm e2).set 3 (mnX (v := .ref ll)) rfl
  have nfl : fl ≠ ll := ne_of_none hf hln
  have hfH : H fl = none := e1.free hfn
  refine q_while (fun n σ' H' => ∃ fs ls zf zl, Sat true [some (rI (lgD L)), some (rX (.ref o)), some (rX (.ref fl)), some (rX (.ref ll)), none, none] σ' H' ∧ (∃ Hx, Same Hb2 Hx ∧ Bs (fun b => b = fl ∨ b = ll) Hx H') ∧ H' fl = some (.lst zf) ∧ ImL H' (fs.map evD) zf ∧ H' ll = some (.lst zl) ∧ ImL H' (ls.map evD) zl ∧
    fs ++ comeF L ls.length ls = come L ∧ ls.Nodup ∧ (∀ x ∈ ls, x ∈ evs L) ∧ fs.length + ls.length ≤ 100 ∧ n = ls.length ∧ Same H H') ⟨[], evs L, [], zl, S2, ⟨Hb2, Same.refl _, Z2⟩, e2 _ _ hf, (show ImL H2 (([] : List Ev).map evD) [] from rfl), hl2, rl2, rfl, evs_nodup W, fun _ h => h, by have := W.many; simpa using this, rfl, (e1.trans e1').trans e2⟩ ?_
  rintro n σ' H3 ⟨fs, ls, zf, zl, S3, ⟨Hx, sx, Z3⟩, hf3, rf3, hl3, rl3, hc, hnd, hsub, hlen, rfl, sH⟩
  refine ⟨_, b_test (e_gtI (e_lenL (e_at (ev S3 rfl) hl3 rl3)) e_int), fun H4 e4 => ⟨fun hb => ?_, fun hb => ?_⟩⟩
  · rw [decide_eq_true_eq, List.length_map] at hb
    have hne : ls ≠ [] := fun z => by rw [z] at hb; exact absurd hb (by decide)
    obtain ⟨e, r, hfo, hel⟩ := firstOf_some W hne hsub fun a x h => nxt_evs W h
    have hstep := comeF_step hfo hel
    have S4 := S3.sm e4
    obtain ⟨Hy, Z4, sy, _⟩ := Z3.grow0 e4
    have hO4 : OrdAt cO L H4 (.ref o) := mnMo _ _ _ (sx.trans (sy.trans Z4.sm)) hO2
    refine q_appI (d := evD e) (ev S4 rfl) (e4 _ _ hf3) (rf3.sm e4) (e_ixL (ds := (firstOf L ls).map evD) (EvR.l (e_lc (enc := evD) (xs := ls) (F := fun x Γ => Γ.set 4 (some (rI (evD x)))) (fun x => !(ls.any fun y => ahead L y x)) evD S4 (i_list (e_at (ev S4 rfl) (e4 _ _ hl3) (rl3.sm e4))) (by omega) (fun x _ => tg_i) (by decide) fun x hx σ5 H5 e5 S5 => ⟨b_not (b_B ?_), fun _ => ev S5 rfl⟩)) e_int (by rw [hfo]; exact atI_zero)) (by rw [List.length_map]; omega) fun H5 ws5 e5 r5 t5 => ?_
    · refine EvR.isI (e_any (bs := ls.map fun y => ahead L y x) ((EvR.l (e_lc (enc := evD) (xs := ls) (F := fun y Γ => Γ.set 5 (some (rI (evD y)))) (fun _ => true) (fun y => .bool (ahead L y x)) S5 (i_list (e_at (ev S5 rfl) (e5 _ _ (e4 _ _ hl3)) (rl3.sm (e4.trans e5)))) (by omega) (fun y _ => tg_i) (by decide) fun y hy σ6 H6 e6 S6 =>
        ⟨b_yes, fun _ => e_methR (R := OrdAt cO L) (fun H v h => ordAt_slt h) mnMo (e_known (R := OrdAt cO L) (ev S6 rfl) (mnMo _ _ _ (e5.trans e6) hO4) mnMo) (aI (ev S6 rfl) (aI (ev S6 rfl) aa_nil)) (L, y, x) (hsub x hx) rfl fun _ _ _ _ r => r⟩)).isL (by rw [fT, List.map_map]; rfl))) ?_
      simp [List.any_map]
    · have nfl' : ll ≠ fl := nfl.symm
      have hl5 : upd H5 fl (.lst ws5) ll = some (.lst zl) := by rw [upd_ne nfl']; exact e5 _ _ (e4 _ _ hl3)
      have rl5 := ((rl3.sm e4).sm e5).up t5
      have S5 := (S4.sm e5).up (m := true) t5
      have r5' : ImL (upd H5 fl (.lst ws5)) ((fs ++ [e]).map evD) ws5 := by rw [List.map_append]; exact r5
      refine s_remE (e := e) (ev S5 rfl) hl5 rl5 (e_ixL (e_at (ev S5 rfl) upd_same r5') (e_neg e_int) (by rw [List.map_append]; exact atI_last)) hel fun H6 ws6 e6 r6 t6 => ?_
      obtain ⟨Hz, Z5, sz, _⟩ := Z4.grow0 e5
      obtain ⟨Hu, Z6, su, _⟩ := (Z5.mut (a := fl) (o := .lst ws5) (.inl rfl) (by intro xs q; cases q)).grow0 e6
      have hle := List.length_erase_of_mem hel
      have hlp := List.length_pos_of_mem hel
      refine ⟨(ls.erase e).length, by omega, fs ++ [e], ls.erase e, ws5, ws6, (S5.sm e6).up (m := true) t6, ⟨Hu, sx.trans (sy.trans (sz.trans su)), Z6.mut (.inr rfl) (by intro xs q; cases q)⟩, ?_, (r5'.sm e6).up t6, upd_same, r6, ?_, hnd.erase e, fun x hx => hsub x (List.mem_of_mem_erase hx), ?_, rfl, ?_⟩
      · rw [upd_ne nfl]; exact e6 _ _ upd_same
      · rw [← hc, hstep, List.append_assoc]
        rfl
      · rw [List.length_append, List.length_singleton]; omega
      · exact same_mut ((same_mut (sH.trans (e4.trans e5)) hfH).trans e6) (((e1.trans e1')).free hln)
  · rw [decide_eq_false_iff_not, List.length_map] at hb
    have hz : ls = [] := List.eq_nil_of_length_eq_zero (by omega)
    subst hz
    have hfs : fs = come L := by rw [← hc]; simp [comeF]
    subst hfs
    exact s_ret (R := rX (.ref fl)) (ev (S3.sm e4) rfl) fun v H5 e5 hv => by
      cases hv
      exact k _ _ (sH.trans (e4.trans e5)) ⟨fl, zf, rfl, hfH, (e4.trans e5) _ _ hf3, rf3.sm (e4.trans e5)⟩
end

/-! ### the crowd -/
structure TCr (K : PySem.W.Frag) (mg : Str → Option Value) (cC : Addr) : Prop where
  c : TC K mg "Crowd" cC
  sO : ∃ p, SlX.Slot1 K cC "own_order" p 1
  sE : ∃ p, SlX.Slot1 K cC "own_events" p 0
/-- a crowd of the events es; of its order R is said -/
def CrowdAt (cC : Addr) (R : Rs) (es : List Ev) : Rs := fun H v => ∃ (c dx : Addr) (vo : V) (l : Addr) (z : List V), v = .ref c ∧ SlX.Slt H c cC dx [some (.ref l), some vo] ∧ R H vo ∧ H l = some (.lst z) ∧ ImL H (es.map evD) z
theorem crowd_mn {cC : Addr} {R : Rs} {es : List Ev} (h : Mn false R) : Mn false (CrowdAt cC R es) := fun H H' v e ⟨c, dx, vo, l, z, a, b, r, d, f⟩ => ⟨c, dx, vo, l, z, a, slt_same b e, h _ _ _ e r, e _ _ d, f.sm e⟩
theorem crowd_slt {cC : Addr} {R : Rs} {es : List Ev} {H : Hp} {v : V} (h : CrowdAt cC R es H v) : ∃ a dx vs, v = .ref a ∧ SlX.Slt H a cC dx vs := by
  obtain ⟨c, dx, vo, l, z, a, b, _⟩ := h
  exact ⟨c, dx, _, a, b⟩
def spCinit (cC : Addr) : Sp := spMk cC (fun _ : {R : Rs // Mn false R} × List Ev => True) (fun i => [i.1.1, rL (i.2.map evD)]) (fun i => CrowdAt cC i.1.1 i.2)
/-- what an order, or a growth, is asked -/
def spAsk {ι : Type} (dom : ι → Ev → Prop) (R : ι → Rs) (ah : ι → Ev → Ev → Bool) : Sp := spS (fun i : ι × Ev × Ev => dom i.1 i.2.1 ∧ dom i.1 i.2.2) (fun i => [R i.1, rI (evD i.2.1), rI (evD i.2.2)]) (fun i _ => rI (.bool (ah i.1 i.2.1 i.2.2)))
def spPull (cC : Addr) {ι : Type} (dom : ι → Ev → Prop) (R : ι → Rs) (ah : ι → Ev → Ev → Bool) (n : Nat) : Sp := fun vs H Q _ => ∃ (i : ι) (es : List Ev) (Hb : Hp) (c tk sn : Addr) (ve : V) (e : Ev) (T : Tk) (S : List Ev), unseen es S < n ∧ vs = [.ref c, ve, .ref tk, .ref sn] ∧ CrowdAt cC (R i) es Hb (.ref c) ∧ Im H (evD e) ve ∧
  Same Hb H ∧ Hb tk = none ∧ Hb sn = none ∧ tk ≠ sn ∧ DV kE .dT H tk T.1 (fun z => evD (T.2 z)) ∧ DV kE .dT H sn S (fun _ => .bool true) ∧ dom i e ∧ (∀ x ∈ es, dom i x) ∧ es.length ≤ 200 ∧ PInv (dom i) es T S ∧
  ∀ H', Same Hb H' → Tp H H' → DV kE .dT H' tk (pullM (ah i) es n e T S).2.1.1 (fun z => evD ((pullM (ah i) es n e T S).2.1.2 z)) → DV kE .dT H' sn (pullM (ah i) es n e T S).2.2 (fun _ => .bool true) → Q (.bl (pullM (ah i) es n e T S).1) H'
section
variable {P : Program} {w : World} {K : PySem.W.Frag} {mg : Str → Option Value} {base : Heap} {cO cC : Addr}
theorem sc_Cinit : FnScope ["self", "order", "some"] ["self", "order", "some"] (defScope s_Cinit) := ⟨rfl, rfl, rfl, by decide +kernel, rfl, by decide +kernel, by decide +kernel⟩
theorem ok_Cinit {f : Addr} {fd : FuncData} (X : TM K cC "__init__" "Crowd.__init__" s_Cinit ["self", "order", "some"] f fd) (T : TB mg) (O : TCr K mg cC) : FnOk P w K mg base CX0 1 f fd ["self", "order", "some"] (spCinit cC) := by
  have nd := sc_Cinit.nd
  refine X.F.ok sc_Cinit (fun vs H Q E h => ?_) (fun cdv A outer s H vs Q E hr h => ?_)
  · obtain ⟨i, H0, x, dx, rest, rfl, _, _, _, _, _, ⟨y, ys, rfl, _, z, zs, rfl, _, rfl⟩, _⟩ := h
    rfl
  · have hu := hu_of hr
    obtain ⟨⟨⟨R, hR⟩, es⟩, H0, o, dx, rest, rfl, _, ho0, hd0, hne, rfl, ⟨vo, ys, rfl, hvo, vl, zs, rfl, hvl, rfl⟩, k⟩ := h
    refine ⟨_, (pss_cons (SlX.ps_sl (pv 0) (pv 1))
      (pss_one (SlX.ps_sl (pv 0) (pe_callTy call_list_of rfl T.n_list (by decide +kernel) (pa_cons (pv 2) pa_nil))))), ?_⟩
    have e0 : Same H0 (upd (upd H0 dx (.own o)) o (.ins cC dx [])) := same_mut (same_new hd0) ho0
    have B : Bld cC o dx (upd (upd H0 dx (.own o)) o (.ins cC dx [])) [] := bld_new hne
    obtain ⟨pO, sO⟩ := O.sO
    obtain ⟨pE, sE⟩ := O.sE
    obtain ⟨l, z, rfl, hl, rl⟩ := hvl
    have S : Sat true [some (rX (.ref o)), some (rX vo), some (rX (.ref l))] [some (.ref o), some vo, some (.ref l)] (upd (upd H0 dx (.own o)) o (.ins cC dx [])) := ⟨rfl, fun i T h => by
      match i, h with
      | 0, h => cases h; exact ⟨mnX, _, rfl, rfl⟩
      | 1, h => cases h; exact ⟨mnX, _, rfl, rfl⟩
      | 2, h => cases h; exact ⟨mnX, _, rfl, rfl⟩⟩
    refine q_sl (R := rX vo) (ev S rfl) (ev S rfl) B O.c.cl sO (fun y H1 e1 hy H2 eH B2 t2 => ?_) mnX
    cases hy
    have n1 : l ≠ o := ne_of_none hl ho0
    have n2 : l ≠ dx := ne_of_none hl hd0
    have s2 : Same H0 H2 := fun b u hb => by
      rw [eH, SlX.slH_ne (ne_of_none hb ho0) (ne_of_none hb hd0)]
      exact e1 _ _ (e0 _ _ hb)
    have S2 := (S.sm e1).up (m := true) t2
    refine s_sl (R := rLF H2 (es.map evD)) (e_listLF (e_at (ev S2 rfl) (s2 _ _ hl) (rl.sm s2))) (ev S2 rfl) B2 O.c.cl sE (fun y H3 e3 hy H4 eH4 B4 t4 => ?_) mnMo
    obtain ⟨l2, z2, rfl, hn2, hl2, rl2⟩ := hy
    have s4 : Same H0 H4 := fun b u hb => by
      rw [eH4, SlX.slH_ne (ne_of_none hb ho0) (ne_of_none hb hd0)]
      exact e3 _ _ (s2 _ _ hb)
    refine k H4 s4 ⟨o, dx, vo, l2, z2, rfl, B4.slt, hR _ _ _ s4 hvo, ?_, rl2.up t4⟩
    rw [eH4, SlX.slH_ne (fun q => B2.o_some.1 (by rw [← q]; exact hn2)) (fun q => B2.o_some.2 (by rw [← q]; exact hn2))]
    exact hl2
theorem sc_Citer : FnScope ["self"] ["self"] (defScope s_Citer) := ⟨rfl, rfl, rfl, by decide +kernel, rfl, by decide +kernel, by decide +kernel⟩
theorem ok_Citer {f : Addr} {fd : FuncData} (X : TM K cC "__iter__" "Crowd.__iter__" s_Citer ["self"] f fd) (T : TB mg) (O : TCr K mg cC) (h1 : PySem.W.findIn K (.ref cC) "__len__" = some none) (h2 : PySem.W.findIn K (.ref cC) "__length_hint__" = some none) : Itb P w K mg base 1 cC f 0 := by
  refine ⟨X.m.at_, X.m.fn, h1, h2, fnS_of X.F sc_Citer X.b (fun s vs H Q E h => ?_) fun cdv A outer s H vs Q E hr h => ?_⟩
  · obtain ⟨a, l, rfl, _⟩ := h
    rfl
  · obtain ⟨a, l, rfl, ⟨dx, us, hs, hj, xs, hx⟩, k⟩ := h
    obtain ⟨pE, sE⟩ := O.sE
    refine ⟨_, pss_one (ps_ret (pe_callB ItX.call_iterN rfl T.n_iter (by decide +kernel) (pa_cons (SlX.pe_sl (pv 0)) pa_nil))), ?_⟩
    exact ⟨_, rfl, a, cC, dx, pE, us, 0, _, rfl, hs, O.c.cl, sE, hj, l, xs, rfl, hx, fun it h1 h2 => k it h1 h2⟩
theorem sc_Cpull : FnScope ["self", "event", "taken", "seen", "other"] ["self", "event", "taken", "seen"] (defScope s_Cpull) := ⟨rfl, rfl, rfl, by decide +kernel, rfl, by decide +kernel, by decide +kernel⟩
theorem ok_Cpull {ι : Type} {dom : ι → Ev → Prop} {R : ι → Rs} {ah : ι → Ev → Ev → Bool} {C f fA fI : Addr} {fd : FuncData} {kA : Nat} (hR : ∀ i H v, R i H v → ∃ a dx vs, v = .ref a ∧ SlX.Slt H a C dx vs) (hmn : ∀ i, Mn false (R i))
    (X : TM K cC "pull" "Crowd.pull" s_Cpull ["self", "event", "taken", "seen"] f fd) (T : TB mg) (O : TCr K mg cC) (M_o_is_ahead : GM P w K mg base kA "is_ahead" C fA (spAsk dom R ah)) (I_Crowd : Itb P w K mg base 1 cC fI 0) :
    ∀ n, FnOk P w K mg base CX0 (n + kA + 1) f fd ["self", "event", "taken", "seen"] (spPull cC dom R ah n) := by
  have nd := sc_Cpull.nd
  intro n
  induction n with
  | zero => exact ⟨fun vs H Q E ⟨i, es, Hb, c, tk, sn, ve, e, T, S, h, _⟩ => absurd h (Nat.not_lt_zero _), fun A outer s H args us vs Q E _ _ _ _ ⟨i, es, Hb, c, tk, sn, ve, e, T, S, h, _⟩ => absurd h (Nat.not_lt_zero _)⟩
  | succ n ih =>
    have M_Crowd_pull : GM P w K mg base (n + kA + 1) "pull" cC f (spPull cC dom R ah n) := ⟨fnR_of ih X.b, O.c.cl, X.m⟩
    have lv : n + 1 + kA + 1 = (n + kA + 1) + 1 := by omega
    rw [lv]
    refine X.F.ok sc_Cpull (fun vs H Q E h => ?_) (fun cdv A outer s H vs Q E hr h => ?_)
    · obtain ⟨i, es, Hb, c, tk, sn, ve, e, T, S, _, rfl, _⟩ := h
      rfl
    · have hu := hu_of hr
      refine ⟨_, (pss_cons (ps_for PassesOwn.never rfl (pi_own I_Crowd (hr.mono (by first | decide | omega)) (pv 0)) (pg_name (i := 4) nd rfl (by first | exact Or.inl rfl | exact Or.inr rfl)) (pss_one (ps_if (PW.pt (pw_and (pt_cmp (pc_dnotin hu (pv 4) (pv 3))) (pw_and1 (pt_val (SlX.pe_methSl (SlX.pe_sl (pv 0)) M_o_is_ahead.c M_o_is_ahead.m M_o_is_ahead.F (hr.mono (by first | decide | omega)) pass0 (pa_cons (pv 1) (pa_cons (pv 4) pa_nil))))))) (pss_cons (ps_dput hu (pv 3) (pv 4) pe_bl rfl)
      (pss_one (ps_if (PW.pt (pw_or (pt_cmp (pc_dnotin hu (pv 4) (pv 2))) (pw_or1 (pt_val (SlX.pe_methSl (pv 0) M_Crowd_pull.c M_Crowd_pull.m M_Crowd_pull.F (hr.mono (by first | decide | omega)) pass0 (pa_cons (pe_dget hu (pv 2) (pv 4) (fun _ _ => rfl)) (pa_cons (pv 2) (pa_cons (pv 3) pa_nil)))))))) (pss_cons (ps_dput hu (pv 2) (pv 4) (pv 1) rfl)
      (pss_one (ps_ret pe_bl))) pss_nil))) pss_nil)))
      (pss_one (ps_ret pe_bl))), ?_⟩
      obtain ⟨i, es, Hb, c, tk, sn, ve, e, T, S, hun, rfl, ⟨c', dx, vo, l, z, ec, hs, hvo, hl, rl⟩, hve, sm, ht0, hs0, hts, DT, DS, hde, hdes, hles, PI0, k⟩ := h
      cases ec
      obtain ⟨pO, sO⟩ := O.sO
      have S0 : Sat true [some (rX (.ref c)), some (rI (evD e)), some (rX (.ref tk)), some (rX (.ref sn)), none] [some (.ref c), some ve, some (.ref tk), some (.ref sn), none] H := ⟨rfl, fun j T h => by
        match j, h with
        | 0, h => cases h; exact ⟨mnX, _, rfl, rfl⟩
        | 1, h => cases h; exact ⟨mnI, _, rfl, hve⟩
        | 2, h => cases h; exact ⟨mnX, _, rfl, rfl⟩
        | 3, h => cases h; exact ⟨mnX, _, rfl, rfl⟩
        | 4, h => cases h⟩
      have hLAt : LAt K cC 0 Hb c l := ⟨dx, _, hs, rfl, z, SqL.of hl⟩
      have dne : ∀ {H' : Hp} {d d' : Addr} {xs ys : List Ev} {f g : Ev → PyData}, d ≠ d' → DV kE .dT H' d xs f → ∀ w, Tp H' (upd H' d' (.dT w)) → DV kE .dT (upd H' d' (.dT w)) d xs f := fun n D w tp => D.up (fun o ho => by rw [upd_ne n]; exact ho) tp
      refine q_forM (M := At l) (enc := evD) (xs := es) (i_ownA (ev S0 rfl) (lat_same hLAt sm) (sm _ _ hl) (rl.sm sm)) fun H1 e1 => ⟨fun pre σ' H' => Sat true [some (rX (.ref c)), some (rI (evD e)), some (rX (.ref tk)), some (rX (.ref sn)), none] σ' H' ∧ Same Hb H' ∧ Tp H1 H' ∧ ∃ post T' S', es = pre ++ post ∧
        DV kE .dT H' tk T'.1 (fun z => evD (T'.2 z)) ∧ DV kE .dT H' sn S' (fun _ => .bool true) ∧ PInv (dom i) es T' S' ∧ unseen es S' < n + 1 ∧ pullL (ah i) (pullM (ah i) es n) e post T' S' = pullM (ah i) es (n + 1) e T S, ?_, fun pre σ' H' h => ⟨?_, ?_⟩, fun pre x post σ' H2 H3 v esp hF sm3 hv => ?_, fun σ' H2 hF => ?_⟩
      · exact ⟨S0.sm e1, sm.trans e1, Tp.refl _, es, T, S, rfl, DT.sm e1, DS.sm e1, PI0, hun, rfl⟩
      · rw [h.2.1 _ _ hl, e1 _ _ (sm _ _ hl)]
      · exact h.2.2.1
      · obtain ⟨S2, sm2, tp2, post', T', S', ep, DT2, DS2, PI2, hun2, hpl⟩ := hF
        have epost : post' = x :: post := List.append_cancel_left (ep.symm.trans esp)
        subst epost
        have hx : x ∈ es := by rw [esp]; simp
        have S3 := (S2.sm sm3).set 4 mnI hv
        have s3 := sm2.trans sm3
        have t3 := tp2.trans sm3.tp
        have DT3 := DT2.sm sm3
        have DS3 := DS2.sm sm3
        have hlT : T'.1.length ≤ 200 := Nat.le_trans (subset_len PI2.tnd fun y hy => (PI2.tin y hy).1) hles
        have hlS : S'.length ≤ 200 := Nat.le_trans (subset_len PI2.snd PI2.sin) hles
        have next : ∀ {σ4 : St} {H4 : Hp} {T4 : Tk} {S4 : List Ev}, Sat true [some (rX (.ref c)), some (rI (evD e)), some (rX (.ref tk)), some (rX (.ref sn)), none] σ4 H4 → Same Hb H4 → Tp H1 H4 → DV kE .dT H4 tk T4.1 (fun z => evD (T4.2 z)) → DV kE .dT H4 sn S4 (fun _ => .bool true) → PInv (dom i) es T4 S4 → unseen es S4 < n + 1 → pullL (ah i) (pullM (ah i) es n) e post T4 S4 = pullM (ah i) es (n + 1) e T S →
          Sat true [some (rX (.ref c)), some (rI (evD e)), some (rX (.ref tk)), some (rX (.ref sn)), none] σ4 H4 ∧ Same Hb H4 ∧ Tp H1 H4 ∧ ∃ post' T' S', es = (pre ++ [x]) ++ post' ∧ DV kE .dT H4 tk T'.1 (fun z => evD (T'.2 z)) ∧ DV kE .dT H4 sn S' (fun _ => .bool true) ∧ PInv (dom i) es T' S' ∧ unseen es S' < n + 1 ∧ pullL (ah i) (pullM (ah i) es n) e post' T' S' = pullM (ah i) es (n + 1) e T S :=
          fun a b d f g h u p => ⟨a, b, d, post, _, _, by rw [esp]; simp, f, g, h, u, p⟩
        refine s_if (b_and (b_B (e_dnin (ev S3 rfl) (ev S3 rfl) DS3)) fun _ => b_B (e_methR (R := R i) (hR i) (hmn i) (e_sl (ev S3 rfl) (slt_same hs s3) O.c.cl sO rfl (hmn i _ _ _ s3 hvo) (hmn i)) (aI (ev S3 rfl) (aI (ev S3 rfl) aa_nil)) (i, e, x) ⟨hde, hdes x hx⟩ rfl fun _ _ _ _ r => r)) (fun hb H4 e4 => ?_) (fun hb H4 e4 => ?_)
        · rw [Bool.and_eq_true, Bool.not_eq_true', decide_eq_false_iff_not] at hb
          obtain ⟨hns, hah⟩ := hb
          have S4 := S3.sm e4
          have s4 := s3.trans e4
          refine q_dput e_bl (ev S4 rfl) (ev S4 rfl) (DS3.sm e4) (by omega) fun H5 w5 e5 D5 t5 => ?_
          rw [if_neg hns] at D5
          have ef : (fun z => if z = x then PyData.bool true else PyData.bool true) = fun _ => PyData.bool true := by
            funext y
            split <;> rfl
          rw [ef] at D5
          have s5 : Same Hb (upd H5 sn (.dT w5)) := same_mut (s4.trans e5) hs0
          have tH5 : Tp H5 (upd H5 sn (.dT w5)) := tp_dT ((DS3.sm e4).sm e5).at.choose_spec
          have DT5 := dne (f := fun z => evD (T'.2 z)) (g := fun z => evD (T'.2 z)) (ys := []) hts ((DT3.sm e4).sm e5) w5 tH5
          have S5 := S4.up (m := true) t5
          have PI5 := PI2.see hx hns
          have hun5 : unseen es (S' ++ [x]) < n := by
            have : unseen es (S' ++ [x]) < unseen es S' := count_less hx (by simp [hns]) (by simp) fun y hy => by
              simp at hy ⊢
              exact hy.1
            omega
          have tp5 : Tp H1 (upd H5 sn (.dT w5)) := t3.trans (e4.tp.trans t5)
          -- what is done when x is taken by e
          have take : ∀ {σ6 : St} {H6 : Hp} {T6 : Tk} {S6 : List Ev}, Sat true [some (rX (.ref c)), some (rI (evD e)), some (rX (.ref tk)), some (rX (.ref sn)), some (rI (evD x))] σ6 H6 → Same Hb H6 → Tp H1 H6 → DV kE .dT H6 tk T6.1 (fun z => evD (T6.2 z)) → DV kE .dT H6 sn S6 (fun _ => .bool true) → T6.1.length ≤ 200 → pullM (ah i) es (n + 1) e T S = (true, aPut T6 x e, S6) →
              ∀ (ts : TS) (nx bk ct : St → Hp → Prop), ts = tSeq (sDPut (tVar 2) (tVar 4) (tVar 1)) (tRet (tC (.bl true))) → ts { nx := nx, rt := Q, bk := bk, ct := ct } σ6 H6 := fun {σ6 H6 T6 S6} S6' s6 tp6 D6 DS6 hl6 hr6 ts nx bk ct ets => by
            subst ets
            refine q_dput (gd := evD e) (ev S6' rfl) (ev S6' rfl) (ev S6' rfl) D6 (by omega) fun H7 w7 e7 D7 t7 => ?_
            refine s_ret (R := rX (.bl true)) e_x fun v H8 e8 hv => ?_
            cases hv
            have q := k H8
            rw [hr6] at q
            have tH7 : Tp H7 (upd H7 tk (.dT w7)) := tp_dT (D6.sm e7).at.choose_spec
            refine q ((same_mut (s6.trans e7) ht0).trans e8) (e1.tp.trans (tp6.trans (t7.trans e8.tp))) ?_ ((dne (f := fun _ => .bool true) (g := fun _ => .bool true) (ys := []) hts.symm (DS6.sm e7) w7 tH7).sm e8)
            have ef2 : (fun z => if z = x then evD e else evD (T6.2 z)) = fun z => evD ((aPut T6 x e).2 z) := by
              funext y
              show _ = evD (if y = x then e else T6.2 y)
              split <;> rfl
            rw [ef2] at D7
            exact D7.sm e8
          have hun1 : pullL (ah i) (pullM (ah i) es n) e (x :: post) T' S' = (if x ∉ T'.1 then (true, aPut T' x e, S' ++ [x]) else
              let r := pullM (ah i) es n (T'.2 x) T' (S' ++ [x])
              if r.1 = true then (true, aPut r.2.1 x e, r.2.2) else pullL (ah i) (pullM (ah i) es n) e post r.2.1 r.2.2) := by
            rw [pullL, if_pos ⟨hns, hah⟩]
          refine (b_B (e_dnin (ev S5 rfl) (ev S5 rfl) DT5)).go fun H6 e6 => ?_
          by_cases hxT : x ∈ T'.1
          · rw [decide_eq_true hxT, Bool.not_true, if_neg Bool.false_ne_true]
            rw [if_neg (fun h => h hxT)] at hun1
            have S6 := S5.sm e6
            refine b_meth (a := c) (dx := dx) (vs := [some (.ref l), some vo]) (as := [rI (evD (T'.2 x)), rX (.ref tk), rX (.ref sn)]) (ev S6 rfl) (slt_same hs (s5.trans e6)) (aI (e_dget (f := fun z => evD (T'.2 z)) (e := x) (ev S6 rfl) (ev S6 rfl) (DT5.sm e6) hxT) (aX (ev S6 rfl) (aX (ev S6 rfl) aa_nil))) fun ws H8 e8 aa => ?_
            obtain ⟨va, _, rfl, hva, _, _, rfl, rfl, _, _, rfl, rfl, rfl⟩ := aa
            have e58 := e6.trans e8
            refine ⟨i, es, Hb, c, tk, sn, va, T'.2 x, T', S' ++ [x], hun5, rfl, ⟨c, dx, vo, l, z, rfl, hs, hvo, hl, rl⟩, hva, s5.trans e58, ht0, hs0, hts, DT5.sm e58, D5.sm e58, (PI2.tin x hxT).2, hdes, hles, PI5, fun H9 s9 tp9 D9 DS9 => ⟨_, rfl, ?_⟩⟩
            obtain ⟨PI9, sub9⟩ := pullM_inv (ah := ah i) n (T'.2 x) T' (S' ++ [x]) (PI2.tin x hxT).2 PI5
            have hun9 := unseen_le (es := es) sub9
            have hl9 : (pullM (ah i) es n (T'.2 x) T' (S' ++ [x])).2.1.1.length ≤ 200 := Nat.le_trans (subset_len PI9.tnd fun y hy => (PI9.tin y hy).1) hles
            generalize pullM (ah i) es n (T'.2 x) T' (S' ++ [x]) = r9 at hun1 D9 DS9 PI9 hun9 hl9
            have S9 := S6.up (m := true) (e8.tp.trans tp9)
            have tpp : Tp H1 H9 := tp5.trans (e58.tp.trans tp9)
            by_cases hr : r9.1 = true
            · rw [if_pos hr]
              refine take S9 s9 tpp D9 DS9 hl9 ?_ _ _ _ _ rfl
              rw [← hpl, hun1]
              show (if r9.1 = true then _ else _) = _
              rw [if_pos hr]
            · rw [if_neg hr]
              refine next (S9.fgt 4) s9 tpp D9 DS9 PI9 (by omega) ?_
              rw [← hpl, hun1]
              show _ = (if r9.1 = true then _ else _)
              rw [if_neg hr]
          · rw [decide_eq_false hxT, Bool.not_false, if_pos rfl]
            show (if true = true then _ else _)
            rw [if_pos rfl]
            refine take (S5.sm e6) (s5.trans e6) (tp5.trans e6.tp) (DT5.sm e6) (D5.sm e6) hlT ?_ _ _ _ _ rfl
            rw [← hpl, hun1, if_pos hxT]
        · refine next ((S3.sm e4).fgt 4) (s3.trans e4) (t3.trans e4.tp) (DT3.sm e4) (DS3.sm e4) PI2 hun2 ?_
          rw [← hpl, pullL, if_neg]
          rintro ⟨h1, h2⟩
          simp [h1, h2] at hb
      · obtain ⟨S2, sm2, tp2, post', T', S', ep, DT2, DS2, PI2, hun2, hpl⟩ := hF
        have epost : post' = [] := List.append_cancel_left (ep.symm.trans (List.append_nil es).symm)
        subst epost
        refine s_ret (R := rX (.bl false)) e_x fun v H3 e3 hv => ?_
        cases hv
        have q := k H3
        rw [← hpl] at q
        exact q (sm2.trans e3) (e1.tp.trans (tp2.trans e3.tp)) (DT2.sm e3) (DS2.sm e3)

def spCwidth (cC : Addr) {ι : Type} (dom : ι → Ev → Prop) (R : ι → Rs) (ah : ι → Ev → Ev → Bool) : Sp := spS (fun i : ι × List Ev => i.2.length ≤ 30 ∧ ∀ x ∈ i.2, dom i.1 x) (fun i => [CrowdAt cC (R i.1) i.2]) (fun i _ => rI (.int (widthM (ah i.1) i.2)))
theorem sc_Cwidth : FnScope ["self", "taken", "event"] ["self"] (defScope s_Cwidth) := ⟨rfl, rfl, rfl, by decide +kernel, rfl, by decide +kernel, by decide +kernel⟩
theorem ok_Cwidth {ι : Type} {dom : ι → Ev → Prop} {R : ι → Rs} {ah : ι → Ev → Ev → Bool} {f fP fI : Addr} {fd : FuncData} {kA : Nat} (hmn : ∀ i, Mn false (R i)) (X : TM K cC "width" "Crowd.width" s_Cwidth ["self"] f fd) (T : TB mg) (O : TCr K mg cC)
    (M_Crowd_pull : GM P w K mg base (31 + kA + 1) "pull" cC fP (spPull cC dom R ah 31)) (I_Crowd : Itb P w K mg base 1 cC fI 0) : FnOk P w K mg base CX0 (33 + kA) f fd ["self"] (spCwidth cC dom R ah) := by
  have nd := sc_Cwidth.nd
  have lv : 33 + kA = (32 + kA) + 1 := by omega
  rw [lv]
  refine fn_spS (m := false) X.F sc_Cwidth (fun _ => rfl) (fun i => ml (crowd_mn (hmn i.1)) ml0) fun cdv A outer s H0 E hr => ?_
  have hu := hu_of hr
  refine ⟨_, (pss_cons (ps_set (i := 1) nd rfl (by first | exact Or.inl rfl | exact Or.inr rfl) pe_dnewT)
      (pss_cons (ps_for PassesOwn.never rfl (pi_own I_Crowd (hr.mono (by first | decide | omega)) (pv 0)) (pg_name (i := 2) nd rfl (by first | exact Or.inl rfl | exact Or.inr rfl)) (pss_one (ps_expr (SlX.pe_methSl (pv 0) M_Crowd_pull.c M_Crowd_pull.m M_Crowd_pull.F (hr.mono (by first | decide | omega)) pass0 (pa_cons (pv 2) (pa_cons (pv 1) (pa_cons pe_dnewT pa_nil)))))))
      (pss_one (ps_ret (pe_op op_sub (pe_callB call_len_seq rfl T.n_len PySem.boot_len (pa_cons (SlX.pe_sl (pv 0)) pa_nil)) (pe_callB call_len_dT rfl T.n_len PySem.boot_len (pa_cons (pv 1) pa_nil))))))), ?_⟩
  rintro ⟨i, es⟩ ⟨hlen, hdom⟩ σ H S Q k
  replace hlen : es.length ≤ 30 := hlen
  replace hdom : ∀ x ∈ es, dom i x := hdom
  obtain ⟨v, ⟨c, dx, vo, l, z, rfl, hs, hvo, hl, rl⟩, S1⟩ := S.pin 0 rfl
  obtain ⟨pE, sE⟩ := O.sE
  have S2 : Sat true [some (rX (.ref c)), none, none] σ H := S1.tp (mlX ml0)
  refine q_set e_newT fun v H1 e1 ⟨tk, ev1, ht0, ht1⟩ => ?_
  subst ev1
  have S3 := (S2.sm e1).set 1 (mnX (v := .ref tk)) rfl
  have hLAt : LAt K cC 0 H c l := ⟨dx, _, hs, rfl, z, SqL.of hl⟩
  refine q_forM (M := At l) (enc := evD) (xs := es) (i_ownA (ev S3 rfl) (lat_same hLAt e1) (e1 _ _ hl) (rl.sm e1)) fun H2 e2 => ⟨fun pre σ' H' => Sat true [some (rX (.ref c)), some (rX (.ref tk)), none] σ' H' ∧ Same H H' ∧ Tp H2 H' ∧ ∃ (post : List Ev) (T : Tk), es = pre ++ post ∧ DV kE .dT H' tk T.1 (fun z => evD (T.2 z)) ∧ PInv (dom i) es T [] ∧ matchM (ah i) es post T = matchM (ah i) es es ([], id), ?_, fun pre σ' H' h => ⟨?_, h.2.2.1⟩, fun pre x post σ' H3 H4 v esp hF sm hv => ?_, fun σ' H3 hF => ?_⟩
  · exact ⟨S3.sm e2, e1.trans e2, Tp.refl _, es, ([], id), rfl, dv_nil (e2 _ _ ht1), ⟨List.nodup_nil, fun x hx => (by cases hx), List.nodup_nil, fun x hx => (by cases hx)⟩, rfl⟩
  · rw [h.2.1 _ _ hl, e2 _ _ (e1 _ _ hl)]
  · obtain ⟨S4, sm4, tp4, post', Tt, ep, DT4, PI4, hm4⟩ := hF
    have epost : post' = x :: post := List.append_cancel_left (ep.symm.trans esp)
    subst epost
    have hx : x ∈ es := by rw [esp]; simp
    have S5 := (S4.sm sm).set 2 mnI hv
    have s5 := sm4.trans sm
    refine s_meth (a := c) (dx := dx) (vs := [some (.ref l), some vo]) (as := [rI (evD x), rX (.ref tk), _]) (σ := σ'.set 2 (some v)) (ev S5 rfl) (slt_same hs s5) (aI (ev S5 rfl) (aX (ev S5 rfl) (aa_cons newT_mn e_newT aa_nil))) fun ws H6 e6 aa => ?_
    obtain ⟨va, _, rfl, hva, _, _, rfl, rfl, _, _, rfl, ⟨sn, rfl, hsn, hsn2⟩, rfl⟩ := aa
    have hts : tk ≠ sn := ne_of_none (sm _ _ DT4.at.choose_spec) hsn
    refine ⟨i, es, H, c, tk, sn, va, x, Tt, [], ?_, rfl, ⟨c, dx, vo, l, z, rfl, hs, hvo, hl, rl⟩, hva, s5.trans e6, ht0, s5.free hsn, hts, DT4.sm (sm.trans e6), dv_nil hsn2, hdom x hx, hdom, by omega, PI4, fun H7 s7 tp7 D7 DS7 => ?_⟩
    · have := List.length_filter_le (fun y => !decide (y ∈ ([] : List Ev))) es
      unfold unseen
      omega
    · obtain ⟨PI7, _⟩ := pullM_inv (ah := ah i) 31 x Tt [] (hdom x hx) PI4
      exact ⟨(S5.up (m := true) (e6.tp.trans tp7)).fgt 2, s7, tp4.trans (sm.tp.trans (e6.tp.trans tp7)), post, (pullM (ah i) es 31 x Tt []).2.1, by rw [esp]; simp, D7, ⟨PI7.tnd, PI7.tin, List.nodup_nil, fun x hx => (by cases hx)⟩, hm4⟩
  · obtain ⟨S4, sm4, tp4, post', Tt, ep, DT4, PI4, hm4⟩ := hF
    have epost : post' = [] := List.append_cancel_left (ep.symm.trans (List.append_nil es).symm)
    subst epost
    refine s_ret (R := rI (.int (widthM (ah i) es))) ((e_sub (e_lenL (e_at (e_sl (ev S4 rfl) (slt_same hs sm4) O.c.cl sE rfl rfl mnX) (sm4 _ _ hl) (rl.sm sm4))) (e_lenDT (K := K) (ev S4 rfl) DT4)).isI ?_) fun v H5 e5 hv => k v H5 (sm4.trans e5) hv
    unfold widthM
    rw [← hm4, List.length_map]
    rfl
/-! ### crowd_of, width -/
abbrev CrowdO (cO cC : Addr) (L : Lg) (es : List Ev) : Rs := CrowdAt cC (OrdAt cO L) es
def spCrowd_of (cO cC : Addr) : Sp := spS (fun L : Lg => Well L) (fun L => [rI (lgD L)]) (fun L _ => CrowdO cO cC L (mks L))
theorem sc_crowd_of : FnScope ["log", "order"] ["log"] (defScope s_crowd_of) := ⟨rfl, rfl, rfl, by decide +kernel, rfl, by decide +kernel, by decide +kernel⟩
theorem ok_crowd_of {f fO fC fM : Addr} {fd : FuncData} (X : TF K mg "crowd_of" s_crowd_of ["log"] f fd) (G_Order : GC P w K mg base 7 "Order" cO fO (spOinit cO)) (G_Crowd : GC P w K mg base 1 "Crowd" cC fC (spCinit cC)) (M_Order_marked : GM P w K mg base 1 "marked" cO fM (spOmarked cO)) :
    FnOk P w K mg base CX0 9 f fd ["log"] (spCrowd_of cO cC) := by
  have nd := sc_crowd_of.nd
  refine fn_spS (m := false) X.F sc_crowd_of (fun _ => rfl) (fun i => mlI ml0) fun cdv A outer s H0 E hr => ?_
  have hu := hu_of hr
  refine ⟨_, (pss_cons (ps_set (i := 1) nd rfl (by first | exact Or.inl rfl | exact Or.inr rfl) (StX.pe_makeR G_Order.m G_Order.F (hr.mono (by first | decide | omega)) rfl G_Order.g pass0 (pa_cons (pv 0) pa_nil)))
      (pss_one (ps_ret (StX.pe_makeR G_Crowd.m G_Crowd.F (hr.mono (by first | decide | omega)) rfl G_Crowd.g pass0 (pa_cons (pv 1) (pa_cons (SlX.pe_methSl0 (pv 1) M_Order_marked.c M_Order_marked.m M_Order_marked.F (hr.mono (by first | decide | omega)) pass0) pa_nil)))))), ?_⟩
  intro L W σ H S Q k
  refine g_set (R := OrdAt cO L) S (e_make L W (aI (ev S rfl) aa_nil)) mnMo fun σ1 H1 e1 S1 => ?_
  refine s_ret (R := CrowdO cO cC L (mks L)) (e_make ((⟨OrdAt cO L, mnMo⟩, mks L) : {R : Rs // Mn false R} × List Ev) True.intro (aa_cons mnMo (ev S1 rfl) (aa_cons mnMo (e_methR (R := OrdAt cO L) (T := rL ((mks L).map evD)) (fun H v h => ordAt_slt h) mnMo (ev S1 rfl) aa_nil L True.intro rfl fun _ _ _ _ r => rLF.l r) aa_nil))) fun v H2 e2 hv => k v H2 (e1.trans e2) hv
def spWidth : Sp := spS (fun L : Lg => Well L ∧ (mks L).length ≤ 30) (fun L => [rI (lgD L)]) (fun L _ => rI (.int (widthM (ahead L) (mks L))))
theorem sc_width : FnScope ["log"] ["log"] (defScope s_width) := ⟨rfl, rfl, rfl, by decide +kernel, rfl, by decide +kernel, by decide +kernel⟩
theorem ok_width {f fO fC fW : Addr} {fd fdO : FuncData} (X : TF K mg "width" s_width ["log"] f fd) (G_crowd_of : GF P w K mg base 9 "crowd_of" fO fdO ["log"] (spCrowd_of cO cC)) (M_Crowd_width : GM P w K mg base 34 "width" cC fW (spCwidth cC (fun L e => e ∈ evs L) (OrdAt cO) ahead)) :
    FnOk P w K mg base CX0 35 f fd ["log"] spWidth := by
  have nd := sc_width.nd
  refine fn_spS (m := false) X.F sc_width (fun _ => rfl) (fun i => mlI ml0) fun cdv A outer s H0 E hr => ?_
  have hu := hu_of hr
  refine ⟨_, (pss_one (ps_ret (SlX.pe_methSl0 (pe_call G_crowd_of.F (hr.mono (by first | decide | omega)) rfl G_crowd_of.g G_crowd_of.kp G_crowd_of.b .nil pass0 (pa_cons (pv 0) pa_nil)) M_Crowd_width.c M_Crowd_width.m M_Crowd_width.F (hr.mono (by first | decide | omega)) pass0))), ?_⟩
  rintro L ⟨W, hl⟩ σ H S Q k
  refine s_ret (e_methR (R := CrowdO cO cC L (mks L)) (T := rI (.int (widthM (ahead L) (mks L)))) (fun H v h => crowd_slt h) (crowd_mn mnMo) (e_callT L W (aI (ev S rfl) aa_nil) fun _ _ _ _ r => r) aa_nil (L, mks L) ⟨hl, fun x hx => W.mark x hx⟩ rfl fun _ _ _ _ r => r) k
end
end Fs

/-! FsQ: counters, the growth, the elder log. -/
namespace Fs
open PySem L2
abbrev s_are_marked : Stmt := topS 11
abbrev s_is_one_of : Stmt := topS 12
abbrev s_is_row_of : Stmt := topS 13
abbrev s_are_counters : Stmt := topS 14
abbrev s_counted : Stmt := topS 15
abbrev s_Ginit : Stmt := inClass (topS 18) 1
abbrev s_Gelder : Stmt := inClass (topS 18) 3
abbrev s_Gopen : Stmt := inClass (topS 18) 5
abbrev s_Gahead : Stmt := inClass (topS 18) 6
abbrev s_Gcrowd : Stmt := inClass (topS 18) 10
abbrev s_elder_log : Stmt := topS 19
abbrev s_fewest_on : Stmt := topS 20
section
variable {K : PySem.W.Frag} {σ : St} {H : Hp} {te : TE}
theorem isi_tup {ds : List PyData} (h : EvR te σ H (rI (.tuple ds))) : EvR (tCB (rIsi K) (tCons te (tCons (tC (.ty "tuple")) tNil))) σ H (rI (.bool true)) := fun H1 e Q q => h H1 e _ fun v H2 e2 r => by
  obtain ⟨a, xs, rfl, ha, _⟩ := r
  exact ⟨_, _, _, _, true, rfl, .ty "tuple", .base (.tup ha), by kernel_rfl, q _ _ e2 rfl⟩
theorem isi_ib {i : Int} (h : EvR te σ H (rI (.int i))) : EvR (tCB (rIsi K) (tCons te (tCons (tC (.ty "bool")) tNil))) σ H (rI (.bool false)) := fun H1 e Q q => h H1 e _ fun v H2 e2 r => by
  cases r
  exact ⟨_, _, _, _, false, rfl, .ty "bool", .base (.int i), by kernel_rfl, q _ _ e2 rfl⟩
end
section
variable {K : PySem.W.Frag} {σ : St} {H : Hp} {te : TE} {ds es : List PyData} {ta tb : TE}
theorem cutD_drop1 : cutD ds (some 1) none = ds.drop 1 := by
  unfold cutD
  have e : HT.sIx ds.length 0 (some 1) = min 1 ds.length := HT.sIx_nat ds.length 0 1
  rw [e, HT.sIx_none]
  cases ds with
  | nil => rfl
  | cons d ds =>
    have : min 1 (d :: ds).length = 1 := by rw [List.length_cons]; omega
    rw [this, List.take_of_length_le]
    rw [List.length_drop]
    exact Nat.le_refl _
theorem cutD_take (n : Nat) : cutD ds none (some (n : Int)) = ds.take n := by
  unfold cutD
  rw [HT.sIx_nat, HT.sIx_none, Nat.sub_zero, List.drop_zero]
  by_cases h : n ≤ ds.length
  · rw [Nat.min_eq_left h]
  · rw [Nat.min_eq_right (by omega), List.take_of_length_le (Nat.le_refl _), List.take_of_length_le (by omega)]
theorem cutD_all : cutD ds none none = ds := by
  unfold cutD
  rw [HT.sIx_none, HT.sIx_none]
  simp
theorem e_slT {tl th : TO} {lo hi : Option Int} (h : EvR te σ H (rI (.tuple ds))) (h1 : EvO tl σ H lo) (h2 : EvO th σ H hi) : EvR (L2.tSl (rSlA K) te tl th) σ H (rI (.tuple (cutD ds lo hi))) := fun H1 e _ q =>
  h H1 e _ fun x H2 e2 hx => h1 H2 (e.trans e2) _ fun H3 e3 => h2 H3 ((e.trans e2).trans e3) _ fun H4 e4 => by
    obtain ⟨a, xs, rfl, ho, r⟩ := hx
    have e24 := e3.trans e4
    refine ⟨a, xs, rfl, SqT.of (e24 _ _ ho), fun hw => q _ _ (e2.trans e24) ?_, fun _ p hp => q _ _ ((e2.trans e24).trans (same_new hp)) (Im.tup upd_same (imL_cut (r.sm (e24.trans (same_new hp))) _ _))⟩
    have e1 : cutD ds lo hi = ds := by
      rw [r.len] at hw
      unfold cutD
      rw [hw.1, hw.2, List.drop_zero, Nat.sub_zero, List.take_of_length_le (Nat.le_refl _)]
    rw [e1]
    exact Im.tup (e24 _ _ ho) (r.sm e24)
theorem e_catA (ha : EvR ta σ H (rI (.tuple ds))) (hb : EvR tb σ H (rI (.tuple es))) (hl : ds.length + es.length ≤ 100000) : EvR (tOp (rCatA K) ta tb) σ H (rI (.tuple (ds ++ es))) :=
  e_op ha hb fun x y H1 _ hx hy Q q => by
    obtain ⟨a, xs, rfl, ho, r⟩ := hx
    obtain ⟨b, ys, rfl, ho', r'⟩ := hy
    refine ⟨a, b, xs, ys, rfl, rfl, SqT.of ho, SqT.of ho', len_ok (by rw [r.len, r'.len]; exact hl), fun hn => ?_, fun _ hn => ?_, fun _ _ p hp => q _ _ (same_new hp) (Im.tup upd_same ((r.app r').sm (same_new hp)))⟩
    · subst hn
      have : ds = [] := List.eq_nil_of_length_eq_zero r.len.symm
      subst this
      exact q _ _ (Same.refl _) (Im.tup ho' r')
    · subst hn
      have : es = [] := List.eq_nil_of_length_eq_zero r'.len.symm
      subst this
      rw [List.append_nil] at q
      exact q _ _ (Same.refl _) (Im.tup ho r)
/-- a permutation of images -/
theorem perm_map_inv {α β : Type} {f : α → β} : ∀ {l : List α} {l' : List β}, l'.Perm (l.map f) → ∃ l2 : List α, l2.Perm l ∧ l' = l2.map f
  | [], l', h => ⟨[], .nil, by simpa using h⟩
  | a :: l, l', h => by
    have hm : f a ∈ l' := h.mem_iff.mpr (by simp)
    obtain ⟨s, t, rfl⟩ := List.append_of_mem hm
    have h2 : (s ++ t).Perm (l.map f) := by
      have : (f a :: (s ++ t)).Perm (f a :: l.map f) := List.perm_middle.symm.trans h
      exact this.cons_inv
    obtain ⟨l2, p, e⟩ := perm_map_inv h2
    have e1 : s = (l2.take s.length).map f := by
      rw [List.map_take, ← e, List.take_left]
    have e2 : t = (l2.drop s.length).map f := by
      rw [List.map_drop, ← e, List.drop_left]
    refine ⟨l2.take s.length ++ a :: l2.drop s.length, ?_, ?_⟩
    · refine List.perm_middle.trans ?_
      rw [List.take_append_drop]
      exact p.cons a
    · rw [List.map_append, List.map_cons, ← e1, ← e2]
/-- sorted(xs) of data -/
theorem e_sort {α : Type} {enc : α → PyData} {xs : List α} (h : EvR te σ H (rL (xs.map enc))) (hal : PySem.W.AllAlike (xs.map enc)) (hso : PySem.W.Sortable (xs.map enc)) (hl : xs.length ≤ 100000) (hd : ∀ x ∈ xs, (enc x).depth ≤ 50) :
    EvR (tCB (rSortD K) (tCons te tNil)) σ H (fun H' v => ∃ ys : List α, ys.Perm xs ∧ ys.Pairwise (fun a b => PySem.W.dataLe false id (enc a) (enc b) = true) ∧ rLF H (ys.map enc) H' v) := fun H1 e Q q => h H1 e _ fun x H2 e2 hx => by
  obtain ⟨a, zs, rfl, ho, r⟩ := hx
  refine ⟨a, zs, xs.map enc, rfl, SqL.of ho, r, hal, hso, by rw [List.length_map]; exact hl, fun d hdm => ?_, fun ds' ys p hp pm pw hy => ?_⟩
  · obtain ⟨x, hx, rfl⟩ := List.mem_map.mp hdm
    exact hd x hx
  · obtain ⟨l2, p2, rfl⟩ := perm_map_inv pm
    exact q _ _ (e2.trans (same_new hp)) ⟨l2, p2, List.pairwise_map.mp pw, p, ys, rfl, (e.trans e2).free hp, upd_same, hy.sm (same_new hp)⟩
theorem alike_ev (a b : Ev) : PySem.W.alike (evD a) (evD b) = true := rfl
theorem evs_alike (es : List Ev) : PySem.W.AllAlike (es.map evD) := PySem.W.AllAlike.of fun a b => alike_ev a b
theorem evs_sortable (es : List Ev) : PySem.W.Sortable (es.map evD) := PySem.W.Sortable.tuples fun e => ⟨_, _, rfl⟩
end
section
variable {P : Program} {w : World} {K : PySem.W.Frag} {mg : Str → Option Value} {base : Heap} {cO cC cG : Addr}
/-- is_one_of -/
def spOne : Sp := spS (fun i : Ev × List Ev => i.2.length ≤ 200) (fun i => [rI (evD i.1), rL (i.2.map evD)]) (fun i _ => rI (.bool (decide (i.1 ∈ i.2))))
theorem sc_is_one_of : FnScope ["thing", "some", "event"] ["thing", "some"] (defScope s_is_one_of) := ⟨rfl, rfl, rfl, by decide +kernel, rfl, by decide +kernel, by decide +kernel⟩
theorem ok_is_one_of {f : Addr} {fd : FuncData} (X : TF K mg "is_one_of" s_is_one_of ["thing", "some"] f fd) (T : TB mg) : FnOk P w K mg base CX0 1 f fd ["thing", "some"] spOne := by
  have nd := sc_is_one_of.nd
  refine fn_spS (m := false) X.F sc_is_one_of (fun _ => rfl) (fun i => mlI (ml mnMo ml0)) fun cdv A outer s H0 E hr => ?_
  have hu := hu_of hr
  refine ⟨_, (pss_one (ps_ret (pe_callB (cr_any rfl) rfl T.n_any (by decide +kernel) (pa_cons (pe_lc (own := [("event", 2)]) (te := (tAndV (tOp (rEqD K) _ _) (tNotV (tCB (rIsi K) (tCons (tOp (rIxT K) _ _) (tCons _ tNil)))))) rfl nd (pi_list (pv 1)) (blkOk_by (by kernel_rfl)) (fun _ _ _ _ _ => (pg_name (i := 2) nd rfl (by first | exact Or.inl rfl | exact Or.inr rfl))) (fun _ _ _ _ _ => pts_nil) (fun _ _ _ _ _ => (pe_and (pe_cmpR (op_eqD hr.units) (pv 0) (pv 2) (nomark _)) (pe_one (pe_not (pe_callB call_isi rfl T.n_isinstance (by decide +kernel) (pa_cons (pe_ix ix_tup (pv 0) pe_int (fun _ _ => rfl)) (pa_cons (pe_bltn (v := .ty "bool") rfl T.n_bool (by decide +kernel) rfl) pa_nil)))))))) pa_nil)))), ?_⟩
  rintro ⟨e, es⟩ hl σ H S Q k
  refine s_ret (R := rI (.bool (decide (e ∈ es)))) ((e_any (bs := es.map fun x => decide (e = x) && !false) ((EvR.l (e_lc (enc := evD) (xs := es) (F := fun x Γ => Γ.set 2 (some (rI (evD x)))) (fun _ => true) (fun x => .bool (decide (e = x) && !false)) S (i_list (ev S rfl)) (Nat.le_trans hl (by decide)) (fun x _ => tg_i) (by decide) fun x hx σ2 H2 e2 S2 =>
    ⟨b_yes, fun _ => e_andV (e_eqE (ev S2 rfl) (ev S2 rfl)) fun _ => e_notV (isi_ib (e_ixT (ev S2 rfl) e_int rfl))⟩)).isL (by rw [fT, List.map_map]; rfl))).isI ?_) k
  refine congrArg PyData.bool ?_
  rw [Bool.eq_iff_iff, List.any_map, List.any_eq_true, decide_eq_true_eq]
  constructor
  · rintro ⟨x, hx, h⟩
    have : e = x := by simpa using h
    rw [this]; exact hx
  · intro h
    exact ⟨e, h, by simp⟩
/-- are_marked: a row of marked events -/
def spMarkd (cO : Addr) : Sp := spS (fun i : Lg × List Ev => Well i.1 ∧ i.2.length ≤ 200 ∧ ∀ x ∈ i.2, x ∈ mks i.1) (fun i => [OrdAt cO i.1, rI (.tuple (i.2.map evD))]) (fun _ _ => rI (.bool true))
theorem sc_are_marked : FnScope ["order", "thing", "part"] ["order", "thing"] (defScope s_are_marked) := ⟨rfl, rfl, rfl, by decide +kernel, rfl, by decide +kernel, by decide +kernel⟩
theorem ok_are_marked {f f1 fM : Addr} {fd fd1 : FuncData} (X : TF K mg "are_marked" s_are_marked ["order", "thing"] f fd) (T : TB mg) (G_is_one_of : GF P w K mg base 1 "is_one_of" f1 fd1 ["thing", "some"] spOne) (M_Order_marked : GM P w K mg base 1 "marked" cO fM (spOmarked cO)) :
    FnOk P w K mg base CX0 2 f fd ["order", "thing"] (spMarkd cO) := by
  have nd := sc_are_marked.nd
  refine fn_spS (m := false) X.F sc_are_marked (fun _ => rfl) (fun i => ml mnMo (mlI ml0)) fun cdv A outer s H0 E hr => ?_
  have hu := hu_of hr
  refine ⟨_, (pss_cons (ps_if (pt_not (pt_val (pe_callB call_isi rfl T.n_isinstance (by decide +kernel) (pa_cons (pv 1) (pa_cons (pe_bltn (v := .ty "tuple") rfl T.n_tuple (by decide +kernel) rfl) pa_nil))))) (pss_one (ps_ret pe_bl)) pss_nil)
      (pss_one (ps_ret (pe_callB (cr_all rfl) rfl T.n_all (by decide +kernel) (pa_cons (pe_lc (own := [("part", 2)]) (te := (tAndV (tCB (rIsi K) _) _)) rfl nd (pi_tup (pv 1)) (blkOk_by (by kernel_rfl)) (fun _ _ _ _ _ => (pg_name (i := 2) nd rfl (by first | exact Or.inl rfl | exact Or.inr rfl))) (fun _ _ _ _ _ => pts_nil) (fun _ _ _ _ _ => (pe_and (pe_callB call_isi rfl T.n_isinstance (by decide +kernel) (pa_cons (pv 2) (pa_cons (pe_bltn (v := .ty "tuple") rfl T.n_tuple (by decide +kernel) rfl) pa_nil))) (pe_one (pe_call G_is_one_of.F (hr.mono (by first | decide | omega)) rfl G_is_one_of.g G_is_one_of.kp G_is_one_of.b .nil pass0 (pa_cons (pv 2) (pa_cons (SlX.pe_methSl0 (pv 0) M_Order_marked.c M_Order_marked.m M_Order_marked.F (hr.mono (by first | decide | omega)) pass0) pa_nil))))))) pa_nil))))), ?_⟩
  rintro ⟨L, row⟩ ⟨W, hl, hm⟩ σ H S Q k
  refine q_ifN (b_not (b_B (isi_tup (ev S rfl)))) (fun hb => absurd hb (by decide)) (fun _ H1 e1 => ?_)
  have S1 := S.sm e1
  refine s_ret (R := rI (.bool true)) ((e_all (bs := row.map fun x => true && decide (x ∈ mks L)) ((EvR.l (e_lc (enc := evD) (xs := row) (F := fun x Γ => Γ.set 2 (some (rI (evD x)))) (fun _ => true) (fun x => .bool (true && decide (x ∈ mks L))) S1 (i_tup (ev S1 rfl)) (Nat.le_trans hl (by decide)) (fun x _ => tg_i) (by decide) fun x hx σ2 H2 e2 S2 =>
    ⟨b_yes, fun _ => e_andV (isi_tup (ev S2 rfl)) fun _ => e_callT (x, mks L) (show (mks L).length ≤ 200 from Nat.le_trans (mks_len W) (by decide)) (aI (ev S2 rfl) (aM (e_methR (R := OrdAt cO L) (T := rL ((mks L).map evD)) (fun H v h => ordAt_slt h) mnMo (ev S2 rfl) aa_nil L True.intro rfl fun _ _ _ _ r => rLF.l r) aa_nil)) fun _ _ _ _ r => r⟩)).isL (by rw [fT, List.map_map]; rfl))).isI ?_) fun v H2 e2 hv => k v H2 (e1.trans e2) hv
  refine congrArg PyData.bool ?_
  rw [List.all_map, List.all_eq_true]
  intro x hx
  have := hm x hx
  simp [this]
/-- is_row_of: each ahead of the next -/
def spRowOf (cO : Addr) : Sp := spS (fun i : Lg × List Ev => (Well i.1 ∧ i.2.length ≤ 200 ∧ ∀ x ∈ i.2, x ∈ mks i.1) ∧ chainB i.1 i.2 = true) (fun i => [OrdAt cO i.1, rI (.tuple (i.2.map evD))]) (fun _ _ => rI (.bool true))
theorem sc_is_row_of : FnScope ["order", "thing", "one", "other"] ["order", "thing"] (defScope s_is_row_of) := ⟨rfl, rfl, rfl, by decide +kernel, rfl, by decide +kernel, by decide +kernel⟩
theorem ok_is_row_of {f f1 fA : Addr} {fd fd1 : FuncData} (X : TF K mg "is_row_of" s_is_row_of ["order", "thing"] f fd) (T : TB mg) (G_are_marked : GF P w K mg base 2 "are_marked" f1 fd1 ["order", "thing"] (spMarkd cO)) (M_Order_is_ahead : GM P w K mg base 1 "is_ahead" cO fA (spOahead cO)) :
    FnOk P w K mg base CX0 3 f fd ["order", "thing"] (spRowOf cO) := by
  have nd := sc_is_row_of.nd
  refine fn_spS (m := false) X.F sc_is_row_of (fun _ => rfl) (fun i => ml mnMo (mlI ml0)) fun cdv A outer s H0 E hr => ?_
  have hu := hu_of hr
  refine ⟨_, (pss_cons (ps_if (pt_not (pt_val (pe_call G_are_marked.F (hr.mono (by first | decide | omega)) rfl G_are_marked.g G_are_marked.kp G_are_marked.b .nil pass0 (pa_cons (pv 0) (pa_cons (pv 1) pa_nil))))) (pss_one (ps_ret pe_bl)) pss_nil)
      (pss_one (ps_ret (pe_callB (cr_all rfl) rfl T.n_all (by decide +kernel) (pa_cons (pe_lc (own := [("one", 2), ("other", 3)]) (g := (gTup K 2 (gCons (gName 2) (gCons (gName 3) gNil)))) rfl nd (RZ.pi_zipA rfl T.n_zip (pa_cons (pv 1) (pa_cons (pe_slice sl_tupA (pv 1) (po_some pe_int) po_none) pa_nil))) (blkOk_by (by kernel_rfl)) (fun _ _ _ _ _ => (pg_tup (by rfl) (pgs_cons (pg_name (i := 2) nd rfl (by first | exact Or.inl rfl | exact Or.inr rfl)) (pgs_cons (pg_name (i := 3) nd rfl (by first | exact Or.inl rfl | exact Or.inr rfl)) pgs_nil)))) (fun _ _ _ _ _ => pts_nil) (fun _ _ _ _ _ => (SlX.pe_methSl (pv 0) M_Order_is_ahead.c M_Order_is_ahead.m M_Order_is_ahead.F (hr.mono (by first | decide | omega)) pass0 (pa_cons (pv 2) (pa_cons (pv 3) pa_nil))))) pa_nil))))), ?_⟩
  rintro ⟨L, row⟩ ⟨⟨W, hl, hm⟩, hc⟩ σ H S Q k
  refine q_ifN (b_not (b_B (e_callT (L, row) ⟨W, hl, hm⟩ (aM (ev S rfl) (aI (ev S rfl) aa_nil)) fun _ _ _ _ r => r))) (fun hb => absurd hb (by decide)) (fun _ H1 e1 => ?_)
  have S1 := S.sm e1
  have hlz : (row.zip row.tail).length ≤ 200 := by rw [List.length_zip]; exact Nat.le_trans (Nat.min_le_left _ _) hl
  have ez : zipD (row.map evD) ((row.map evD).drop 1) = (row.zip row.tail).map mgD := by
    unfold zipD
    rw [← List.map_drop, List.drop_one, List.zip, List.map_zipWith, List.zipWith_map]
    rfl
  refine s_ret (R := rI (.bool true)) (EvR.isI (e_all (bs := (row.zip row.tail).map fun p => ahead L p.1 p.2) (EvR.isL (EvR.l (e_lc (enc := mgD) (xs := row.zip row.tail) (F := fun p Γ => (Γ.set 2 (some (rI (evD p.1)))).set 3 (some (rI (evD p.2)))) (fun _ => true) (fun p => .bool (ahead L p.1 p.2)) S1
    (by rw [← ez]; exact i_zipT (aI (ev S1 rfl) (aI (d := .tuple ((row.map evD).drop 1)) ((e_slT (ev S1 rfl) (o_some e_int) o_none).isI (by rw [cutD_drop1])) aa_nil))) (Nat.le_trans hlz (by decide)) (fun p _ => tg_tup (tg_cons tg_i (tg_cons tg_i tg_nil)) rfl) (by decide) fun p hp σ2 H2 e2 S2 =>
    ⟨b_yes, fun _ => e_methR (R := OrdAt cO L) (fun H v h => ordAt_slt h) mnMo (ev S2 rfl) (aI (ev S2 rfl) (aI (ev S2 rfl) aa_nil)) (L, p.1, p.2) (W.mark _ (hm _ (List.mem_of_mem_tail (List.of_mem_zip hp).2))) rfl fun _ _ _ _ r => r⟩)) (by rw [fT, List.map_map]; rfl))) ?_) fun v H2 e2 hv => k v H2 (e1.trans e2) hv
  refine congrArg PyData.bool ?_
  rw [List.all_map]
  exact hc
/-- are_counters -/
structure Rows (L : Lg) (rows : List (List Ev)) : Prop where
  few : rows.length ≤ 200
  len : rows.flatten.length ≤ 200
  nd : rows.flatten.Nodup
  mkd : ∀ x ∈ rows.flatten, x ∈ mks L
  ch : ∀ r ∈ rows, chainB L r = true
def spCounters : Sp := spS (fun i : Lg × List (List Ev) => Well i.1 ∧ Rows i.1 i.2) (fun i => [rI (lgD i.1), rI (rowsD i.2)]) (fun _ _ => rI (.bool true))
theorem row_len {rows : List (List Ev)} {r : List Ev} (h : r ∈ rows) : r.length ≤ rows.flatten.length := by
  induction rows with
  | nil => cases h
  | cons a rows ih =>
    rw [List.flatten_cons, List.length_append]
    rcases List.mem_cons.mp h with e | e
    · rw [e]; omega
    · have := ih e; omega
theorem sum_len {α : Type} : ∀ rows : List (List α), ((rows.map fun r => (r.length : Int)).sum : Int) = (rows.flatten.length : Int)
  | [] => rfl
  | r :: rows => by
    rw [List.map_cons, List.sum_cons, sum_len rows, List.flatten_cons, List.length_append]
    omega
theorem sc_are_counters : FnScope ["log", "thing", "order", "row", "event"] ["log", "thing"] (defScope s_are_counters) := ⟨rfl, rfl, rfl, by decide +kernel, rfl, by decide +kernel, by decide +kernel⟩
theorem ok_are_counters {f f1 fO : Addr} {fd fd1 : FuncData} (X : TF K mg "are_counters" s_are_counters ["log", "thing"] f fd) (T : TB mg) (G_Order : GC P w K mg base 7 "Order" cO fO (spOinit cO)) (G_is_row_of : GF P w K mg base 3 "is_row_of" f1 fd1 ["order", "thing"] (spRowOf cO)) :
    FnOk P w K mg base CX0 9 f fd ["log", "thing"] spCounters := by
  have nd := sc_are_counters.nd
  refine fn_spS (m := false) X.F sc_are_counters (fun _ => rfl) (fun i => mlI (mlI ml0)) fun cdv A outer s H0 E hr => ?_
  have hu := hu_of hr
  refine ⟨_, (pss_cons (ps_set (i := 2) nd rfl (by first | exact Or.inl rfl | exact Or.inr rfl) (StX.pe_makeR G_Order.m G_Order.F (hr.mono (by first | decide | omega)) rfl G_Order.g pass0 (pa_cons (pv 0) pa_nil)))
      (pss_cons (ps_if (PW.pt (pw_or (pt_not (pt_val (pe_callB call_isi rfl T.n_isinstance (by decide +kernel) (pa_cons (pv 1) (pa_cons (pe_bltn (v := .ty "tuple") rfl T.n_tuple (by decide +kernel) rfl) pa_nil))))) (pw_or1 (pt_not (pt_val (pe_callB (cr_all rfl) rfl T.n_all (by decide +kernel) (pa_cons (pe_lc (own := [("row", 3)]) rfl nd (pi_tup (pv 1)) (blkOk_by (by kernel_rfl)) (fun _ _ _ _ _ => (pg_name (i := 3) nd rfl (by first | exact Or.inl rfl | exact Or.inr rfl))) (fun _ _ _ _ _ => pts_nil) (fun _ _ _ _ _ => (pe_call G_is_row_of.F (hr.mono (by first | decide | omega)) rfl G_is_row_of.g G_is_row_of.kp G_is_row_of.b .nil pass0 (pa_cons (pv 2) (pa_cons (pv 3) pa_nil))))) pa_nil))))))) (pss_one (ps_ret pe_bl)) pss_nil)
      (pss_one (ps_ret (pe_cmpR op_eq (pe_callB (cr_sum rfl) rfl T.n_sum (by decide +kernel) (pa_cons (pe_lc (own := [("row", 3)]) (te := (tCB (rLenS K) _)) rfl nd (pi_tup (pv 1)) (blkOk_by (by kernel_rfl)) (fun _ _ _ _ _ => (pg_name (i := 3) nd rfl (by first | exact Or.inl rfl | exact Or.inr rfl))) (fun _ _ _ _ _ => pts_nil) (fun _ _ _ _ _ => (pe_callB call_len_seq rfl T.n_len PySem.boot_len (pa_cons (pv 3) pa_nil)))) pa_nil)) (pe_callB call_len_dT rfl T.n_len PySem.boot_len (pa_cons (pe_dcT2 (own := [("row", 3), ("event", 4)]) (wi1 := iTup K (tVar 3)) (vs1 := [4]) rfl hr.units0 nd (pi_tup (pv 1)) (blkOk_by (by kernel_rfl)) (by decide) (fun _ _ _ _ _ => (pg_name (i := 3) nd rfl (by first | exact Or.inl rfl | exact Or.inr rfl))) (fun _ _ _ _ _ => pts_nil) (fun _ _ _ _ _ => (pi_tup (pv 3))) (fun _ _ _ _ _ => (pg_name (i := 4) nd rfl (by first | exact Or.inl rfl | exact Or.inr rfl))) (fun _ _ _ _ _ => pts_nil) (fun _ _ _ _ _ => (pv 4)) (fun _ _ _ _ _ => pe_bl)) pa_nil)) (nomark _)))))), ?_⟩
  rintro ⟨L, rows⟩ ⟨W, C⟩ σ H S Q k
  replace S : Sat false [some (rI (lgD L)), some (rI (rowsD rows)), none, none, none] σ H := S
  refine g_set (R := OrdAt cO L) S (e_make L W (aI (ev S rfl) aa_nil)) mnMo fun σ1 H1 e1 S1 => ?_
  refine q_ifN (b_or (b_not (b_B (isi_tup (ev S1 rfl)))) fun _ => b_not (b_B (e_all (bs := rows.map fun _ => true) (EvR.isL (EvR.l (e_lc (enc := fun r : List Ev => .tuple (r.map evD)) (xs := rows) (F := fun r Γ => Γ.set 3 (some (rI (.tuple (r.map evD))))) (fun _ => true) (fun _ => .bool true) S1 (i_tup (ev S1 rfl)) (Nat.le_trans C.few (by decide)) (fun r _ => tg_i) (by decide) fun r hr2 σ2 H2 e2 S2 =>
    ⟨b_yes, fun _ => e_callT (L, r) ⟨⟨W, Nat.le_trans (row_len hr2) C.len, fun x hx => C.mkd x (List.mem_flatten.mpr ⟨r, hr2, hx⟩)⟩, C.ch r hr2⟩ (aM (ev S2 rfl) (aI (ev S2 rfl) aa_nil)) fun _ _ _ _ r => r⟩)) (by rw [fT, List.map_map]; rfl))))) (fun hb => ?_) (fun _ H2 e2 => ?_)
  · exfalso
    rw [List.all_map] at hb
    have : (rows.all (id ∘ fun _ => true)) = true := List.all_eq_true.mpr fun _ _ => rfl
    rw [this] at hb
    exact absurd hb (by decide)
  · have S2 := S1.sm e2
    refine s_ret (R := rI (.bool true)) (EvR.isI (e_eqI (e_sum (bs := rows.map fun r => (r.length : Int)) (EvR.isL (EvR.l (e_lc (enc := fun r : List Ev => .tuple (r.map evD)) (xs := rows) (F := fun r Γ => Γ.set 3 (some (rI (.tuple (r.map evD))))) (fun _ => true) (fun r => .int r.length) S2 (i_tup (ev S2 rfl)) (Nat.le_trans C.few (by decide)) (fun r _ => tg_i) (by decide) fun r hr2 σ3 H3 e3 S3 =>
      ⟨b_yes, fun _ => EvR.isI (e_lenT (ev S3 rfl)) (by rw [List.length_map])⟩)) (by rw [fT, List.map_map]; rfl))) (j := (rows.flatten.length : Int)) ?_) ?_) fun v H3 e3 hv => k v H3 (e1.trans (e2.trans e3)) hv
    · have S3 : Sat true [some (rI (lgD L)), some (rI (rowsD rows)), none, none, none] σ1 H2 := (S2.fgt 2).tp (mlI (mlI ml0))
      have z := e_lenDX (xs := rows.flatMap fun r => r) (f := fun _ => .bool true) (e_dcT2v (enc := fun r : List Ev => .tuple (r.map evD)) (xs := rows) (ys := fun r => r) (F := fun r Γ => Γ.set 3 (some (rI (.tuple (r.map evD))))) (F1 := fun r x Γ => Γ.set 4 (some (rI (evD x)))) (js := [3]) (js1 := [4]) (wi := iTup K (tVar 1)) (wi1 := iTup K (tVar 3)) (g := gName 3) (g1 := gName 4) (tk := tVar 4) (tv := tC (.bl true)) (vs := [3, 4]) (vs1 := [4]) S3 (i_tup (ev S3 rfl)) (by rw [List.flatMap_id']; exact Nat.le_trans C.len (by decide)) (by rw [List.flatMap_id']; exact C.nd)
        (fun r _ => tg_i) (by decide) (fun r hr2 σ2 H2 S2 => i_tup (ev S2 rfl)) (fun r _ x _ => tg_i) (by decide) fun r hr2 x hx σ2 H2 S2 => ⟨ev S2 rfl, e_bl⟩)
      rw [List.flatMap_id'] at z
      exact z
    · rw [sum_len]
      simp
/-- counted: the rows' events, sorted -/
def spCounted : Sp := spS (fun rows : List (List Ev) => rows.length ≤ 200 ∧ rows.flatten.length ≤ 200) (fun rows => [rI (rowsD rows)]) (fun rows H0 H' v => ∃ ys : List Ev, ys.Perm rows.flatten ∧ ys.Pairwise (fun a b => PySem.W.dataLe false id (evD a) (evD b) = true) ∧ Ls H' (ys.map evD) v)
theorem fits_rows {rows : List (List Ev)} (h1 : rows.length ≤ 200) (h2 : rows.flatten.length ≤ 200) (n : Nat) : Fits (n + 4) (rowsD rows) := by
  refine ⟨by rw [List.length_map]; omega, fun x hx => ?_⟩
  obtain ⟨r, hr, rfl⟩ := List.mem_map.mp hx
  refine ⟨by rw [List.length_map]; have := row_len hr; omega, fun y hy => ?_⟩
  obtain ⟨e, _, rfl⟩ := List.mem_map.mp hy
  exact fits_ev n e
theorem sc_counted : FnScope ["counters", "row", "event"] ["counters"] (defScope s_counted) := ⟨rfl, rfl, rfl, by decide +kernel, rfl, by decide +kernel, by decide +kernel⟩
theorem ok_counted {f f1 : Addr} {fd fd1 : FuncData} (X : TF K mg "counted" s_counted ["counters"] f fd) (T : TB mg) (G_tupled : GF P w K mg base 6 "tupled" f1 fd1 ["thing"] (spTupled 6)) : FnOk P w K mg base CX0 7 f fd ["counters"] spCounted := by
  have nd := sc_counted.nd
  refine fn_spS (m := true) X.F sc_counted (fun _ => rfl) (fun i => mlI ml0) fun cdv A outer s H0 E hr => ?_
  have hu := hu_of hr
  refine ⟨_, (pss_one (ps_ret (pe_callB (cr_sortD rfl hr.units) rfl T.n_sorted (by decide +kernel) (pa_cons (pe_lc2 (own := [("row", 1), ("event", 2)]) (wi1 := iTup K (tVar 1)) (vs1 := [2]) rfl nd (pi_tup (pe_call G_tupled.F (hr.mono (by first | decide | omega)) rfl G_tupled.g G_tupled.kp G_tupled.b .nil pass0 (pa_cons (pv 0) pa_nil))) (blkOk_by (by kernel_rfl)) (by decide) (fun _ _ _ _ _ => (pg_name (i := 1) nd rfl (by first | exact Or.inl rfl | exact Or.inr rfl))) (fun _ _ _ _ _ => pts_nil) (fun _ _ _ _ _ => (pi_tup (pv 1))) (fun _ _ _ _ _ => (pg_name (i := 2) nd rfl (by first | exact Or.inl rfl | exact Or.inr rfl))) (fun _ _ _ _ _ => pts_nil) (fun _ _ _ _ _ => (pv 2))) pa_nil)))), ?_⟩
  rintro rows ⟨h1, h2⟩ σ H S Q k
  have em : (rows.flatMap fun r => r.map evD) = rows.flatten.map evD := by
    rw [List.map_flatten, List.flatMap]
  refine s_ret (e_sort (enc := evD) (xs := rows.flatten) (EvR.isL (EvR.l (e_lc2 (enc := fun r : List Ev => .tuple (r.map evD)) (enc1 := evD) (xs := rows) (ys := fun r => r) (F := fun r Γ => Γ.set 1 (some (rI (.tuple (r.map evD))))) (F1 := fun r x Γ => Γ.set 2 (some (rI (evD x)))) (fun _ x => evD x) S (i_tup (e_callT (rowsD rows) (fits_rows h1 h2 2) (aI (ev S rfl) aa_nil) fun _ _ _ _ r => r)) (by rw [List.flatMap_id']; omega)
    (fun r _ => tg_i) (by decide) (fun r hr2 σ2 H2 S2 => i_tup (ev S2 rfl)) (fun r _ x _ => tg_i) (by decide) fun r hr2 x hx σ2 H2 S2 => ev S2 rfl)) em) (evs_alike _) (evs_sortable _) (by omega) fun x _ => (by show 1 ≤ 50; decide)) fun v H1 e1 hv => ?_
  obtain ⟨ys, p, q, r⟩ := hv
  exact k v H1 e1 ⟨ys, p, q, r.l⟩

/-! ### the growth -/
structure TGr (K : PySem.W.Frag) (mg : Str → Option Value) (cG : Addr) : Prop where
  c : TC K mg "Growth" cG
  sO : ∃ p, SlX.Slot1 K cG "own_order" p 1
  sR : ∃ p, SlX.Slot1 K cG "own_rows" p 2
  sN : ∃ p, SlX.Slot1 K cG "own_new" p 0
abbrev GIx := Lg × (Nm → Int) × List (List Ev)
/-- a growth: of the log, the rows, the new events -/
def GrowthAt (cO cG : Addr) (i : GIx) : Rs := fun H v => ∃ (g dx : Addr) (vo vr : V) (l : Addr) (z : List V), v = .ref g ∧ SlX.Slt H g cG dx [some (.ref l), some vo, some vr] ∧ OrdAt cO i.1 H vo ∧ Im H (rowsD i.2.2) vr ∧ H l = some (.lst z) ∧ ImL H ((newE i.1 i.2.1).map evD) z
instance {i : GIx} : Mo (GrowthAt cO cG i) := ⟨fun e ⟨g, dx, vo, vr, l, z, a, b, c, d, f, h⟩ => ⟨g, dx, vo, vr, l, z, a, slt_same b e, Mo.mo e c, d.sm e, e _ _ f, h.sm e⟩⟩
theorem growth_slt {i : GIx} {H : Hp} {v : V} (h : GrowthAt cO cG i H v) : ∃ a dx vs, v = .ref a ∧ SlX.Slt H a cG dx vs := by
  obtain ⟨g, dx, vo, vr, l, z, a, b, _⟩ := h
  exact ⟨g, dx, _, a, b⟩
def standD (L : Lg) (std : Nm → Int) : PyData := .tuple (L.1.map fun m => .int (std m.1))
structure GOk (i : GIx) : Prop where
  w : Well i.1
  r1 : i.2.2.length ≤ 200
  r2 : i.2.2.flatten.length ≤ 200
def spGinit (cO cG : Addr) : Sp := spMk cG GOk (fun i => [rI (lgD i.1), rI (standD i.1 i.2.1), rI (rowsD i.2.2)]) (GrowthAt cO cG)
theorem zip_stand {α : Type} (ms : List α) (f g : α → PyData) : zipD (ms.map f) (ms.map g) = ms.map fun m => .tuple [f m, g m] := by
  unfold zipD
  induction ms with
  | nil => rfl
  | cons m ms ih => rw [List.map_cons, List.map_cons, List.zipWith_cons_cons, ih, List.map_cons]
def kN (n : Nm) : Key := .inr n.1
theorem kN_inj (a b : Nm) (h : kN a = kN b) : a = b := by
  unfold kN at h
  injection h with h
  exact Subtype.ext h
/-- all but bare instances and their dicts stays -/
def Kp (H H' : Hp) : Prop := ∀ b u, H b = some u → (∀ C d fs, u ≠ .ins C d fs) → (∀ y, u ≠ .own y) → H' b = some u
theorem Kp.tp {H H' : Hp} (e : Kp H H') : Tp H H' := fun a xs h => e a _ h (fun _ _ _ z => nomatch z) fun _ z => nomatch z
theorem dv_kp {H H' : Hp} {d : Addr} {xs : List Ev} {f : Ev → PyData} (D : DV kE .dT H d xs f) (e : Kp H H') : DV kE .dT H' d xs f := by
  obtain ⟨kvs, h, _⟩ := id D
  exact D.up (fun o ho => by
    rw [h] at ho
    cases ho
    exact e _ _ h (fun _ _ _ z => nomatch z) fun _ z => nomatch z) e.tp
theorem slt_kp {H H' : Hp} {a C dx : Addr} {v : Option V} {vs : List (Option V)} (h : SlX.Slt H a C dx (v :: vs)) (e : Kp H H') : SlX.Slt H' a C dx (v :: vs) := by
  rcases h with ⟨_, h⟩ | ⟨h1, h2⟩
  · cases h
  · refine .inr ⟨e _ _ h1 (fun _ _ _ z => ?_) (fun _ z => ?_), e _ _ h2 (by intro _ _ _ z; cases z) (by intro _ z; cases z)⟩
    · have z : HO.ext _ = HO.ins _ _ _ := z
      cases z
    · have z : HO.ext _ = HO.own _ := z
      cases z
theorem ordAt_kp {cO : Addr} {L : Lg} {H H' : Hp} {v : V} (h : OrdAt cO L H v) (e : Kp H H') : OrdAt cO L H' v := by
  obtain ⟨o, aP, pc, rfl, N, hpc⟩ := h
  obtain ⟨dx, lE, lM, dN, dP, zE, aN, zM, hs, hE, rE, hM, rM, hdN, hdP, hln⟩ := N.ex
  have l_ : ∀ {b : Addr} {z : List V}, H b = some (.lst z) → H' b = some (.lst z) := fun h => e _ _ h (by intro _ _ _ z; cases z) (by intro _ z; cases z)
  have d_ : ∀ {b : Addr} {z : List (List Key × V)}, H b = some (.dT z) → H' b = some (.dT z) := fun h => e _ _ h (by intro _ _ _ z; cases z) (by intro _ z; cases z)
  refine ⟨o, aP, pc, rfl, ⟨dx, lE, lM, dN, dP, zE, aN, zM, slt_kp hs e, l_ hE, rE.up e.tp, l_ hM, rM.up e.tp, d_ hdN, d_ hdP, fun x hx => ?_⟩, fun x hx => ⟨dv_kp (hpc x hx).1 e, (hpc x hx).2⟩⟩
  obtain ⟨z, a, b⟩ := hln x hx
  exact ⟨z, l_ a, b.up e.tp⟩
theorem sc_Ginit : FnScope ["self", "log", "stand", "counters", "many", "machine", "elder", "event"] ["self", "log", "stand", "counters"] (defScope s_Ginit) := ⟨rfl, rfl, rfl, by decide +kernel, rfl, by decide +kernel, by decide +kernel⟩
theorem ok_Ginit {f f1 fO fM : Addr} {fd fd1 : FuncData} (X : TM K cG "__init__" "Growth.__init__" s_Ginit ["self", "log", "stand", "counters"] f fd) (T : TB mg) (O : TGr K mg cG) (G_tupled : GF P w K mg base 6 "tupled" f1 fd1 ["thing"] (spTupled 6)) (G_Order : GC P w K mg base 7 "Order" cO fO (spOinit cO)) (M_Order_marked : GM P w K mg base 1 "marked" cO fM (spOmarked cO))
    (M_o_marked : GM P w K mg base 1 "marked" cO fM (spOmarked cO)) :
    FnOk P w K mg base CX0 9 f fd ["self", "log", "stand", "counters"] (spGinit cO cG) := by
  have nd := sc_Ginit.nd
  refine X.F.ok sc_Ginit (fun vs H Q E h => ?_) (fun cdv A outer s H vs Q E hr h => ?_)
  · obtain ⟨i, H0, x, dx, rest, rfl, _, _, _, _, _, ⟨y, ys, rfl, _, z, zs, rfl, _, u, us, rfl, _, rfl⟩, _⟩ := h
    rfl
  · have hu := hu_of hr
    obtain ⟨⟨L, std, rows⟩, H0, o, dx, rest, rfl, ⟨W, h1, h2⟩, ho0, hd0, hne, rfl, ha, k⟩ := h
    replace W : Well L := W
    replace h1 : rows.length ≤ 200 := h1
    replace h2 : rows.flatten.length ≤ 200 := h2
    refine ⟨_, (pss_cons (SlX.ps_sl (pv 0) (StX.pe_makeR G_Order.m G_Order.F (hr.mono (by first | decide | omega)) rfl G_Order.g pass0 (pa_cons (pv 1) pa_nil)))
      (pss_cons (SlX.ps_sl (pv 0) (pe_call G_tupled.F (hr.mono (by first | decide | omega)) rfl G_tupled.g G_tupled.kp G_tupled.b .nil pass0 (pa_cons (pv 3) pa_nil)))
      (pss_cons (ps_set (i := 4) nd rfl (by first | exact Or.inl rfl | exact Or.inr rfl) (pe_dc (own := [("machine", 5), ("elder", 6)]) (tk := (tOp (rIxT K) _ _)) (g := (gTup K 2 (gCons (gName 5) (gCons (gName 6) gNil)))) rfl nd (RZ.pi_zipA rfl T.n_zip (pa_cons (pe_ix ix_tup (pe_call G_tupled.F (hr.mono (by first | decide | omega)) rfl G_tupled.g G_tupled.kp G_tupled.b .nil pass0 (pa_cons (pv 1) pa_nil)) pe_int (fun _ _ => rfl)) (pa_cons (pv 2) pa_nil))) (blkOk_by (by kernel_rfl)) (fun _ _ _ _ _ => (pg_tup (by rfl) (pgs_cons (pg_name (i := 5) nd rfl (by first | exact Or.inl rfl | exact Or.inr rfl)) (pgs_cons (pg_name (i := 6) nd rfl (by first | exact Or.inl rfl | exact Or.inr rfl)) pgs_nil)))) (fun _ _ _ _ _ => pts_nil) (fun _ _ _ _ _ => (pe_ix ix_tup (pv 5) pe_int (fun _ _ => rfl))) (fun _ _ _ _ _ => (pv 6))))
      (pss_one (SlX.ps_sl (pv 0) (pe_lc (own := [("event", 7)]) (tt := (tTest (tOp _ (tOp (rIxT K) _ _) (tDGet _ (tOp (rIxT K) _ _))))) rfl nd (pi_list (SlX.pe_methSl0 (SlX.pe_sl (pv 0)) M_o_marked.c M_o_marked.m M_o_marked.F (hr.mono (by first | decide | omega)) pass0)) (blkOk_by (by kernel_rfl)) (fun _ _ _ _ _ => (pg_name (i := 7) nd rfl (by first | exact Or.inl rfl | exact Or.inr rfl))) (fun _ _ _ _ _ => (pts_one (pt_cmpR op_ge (pe_ix ix_tup (pv 7) pe_int (fun _ _ => rfl)) (pe_dget hu (pv 4) (pe_ix ix_tup (pv 7) pe_int (fun _ _ => rfl)) (fun _ _ => rfl)) (nomark _)))) (fun _ _ _ _ _ => (pv 7)))))))), ?_⟩
    have e0 : Same H0 (upd (upd H0 dx (.own o)) o (.ins cG dx [])) := same_mut (same_new hd0) ho0
    have A0 : Args [rX (.ref o), rI (lgD L), rI (standD L std), rI (rowsD rows)] (upd (upd H0 dx (.own o)) o (.ins cG dx [])) (.ref o :: rest) := by
      obtain ⟨y, ys, rfl, hy, z, zs, rfl, hz, u, us, rfl, hv, rfl⟩ := ha
      exact ⟨_, _, rfl, rfl, y, _, rfl, Im.sm hy e0, z, _, rfl, Im.sm hz e0, u, _, rfl, Im.sm hv e0, rfl⟩
    have S := sat_start (m := true) (N := ["self", "log", "stand", "counters", "many", "machine", "elder", "event"]) A0 (mlX (mlI (mlI (mlI ml0))))
    have B : Bld cG o dx (upd (upd H0 dx (.own o)) o (.ins cG dx [])) [] := bld_new hne
    obtain ⟨pO, sO⟩ := O.sO
    obtain ⟨pR, sR⟩ := O.sR
    obtain ⟨pN, sN⟩ := O.sN
    have hdx : upd (upd H0 dx (.own o)) o (.ins cG dx []) dx = some (.own o) := by rw [upd_ne hne, upd_same]
    have hoo : upd (upd H0 dx (.own o)) o (.ins cG dx []) o = some (.ins cG dx []) := upd_same
    generalize upd (upd H0 dx (.own o)) o (.ins cG dx []) = H at S B e0 hdx hoo
    refine q_sl (R := OrdAt cO L) (e_make L W (aI (ev S rfl) aa_nil)) (ev S rfl) B O.c.cl sO (fun vo H1 e1 hO H2 eH B2 t2 => ?_) mnMo
    have off : ∀ {b : Addr} {u : HO}, H0 b = some u → b ≠ o ∧ b ≠ dx := fun h => ⟨ne_of_none h ho0, ne_of_none h hd0⟩
    have Z2 : Bs (fun b => b = o ∨ b = dx) (Hid H2 fun b => b = o ∨ b = dx) H2 := by
      refine Bs.of fun b hb => ?_
      rcases hb with hb | hb
      · subst hb
        cases q : H2 b with
        | none => exact absurd q B2.o_some.1
        | some u => exact ⟨u, rfl, fun xs z => B2.not_tup.1 xs (by rw [q, z])⟩
      · subst hb
        cases q : H2 b with
        | none => exact absurd q B2.o_some.2
        | some u => exact ⟨u, rfl, fun xs z => B2.not_tup.2 xs (by rw [q, z])⟩
    have k12 : Kp H1 (Hid H2 fun b => b = o ∨ b = dx) := fun b u hb n1 n2 => by
      have m1 : b ≠ o := fun z => by rw [z, e1 _ _ hoo] at hb; cases hb; exact n1 _ _ _ rfl
      have m2 : b ≠ dx := fun z => by rw [z, e1 _ _ hdx] at hb; cases hb; exact n2 _ rfl
      rw [hid_on (by intro z; rcases z with z | z; exact m1 z; exact m2 z), eH, SlX.slH_ne m1 m2]
      exact hb
    have s02 : Same H0 (Hid H2 fun b => b = o ∨ b = dx) := fun b u hb => by
      obtain ⟨m1, m2⟩ := off hb
      rw [hid_on (by intro z; rcases z with z | z; exact m1 z; exact m2 z), eH, SlX.slH_ne m1 m2]
      exact e1 _ _ (e0 _ _ hb)
    have hOb := ordAt_kp hO k12
    generalize (Hid H2 fun b => b = o ∨ b = dx) = Hb at Z2 s02 hOb
    have S2 := (S.sm e1).up (m := true) t2
    refine q_sl (R := rI (rowsD rows)) (e_callT (rowsD rows) (fits_rows h1 h2 2) (aI (ev S2 rfl) aa_nil) fun _ _ _ _ r => r) (ev S2 rfl) B2 O.c.cl sR (fun vr H3 e3 hr3 H4 eH4 B4 t4 => ?_) mnI
    obtain ⟨Hc, Z3, sbc, _⟩ := Z2.grow0 e3
    have Z4 : Bs (fun b => b = o ∨ b = dx) Hc H4 := by rw [eH4]; exact Z3.slH (.inl rfl) (.inr rfl)
    have S4 := (S2.sm e3).up (m := true) t4
    refine q_set (R := fun H' v => ∃ d, v = .ref d ∧ H4 d = none ∧ DV kN .dK H' d (L.1.map (·.1)) (fun n => .int (std n))) (e_dcKv (enc := fun m : Mc => .tuple [mcD m, .int (std m.1)]) (xs := L.1) (F := fun m Γ => (Γ.set 5 (some (rI (mcD m)))).set 6 (some (rI (.int (std m.1))))) kN_inj (fun m => m.1) (fun n => .int (std n)) S4
      (by rw [← zip_stand]; exact i_zipT (aI (e_ixT (e_callT (lgD L) (fits_lg W) (aI (ev S4 rfl) aa_nil) fun _ _ _ _ r => r) e_int rfl) (aI (ev S4 rfl) aa_nil))) (by have := W.few.1; omega) (fun m _ => tg_tup (tg_cons tg_i (tg_cons tg_i tg_nil)) rfl) (by decide) W.names fun m hm σ2 H2 S2 =>
        ⟨EvR.xs (e_ixT (ev (R := rI (mcD m)) S2 rfl) e_int rfl), ev S2 rfl⟩) fun v H5 e5 hv => ?_
    obtain ⟨d, rfl, hdn, hD⟩ := hv
    have S5 := (S4.sm e5).set 4 (mnX (v := .ref d)) rfl
    have hO5 : OrdAt cO L H5 vo := mnMo _ _ _ (sbc.trans (Z4.sm.trans e5)) hOb
    have B5 := B4.sm e5
    refine s_sl (R := rLF H5 ((newE L std).map evD)) (e_lc (enc := evD) (xs := mks L) (F := fun x Γ => Γ.set 7 (some (rI (evD x)))) (fun e => decide (std e.1 ≤ e.2)) evD S5 (i_list (e_methR (R := OrdAt cO L) (T := rL ((mks L).map evD)) (fun H v h => ordAt_slt h) mnMo (e_sl (ev S5 rfl) B5.slt O.c.cl sO rfl hO5 mnMo) aa_nil L True.intro rfl fun _ _ _ _ r => rLF.l r)) (by have := mks_len W; omega) (fun x _ => tg_i) (by decide) fun x hx σ6 H6 e6 S6 =>
      ⟨b_test (e_geI (e_ixT (ev (R := rI (evD x)) S6 rfl) e_int rfl) (e_dgetK (key := kN) (f := fun n => .int (std n)) (e := x.1) (ev S6 rfl) (EvR.xs (e_ixT (ev (R := rI (evD x)) S6 rfl) e_int rfl)) (hD.sm e6) ?_)), fun _ => ev S6 rfl⟩) (ev S5 rfl) B5 O.c.cl sN (fun y H6 e6 hy H7 eH7 B7 t7 => ?_) mnMo
    · obtain ⟨m, hm, e1, _⟩ := ev_name (W.mark x hx)
      exact List.mem_map.mpr ⟨m, hm, e1⟩
    · obtain ⟨l, z, rfl, hln, hl, rl⟩ := hy
      obtain ⟨Hd, Z6, sbd, _⟩ := Z4.grow0 (e5.trans e6)
      have Z7 : Bs (fun b => b = o ∨ b = dx) Hd H7 := by rw [eH7]; exact Z6.slH (.inl rfl) (.inr rfl)
      have hlne : l ≠ o ∧ l ≠ dx := ⟨fun q => B5.o_some.1 (by rw [← q]; exact hln), fun q => B5.o_some.2 (by rw [← q]; exact hln)⟩
      refine k H7 (s02.trans (sbc.trans (sbd.trans Z7.sm))) ⟨o, dx, vo, vr, l, z, rfl, B7.slt, mnMo _ _ _ (sbc.trans (sbd.trans Z7.sm)) hOb, Im.up hr3 (t4.trans (e5.tp.trans (e6.tp.trans t7))), ?_, rl.up t7⟩
      rw [eH7, SlX.slH_ne hlne.1 hlne.2]
      exact hl

def spGelder (cO cG : Addr) : Sp := spS GOk (fun i => [GrowthAt cO cG i]) (fun i H0 => rLF H0 ((elderE i.2.2).map evD))
theorem sc_Gelder : FnScope ["self", "number"] ["self"] (defScope s_Gelder) := ⟨rfl, rfl, rfl, by decide +kernel, rfl, by decide +kernel, by decide +kernel⟩
theorem elderE_map (rows : List (List Ev)) : (elderE rows).map evD = (upTo rows.length).map fun i => evD (bareN, i) := by
  unfold elderE
  rw [List.map_map]
  rfl
theorem ok_Gelder {f : Addr} {fd : FuncData} (X : TM K cG "elder" "Growth.elder" s_Gelder ["self"] f fd) (T : TB mg) (O : TGr K mg cG) : FnOk P w K mg base CX0 1 f fd ["self"] (spGelder cO cG) := by
  have nd := sc_Gelder.nd
  refine fn_spS (m := false) X.F sc_Gelder (fun _ => rfl) (fun i => ml mnMo ml0) fun cdv A outer s H0 E hr => ?_
  have hu := hu_of hr
  refine ⟨_, (pss_one (ps_ret (pe_lc (own := [("number", 1)]) rfl nd (pi_range1 rfl T.n_range (pa_cons (pe_callB call_len_seq rfl T.n_len PySem.boot_len (pa_cons (SlX.pe_sl (pv 0)) pa_nil)) pa_nil)) (blkOk_by (by kernel_rfl)) (fun _ _ _ _ _ => (pg_name (i := 1) nd rfl (by first | exact Or.inl rfl | exact Or.inr rfl))) (fun _ _ _ _ _ => pts_nil) (fun _ _ _ _ _ => (pe_tup (pa_cons (pe_glob (v := .str "") rfl T.g_BARE.choose_spec ⟨_, rfl⟩) (pa_cons (pv 1) pa_nil))))))), ?_⟩
  rintro ⟨L, std, rows⟩ ⟨W, h1, h2⟩ σ H S Q k
  replace h1 : rows.length ≤ 200 := h1
  obtain ⟨v, ⟨g, dx, vo, vr, l, z, rfl, hs, hO, hR, hl, rl⟩, S1⟩ := S.pin 0 rfl
  replace hR : Im H (rowsD rows) vr := hR
  obtain ⟨pR, sR⟩ := O.sR
  refine s_ret (R := rLF H ((elderE rows).map evD)) ?_ k
  rw [elderE_map]
  refine EvR.imp (e_lc (enc := PyData.int) (xs := upTo rows.length) (F := fun i Γ => Γ.set 1 (some (rI (.int i)))) (fun _ => true) (fun i => evD (bareN, i)) S1 ?_ (by rw [upTo_length]; omega) (fun i _ => tg_i) (by decide) fun i hi σ2 H2 e2 S2 => ⟨b_yes, fun _ => e_tup (a_cons e_str (a_cons (ev S2 rfl) a_nil)) (by show 2 ≤ 100000; decide)⟩) fun H' v _ r => by rw [fT] at r; exact r
  have z := i_rng (m := false) (EvR.isI (e := .int (rows.length : Int)) (e_lenT (K := K) (e_sl (R := rI (rowsD rows)) (ev (i := 0) S1 rfl) hs O.c.cl sR rfl hR mnI)) (by rw [List.length_map])) ⟨by omega, by omega⟩
  rw [Int.toNat_natCast] at z
  exact z
def spGopen (cO cG : Addr) : Sp := spS (fun i : GIx × Nat × Ev => GOk i.1 ∧ i.2.1 < i.1.2.2.length ∧ i.2.2 ∈ evs i.1.1) (fun i => [GrowthAt cO cG i.1, rI (.int i.2.1), rI (evD i.2.2)]) (fun i _ => rI (.bool (openB i.1.1 (i.1.2.2.getD i.2.1 []) i.2.2)))
theorem sc_Gopen : FnScope ["self", "number", "event", "row"] ["self", "number", "event"] (defScope s_Gopen) := ⟨rfl, rfl, rfl, by decide +kernel, rfl, by decide +kernel, by decide +kernel⟩
theorem ok_Gopen {f fA : Addr} {fd : FuncData} (X : TM K cG "is_open" "Growth.is_open" s_Gopen ["self", "number", "event"] f fd) (T : TB mg) (O : TGr K mg cG) (M_o_is_ahead : GM P w K mg base 1 "is_ahead" cO fA (spOahead cO)) : FnOk P w K mg base CX0 2 f fd ["self", "number", "event"] (spGopen cO cG) := by
  have nd := sc_Gopen.nd
  refine fn_spS (m := false) X.F sc_Gopen (fun _ => rfl) (fun i => ml mnMo (mlI (mlI ml0))) fun cdv A outer s H0 E hr => ?_
  have hu := hu_of hr
  refine ⟨_, (pss_cons (ps_set (i := 3) nd rfl (by first | exact Or.inl rfl | exact Or.inr rfl) (pe_ix ix_tup (SlX.pe_sl (pv 0)) (pv 1) (fun _ _ => rfl)))
      (pss_one (ps_ret (pe_or (pe_cmpR op_eq (pe_callB call_len_seq rfl T.n_len PySem.boot_len (pa_cons (pv 3) pa_nil)) pe_int (nomark _)) (pe_one (SlX.pe_methSl (SlX.pe_sl (pv 0)) M_o_is_ahead.c M_o_is_ahead.m M_o_is_ahead.F (hr.mono (by first | decide | omega)) pass0 (pa_cons (pe_ix ix_tup (pv 3) (pe_un un_neg pe_int) (fun _ _ => rfl)) (pa_cons (pv 2) pa_nil)))))))), ?_⟩
  rintro ⟨⟨L, std, rows⟩, n, e⟩ ⟨_, hn, he⟩ σ H S Q k
  replace hn : n < rows.length := hn
  obtain ⟨v, ⟨g, dx, vo, vr, l, z, rfl, hs, hO, hR, hl, rl⟩, S1⟩ := S.pin 0 rfl
  replace hR : Im H (rowsD rows) vr := hR
  replace hO : OrdAt cO L H vo := hO
  obtain ⟨pR, sR⟩ := O.sR
  obtain ⟨pO, sO⟩ := O.sO
  have eg : rows[n]? = some rows[n] := List.getElem?_eq_getElem hn
  have egd : rows.getD n [] = rows[n] := by rw [List.getD_eq_getElem?_getD, eg]; rfl
  generalize rows[n] = r at eg egd
  refine g_setI (d := .tuple (r.map evD)) S1 (e_ixT (e_sl (R := rI (rowsD rows)) (ev S1 rfl) hs O.c.cl sR rfl hR mnI) (ev S1 rfl) (atI_nat (by rw [List.getElem?_map, eg]; rfl))) fun σ2 H2 e2 S2 => ?_
  refine s_ret (R := rI (.bool (openB L (rows.getD n []) e))) ?_ fun v H3 e3 hv => k v H3 (e2.trans e3) hv
  rw [egd]
  rcases List.eq_nil_or_concat r with hr0 | ⟨r0, x, hr1⟩
  · refine EvR.isI (e_orV (a := true) (b := true) (EvR.isI (e_eqI (e_lenT (ev S2 rfl)) e_int) ?_) fun h => by cases h) ?_
    · rw [hr0]; rfl
    · rw [hr0]; rfl
  · rw [List.concat_eq_append] at hr1
    refine EvR.isI (e_orV (a := false) (b := ahead L x e) (EvR.isI (e_eqI (e_lenT (ev S2 rfl)) e_int) ?_) fun _ => e_methR (R := OrdAt cO L) (fun H v h => ordAt_slt h) mnMo (e_sl (ev S2 rfl) (slt_same hs e2) O.c.cl sO rfl (mnMo _ _ _ e2 hO) mnMo) (aI (d := evD x) (e_ixT (ev S2 rfl) (e_neg e_int) ?_) (aI (ev S2 rfl) aa_nil)) (L, x, e) he rfl fun _ _ _ _ r => r) ?_
    · rw [hr1]
      refine congrArg PyData.bool ?_
      rw [decide_eq_false_iff_not]
      simp
      omega
    · rw [hr1, List.map_append]
      exact atI_last
    · rw [hr1]
      unfold openB
      rw [List.getLast?_append]
      simp
def gdom (i : GIx) (e : Ev) : Prop := GOk i ∧ ((e.1 = bareN ∧ 0 ≤ e.2 ∧ e.2 < i.2.2.length) ∨ e ∈ evs i.1)
theorem sc_Gahead : FnScope ["self", "one", "other"] ["self", "one", "other"] (defScope s_Gahead) := ⟨rfl, rfl, rfl, by decide +kernel, rfl, by decide +kernel, by decide +kernel⟩
theorem bare_iff (n : Nm) : n.1 = "" ↔ n = bareN := ⟨fun h => Subtype.ext h, fun h => by rw [h]; rfl⟩
theorem ok_Gahead {f fA fO : Addr} {fd : FuncData} (X : TM K cG "is_ahead" "Growth.is_ahead" s_Gahead ["self", "one", "other"] f fd) (T : TB mg) (O : TGr K mg cG) (M_o_is_ahead : GM P w K mg base 1 "is_ahead" cO fA (spOahead cO)) (M_Growth_is_open : GM P w K mg base 2 "is_open" cG fO (spGopen cO cG)) :
    FnOk P w K mg base CX0 3 f fd ["self", "one", "other"] (spAsk gdom (GrowthAt cO cG) fun i => gah i.1 i.2.2) := by
  have nd := sc_Gahead.nd
  refine fn_spS (m := false) X.F sc_Gahead (fun _ => rfl) (fun i => ml mnMo (mlI (mlI ml0))) fun cdv A outer s H0 E hr => ?_
  have hu := hu_of hr
  refine ⟨_, (pss_cons (ps_if (PW.pt (pw_or (pt_cmpR op_eq (pe_ix ix_tup (pv 1) pe_int (fun _ _ => rfl)) (pe_glob (v := .str "") rfl T.g_BARE.choose_spec ⟨_, rfl⟩) (nomark _)) (pw_or1 (pt_cmpR op_eq (pe_ix ix_tup (pv 2) pe_int (fun _ _ => rfl)) (pe_glob (v := .str "") rfl T.g_BARE.choose_spec ⟨_, rfl⟩) (nomark _))))) (pss_one (ps_ret (pe_and (pe_cmpR op_ne (pe_ix ix_tup (pv 2) pe_int (fun _ _ => rfl)) (pe_glob (v := .str "") rfl T.g_BARE.choose_spec ⟨_, rfl⟩) (nomark _)) (pe_one (SlX.pe_methSl (pv 0) M_Growth_is_open.c M_Growth_is_open.m M_Growth_is_open.F (hr.mono (by first | decide | omega)) pass0 (pa_cons (pe_ix ix_tup (pv 1) pe_int (fun _ _ => rfl)) (pa_cons (pv 2) pa_nil))))))) pss_nil)
      (pss_one (ps_ret (SlX.pe_methSl (SlX.pe_sl (pv 0)) M_o_is_ahead.c M_o_is_ahead.m M_o_is_ahead.F (hr.mono (by first | decide | omega)) pass0 (pa_cons (pv 1) (pa_cons (pv 2) pa_nil)))))), ?_⟩
  rintro ⟨⟨L, std, rows⟩, a, b⟩ ⟨⟨G, ha⟩, _, hb⟩ σ H S Q k
  replace ha : (a.1 = bareN ∧ 0 ≤ a.2 ∧ a.2 < rows.length) ∨ a ∈ evs L := ha
  replace hb : (b.1 = bareN ∧ 0 ≤ b.2 ∧ b.2 < rows.length) ∨ b ∈ evs L := hb
  have W : Well L := G.w
  replace S : Sat false [some (GrowthAt cO cG (L, std, rows)), some (rI (evD a)), some (rI (evD b))] σ H := S
  refine q_ifN (b := decide (a.1.1 = "") || decide (b.1.1 = "")) (b_or (b_test (e_eqS (e_ixT (ev S rfl) e_int rfl) e_str)) fun _ => b_test (e_eqS (e_ixT (ev S rfl) e_int rfl) e_str)) (fun hc H1 e1 => ?_) (fun hc H1 e1 => ?_)
  · have S1 := S.sm e1
    have hor : a.1 = bareN ∨ b.1 = bareN := by
      rw [Bool.or_eq_true, decide_eq_true_eq, decide_eq_true_eq, bare_iff, bare_iff] at hc
      exact hc
    refine s_ret (R := rI (.bool (gah L rows a b))) (EvR.isI (e_andV (a := !decide (b.1.1 = "")) (b := openB L (rows.getD a.2.toNat []) b) (e_neS (e_ixT (ev S1 rfl) e_int rfl) e_str) fun hnb => ?_) ?_) fun v H2 e2 hv => k v H2 (e1.trans e2) hv
    · have nb : b.1 ≠ bareN := by
        rw [Bool.not_eq_true', decide_eq_false_iff_not, bare_iff] at hnb
        exact hnb
      have ab : a.1 = bareN := hor.resolve_right nb
      have hbe : b ∈ evs L := hb.resolve_left fun h => nb h.1
      have hai : 0 ≤ a.2 ∧ a.2 < rows.length := by
        rcases ha with h | h
        · exact h.2
        · exact absurd ab (ev_bare W h)
      have ei : ((a.2.toNat : Nat) : Int) = a.2 := Int.toNat_of_nonneg hai.1
      refine e_methR (R := GrowthAt cO cG (L, std, rows)) (fun H v h => growth_slt h) mnMo (ev S1 rfl) (aI (d := .int (a.2.toNat : Int)) (e_ixT (ev S1 rfl) e_int (by rw [ei]; rfl)) (aI (ev S1 rfl) aa_nil)) ((L, std, rows), a.2.toNat, b) ⟨G, by show a.2.toNat < rows.length; omega, hbe⟩ rfl fun _ _ _ _ r => r
    · unfold gah
      rw [if_pos hor]
      refine congrArg PyData.bool ?_
      congr 1
      congr 1
      rw [Bool.eq_iff_iff, decide_eq_true_eq, decide_eq_true_eq]
      exact bare_iff _
  · have S1 := S.sm e1
    have hno : ¬ (a.1 = bareN ∨ b.1 = bareN) := by
      intro h
      rw [← bare_iff, ← bare_iff] at h
      rw [Bool.or_eq_false_iff, decide_eq_false_iff_not, decide_eq_false_iff_not] at hc
      exact h.elim hc.1 hc.2
    have hbe : b ∈ evs L := hb.resolve_left fun h => hno (.inr h.1)
    obtain ⟨v, ⟨g, dx, vo, vr, l, z, rfl, hs, hO, hR, hl, rl⟩, S2⟩ := S1.pin 0 rfl
    replace hO : OrdAt cO L H1 vo := hO
    obtain ⟨pO, sO⟩ := O.sO
    refine s_ret (R := rI (.bool (gah L rows a b))) (EvR.isI (e := .bool (gah L rows a b)) (d := .bool (ahead L a b)) (e_methR (R := OrdAt cO L) (fun H v h => ordAt_slt h) mnMo (e_sl (ev S2 rfl) hs O.c.cl sO rfl hO mnMo) (aI (ev S2 rfl) (aI (ev S2 rfl) aa_nil)) (L, a, b) hbe rfl fun _ _ _ _ r => r) ?_) fun v H2 e2 hv => k v H2 (e1.trans e2) hv
    unfold gah
    rw [if_neg hno]
abbrev CrowdG (cO cC cG : Addr) (i : GIx) : Rs := CrowdAt cC (GrowthAt cO cG i) (elderE i.2.2 ++ newE i.1 i.2.1)
def spGcrowd (cO cC cG : Addr) : Sp := spS GOk (fun i => [GrowthAt cO cG i]) (fun i _ => CrowdG cO cC cG i)
theorem sc_Gcrowd : FnScope ["self"] ["self"] (defScope s_Gcrowd) := ⟨rfl, rfl, rfl, by decide +kernel, rfl, by decide +kernel, by decide +kernel⟩
theorem newE_len {L : Lg} (W : Well L) (std : Nm → Int) : (newE L std).length ≤ 100 := Nat.le_trans (List.length_filter_le _ _) (mks_len W)
theorem ok_Gcrowd {f fC fE : Addr} {fd : FuncData} (X : TM K cG "crowd" "Growth.crowd" s_Gcrowd ["self"] f fd) (T : TB mg) (O : TGr K mg cG) (G_Crowd : GC P w K mg base 1 "Crowd" cC fC (spCinit cC)) (M_Growth_elder : GM P w K mg base 1 "elder" cG fE (spGelder cO cG)) : FnOk P w K mg base CX0 3 f fd ["self"] (spGcrowd cO cC cG) := by
  have nd := sc_Gcrowd.nd
  refine fn_spS (m := false) X.F sc_Gcrowd (fun _ => rfl) (fun i => ml mnMo ml0) fun cdv A outer s H0 E hr => ?_
  have hu := hu_of hr
  refine ⟨_, (pss_one (ps_ret (StX.pe_makeR G_Crowd.m G_Crowd.F (hr.mono (by first | decide | omega)) rfl G_Crowd.g pass0 (pa_cons (pv 0) (pa_cons (pe_op op_cat (SlX.pe_methSl0 (pv 0) M_Growth_elder.c M_Growth_elder.m M_Growth_elder.F (hr.mono (by first | decide | omega)) pass0) (SlX.pe_sl (pv 0))) pa_nil))))), ?_⟩
  rintro i G σ H S Q k
  have W := G.w
  obtain ⟨v, hG, S1⟩ := S.pin 0 rfl
  obtain ⟨g, dx, vo, vr, l, z, ev0, hs, hO, hR, hl, rl⟩ := id hG
  subst ev0
  obtain ⟨pN, sN⟩ := O.sN
  refine s_ret (R := CrowdG cO cC cG i) (e_make ((⟨GrowthAt cO cG i, mnMo⟩, elderE i.2.2 ++ newE i.1 i.2.1) : {R : Rs // Mn false R} × List Ev) True.intro (aa_cons mnMo (ev S rfl) (aa_cons mnMo (EvR.isL (e_cat (ds := (elderE i.2.2).map evD) (es := (newE i.1 i.2.1).map evD) (e_methR (R := GrowthAt cO cG i) (fun H v h => growth_slt h) mnMo (ev S rfl) aa_nil i G rfl fun _ _ _ _ r => rLF.l r) (e_at (e_sl (ev S1 rfl) hs O.c.cl sN rfl rfl mnX) hl rl) ?_) (by rw [List.map_append])) aa_nil))) k
  have h1 := newE_len W i.2.1
  have h2 := G.r1
  have h3 : (elderE i.2.2).length = i.2.2.length := by unfold elderE; rw [List.length_map, upTo_length]
  rw [List.length_map, List.length_map, h3]
  omega
def spFewest : Sp := spS (fun i : GIx => GOk i ∧ (elderE i.2.2 ++ newE i.1 i.2.1).length ≤ 30) (fun i => [rI (lgD i.1), rI (standD i.1 i.2.1), rI (rowsD i.2.2)]) (fun i _ => rI (.int (widthM (gah i.1 i.2.2) (elderE i.2.2 ++ newE i.1 i.2.1) - (i.2.2.length : Int))))
theorem sc_fewest_on : FnScope ["log", "stand", "counters", "growth"] ["log", "stand", "counters"] (defScope s_fewest_on) := ⟨rfl, rfl, rfl, by decide +kernel, rfl, by decide +kernel, by decide +kernel⟩
theorem ok_fewest_on {f fG fC fW fE : Addr} {fd : FuncData} (X : TF K mg "fewest_on" s_fewest_on ["log", "stand", "counters"] f fd) (T : TB mg) (G_Growth : GC P w K mg base 9 "Growth" cG fG (spGinit cO cG)) (M_Growth_crowd : GM P w K mg base 3 "crowd" cG fC (spGcrowd cO cC cG)) (M_Growth_elder : GM P w K mg base 1 "elder" cG fE (spGelder cO cG))
    (M_Crowd_width : GM P w K mg base 36 "width" cC fW (spCwidth cC gdom (GrowthAt cO cG) fun i => gah i.1 i.2.2)) : FnOk P w K mg base CX0 37 f fd ["log", "stand", "counters"] spFewest := by
  have nd := sc_fewest_on.nd
  refine fn_spS (m := false) X.F sc_fewest_on (fun _ => rfl) (fun i => mlI (mlI (mlI ml0))) fun cdv A outer s H0 E hr => ?_
  have hu := hu_of hr
  refine ⟨_, (pss_cons (ps_set (i := 3) nd rfl (by first | exact Or.inl rfl | exact Or.inr rfl) (StX.pe_makeR G_Growth.m G_Growth.F (hr.mono (by first | decide | omega)) rfl G_Growth.g pass0 (pa_cons (pv 0) (pa_cons (pv 1) (pa_cons (pv 2) pa_nil)))))
      (pss_one (ps_ret (pe_op op_sub (SlX.pe_methSl0 (SlX.pe_methSl0 (pv 3) M_Growth_crowd.c M_Growth_crowd.m M_Growth_crowd.F (hr.mono (by first | decide | omega)) pass0) M_Crowd_width.c M_Crowd_width.m M_Crowd_width.F (hr.mono (by first | decide | omega)) pass0) (pe_callB call_len_seq rfl T.n_len PySem.boot_len (pa_cons (SlX.pe_methSl0 (pv 3) M_Growth_elder.c M_Growth_elder.m M_Growth_elder.F (hr.mono (by first | decide | omega)) pass0) pa_nil)))))), ?_⟩
  rintro i ⟨G, hl⟩ σ H S Q k
  have W := G.w
  refine g_set (R := GrowthAt cO cG i) S (e_make i G (aI (ev S rfl) (aI (ev S rfl) (aI (ev S rfl) aa_nil)))) mnMo fun σ1 H1 e1 S1 => ?_
  refine s_ret (R := rI (.int (widthM (gah i.1 i.2.2) (elderE i.2.2 ++ newE i.1 i.2.1) - (i.2.2.length : Int)))) (EvR.isI (e_sub (i := widthM (gah i.1 i.2.2) (elderE i.2.2 ++ newE i.1 i.2.1)) (e_methR (R := CrowdG cO cC cG i) (fun H v h => crowd_slt h) (crowd_mn mnMo) (e_methR (R := GrowthAt cO cG i) (fun H v h => growth_slt h) mnMo (ev S1 rfl) aa_nil i G rfl fun _ _ _ _ r => r) aa_nil (i, elderE i.2.2 ++ newE i.1 i.2.1) ⟨hl, fun x hx => ?_⟩ rfl fun _ _ _ _ r => r)
    (e_lenL (e_methR (R := GrowthAt cO cG i) (T := rL ((elderE i.2.2).map evD)) (fun H v h => growth_slt h) mnMo (ev S1 rfl) aa_nil i G rfl fun _ _ _ _ r => rLF.l r))) ?_) fun v H2 e2 hv => k v H2 (e1.trans e2) hv
  · refine ⟨G, ?_⟩
    rcases List.mem_append.mp hx with h | h
    · left
      unfold elderE at h
      obtain ⟨j, hj, rfl⟩ := List.mem_map.mp h
      have := mem_upTo.mp hj
      exact ⟨rfl, this⟩
    · right
      exact W.mark _ (List.mem_filter.mp h).1
  · have h3 : (elderE i.2.2).length = i.2.2.length := by unfold elderE; rw [List.length_map, upTo_length]
    rw [List.length_map, h3]

def elderM (std : Nm → Int) (m : Mc) : Mc := (m.1, std m.1, m.2.2.filter fun i => decide (i < std m.1))
def spElder : Sp := spS (fun i : Lg × (Nm → Int) => Well i.1) (fun i => [rI (lgD i.1), rI (standD i.1 i.2)]) (fun i _ => rI (lgD (elderL i.1 i.2)))
theorem sc_elder_log : FnScope ["log", "stand", "machines", "messages", "many", "machine", "elder", "rows", "name", "size", "marks", "number", "message"] ["log", "stand"] (defScope s_elder_log) := ⟨rfl, rfl, rfl, by decide +kernel, rfl, by decide +kernel, by decide +kernel⟩
theorem ok_elder_log {f f1 : Addr} {fd fd1 : FuncData} (X : TF K mg "elder_log" s_elder_log ["log", "stand"] f fd) (T : TB mg) (G_tupled : GF P w K mg base 6 "tupled" f1 fd1 ["thing"] (spTupled 6)) : FnOk P w K mg base CX0 7 f fd ["log", "stand"] spElder := by
  have nd := sc_elder_log.nd
  refine fn_spS (m := true) X.F sc_elder_log (fun _ => rfl) (fun i => mlI (mlI ml0)) fun cdv A outer s H0 E hr => ?_
  have hu := hu_of hr
  refine ⟨_, (pss_cons (ps_asg (pe_call G_tupled.F (hr.mono (by first | decide | omega)) rfl G_tupled.g G_tupled.kp G_tupled.b .nil pass0 (pa_cons (pv 0) pa_nil)) (pg_tup (by rfl) (pgs_cons (pg_name (i := 2) nd rfl (by first | exact Or.inl rfl | exact Or.inr rfl)) (pgs_cons (pg_name (i := 3) nd rfl (by first | exact Or.inl rfl | exact Or.inr rfl)) pgs_nil))))
      (pss_cons (ps_set (i := 4) nd rfl (by first | exact Or.inl rfl | exact Or.inr rfl) (pe_dc (own := [("machine", 5), ("elder", 6)]) (tk := (tOp (rIxT K) _ _)) (g := (gTup K 2 (gCons (gName 5) (gCons (gName 6) gNil)))) rfl nd (RZ.pi_zipA rfl T.n_zip (pa_cons (pv 2) (pa_cons (pv 1) pa_nil))) (blkOk_by (by kernel_rfl)) (fun _ _ _ _ _ => (pg_tup (by rfl) (pgs_cons (pg_name (i := 5) nd rfl (by first | exact Or.inl rfl | exact Or.inr rfl)) (pgs_cons (pg_name (i := 6) nd rfl (by first | exact Or.inl rfl | exact Or.inr rfl)) pgs_nil)))) (fun _ _ _ _ _ => pts_nil) (fun _ _ _ _ _ => (pe_ix ix_tup (pv 5) pe_int (fun _ _ => rfl))) (fun _ _ _ _ _ => (pv 6))))
      (pss_cons (ps_set (i := 7) nd rfl (by first | exact Or.inl rfl | exact Or.inr rfl) (pe_lst pa_nil))
      (pss_cons (ps_for PassesOwn.never rfl (pi_tup (pv 2)) (pg_tup (by rfl) (pgs_cons (pg_name (i := 8) nd rfl (by first | exact Or.inl rfl | exact Or.inr rfl)) (pgs_cons (pg_name (i := 9) nd rfl (by first | exact Or.inl rfl | exact Or.inr rfl)) (pgs_cons (pg_name (i := 10) nd rfl (by first | exact Or.inl rfl | exact Or.inr rfl)) pgs_nil)))) (pss_one (ps_expr (pe_bm PySem.F.plainAttrs_list PySem.F.slot_list_append PySem.F.type_list_append mt_append (pv 7) (pa_cons (pe_tup (pa_cons (pv 8) (pa_cons (pe_dget hu (pv 4) (pv 8) (fun _ _ => rfl)) (pa_cons (pe_callTy call_tuple_of rfl T.n_tuple (by decide +kernel) (pa_cons (pe_lc (own := [("number", 11)]) rfl nd (pi_tup (pv 10)) (blkOk_by (by kernel_rfl)) (fun _ _ _ _ _ => (pg_name (i := 11) nd rfl (by first | exact Or.inl rfl | exact Or.inr rfl))) (fun _ _ _ _ _ => (pts_one (pt_cmpR op_lt (pv 11) (pe_dget hu (pv 4) (pv 8) (fun _ _ => rfl)) (nomark _)))) (fun _ _ _ _ _ => (pv 11))) pa_nil)) pa_nil)))) pa_nil)))))
      (pss_one (ps_ret (pe_tup (pa_cons (pe_callTy call_tuple_of rfl T.n_tuple (by decide +kernel) (pa_cons (pv 7) pa_nil)) (pa_cons (pe_callTy call_tuple_of rfl T.n_tuple (by decide +kernel) (pa_cons (pe_lc (own := [("message", 12)]) (tt := (tTest (tOp _ (tOp (rIxT K) (tOp (rIxT K) _ _) _) (tDGet _ (tOp (rIxT K) (tOp (rIxT K) _ _) _))))) rfl nd (pi_tup (pv 3)) (blkOk_by (by kernel_rfl)) (fun _ _ _ _ _ => (pg_name (i := 12) nd rfl (by first | exact Or.inl rfl | exact Or.inr rfl))) (fun _ _ _ _ _ => (pts_one (pt_cmpR op_lt (pe_ix ix_tup (pe_ix ix_tup (pv 12) pe_int (fun _ _ => rfl)) pe_int (fun _ _ => rfl)) (pe_dget hu (pv 4) (pe_ix ix_tup (pe_ix ix_tup (pv 12) pe_int (fun _ _ => rfl)) pe_int (fun _ _ => rfl)) (fun _ _ => rfl)) (nomark _)))) (fun _ _ _ _ _ => (pv 12))) pa_nil)) pa_nil))))))))), ?_⟩
  rintro ⟨L, std⟩ W σ H S Q k
  replace W : Well L := W
  refine g_asg S (e_callT (lgD L) (fits_lg W) (aI (ev S rfl) aa_nil) fun _ _ _ _ r => r) (tg_tup (tg_cons tg_i (tg_cons tg_i tg_nil)) rfl) fun σ1 H1 e1 S1 => ?_
  refine q_set (R := fun H' v => ∃ d, v = .ref d ∧ H1 d = none ∧ DV kN .dK H' d (L.1.map (·.1)) (fun n => .int (std n))) (e_dcKv (enc := fun m : Mc => .tuple [mcD m, .int (std m.1)]) (xs := L.1) (F := fun m Γ => (Γ.set 5 (some (rI (mcD m)))).set 6 (some (rI (.int (std m.1))))) kN_inj (fun m => m.1) (fun n => .int (std n)) S1
      (by rw [← zip_stand]; exact i_zipT (aI (ev (i := 2) S1 rfl) (aI (ev (i := 1) S1 rfl) aa_nil))) (by have := W.few.1; omega) (fun m _ => tg_tup (tg_cons tg_i (tg_cons tg_i tg_nil)) rfl) (by decide) W.names fun m hm σ2 H2 S2 =>
        ⟨EvR.xs (e_ixT (ev (R := rI (mcD m)) S2 rfl) e_int rfl), ev S2 rfl⟩) fun v H2 e2 hv => ?_
  obtain ⟨d, rfl, hdn, hD⟩ := hv
  have S2 := (S1.sm e2).set 4 (mnX (v := .ref d)) rfl
  refine q_set (e_lstF (ds := []) a_nil (by decide)) fun v H3 e3 hv => ?_
  obtain ⟨rl, zr, rfl, hrn, hr3, rr3⟩ := hv
  have S3 := (S2.sm e3).set 7 (mnX (v := .ref rl)) rfl
  have inn : ∀ m ∈ L.1, m.1 ∈ L.1.map (·.1) := fun m hm => List.mem_map.mpr ⟨m, hm, rfl⟩
  refine q_for (m := true) (enc := mcD) (xs := L.1) (i_tup (ev S3 rfl)) fun H4 e4 => ⟨fun pre σ' H' => Sat true [some (rI (lgD L)), some (rI (standD L std)), some (rI (.tuple (L.1.map mcD))), some (rI (.tuple (L.2.map mgD))), some (rX (.ref d)), none, none, some (rX (.ref rl)), none, none, none, none, none] σ' H' ∧ Same H2 H' ∧ Tp H4 H' ∧ ∃ zs, H' rl = some (.lst zs) ∧ ImL H' ((pre.map (elderM std)).map mcD) zs, ?_, fun pre σ' H' h => h.2.2.1, fun pre m post σ' H5 H6 v esp hF sm hv => ?_, fun σ' H5 hF => ?_⟩
  · exact ⟨S3.sm e4, e3.trans e4, Tp.refl _, zr, e4 _ _ hr3, rr3.sm e4⟩
  · obtain ⟨S5, s5, tp5, zs, hz, rz⟩ := hF
    have hm : m ∈ L.1 := by rw [esp]; simp
    obtain ⟨σ2, a2, S6, _⟩ := (tg_tup (K := K) (n := 3) (tg_cons (tg_i (i := 8)) (tg_cons (tg_i (i := 9)) (tg_cons (tg_i (i := 10)) tg_nil))) rfl : Tg _ (rI (mcD m)) _ _) true _ v σ' H6 (S5.sm sm) hv
    refine a2 _ ?_
    have D6 := hD.sm (s5.trans sm)
    have hlen : pre.length ≤ 10 := by
      have h1 := congrArg List.length esp
      have h2 := W.few.1
      rw [List.length_append] at h1
      omega
    refine s_appI (d := mcD (elderM std m)) (ev S6 rfl) (sm _ _ hz) (rz.sm sm) (e_tup (a_cons (ev S6 rfl) (a_cons (d := .int (std m.1)) (e_dgetK (key := kN) (f := fun n => .int (std n)) (e := m.1) (ev S6 rfl) (EvR.xs (ev S6 rfl)) D6 (inn m hm)) (a_cons (e_tupL (EvR.l (e_lc (enc := PyData.int) (xs := m.2.2) (F := fun i Γ => Γ.set 11 (some (rI (.int i)))) (fun i => decide (i < std m.1)) PyData.int S6 (i_tup (ev S6 rfl)) (by have := W.marks m hm; omega) (fun i _ => tg_i) (by decide) fun i hi σ7 H7 e7 S7 =>
      ⟨b_test (e_ltI (ev S7 rfl) (e_dgetK (key := kN) (f := fun n => .int (std n)) (e := m.1) (ev S7 rfl) (EvR.xs (ev S7 rfl)) (D6.sm e7) (inn m hm))), fun _ => ev S7 rfl⟩))) a_nil))) (by show 3 ≤ 100000; decide)) (by rw [List.length_map, List.length_map]; omega) fun H7 ws e7 rw7 t7 => ?_
    refine ⟨((Sat.fgt (((S6.sm e7).up (m := true) t7 : Sat true ((([some (rI (lgD L)), some (rI (standD L std)), some (rI (.tuple (L.1.map mcD))), some (rI (.tuple (L.2.map mgD))), some (rX (.ref d)), none, none, some (rX (.ref rl)), none, none, none, none, none].set 8 (some (rI (.str m.1.1)))).set 9 (some (rI (.int m.2.1)))).set 10 (some (rI (.tuple (m.2.2.map .int))))) σ2 _)) 8).fgt 9).fgt 10, same_mut (s5.trans (sm.trans e7)) hrn, tp5.trans (sm.tp.trans (e7.tp.trans t7)), ws, upd_same, ?_⟩
    rw [List.map_append, List.map_append]
    exact rw7
  · obtain ⟨S5, s5, tp5, zs, hz, rz⟩ := hF
    have D5 := hD.sm s5
    refine s_ret (R := rI (lgD (elderL L std))) (e_tup (a_cons (EvR.isI (e_tupL (e_at (ev S5 rfl) hz rz)) ?_) (a_cons (e_tupL (EvR.l (e_lc (enc := mgD) (xs := L.2) (F := fun m Γ => Γ.set 12 (some (rI (mgD m)))) (fun m => decide (m.2.2 < std m.2.1)) mgD S5 (i_tup (ev S5 rfl)) (by have := W.few.2; omega) (fun m _ => tg_i) (by decide) fun m hm σ7 H7 e7 S7 =>
      ⟨b_test (e_ltI (e_ixT (e_ixT (d := evD m.2) (ev S7 rfl) e_int rfl) e_int rfl) (e_dgetK (key := kN) (f := fun n => .int (std n)) (e := m.2.1) (ev S7 rfl) (EvR.xs (e_ixT (e_ixT (d := evD m.2) (ev (R := rI (mgD m)) S7 rfl) e_int rfl) e_int rfl)) (D5.sm e7) ?_)), fun _ => ev S7 rfl⟩))) a_nil)) (by show 2 ≤ 100000; decide)) fun v H6 e6 hv => k v H6 (e1.trans (e2.trans (s5.trans e6))) hv
    · rw [List.map_map]
      show _ = PyData.tuple ((L.1.map fun m => (m.1, std m.1, m.2.2.filter fun i => decide (i < std m.1))).map mcD)
      rw [List.map_map]
      rfl
    · obtain ⟨m', hm', e1, _⟩ := ev_name (W.lets m hm).2
      exact List.mem_map.mpr ⟨m', hm', e1⟩
end
end Fs

/-! FsR: the stairs. -/
namespace Fs
open PySem L2
abbrev s_Sinit : Stmt := inClass (topS 21) 1
abbrev s_Sbegin : Stmt := inClass (topS 21) 2
abbrev s_Sfit : Stmt := inClass (topS 21) 3
abbrev s_Sput : Stmt := inClass (topS 21) 4
abbrev s_Srows : Stmt := inClass (topS 21) 5
section
variable {K : PySem.W.Frag} {σ : St} {H : Hp} {ta tb te : TE}
theorem e_lenV {l : Addr} {xs : List V} (h : EvR te σ H (rX (.ref l))) (hl : H l = some (.lst xs)) : EvR (tCB (rLenS K) (tCons te tNil)) σ H (rI (.int xs.length)) := e_cb1 h fun x H1 e hx Q q => ⟨l, xs, by rw [hx], .inl (SqL.of (e _ _ hl)), q _ H1 (Same.refl H1) rfl⟩
theorem e_ixV {l : Addr} {xs : List V} {i : Int} {v : V} (h : EvR ta σ H (rX (.ref l))) (hl : H l = some (.lst xs)) (hb : EvR tb σ H (rI (.int i))) (hi : atI xs i = some v) : EvR (tOp (rIxL K) ta tb) σ H (rX v) := fun H1 e Q q =>
  h H1 e _ fun x H2 e2 hx => hb H2 (e.trans e2) _ fun y H3 e3 hy => ⟨l, xs, i, v, hx, hy, SqL.of ((e2.trans e3) _ _ (e _ _ hl)), hi, q v H3 (e2.trans e3) rfl⟩
theorem e_mul {i j : Int} (ha : EvR ta σ H (rI (.int i))) (hb : EvR tb σ H (rI (.int j))) (hc : CMul i j) : EvR (tOp (L2.rI CMul fun i j => .int (i * j)) ta tb) σ H (rI (.int (i * j))) := e_iC ha hb hc fun _ => rfl
theorem e_fdiv {i j : Int} (ha : EvR ta σ H (rI (.int i))) (hb : EvR tb σ H (rI (.int j))) (hc : CDivN i j) : EvR (tOp (L2.rI CDivN fun i j => .int (i.fdiv j)) ta tb) σ H (rI (.int (i.fdiv j))) := e_iC ha hb hc fun _ => rfl
theorem e_listRg {a b : Int} (ha : EvR ta σ H (rI (.int a))) (hb : EvR tb σ H (rI (.int b))) (ok : RgOk a b) : EvR (tLstRg (tRg2 ta tb)) σ H (fun H' v => ∃ l, v = .ref l ∧ H l = none ∧ H' l = some (.lst (rgV a b))) := fun H1 e Q q =>
  ha H1 e _ fun x H2 e2 hx => hb H2 (e.trans e2) _ fun y H3 e3 hy => ⟨a, b, hx, hy, ok, fun p hp => q _ _ ((e2.trans e3).trans (same_new hp)) ⟨p, rfl, ((e.trans e2).trans e3).free hp, upd_same⟩⟩
end
theorem s_updK {K : PySem.W.Frag} {σ : St} {H : Hp} {ta tb : TE} {D : Ends} {d : Addr} {kvs : List (Key × V)} {R : Rs} (ho : EvR ta σ H (rX (.ref d))) (hd : H d = some (.dK kvs)) (hb : EvR tb σ H R)
    (k : ∀ y H1, Same H H1 → R H1 y → ∃ o more, y = .ref o ∧ d ≠ o ∧ H1 o = some (.dK more) ∧ kvs.length + more.length ≤ 100000 ∧ D.nx σ (upd H1 d (.dK (mergeK kvs more)))) : tDrop (tBM K "dict" rUpdK ta (tCons tb tNil)) D σ H := ho.go fun x H1 e1 hx => by
  cases hx
  refine ⟨.inr (.inr (.inl ⟨rfl, .inl ⟨_, e1 _ _ hd⟩⟩)), hb H1 e1 _ fun y H2 e2 hy => ?_⟩
  obtain ⟨o, more, rfl, n, ho2, hz, q⟩ := k y H2 (e1.trans e2) hy
  exact ⟨d, o, kvs, more, rfl, rfl, n, (e1.trans e2) _ _ hd, ho2, hz, q⟩
theorem mergeK_new : ∀ (more kvs : List (Key × V)), (kvs ++ more).map (·.1) |>.Nodup → mergeK kvs more = kvs ++ more
  | [], kvs, _ => by rw [List.append_nil]; rfl
  | p :: more, kvs, h => by
    have hn : p.1 ∉ kvs.map (·.1) := by
      rw [List.map_append, List.map_cons] at h
      intro z
      exact (List.nodup_append.mp h).2.2 _ z p.1 List.mem_cons_self rfl
    show mergeK (putK kvs p.1 p.2) more = _
    rw [putK_new hn, mergeK_new more (kvs ++ [(p.1, p.2)]) (by simpa using h)]
    simp
theorem upTo_add (a b : Nat) : upTo (a + b) = upTo a ++ (upTo b).map fun i => (a : Int) + i := by
  unfold upTo
  rw [List.range_add, List.map_append, List.map_map, List.map_map]
  rfl
theorem rgV_upTo (a : Int) (n : Nat) : rgV a (a + n) = ((upTo n).map fun i => a + i).map V.int := by
  have e : (a + (n : Int) - a).toNat = n := by omega
  unfold rgV upTo
  rw [e, List.map_map, List.map_map]
  rfl
theorem e_catF {σ : St} {H : Hp} {ta tb : TE} {ds es : List PyData} (ha : EvR ta σ H (rL ds)) (hb : EvR tb σ H (rL es)) (hl : ds.length + es.length ≤ 100000) : EvR (tOp rCat ta tb) σ H (rLF H (ds ++ es)) := fun H0 e Q q =>
  ha H0 e _ fun x H1 e1 hx => hb H1 (e.trans e1) _ fun y H2 e2 hy => by
    obtain ⟨a, xs, rfl, ho, r⟩ := hx
    obtain ⟨b, ys, rfl, ho', r'⟩ := hy
    have r2 := r.sm e2
    refine ⟨a, b, xs, ys, rfl, rfl, e2 _ _ ho, ho', len_ok (by rw [r2.len, r'.len]; exact hl), fun p hp => q _ _ ((e1.trans e2).trans (same_new hp)) ⟨p, _, rfl, (e.trans (e1.trans e2)).free hp, upd_same, (r2.app r').sm (same_new hp)⟩⟩
structure TSt (K : PySem.W.Frag) (mg : Str → Option Value) (cS : Addr) : Prop where
  c : TC K mg "Stairs" cS
  sO : ∃ p, SlX.Slot1 K cS "own_order" p 0
  sS : ∃ p, SlX.Slot1 K cS "own_steps" p 2
  sR : ∃ p, SlX.Slot1 K cS "own_rows" p 1
/-- what of the stairs changes -/
structure StD (lS dR : Addr) (as : List Addr) (aR : Int → Addr) (H : Hp) (s : SS) : Prop where
  hS : H lS = some (.lst (as.map V.ref))
  hl : as.length = s.1.length
  hs : ∀ (i : Nat) a l, as[i]? = some a → s.1[i]? = some l → H a = some (.lst (l.map V.int))
  hR : H dR = some (.dK ((upTo s.2.length).map fun n => (kI n, V.ref (aR n))))
  hr : ∀ (n : Nat) r, s.2[n]? = some r → ∃ z, H (aR n) = some (.lst z) ∧ ImL H (r.map evD) z
  nS : ∀ a ∈ as, a ≠ lS
  nSR : ∀ n : Nat, n < s.2.length → aR n ≠ lS ∧ aR n ∉ as
  inj : ∀ m n : Nat, m < s.2.length → n < s.2.length → aR m = aR n → m = n
def pSt (lS dR : Addr) (as : List Addr) (aR : Int → Addr) (n : Nat) (b : Addr) : Prop := b = lS ∨ b = dR ∨ b ∈ as ∨ ∃ i : Nat, i < n ∧ b = aR i
/-- what a change of the stairs leaves -/
structure After (H : Hp) (p : Addr → Prop) (H' : Hp) (p' : Addr → Prop) : Prop where
  old : ∀ b u, H b = some u → ¬ p b → H' b = some u
  tp : Tp H H'
  nw : ∀ b, p' b → p b ∨ H b = none
theorem After.sm {H H' Hb : Hp} {p p' : Addr → Prop} (A : After H p H' p') (e : Same Hb H) (n : ∀ b, p b → Hb b = none) : Same Hb H' := fun b u h => A.old b u (e _ _ h) fun z => by rw [n b z] at h; cases h
theorem After.off {H H' Hb : Hp} {p p' : Addr → Prop} (A : After H p H' p') (e : Same Hb H) (n : ∀ b, p b → Hb b = none) : ∀ b, p' b → Hb b = none := fun b h => by
  rcases A.nw b h with z | z
  · exact n b z
  · exact e.free z
theorem After.trans {H H1 H2 : Hp} {p p1 p2 : Addr → Prop} (A : After H p H1 p1) (B : After H1 p1 H2 p2) : After H p H2 p2 := by
  refine ⟨fun b u h n => B.old b u (A.old b u h n) fun z => ?_, A.tp.trans B.tp, fun b h => ?_⟩
  · rcases A.nw b z with q | q
    · exact n q
    · rw [q] at h
      cases h
  · rcases B.nw b h with q | q
    · exact A.nw b q
    · by_cases hp : p b
      · exact .inl hp
      · right
        cases e : H b with
        | none => rfl
        | some u =>
          rw [A.old b u e hp] at q
          cases q
theorem After.mut {H H1 H2 : Hp} {p p1 p2 : Addr → Prop} {a : Addr} {o : HO} (A : After H p H1 p1) (e : Same H1 H2) (pa : p1 a) (t : Tp H2 (upd H2 a o)) (nw : ∀ b, p2 b → p1 b ∨ H1 b = none) : After H p (upd H2 a o) p2 :=
  A.trans ⟨fun b u hb hn => by
    rw [upd_ne (fun z : b = a => hn (by rw [z]; exact pa))]
    exact e _ _ hb, e.tp.trans t, nw⟩
theorem After.same {H H' : Hp} {p : Addr → Prop} (e : Same H H') : After H p H' p := ⟨fun b u h _ => e _ _ h, e.tp, fun b h => .inl h⟩
theorem StD.sm {lS dR : Addr} {as : List Addr} {aR : Int → Addr} {H H' : Hp} {s : SS} (D : StD lS dR as aR H s) (e : Same H H') : StD lS dR as aR H' s :=
  ⟨e _ _ D.hS, D.hl, fun i a l h1 h2 => e _ _ (D.hs i a l h1 h2), e _ _ D.hR, fun n r h => by
    obtain ⟨z, a, b⟩ := D.hr n r h
    exact ⟨z, e _ _ a, b.sm e⟩, D.nS, D.nSR, D.inj⟩
theorem StD.there {lS dR : Addr} {as : List Addr} {aR : Int → Addr} {H : Hp} {s : SS} (D : StD lS dR as aR H s) {b : Addr} (h : pSt lS dR as aR s.2.length b) : H b ≠ none := by
  rcases h with h | h | h | ⟨i, hi, h⟩
  · rw [h, D.hS]; simp
  · rw [h, D.hR]; simp
  · obtain ⟨i, hi, e⟩ := List.getElem_of_mem h
    have hi2 : i < s.1.length := by rw [← D.hl]; exact hi
    rw [D.hs i b s.1[i] (by rw [List.getElem?_eq_getElem hi, e]) (List.getElem?_eq_getElem hi2)]
    simp
  · obtain ⟨z, a, _⟩ := D.hr i _ (List.getElem?_eq_getElem hi)
    rw [h, a]
    simp
/-- the stairs at g: what never changes of them -/
structure StF (cO cS : Addr) (L : Lg) (Hb : Hp) (g lS dR : Addr) : Prop where
  ex : ∃ dx vo, SlX.Slt Hb g cS dx [some vo, some (.ref dR), some (.ref lS)] ∧ OrdAt cO L Hb vo
section
variable {P : Program} {w : World} {K : PySem.W.Frag} {mg : Str → Option Value} {base : Heap} {cO cC cG cS : Addr}
/-- a promise about stairs: what is asked, and what is then -/
def spSt (cO cS : Addr) {ι : Type} (pre : Lg → SS → ι → Prop) (as : ι → List Rs) (T : Lg → SS → ι → SS) (R : Lg → SS → ι → Rs) : Sp := fun vs H Q _ => ∃ (L : Lg) (Hb : Hp) (g lS dR : Addr) (sa : List Addr) (aR : Int → Addr) (s : SS) (i : ι) (rest : List V), vs = .ref g :: rest ∧ Args (as i) H rest ∧ StF cO cS L Hb g lS dR ∧ Same Hb H ∧ (∀ b, pSt lS dR sa aR s.2.length b → Hb b = none) ∧ StD lS dR sa aR H s ∧ SOk s ∧ pre L s i ∧
  ∀ v H' sa' aR', After H (pSt lS dR sa aR s.2.length) H' (pSt lS dR sa' aR' (T L s i).2.length) → StD lS dR sa' aR' H' (T L s i) → R L s i H' v → (∀ l, v = .ref l → ¬ pSt lS dR sa' aR' (T L s i).2.length l) → Q v H'
def spBegin (cO cS : Addr) : Sp := spSt cO cS (ι := Unit) (fun _ s _ => s.1.length ≤ 9) (fun _ => []) (fun _ s _ => beginM s) (fun _ _ _ => rX .non)
theorem sc_Sbegin : FnScope ["self", "many", "first", "number"] ["self"] (defScope s_Sbegin) := ⟨rfl, rfl, rfl, by decide +kernel, rfl, by decide +kernel, by decide +kernel⟩
theorem ok_Sbegin {f : Addr} {fd : FuncData} (X : TM K cS "begin_step" "Stairs.begin_step" s_Sbegin ["self"] f fd) (T : TB mg) (O : TSt K mg cS) : FnOk P w K mg base CX0 1 f fd ["self"] (spBegin cO cS) := by
  have nd := sc_Sbegin.nd
  refine X.F.ok sc_Sbegin (fun vs H Q E h => ?_) (fun cdv A outer s H vs Q E hr h => ?_)
  · obtain ⟨L, Hb, g, lS, dR, sa, aR, s, i, rest, rfl, rfl, _⟩ := h
    rfl
  · have hu := hu_of hr
    obtain ⟨L, Hb, g, lS, dR, sa, aR, st, i, rest, rfl, rfl, F, sm, off, D, ok, hle, k⟩ := h
    refine ⟨_, (pss_cons (ps_set (i := 1) nd rfl (by first | exact Or.inl rfl | exact Or.inr rfl) (pe_callB call_len_seq rfl T.n_len PySem.boot_len (pa_cons (SlX.pe_sl (pv 0)) pa_nil)))
      (pss_cons (ps_set (i := 2) nd rfl (by first | exact Or.inl rfl | exact Or.inr rfl) (pe_op op_fdivN (pe_op op_mul (pv 1) (pe_op op_add (pv 1) pe_int)) pe_int))
      (pss_cons (ps_expr (pe_bm PySem.F.plainAttrs_list PySem.F.slot_list_append PySem.F.type_list_append mt_append (SlX.pe_sl (pv 0)) (pa_cons (pe_listRg rfl rfl T.n_list (prg_2 rfl T.n_range (pv 2) (pe_op op_add (pe_op op_add (pv 2) (pv 1)) pe_int))) pa_nil)))
      (pss_one (ps_expr (pe_bm PySem.F.plainAttrs_dict PySem.F.slot_dict_update PySem.F.type_dict_update (mt_updateK rfl) (SlX.pe_sl (pv 0)) (pa_cons (pe_dc (own := [("number", 3)]) rfl nd (pi_list (pe_ix ix_list (SlX.pe_sl (pv 0)) (pe_un un_neg pe_int) (fun _ _ => rfl))) (blkOk_by (by kernel_rfl)) (fun _ _ _ _ _ => (pg_name (i := 3) nd rfl (by first | exact Or.inl rfl | exact Or.inr rfl))) (fun _ _ _ _ _ => pts_nil) (fun _ _ _ _ _ => (pv 3)) (fun _ _ _ _ _ => (pe_lst pa_nil))) pa_nil))))))), ?_⟩
    obtain ⟨dx, vo, hs, hO⟩ := F.ex
    obtain ⟨pS, sS⟩ := O.sS
    obtain ⟨pR, sR⟩ := O.sR
    have S : Sat true [some (rX (.ref g)), none, none, none] [some (.ref g), none, none, none] H := ⟨rfl, fun j T h => by
      match j, h with
      | 0, h => cases h; exact ⟨mnX, _, rfl, rfl⟩
      | 1, h => cases h
      | 2, h => cases h
      | 3, h => cases h⟩
    have hm9 : st.1.length ≤ 9 := hle
    have hcnt := ok.cnt
    refine g_setI (d := .int (st.1.length : Int)) S (EvR.isI (e_lenV (e_sl (ev S rfl) (slt_same hs sm) O.c.cl sS rfl rfl mnX) D.hS) (by rw [List.length_map, D.hl])) fun σ1 H1 e1 S1 => ?_
    refine g_setI (d := .int (firstN st.1.length)) S1 (e_fdiv (e_mul (ev S1 rfl) (e_add (ev S1 rfl) e_int) (.inl ⟨by omega, by omega⟩)) e_int ⟨by decide, by decide⟩) fun σ2 H2 e2 S2 => ?_
    have s2 := sm.trans (e1.trans e2)
    have D2 := D.sm (e1.trans e2)
    have efd : firstN (st.1.length : Int) = (st.2.length : Int) := hcnt.symm
    have hbnd : (st.2.length : Int) ≤ 100 := by
      rw [hcnt]
      unfold firstN
      have h0 : 0 ≤ (st.1.length : Int) := by omega
      have h1 : (st.1.length : Int) * ((st.1.length : Int) + 1) ≤ 9 * 10 := Int.mul_le_mul (by omega) (by omega) (by omega) (by omega)
      have h2 : 0 ≤ (st.1.length : Int) * ((st.1.length : Int) + 1) := Int.mul_nonneg (by omega) (by omega)
      rw [Int.fdiv_eq_ediv_of_nonneg _ (by decide)]
      omega
    refine q_app D2.hS (e_sl (ev S2 rfl) (slt_same hs s2) O.c.cl sS rfl rfl mnX) (e_listRg (a := firstN st.1.length) (b := firstN st.1.length + st.1.length + 1) (ev S2 rfl) (e_add (e_add (ev S2 rfl) (ev S2 rfl)) e_int) (RgOk.of_le (by omega) (by omega) (by omega) (by omega))) (by rw [List.length_map, D2.hl]; omega) fun v H3 e3 hv => ?_
    obtain ⟨ns, rfl, hnn, hns⟩ := hv
    have erg : rgV (firstN st.1.length) (firstN st.1.length + st.1.length + 1) = ((upTo (st.1.length + 1)).map fun i => (st.2.length : Int) + i).map V.int := by
      rw [← rgV_upTo, efd, show ((st.2.length : Int) + st.1.length + 1) = (st.2.length : Int) + ((st.1.length + 1 : Nat) : Int) by omega]
    rw [erg] at hns
    generalize hnews : ((upTo (st.1.length + 1)).map fun i => (st.2.length : Int) + i) = news at hns
    have nns : ns ≠ lS := fun z => by rw [z, D2.hS] at hnn; cases hnn
    have tH3 : Tp H3 (upd H3 lS (.lst (sa.map V.ref ++ [.ref ns]))) := tp_lst (e3 _ _ D2.hS)
    have s3 : Same Hb (upd H3 lS (.lst (sa.map V.ref ++ [.ref ns]))) := same_mut (s2.trans e3) (off _ (.inl rfl))
    have S3 := (S2.sm e3).up (m := true) tH3
    have hnsU : upd H3 lS (.lst (sa.map V.ref ++ [.ref ns])) ns = some (.lst (news.map V.int)) := by rw [upd_ne nns]; exact hns
    have ndn : news.Nodup := by
      rw [← hnews]
      exact List.pairwise_map.mpr (List.Pairwise.imp (fun {a b} h e => h (by omega)) (upTo_nodup _))
    -- update
    have dRne : dR ≠ lS := fun z => by have h1 := D2.hS; have h2 := D2.hR; rw [z, h1] at h2; cases h2
    have hR3 : upd H3 lS (.lst (sa.map V.ref ++ [.ref ns])) dR = some (.dK ((upTo st.2.length).map fun n => (kI n, V.ref (aR n)))) := by
      rw [upd_ne dRne]
      exact e3 _ _ D2.hR
    refine s_updK (e_sl (R := rX (.ref dR)) (ev S3 rfl) (slt_same hs s3) O.c.cl sR rfl rfl mnX) hR3 (e_dcKo (enc := PyData.int) (xs := news) (F := fun i Γ => Γ.set 3 (some (rI (.int i)))) kI S3
      (i_list (e_at (e_ixV (e_sl (ev S3 rfl) (slt_same hs s3) O.c.cl sS rfl rfl mnX) upd_same (e_neg e_int) atI_last) hnsU ints_imL)) (by rw [← hnews, List.length_map, upTo_length]; omega) (fun i _ => tg_i) (by decide) ndn kI_inj makes_lst (by intro ys z; cases z) fun i hi σ5 H5 S5 => EvR.xi (ev S5 rfl)) fun y H5 e5 hy => ?_
    obtain ⟨d, adr, rfl, J⟩ := hy
    have hR5 := e5 _ _ hR3
    have ddR : dR ≠ d := fun z => by have := J.d0; rw [← z, hR3] at this; cases this
    have ndk : (((upTo st.2.length).map fun n => (kI n, V.ref (aR n))) ++ news.map fun x => (kI x, V.ref (adr x))).map (·.1) = (upTo (st.2.length + (st.1.length + 1))).map kI := by
      rw [upTo_add, hnews, List.map_append, List.map_append, List.map_map, List.map_map]
      rfl
    have nd2 : ((upTo (st.2.length + (st.1.length + 1))).map kI).Nodup := List.pairwise_map.mpr (List.Pairwise.imp (fun {a b} h e => h (kI_inj _ _ e)) (upTo_nodup _))
    refine ⟨d, _, rfl, ddR, J.d, ?_, ?_⟩
    · rw [List.length_map, List.length_map, upTo_length, ← hnews, List.length_map, upTo_length]
      omega
    rw [mergeK_new _ _ (by rw [ndk]; exact nd2)]
    have old : ∀ {b : Addr} {u : HO}, H b = some u → b ≠ lS → b ≠ dR → upd H5 dR (.dK (((upTo st.2.length).map fun n => (kI n, V.ref (aR n))) ++ news.map fun x => (kI x, V.ref (adr x)))) b = some u := fun {b u} h n1 n2 => by
      rw [upd_ne n2]
      refine e5 _ _ ?_
      rw [upd_ne n1]
      exact e3 _ _ ((e1.trans e2) _ _ h)
    have hz2 : (beginM st).2.length = st.2.length + (st.1.length + 1) := by
      unfold beginM
      rw [List.length_append, List.length_replicate]
    have adrN : ∀ x ∈ news, H (adr x) = none := fun x hx => by
      cases q : H (adr x) with
      | none => rfl
      | some u =>
        have h4 := (J.nw x hx).1
        by_cases n1 : adr x = lS
        · rw [n1, upd_same] at h4
          cases h4
        · rw [upd_ne n1, e3 _ _ ((e1.trans e2) _ _ q)] at h4
          cases h4
    have nsN : H ns = none := (e1.trans e2).free hnn
    have hnewm : ∀ x, x ∈ news ↔ (st.2.length : Int) ≤ x ∧ x < (st.2.length : Int) + (st.1.length + 1) := fun x => by
      rw [← hnews, List.mem_map]
      constructor
      · rintro ⟨i, hi, rfl⟩
        have := mem_upTo.mp hi
        omega
      · rintro ⟨h1, h2⟩
        exact ⟨x - st.2.length, mem_upTo.mpr ⟨by omega, by omega⟩, by omega⟩
    obtain ⟨aR', eA, eB⟩ : ∃ aR' : Int → Addr, (∀ x, x < (st.2.length : Int) → aR' x = aR x) ∧ ∀ x, ¬ x < (st.2.length : Int) → aR' x = adr x := ⟨fun i => if i < (st.2.length : Int) then aR i else adr i, fun x h => if_pos h, fun x h => if_neg h⟩
    have eadr : ∀ m : Nat, m < st.2.length → aR' m = aR m := fun m hm => eA _ (by omega)
    have eadr2 : ∀ m : Nat, ¬ m < st.2.length → aR' m = adr m := fun m hm => eB _ (by omega)
    have inNew : ∀ m : Nat, ¬ m < st.2.length → m < (beginM st).2.length → (m : Int) ∈ news := fun m h1 h2 => by
      rw [hz2] at h2
      exact (hnewm m).mpr ⟨by omega, by omega⟩
    have some_ne : ∀ {b : Addr} {u : HO} {x : Int}, x ∈ news → H b = some u → adr x ≠ b := fun hx h z => by
      rw [← z, adrN _ hx] at h
      cases h
    have some_ns : ∀ {b : Addr} {u : HO}, H b = some u → ns ≠ b := fun h z => by
      rw [← z, nsN] at h
      cases h
    have tp0 : Tp H (upd H5 dR (.dK (((upTo st.2.length).map fun n => (kI n, V.ref (aR n))) ++ news.map fun x => (kI x, V.ref (adr x))))) := (e1.trans (e2.trans e3)).tp.trans (tH3.trans (e5.tp.trans (tp_dK hR5)))
    have adrL : ∀ x ∈ news, adr x ≠ lS ∧ adr x ≠ dR ∧ adr x ≠ ns := fun x hx => by
      refine ⟨some_ne hx D.hS, some_ne hx D.hR, fun z => ?_⟩
      have := (J.nw x hx).1
      rw [z, hnsU] at this
      cases this
    have asR : ∀ a ∈ sa, a ≠ dR := fun a ha z => by
      obtain ⟨i, hi, e⟩ := List.getElem_of_mem ha
      have hi2 : i < st.1.length := by rw [← D.hl]; exact hi
      have h1 := D.hs i a st.1[i] (by rw [List.getElem?_eq_getElem hi, e]) (List.getElem?_eq_getElem hi2)
      rw [z, D.hR] at h1
      cases h1
    have someA : ∀ a ∈ sa, ∃ u, H a = some u := fun a ha => by
      obtain ⟨i, hi, e⟩ := List.getElem_of_mem ha
      have hi2 : i < st.1.length := by rw [← D.hl]; exact hi
      exact ⟨_, D.hs i a st.1[i] (by rw [List.getElem?_eq_getElem hi, e]) (List.getElem?_eq_getElem hi2)⟩
    have someR : ∀ m : Nat, m < st.2.length → ∃ z, H (aR m) = some (.lst z) := fun m hm => by
      obtain ⟨z, a, _⟩ := D.hr m _ (List.getElem?_eq_getElem hm)
      exact ⟨z, a⟩
    have rRne : ∀ m : Nat, m < st.2.length → aR m ≠ dR := fun m hm z => by
      obtain ⟨q, a⟩ := someR m hm
      rw [z, D.hR] at a
      cases a
    refine k .non _ (sa ++ [ns]) aR' ⟨fun b u hb hp => old hb (fun z => hp (.inl z)) (fun z => hp (.inr (.inl z))), tp0, fun b hb => ?_⟩ ⟨?_, ?_, fun i a l h1 h2 => ?_, ?_, fun m r h => ?_, fun a ha => ?_, fun m hm => ?_, fun m n hm hn h => ?_⟩ rfl (fun l z => nomatch z)
    · rcases hb with hb | hb | hb | ⟨i, hi, hb⟩
      · exact .inl (.inl hb)
      · exact .inl (.inr (.inl hb))
      · rcases List.mem_append.mp hb with hb | hb
        · exact .inl (.inr (.inr (.inl hb)))
        · rw [List.mem_singleton.mp hb]
          exact .inr nsN
      · by_cases h : i < st.2.length
        · rw [eadr i h] at hb
          exact .inl (.inr (.inr (.inr ⟨i, h, hb⟩)))
        · rw [eadr2 i h] at hb
          rw [hb]
          exact .inr (adrN _ (inNew i h hi))
    · rw [upd_ne dRne.symm, e5 _ _ upd_same, List.map_append]
      rfl
    · show (sa ++ [ns]).length = (st.1 ++ [_]).length
      rw [List.length_append, List.length_append, D.hl]
      rfl
    · replace h2 : (st.1 ++ [(upTo (st.1.length + 1)).map fun i => (st.2.length : Int) + i])[i]? = some l := h2
      rw [hnews] at h2
      by_cases h : i < st.1.length
      · rw [List.getElem?_append_left (by rw [D.hl]; exact h)] at h1
        rw [List.getElem?_append_left h] at h2
        have ha := List.mem_of_getElem? h1
        exact old (D.hs i a l h1 h2) (D.nS a ha) (asR a ha)
      · rw [List.getElem?_append_right (by rw [D.hl]; omega)] at h1
        rw [List.getElem?_append_right (by omega)] at h2
        have hi : i - st.1.length = 0 := by
          have := (List.getElem?_eq_some_iff.mp h2).1
          rw [List.length_singleton] at this
          omega
        rw [D.hl, hi] at h1
        rw [hi] at h2
        cases h1
        cases h2
        rw [upd_ne (some_ns D.hR)]
        exact e5 _ _ hnsU
    · rw [upd_same, hz2, upTo_add, hnews, List.map_append]
      refine congrArg some (congrArg HO.dK ?_)
      congr 1
      · refine List.map_congr_left fun x hx => ?_
        have := mem_upTo.mp hx
        rw [eA x this.2]
      · refine List.map_congr_left fun x hx => ?_
        have := (hnewm x).mp hx
        rw [eB x (by omega)]
    · replace h : (st.2 ++ List.replicate (st.1.length + 1) [])[m]? = some r := h
      by_cases hm : m < st.2.length
      · rw [List.getElem?_append_left hm] at h
        obtain ⟨z, a, b⟩ := D.hr m r h
        rw [eadr m hm]
        exact ⟨z, old a (D.nSR m hm).1 (rRne m hm), b.up tp0⟩
      · rw [List.getElem?_append_right (by omega)] at h
        have hr0 : r = [] := (List.mem_replicate.mp (List.mem_of_getElem? h)).2
        have hlt := (List.getElem?_eq_some_iff.mp h).1
        rw [List.length_replicate] at hlt
        have hmn := inNew m hm (by rw [hz2]; omega)
        rw [eadr2 m hm, hr0]
        exact ⟨[], by rw [upd_ne (adrL _ hmn).2.1]; exact (J.nw _ hmn).2.1, rfl⟩
    · rcases List.mem_append.mp ha with ha | ha
      · exact D.nS a ha
      · rw [List.mem_singleton.mp ha]; exact nns
    · by_cases h : m < st.2.length
      · rw [eadr m h]
        refine ⟨(D.nSR m h).1, fun z => ?_⟩
        rcases List.mem_append.mp z with z | z
        · exact (D.nSR m h).2 z
        · obtain ⟨q, a⟩ := someR m h
          exact some_ns a (List.mem_singleton.mp z).symm
      · have hmn := inNew m h hm
        rw [eadr2 m h]
        refine ⟨(adrL _ hmn).1, fun z => ?_⟩
        rcases List.mem_append.mp z with z | z
        · obtain ⟨u, hu⟩ := someA _ z
          rw [adrN _ hmn] at hu
          cases hu
        · exact (adrL _ hmn).2.2 (List.mem_singleton.mp z)
    · by_cases h1 : m < st.2.length <;> by_cases h2 : n < st.2.length
      · rw [eadr m h1, eadr n h2] at h
        exact D.inj m n h1 h2 h
      · rw [eadr m h1, eadr2 n h2] at h
        obtain ⟨q, a⟩ := someR m h1
        exact absurd h.symm (some_ne (inNew n h2 hn) a)
      · rw [eadr2 m h1, eadr n h2] at h
        obtain ⟨q, a⟩ := someR n h2
        exact absurd h (some_ne (inNew m h1 hm) a)
      · rw [eadr2 m h1, eadr2 n h2] at h
        have := J.inj _ (inNew m h1 hm) _ (inNew n h2 hn) h
        omega

theorem Sat.fls {Γ : Gam} {σ : St} {H : Hp} (S : Sat true Γ σ H) : Sat false Γ σ H := ⟨S.1, fun i R h => by
  obtain ⟨a, b⟩ := S.2 i R h
  exact ⟨fun H H' v e r => a H H' v (Same.tp e) r, b⟩⟩
theorem ints_alike (xs : List Int) : PySem.W.AllAlike (xs.map PyData.int) := PySem.W.AllAlike.of fun _ _ => rfl
theorem ints_sortable (xs : List Int) : PySem.W.Sortable (xs.map PyData.int) := PySem.W.Sortable.others fun _ => ⟨by simp, fun _ z => by cases z⟩
theorem le_int (a b : Int) : PySem.W.dataLe false id (.int a) (.int b) = decide (a ≤ b) := by
  have h := PySem.W.dataLe_int (fun x : Int => x)
  exact congrFun (congrFun h a) b
theorem sortI_of {ys l : List Int} (p : ys.Perm l) (h : ys.Pairwise fun a b => PySem.W.dataLe false id (.int a) (.int b) = true) : ys = sortI l := by
  have h2 : (sortI l).Pairwise fun a b : Int => a ≤ b := by
    have := List.pairwise_mergeSort (le := fun a b : Int => decide (a ≤ b)) (fun a b c h1 h2 => by
      rw [decide_eq_true_eq] at *; omega) (fun a b => by
      rw [Bool.or_eq_true, decide_eq_true_eq, decide_eq_true_eq]; omega) l
    exact this.imp fun {a b} h => of_decide_eq_true h
  refine List.Perm.eq_of_pairwise (le := fun a b : Int => a ≤ b) (fun a b _ _ h1 h2 => by omega) (h.imp fun {a b} h => ?_) h2 (p.trans (List.mergeSort_perm l _).symm)
  rw [le_int, decide_eq_true_eq] at h
  exact h
theorem sortI_len (l : List Int) : (sortI l).length = l.length := (List.mergeSort_perm l _).length_eq
theorem mem_sortI {l : List Int} {n : Int} : n ∈ sortI l ↔ n ∈ l := (List.mergeSort_perm l _).mem_iff
theorem firstN_succ (m : Nat) : firstN ((m : Int) + 1) = firstN m + (m + 1) := by
  unfold firstN
  rw [Int.fdiv_eq_ediv_of_nonneg _ (by decide), Int.fdiv_eq_ediv_of_nonneg _ (by decide)]
  have e : ((m : Int) + 1) * (m + 1 + 1) = m * (m + 1) + (m + 1) * 2 := by
    rw [Int.mul_add ((m : Int) + 1) (m + 1) 1, Int.add_mul (m : Int) 1 (m + 1)]
    omega
  rw [e, Int.add_mul_ediv_right _ _ (by decide)]
theorem SOk.begin {s : SS} (O : SOk s) (h : s.1.length ≤ 9) : SOk (beginM s) := by
  have hz : (beginM s).2.length = s.2.length + (s.1.length + 1) := by unfold beginM; rw [List.length_append, List.length_replicate]
  refine ⟨?_, ?_, fun l hl n hn => ?_, fun r hr => ?_, fun l hl => ?_⟩
  · rw [hz]
    have := O.cnt
    show _ = firstN ((s.1 ++ [_]).length : Nat)
    rw [List.length_append, List.length_singleton]
    push_cast
    rw [firstN_succ]
    omega
  · show (s.1 ++ [_]).length ≤ 10
    rw [List.length_append, List.length_singleton]
    omega
  · rw [hz]
    rcases List.mem_append.mp (show l ∈ s.1 ++ [_] from hl) with hl | hl
    · have := O.num l hl n hn
      push_cast
      omega
    · rw [List.mem_singleton.mp hl] at hn
      obtain ⟨i, hi, rfl⟩ := List.mem_map.mp hn
      have := mem_upTo.mp hi
      push_cast
      push_cast at this
      omega
  · rcases List.mem_append.mp (show r ∈ s.2 ++ List.replicate _ [] from hr) with hr | hr
    · exact O.row r hr
    · rw [(List.mem_replicate.mp hr).2]
      exact Nat.zero_le _
  · rcases List.mem_append.mp (show l ∈ s.1 ++ [_] from hl) with hl | hl
    · exact O.nd l hl
    · rw [List.mem_singleton.mp hl, List.length_map, upTo_length]
      omega
theorem fitM_eq (L : Lg) (s : SS) (k : Nat) (e : Ev) : fitM L s k e = (((sortI (s.1.getD k [])).filter fun n => !decide (n ∈ (sortI (s.1.getD k [])).filter fun n => (rowOf s n).isEmpty)).filter fun n => (rowOf s n).getLast?.any fun x => ahead L x e) ++ (sortI (s.1.getD k [])).filter fun n => (rowOf s n).isEmpty := by
  unfold fitM
  congr 1
  rw [List.filter_filter]
  refine List.filter_congr fun n hn => ?_
  by_cases h : (rowOf s n).isEmpty = true
  · have h0 : rowOf s n = [] := by simpa using h
    rw [h0]
    rfl
  · have : n ∉ (sortI (s.1.getD k [])).filter fun n => (rowOf s n).isEmpty := fun z => h (List.mem_filter.mp z).2
    rw [decide_eq_false this]
    simp
theorem sh_ints (xs : List Int) : SeqAt.shaped (.list (xs.map PyData.int)) = true := sh_list fun d hd => by
  obtain ⟨e, _, rfl⟩ := List.mem_map.mp hd
  exact ⟨rfl, by show 0 ≤ 60; decide⟩
theorem any_int (xs : List Int) (n : Int) : ((xs.map PyData.int).any fun z => PyData.eqv z (.int n)) = decide (n ∈ xs) := by
  rw [List.any_map, Bool.eq_iff_iff, List.any_eq_true, decide_eq_true_eq]
  constructor
  · rintro ⟨x, hx, h⟩
    have h : (x == n) = true := h
    rw [beq_iff_eq] at h
    exact h ▸ hx
  · intro h
    exact ⟨n, h, by show (n == n) = true; simp⟩
theorem e_ninI {σ : St} {H : Hp} {ta tb : TE} {n : Int} {xs : List Int} (ha : EvR ta σ H (rI (.int n))) (hb : EvR tb σ H (rL (xs.map PyData.int))) : EvR (tOp (rNotInD K) ta tb) σ H (rI (.bool (!decide (n ∈ xs)))) := EvR.isI (e_ninD ha hb rfl (sh_ints xs)) (by rw [any_int])
def spFit (cO cS : Addr) : Sp := spSt cO cS (ι := Nat × Ev) (fun L s i => i.1 ≤ s.1.length ∧ i.2 ∈ evs L ∧ (i.1 = s.1.length → s.1.length ≤ 9)) (fun i => [rI (.int i.1), rI (evD i.2)]) (fun _ s i => openM s i.1) (fun L s i => rL ((fitM L (openM s i.1) i.1 i.2).map PyData.int))
theorem openM_ok {s : SS} (O : SOk s) {k : Nat} (h : k = s.1.length → s.1.length ≤ 9) : SOk (openM s k) := by
  unfold openM
  split
  · exact O.begin (h (by assumption))
  · exact O
theorem openM_lt {s : SS} {k : Nat} (h : k ≤ s.1.length) : k < (openM s k).1.length := by
  unfold openM
  split
  · show k < (s.1 ++ [_]).length
    rw [List.length_append, List.length_singleton]
    omega
  · omega
theorem sc_Sfit : FnScope ["self", "step", "event", "some", "bare", "number", "used"] ["self", "step", "event"] (defScope s_Sfit) := ⟨rfl, rfl, rfl, by decide +kernel, rfl, by decide +kernel, by decide +kernel⟩
theorem ok_Sfit {f fB fA : Addr} {fd : FuncData} (X : TM K cS "fitting" "Stairs.fitting" s_Sfit ["self", "step", "event"] f fd) (T : TB mg) (O : TSt K mg cS) (M_Stairs_begin_step : GM P w K mg base 1 "begin_step" cS fB (spBegin cO cS)) (M_o_is_ahead : GM P w K mg base 1 "is_ahead" cO fA (spOahead cO)) :
    FnOk P w K mg base CX0 2 f fd ["self", "step", "event"] (spFit cO cS) := by
  have nd := sc_Sfit.nd
  refine X.F.ok sc_Sfit (fun vs H Q E h => ?_) (fun cdv A outer s H vs Q E hr h => ?_)
  · obtain ⟨L, Hb, g, lS, dR, sa, aR, s, i, rest, rfl, ⟨_, _, rfl, _, _, _, rfl, _, rfl⟩, _⟩ := h
    rfl
  · have hu := hu_of hr
    obtain ⟨L, Hb, g, lS, dR, sa, aR, st, ⟨k0, e⟩, rest, rfl, aa, F, sm, off, D, ok, ⟨hk, he, h9⟩, k⟩ := h
    refine ⟨_, (pss_cons (ps_if (pt_cmpR op_eq (pv 1) (pe_callB call_len_seq rfl T.n_len PySem.boot_len (pa_cons (SlX.pe_sl (pv 0)) pa_nil)) (nomark _)) (pss_one (ps_expr (SlX.pe_methSl0 (pv 0) M_Stairs_begin_step.c M_Stairs_begin_step.m M_Stairs_begin_step.F (hr.mono (by first | decide | omega)) pass0))) pss_nil)
      (pss_cons (ps_set (i := 3) nd rfl (by first | exact Or.inl rfl | exact Or.inr rfl) (pe_callB (cr_sortD rfl hr.units) rfl T.n_sorted (by decide +kernel) (pa_cons (pe_ix ix_list (SlX.pe_sl (pv 0)) (pv 1) (fun _ _ => rfl)) pa_nil)))
      (pss_cons (ps_set (i := 4) nd rfl (by first | exact Or.inl rfl | exact Or.inr rfl) (pe_lc (own := [("number", 5)]) (tt := (tTest (tOp _ (tCB (rLenS K) (tCons (tDGet (SlX.tSl K _ "own_rows") _) tNil)) _))) rfl nd (pi_list (pv 3)) (blkOk_by (by kernel_rfl)) (fun _ _ _ _ _ => (pg_name (i := 5) nd rfl (by first | exact Or.inl rfl | exact Or.inr rfl))) (fun _ _ _ _ _ => (pts_one (pt_cmpR op_eq (pe_callB call_len_seq rfl T.n_len PySem.boot_len (pa_cons (pe_dget hu (SlX.pe_sl (pv 0)) (pv 5) (fun _ _ => rfl)) pa_nil)) pe_int (nomark _)))) (fun _ _ _ _ _ => (pv 5))))
      (pss_cons (ps_setLc (i := 6) (own := [("number", 5)]) (tt := (tTest (tOp (rNotInD K) _ _))) rfl nd rfl rfl (sw_true rfl rfl rfl (by decide +kernel)) (pi_list (pv 3)) (blkOk_by (by kernel_rfl)) (fun _ _ _ _ _ => (pg_name (i := 5) nd rfl (by first | exact Or.inl rfl | exact Or.inr rfl))) (fun _ _ _ _ _ => (pts_one (pt_cmpR (op_notInD hr.u65) (pv 5) (pv 4) (by rfl)))) (fun _ _ _ _ _ => (pv 5)))
      (pss_one (ps_ret (pe_op op_cat (pe_lc (own := [("number", 5)]) (tt := (tB (SlX.tMethSl _ _ _ (SlX.tSl K _ "own_order") (tCons (tOp (rIxL K) (tDGet (SlX.tSl K _ "own_rows") _) _) (tCons _ tNil))))) rfl nd (pi_list (pv 6)) (blkOk_by (by kernel_rfl)) (fun _ _ _ _ _ => (pg_name (i := 5) nd rfl (by first | exact Or.inl rfl | exact Or.inr rfl))) (fun _ _ _ _ _ => (pts_one (pt_val (SlX.pe_methSl (SlX.pe_sl (pv 0)) M_o_is_ahead.c M_o_is_ahead.m M_o_is_ahead.F (hr.mono (by first | decide | omega)) pass0 (pa_cons (pe_ix ix_list (pe_dget hu (SlX.pe_sl (pv 0)) (pv 5) (fun _ _ => rfl)) (pe_un un_neg pe_int) (fun _ _ => rfl)) (pa_cons (pv 2) pa_nil)))))) (fun _ _ _ _ _ => (pv 5))) (pv 4)))))))), ?_⟩
    replace hk : k0 ≤ st.1.length := hk
    replace h9 : k0 = st.1.length → st.1.length ≤ 9 := h9
    obtain ⟨dx, vo, hs, hO⟩ := F.ex
    obtain ⟨pO, sO⟩ := O.sO
    obtain ⟨pS, sS⟩ := O.sS
    obtain ⟨pR, sR⟩ := O.sR
    have S : Sat true [some (rX (.ref g)), some (rI (.int k0)), some (rI (evD e)), none, none, none, none] _ H := sat_start (m := true) (N := ["self", "step", "event", "some", "bare", "number", "used"]) (as := [rX (.ref g), rI (.int k0), rI (evD e)]) ⟨_, _, rfl, rfl, aa⟩ (mlX (mlI (mlI ml0)))
    have okO := openM_ok ok h9
    have hkO := openM_lt hk
    refine q_ifN (b := decide ((k0 : Int) = (st.1.length : Int))) (b_test (e_eqI (ev S rfl) (EvR.isI (e_lenV (e_sl (ev S rfl) (slt_same hs sm) O.c.cl sS rfl rfl mnX) D.hS) (by rw [List.length_map, D.hl])))) (fun hb H1 e1 => ?g1) (fun hb H1 e1 => ?g2)
    case' g1 =>
      have ek : k0 = st.1.length := by rw [decide_eq_true_eq] at hb; omega
      have eo : openM st k0 = beginM st := by unfold openM; rw [if_pos ek]
      refine s_meth (a := g) (dx := dx) (vs := [some vo, some (.ref dR), some (.ref lS)]) (as := []) (ev (S.sm e1) rfl) (slt_same hs (sm.trans e1)) aa_nil fun ws H2 e2 aa2 => ⟨L, Hb, g, lS, dR, sa, aR, st, (), ws, rfl, aa2, F, sm.trans (e1.trans e2), off, D.sm (e1.trans e2), ok, h9 ek, fun v H3 sa3 aR3 A3 D3 hv3 _ => ?_⟩
      replace A3 : After H (pSt lS dR sa aR st.2.length) H3 (pSt lS dR sa3 aR3 (openM st k0).2.length) := by rw [eo]; exact (After.same (e1.trans e2)).trans A3
      replace D3 : StD lS dR sa3 aR3 H3 (openM st k0) := by rw [eo]; exact D3
    case' g2 =>
      have ek : ¬ k0 = st.1.length := by rw [decide_eq_false_iff_not] at hb; omega
      have eo : openM st k0 = st := by unfold openM; rw [if_neg ek]
      obtain ⟨H3, sa3, aR3, eH3, A3, D3⟩ : ∃ H3 sa3 aR3, H3 = H1 ∧ After H (pSt lS dR sa aR st.2.length) H3 (pSt lS dR sa3 aR3 (openM st k0).2.length) ∧ StD lS dR sa3 aR3 H3 (openM st k0) := ⟨H1, sa, aR, rfl, by rw [eo]; exact After.same e1, by rw [eo]; exact D.sm e1⟩
      rw [← eH3]
    all_goals
      have S3 : Sat false [some (rX (.ref g)), some (rI (.int k0)), some (rI (evD e)), none, none, none, none] _ H3 := (S.up (m := true) A3.tp).fls
      have s3 := A3.sm sm off
      have off3 := A3.off sm off
      generalize hst1 : openM st k0 = s1 at A3 D3 okO hkO off3
      have hkl : s1.1[k0]? = some s1.1[k0] := List.getElem?_eq_getElem hkO
      have hgd : s1.1.getD k0 [] = s1.1[k0] := by rw [List.getD_eq_getElem?_getD, hkl]; rfl
      generalize hll : s1.1[k0] = l at hkl hgd
      have hlm : l ∈ s1.1 := List.mem_of_getElem? hkl
      have hka : sa3[k0]? = some (sa3[k0]'(by rw [D3.hl]; exact hkO)) := List.getElem?_eq_getElem _
      have hal := D3.hs k0 _ l hka hkl
      have hnum : ∀ n ∈ sortI l, n ∈ upTo s1.2.length := fun n hn => mem_upTo.mpr (okO.num l hlm n (mem_sortI.mp hn))
      have hrow : ∀ n ∈ sortI l, ∃ z, H3 (aR3 n) = some (.lst z) ∧ ImL H3 ((rowOf s1 n).map evD) z := fun n hn => by
        have h1 := mem_upTo.mp (hnum n hn)
        have h2 : n.toNat < s1.2.length := by omega
        obtain ⟨z, a, b⟩ := D3.hr n.toNat _ (List.getElem?_eq_getElem h2)
        have e1 : ((n.toNat : Nat) : Int) = n := Int.toNat_of_nonneg h1.1
        rw [e1] at a
        refine ⟨z, a, ?_⟩
        unfold rowOf
        rw [List.getD_eq_getElem?_getD, List.getElem?_eq_getElem h2]
        exact b
      have hll2 : (sortI l).length ≤ 200 := by
        rw [sortI_len]
        exact okO.nd l hlm
      refine q_set (R := rLF H3 ((sortI l).map PyData.int)) (EvR.imp (e_sort (enc := PyData.int) (xs := l) (e_at (e_ixV (e_sl (ev S3 rfl) (slt_same hs s3) O.c.cl sS rfl rfl mnX) D3.hS (ev S3 rfl) (v := .ref (sa3[k0]'(by rw [D3.hl]; exact hkO))) ?_) hal ints_imL) (ints_alike l) (ints_sortable l) (Nat.le_trans (okO.nd l hlm) (by decide)) fun x _ => (by show 0 ≤ 50; decide)) fun H4 v e4 hv => ?_) fun v H4 e4 hv => ?_
      · exact atI_nat (by rw [List.getElem?_map, hka]; rfl)
      · obtain ⟨ys, p, q, r⟩ := hv
        rw [sortI_of p q] at r
        exact r
      have S4 := (S3.sm e4).set 3 (R := rL ((sortI l).map PyData.int)) mnMo hv.l
      have s4 := s3.trans e4
      have D4 := D3.sm e4
      refine g_set (R := rL (((sortI l).filter fun n => (rowOf s1 n).isEmpty).map PyData.int)) S4 (EvR.l (e_lc (enc := PyData.int) (xs := sortI l) (F := fun n Γ => Γ.set 5 (some (rI (.int n)))) (fun n => (rowOf s1 n).isEmpty) PyData.int S4 (i_list (ev S4 rfl)) (Nat.le_trans hll2 (by decide)) (fun n _ => tg_i) (by decide) fun n hn σ5 H5 e5 S5 => ⟨?_, fun _ => ev S5 rfl⟩)) mnMo fun σ5 H5 e5 S5 => ?_
      · obtain ⟨z, hz, rz⟩ := hrow n hn
        refine EvB.is (b_test (e_eqI (e_lenL (e_at (e_dgetKO kI_inj (e_sl (ev S5 rfl) (slt_same hs (s4.trans e5)) O.c.cl sR rfl rfl mnX) (EvR.xi (ev S5 rfl)) ((e4.trans e5) _ _ D3.hR) (hnum n hn)) ((e4.trans e5) _ _ hz) (rz.sm (e4.trans e5)))) e_int)) ?_
        rw [List.length_map]
        cases rowOf s1 n with
        | nil => rfl
        | cons a b =>
          rw [List.length_cons]
          show decide (((b.length + 1 : Nat) : Int) = 0) = false
          rw [decide_eq_false_iff_not]
          omega
      refine g_set (R := rL (((sortI l).filter fun n => !decide (n ∈ (sortI l).filter fun n => (rowOf s1 n).isEmpty)).map PyData.int)) S5 (EvR.l (e_lc (enc := PyData.int) (xs := sortI l) (F := fun n Γ => Γ.set 5 (some (rI (.int n)))) (fun n => !decide (n ∈ (sortI l).filter fun n => (rowOf s1 n).isEmpty)) PyData.int S5 (i_list (ev S5 rfl)) (Nat.le_trans hll2 (by decide)) (fun n _ => tg_i) (by decide) fun n hn σ6 H6 e6 S6 => ⟨b_test (e_ninI (ev S6 rfl) (ev S6 rfl)), fun _ => ev S6 rfl⟩)) mnMo fun σ6 H6 e6 S6 => ?_
      have s6 := s4.trans (e5.trans e6)
      have e46 := e4.trans (e5.trans e6)
      have hO6 : OrdAt cO L H6 vo := mnMo _ _ _ s6 hO
      have hfl : ∀ p : Int → Bool, ((sortI l).filter p).length ≤ 200 := fun p => Nat.le_trans (List.length_filter_le _ _) hll2
      refine s_ret (R := rLF H6 ((fitM L s1 k0 e).map PyData.int)) ?_ fun v H7 e7 hv => ?_
      · rw [fitM_eq, hgd, List.map_append]
        refine e_catF (EvR.l (e_lc (enc := PyData.int) (xs := (sortI l).filter fun n => !decide (n ∈ (sortI l).filter fun n => (rowOf s1 n).isEmpty)) (F := fun n Γ => Γ.set 5 (some (rI (.int n)))) (fun n => (rowOf s1 n).getLast?.any fun x => ahead L x e) PyData.int S6 (i_list (ev S6 rfl)) (Nat.le_trans (hfl _) (by decide)) (fun n _ => tg_i) (by decide) fun n hn σ7 H7 e7 S7 => ⟨?_, fun _ => ev S7 rfl⟩)) (ev S6 rfl) ?_
        · obtain ⟨hn1, hn2⟩ := List.mem_filter.mp hn
          obtain ⟨z, hz, rz⟩ := hrow n hn1
          have hne : rowOf s1 n ≠ [] := fun q => by
            have : n ∈ (sortI l).filter fun n => (rowOf s1 n).isEmpty := List.mem_filter.mpr ⟨hn1, by rw [q]; rfl⟩
            simp [this] at hn2
          rcases List.eq_nil_or_concat (rowOf s1 n) with q | ⟨r0, x, q⟩
          · exact absurd q hne
          · rw [List.concat_eq_append] at q
            have es : e46.trans e7 = e46.trans e7 := rfl
            refine EvB.is (b_B (e_methR (R := OrdAt cO L) (T := rI (.bool (ahead L x e))) (fun H v h => ordAt_slt h) mnMo (e_sl (ev S7 rfl) (slt_same hs (s6.trans e7)) O.c.cl sO rfl (mnMo _ _ _ e7 hO6) mnMo) (aI (d := evD x) (e_ixL (e_at (e_dgetKO kI_inj (e_sl (ev S7 rfl) (slt_same hs (s6.trans e7)) O.c.cl sR rfl rfl mnX) (EvR.xi (ev S7 rfl)) ((e46.trans e7) _ _ D3.hR) (hnum n hn1)) ((e46.trans e7) _ _ hz) (rz.sm (e46.trans e7))) (e_neg e_int) ?_) (aI (ev S7 rfl) aa_nil)) (L, x, e) he rfl fun _ _ _ _ r => r)) ?_
            · rw [q, List.map_append]
              exact atI_last
            · rw [q, List.getLast?_append]
              simp
        · have h1 := hfl (fun n => (rowOf s1 n).isEmpty)
          have h2 := hfl (fun n => !decide (n ∈ (sortI l).filter fun n => (rowOf s1 n).isEmpty))
          have h3 := List.length_filter_le (fun n => (rowOf s1 n).getLast?.any fun x => ahead L x e) ((sortI l).filter fun n => !decide (n ∈ (sortI l).filter fun n => (rowOf s1 n).isEmpty))
          rw [List.length_map, List.length_map]
          omega
      · obtain ⟨lv, zv, rfl, hln, hlv, rlv⟩ := hv
        subst hst1
        refine k _ H7 sa3 aR3 (A3.trans (After.same (e46.trans e7))) (D3.sm (e46.trans e7)) ⟨lv, zv, rfl, hlv, rlv⟩ fun l' hl' hp => ?_
        cases hl'
        exact (D3.sm e46).there hp hln

theorem StD.asR {lS dR : Addr} {sa : List Addr} {aR : Int → Addr} {H : Hp} {s : SS} (D : StD lS dR sa aR H s) {a : Addr} (ha : a ∈ sa) : a ≠ dR ∧ ∃ l : List Int, H a = some (.lst (l.map V.int)) := by
  obtain ⟨i, hi, e⟩ := List.getElem_of_mem ha
  have hi2 : i < s.1.length := by rw [← D.hl]; exact hi
  have h1 := D.hs i a s.1[i] (by rw [List.getElem?_eq_getElem hi, e]) (List.getElem?_eq_getElem hi2)
  refine ⟨fun z => ?_, _, h1⟩
  rw [z, D.hR] at h1
  cases h1
/-- an event is put to a row -/
theorem StD.app {lS dR : Addr} {sa : List Addr} {aR : Int → Addr} {H H1 : Hp} {s : SS} (D : StD lS dR sa aR H s) (e1 : Same H H1) {n : Nat} {r : List Ev} {ws : List V} (hn : n < s.2.length) (hw : ImL (upd H1 (aR n) (.lst ws)) (r.map evD) ws) (t : Tp H1 (upd H1 (aR n) (.lst ws))) : StD lS dR sa aR (upd H1 (aR n) (.lst ws)) (s.1, s.2.set n r) := by
  obtain ⟨h1, h2⟩ := D.nSR n hn
  obtain ⟨z0, hz0, _⟩ := D.hr n _ (List.getElem?_eq_getElem hn)
  have hd : dR ≠ aR n := fun z => by rw [← z, D.hR] at hz0; cases hz0
  refine ⟨by rw [upd_ne h1.symm]; exact e1 _ _ D.hS, D.hl, fun i a l ha hl => ?_, ?_, fun m q h => ?_, D.nS, fun m hm => D.nSR m (by simpa using hm), fun m m' hm hm' h => D.inj m m' (by simpa using hm) (by simpa using hm') h⟩
  · rw [upd_ne (fun z : a = aR n => h2 (by rw [← z]; exact List.mem_of_getElem? ha))]
    exact e1 _ _ (D.hs i a l ha hl)
  · rw [upd_ne hd, List.length_set]
    exact e1 _ _ D.hR
  · have hm : m < s.2.length := by
      have := (List.getElem?_eq_some_iff.mp h).1
      simpa using this
    by_cases e : n = m
    · subst e
      rw [List.getElem?_set_self hn] at h
      cases h
      exact ⟨ws, upd_same, hw⟩
    · rw [List.getElem?_set_ne e] at h
      obtain ⟨z, a, b⟩ := D.hr m q h
      exact ⟨z, by rw [upd_ne fun y => e (D.inj m n hm hn y).symm]; exact e1 _ _ a, (b.sm e1).up t⟩
/-- a step's list is another -/
theorem StD.setS {lS dR : Addr} {sa : List Addr} {aR : Int → Addr} {H H1 : Hp} {s : SS} (D : StD lS dR sa aR H s) (e1 : Same H H1) {i : Nat} {a : Addr} {l : List Int} (hi : i < s.1.length) (hn : a ≠ lS) (hra : ∀ m : Nat, m < s.2.length → aR m ≠ a) (hal : H1 a = some (.lst (l.map V.int))) :
    StD lS dR (sa.set i a) aR (upd H1 lS (.lst ((sa.map V.ref).set i (.ref a)))) (s.1.set i l, s.2) := by
  have hd : dR ≠ lS := fun z => by have h1 := D.hS; have h2 := D.hR; rw [z, h1] at h2; cases h2
  refine ⟨by rw [upd_same, List.map_set], by rw [List.length_set, List.length_set]; exact D.hl, fun j b q hb hq => ?_, ?_, fun m q h => ?_, fun b hb => ?_, fun m hm => ?_, D.inj⟩
  · by_cases e : i = j
    · subst e
      rw [List.getElem?_set_self (by rw [D.hl]; exact hi)] at hb
      rw [List.getElem?_set_self hi] at hq
      cases hb
      cases hq
      rw [upd_ne hn]
      exact hal
    · rw [List.getElem?_set_ne e] at hb
      replace hq : (s.1.set i l)[j]? = some q := hq
      rw [List.getElem?_set_ne e] at hq
      rw [upd_ne (D.nS b (List.mem_of_getElem? hb))]
      exact e1 _ _ (D.hs j b q hb hq)
  · rw [upd_ne hd]
    exact e1 _ _ D.hR
  · obtain ⟨z, x, y⟩ := D.hr m q h
    have hm := (List.getElem?_eq_some_iff.mp h).1
    exact ⟨z, by rw [upd_ne (D.nSR m hm).1]; exact e1 _ _ x, (y.sm e1).up (tp_lst (e1 _ _ D.hS))⟩
  · rcases List.mem_or_eq_of_mem_set hb with h | h
    · exact D.nS b h
    · rw [h]; exact hn
  · refine ⟨(D.nSR m hm).1, fun hb => ?_⟩
    rcases List.mem_or_eq_of_mem_set hb with h | h
    · exact (D.nSR m hm).2 h
    · exact hra m hm h
section
variable {K : PySem.W.Frag} {σ : St} {H : Hp} {ta tb te : TE} {D : Ends} {tz : TS}
/-- l[i] = v -/
theorem s_setV {l : Addr} {xs : List V} {i : Int} {j : Nat} {R : Rs} (hv : EvR te σ H R) (ho : EvR ta σ H (rX (.ref l))) (hi : EvR tb σ H (rI (.int i))) (hl : H l = some (.lst xs)) (hj : ixN xs.length i = some j) (hm : Mn false R) (k : ∀ v H1, Same H H1 → R H1 v → D.nx σ (upd H1 l (.lst (xs.set j v)))) : tAsg te (gSub ta tb rSetL) D σ H := hv.go fun v H1 e1 r =>
  ho H1 e1 _ fun x H2 e2 hx => hi H2 (e1.trans e2) _ fun y H3 e3 hy => by
    cases hx
    cases hy
    exact ⟨l, xs, i, j, rfl, rfl, (e1.trans (e2.trans e3)) _ _ hl, hj, k v H3 (e1.trans (e2.trans e3)) (hm _ _ _ (e2.trans e3) r)⟩
theorem q_setV {l : Addr} {xs : List V} {i : Int} {j : Nat} {R : Rs} (hv : EvR te σ H R) (ho : EvR ta σ H (rX (.ref l))) (hi : EvR tb σ H (rI (.int i))) (hl : H l = some (.lst xs)) (hj : ixN xs.length i = some j) (hm : Mn false R) (k : ∀ v H1, Same H H1 → R H1 v → tz D σ (upd H1 l (.lst (xs.set j v)))) : tSeq (tAsg te (gSub ta tb rSetL)) tz D σ H := s_setV (D := { D with nx := tz D }) hv ho hi hl hj hm k
theorem e_lstStar {d : PyData} {ds : List PyData} (ha : EvR ta σ H (rI d)) (hb : EvR tb σ H (rL ds)) (hz : ds.length ≤ 90000) : EvR (tLst (tCons ta (StX.tStar K tb tNil))) σ H (rLF H (d :: ds)) := fun H0 e Q q =>
  ha H0 e _ fun x H1 e1 hx => hb H1 (e.trans e1) _ fun y H2 e2 hy => by
    obtain ⟨a, xs, rfl, ho, r⟩ := hy
    refine ⟨a, xs, rfl, .inr (SqL.of ho), ?_⟩
    show (x :: (xs ++ [])).length ≤ sizeLine ∧ _
    rw [List.append_nil]
    refine ⟨len_ok (by rw [List.length_cons, r.len]; omega), fun p hp => q _ _ ((e1.trans e2).trans (same_new hp)) ⟨p, _, rfl, (e.trans (e1.trans e2)).free hp, upd_same, x, xs, rfl, (Im.sm hx (e2.trans (same_new hp))), r.sm (same_new hp)⟩⟩
theorem s_aug {m : Bool} {Γ : Gam} {i : Nat} {a b : Int} {f : Int → Int → Int} (S : Sat m Γ σ H) (h : Γ[i]? = some (some (rI (.int a)))) (hb : EvR te σ H (rI (.int b))) (k : ∀ σ' H1, Same H H1 → Sat m (Γ.set i (some (rI (.int (f a b))))) σ' H1 → D.nx σ' H1) : tAug i te (ipI f) D σ H := by
  obtain ⟨v, hv, r⟩ := S.get h
  refine ⟨v, hv, hb.go fun y H1 e1 hy => ⟨a, b, r, hy, ?_⟩⟩
  exact k _ _ e1 ((S.sm e1).set i mnI rfl)
theorem ixN_nat {n i : Nat} (h : i < n) : ixN n (i : Int) = some i := by
  unfold ixN
  rw [if_pos (Int.natCast_nonneg i), if_pos (by omega), Int.toNat_natCast]
end

/-- put -/
def spPut (cO cS : Addr) : Sp := spSt cO cS (ι := Ev) (fun L s e => e ∈ evs L ∧ (stepM L e 20 s 0).1.1.length ≤ 10) (fun e => [rI (evD e)]) (fun L s e => (putM L s e).1) (fun L s e => rI (.tuple [.int (putM L s e).2.1, .int ((putM L s e).2.2 : Nat)]))
theorem sc_Sput : FnScope ["self", "event", "step", "counter", "others", "number"] ["self", "event"] (defScope s_Sput) := ⟨rfl, rfl, rfl, by decide +kernel, rfl, by decide +kernel, by decide +kernel⟩
theorem ok_Sput {f fF : Addr} {fd : FuncData} (X : TM K cS "put" "Stairs.put" s_Sput ["self", "event"] f fd) (T : TB mg) (O : TSt K mg cS) (M_Stairs_fitting : GM P w K mg base 2 "fitting" cS fF (spFit cO cS)) :
    FnOk P w K mg base CX0 3 f fd ["self", "event"] (spPut cO cS) := by
  have nd := sc_Sput.nd
  refine X.F.ok sc_Sput (fun vs H Q E h => ?_) (fun cdv A outer s H vs Q E hr h => ?_)
  · obtain ⟨L, Hb, g, lS, dR, sa, aR, s, i, rest, rfl, ⟨_, _, rfl, _, rfl⟩, _⟩ := h
    rfl
  · have hu := hu_of hr
    obtain ⟨L, Hb, g, lS, dR, sa, aR, st, e, rest, rfl, aa, F, sm, off, D, ok, ⟨he, h10⟩, k⟩ := h
    refine ⟨_, (pss_cons (ps_set (i := 2) nd rfl (by first | exact Or.inl rfl | exact Or.inr rfl) pe_int)
      (pss_cons (ps_while PassesOwn.never (pt_cmpR op_eq (pe_callB call_len_seq rfl T.n_len PySem.boot_len (pa_cons (SlX.pe_methSl (pv 0) M_Stairs_fitting.c M_Stairs_fitting.m M_Stairs_fitting.F (hr.mono (by first | decide | omega)) pass0 (pa_cons (pv 2) (pa_cons (pv 1) pa_nil))) pa_nil)) pe_int (nomark _)) (pss_one (ps_aug (i := 2) nd rfl (by first | exact Or.inl rfl | exact Or.inr rfl) pe_int ip_add)))
      (pss_cons (ps_set (i := 3) nd rfl (by first | exact Or.inl rfl | exact Or.inr rfl) (pe_ix ix_list (SlX.pe_methSl (pv 0) M_Stairs_fitting.c M_Stairs_fitting.m M_Stairs_fitting.F (hr.mono (by first | decide | omega)) pass0 (pa_cons (pv 2) (pa_cons (pv 1) pa_nil))) pe_int (fun _ _ => rfl)))
      (pss_cons (ps_expr (pe_bm PySem.F.plainAttrs_list PySem.F.slot_list_append PySem.F.type_list_append mt_append (pe_dget hu (SlX.pe_sl (pv 0)) (pv 3) (fun _ _ => rfl)) (pa_cons (pv 1) pa_nil)))
      (pss_cons (ps_if (pt_cmpR op_gt (pv 2) pe_int (nomark _)) (pss_cons (ps_setLc (i := 4) (own := [("number", 5)]) rfl nd rfl rfl (sw_true rfl rfl rfl (by decide +kernel)) (pi_list (pe_ix ix_list (SlX.pe_sl (pv 0)) (pv 2) (fun _ _ => rfl))) (blkOk_by (by kernel_rfl)) (fun _ _ _ _ _ => (pg_name (i := 5) nd rfl (by first | exact Or.inl rfl | exact Or.inr rfl))) (fun _ _ _ _ _ => (pts_one (pt_cmpR op_ne (pv 5) (pv 3) (nomark _)))) (fun _ _ _ _ _ => (pv 5)))
      (pss_cons (ps_asg (pe_lst (pa_cons (pv 3) (StX.pa_star (pe_ix ix_list (SlX.pe_sl (pv 0)) (pe_op op_sub (pv 2) pe_int) (fun _ _ => rfl)) pa_nil))) (pg_sub (SlX.pe_sl (pv 0)) (pv 2) set_list))
      (pss_one (ps_asg (pv 4) (pg_sub (SlX.pe_sl (pv 0)) (pe_op op_sub (pv 2) pe_int) set_list))))) pss_nil)
      (pss_one (ps_ret (pe_tup (pa_cons (pv 3) (pa_cons (pe_op op_add (pv 2) pe_int) pa_nil)))))))))), ?_⟩
    obtain ⟨dx, vo, hs, hO⟩ := F.ex
    obtain ⟨pS, sS⟩ := O.sS
    obtain ⟨pR, sR⟩ := O.sR
    have S : Sat true [some (rX (.ref g)), some (rI (evD e)), none, none, none, none] _ H := sat_start (m := true) (N := ["self", "event", "step", "counter", "others", "number"]) (as := [rX (.ref g), rI (evD e)]) ⟨_, _, rfl, rfl, aa⟩ (mlX (mlI ml0))
    refine g_setI (d := .int ((0 : Nat) : Int)) S e_int fun σ1 H1 e1 S1 => ?_
    -- what a call of fitting does
    have fit : ∀ {σ' : St} {H' : Hp} {s' : SS} {sa' : List Addr} {aR' : Int → Addr} {kk : Nat} {Q' : VK}, Sat true [some (rX (.ref g)), some (rI (evD e)), some (rI (.int kk)), none, none, none] σ' H' → After H (pSt lS dR sa aR st.2.length) H' (pSt lS dR sa' aR' s'.2.length) → StD lS dR sa' aR' H' s' → SOk s' → kk ≤ s'.1.length → (kk = s'.1.length → s'.1.length ≤ 9) →
        (∀ v H3 sa3 aR3, Sat true [some (rX (.ref g)), some (rI (evD e)), some (rI (.int kk)), none, none, none] σ' H3 → After H (pSt lS dR sa aR st.2.length) H3 (pSt lS dR sa3 aR3 (openM s' kk).2.length) → StD lS dR sa3 aR3 H3 (openM s' kk) → Ls H3 ((fitM L (openM s' kk) kk e).map PyData.int) v → Q' v H3) →
        SlX.tMethSl cS (spFit cO cS) E0 (tVar 0) (tCons (tVar 2) (tCons (tVar 1) tNil)) σ' H' Q' := fun {σ' H' s' sa' aR' kk Q'} S' A' D' ok' hk h9 q => by
      have s' := A'.sm sm off
      refine t_meth (a := g) (dx := dx) (vs := [some vo, some (.ref dR), some (.ref lS)]) (as := [rI (.int kk), rI (evD e)]) (ev S' rfl) (slt_same hs s') (aI (ev S' rfl) (aI (ev S' rfl) aa_nil)) fun ws H2 e2 aa2 => ⟨L, Hb, g, lS, dR, sa', aR', _, (kk, e), ws, rfl, aa2, F, s'.trans e2, A'.off sm off, D'.sm e2, ok', ⟨hk, he, h9⟩, fun v H3 sa3 aR3 A3 D3 hv3 _ => ?_⟩
      exact q v H3 sa3 aR3 (S'.up (m := true) (e2.tp.trans A3.tp)) ((A'.trans (After.same e2)).trans A3) D3 hv3
    refine ⟨fun m σ' H' => ∃ (kk : Nat) (s' : SS) (sa' : List Addr) (aR' : Int → Addr), Sat true [some (rX (.ref g)), some (rI (evD e)), some (rI (.int kk)), none, none, none] σ' H' ∧ After H (pSt lS dR sa aR st.2.length) H' (pSt lS dR sa' aR' s'.2.length) ∧ StD lS dR sa' aR' H' s' ∧ SOk s' ∧ kk ≤ s'.1.length ∧ stepM L e (20 - kk) s' kk = stepM L e 20 st 0 ∧ m = 20 - kk,
      ⟨20, 0, st, sa, aR, S1, After.same e1, D.sm e1, ok, Nat.zero_le _, rfl, rfl⟩, ?_⟩
    rintro m σ' H' ⟨kk, s', sa', aR', S', A', D', ok', hk, hst, rfl⟩
    have hk10 : kk ≤ 10 := Nat.le_trans hk ok'.few
    have ef : 20 - kk = (20 - (kk + 1)) + 1 := by omega
    have h9 : kk = s'.1.length → s'.1.length ≤ 9 := fun h => by
      have h1 := stepM_open L e (20 - (kk + 1)) s' kk
      rw [← ef, hst] at h1
      have h2 : (openM s' kk).1.length = s'.1.length + 1 := by
        unfold openM
        rw [if_pos h]
        show (s'.1 ++ [_]).length = _
        rw [List.length_append, List.length_singleton]
      replace h10 : (stepM L e 20 st 0).1.1.length ≤ 10 := h10
      omega
    have hunf : stepM L e 20 st 0 = if fitM L (openM s' kk) kk e = [] then stepM L e (20 - (kk + 1)) (openM s' kk) (kk + 1) else (openM s' kk, kk) := by
      rw [← hst, ef, stepM]
    refine fit S' A' D' ok' hk h9 fun v H3 sa3 aR3 S3 A3 D3 hv => ?_
    obtain ⟨lv, zv, rfl, hlv, rlv⟩ := hv
    refine ⟨lv, zv, rfl, .inl (SqL.of hlv), rfl, _, rfl, ?_⟩
    have hzl : zv.length = (fitM L (openM s' kk) kk e).length := by rw [rlv.len, List.length_map]
    have okO := openM_ok ok' h9
    have hkO := openM_lt hk
    by_cases hf : fitM L (openM s' kk) kk e = []
    · have hb : decide (V.int (zv.length : Int) = V.int 0) = true := by
        rw [hzl, hf]
        rfl
      show (if decide (V.int (zv.length : Int) = V.int 0) = true then _ else _)
      rw [if_pos hb]
      refine ⟨_, fun σ'' H'' h => ⟨20 - (kk + 1), by omega, h⟩, ?_⟩
      refine s_aug (a := (kk : Int)) (b := 1) S3 rfl e_int fun σ4 H4 e4 S4 => ?_
      refine ⟨kk + 1, openM s' kk, sa3, aR3, S4, A3.trans (After.same e4), D3.sm e4, okO, hkO, ?_, rfl⟩
      rw [hunf, if_pos hf]
    · have hb : ¬ decide (V.int (zv.length : Int) = V.int 0) = true := by
        rw [hzl, dec_int]
        intro z
        have := beq_iff_eq.mp z
        exact hf (List.eq_nil_of_length_eq_zero (by omega))
      show (if decide (V.int (zv.length : Int) = V.int 0) = true then _ else _)
      rw [if_neg hb]
      rw [if_neg hf] at hunf
      generalize hs1 : openM s' kk = s1 at S3 A3 D3 okO hkO hunf hf rlv hzl
      have oo : openM s1 kk = s1 := by unfold openM; rw [if_neg (by omega)]
      have hput : putM L st e = (moveM s1 kk ((fitM L s1 kk e).headD 0) e, (fitM L s1 kk e).headD 0, kk + 1) := by
        unfold putM
        rw [hunf]
      refine fit S3 A3 D3 okO (Nat.le_of_lt hkO) (fun h => absurd h (Nat.ne_of_lt hkO)) fun v H4 sa4 aR4 S4 A4 D4 hv4 => ?_
      rw [oo] at A4 D4 hv4
      obtain ⟨lv4, zv4, rfl, hlv4, rlv4⟩ := hv4
      obtain ⟨c, cr, hc⟩ : ∃ c cr, fitM L s1 kk e = c :: cr := by
        cases q : fitM L s1 kk e with
        | nil => exact absurd q hf
        | cons c cr => exact ⟨c, cr, rfl⟩
      have hhd : (fitM L s1 kk e).headD 0 = c := by rw [hc]; rfl
      rw [hhd] at hput
      have hzv : zv4 = (c :: cr).map V.int := by rw [← hc]; exact imL_ints rlv4
      have hkl : s1.1[kk]? = some s1.1[kk] := List.getElem?_eq_getElem hkO
      have hgd : s1.1.getD kk [] = s1.1[kk] := by rw [List.getD_eq_getElem?_getD, hkl]; rfl
      generalize hll : s1.1[kk] = l at hkl hgd
      have hlm : l ∈ s1.1 := List.mem_of_getElem? hkl
      have hcl : c ∈ l := by
        have : c ∈ fitM L s1 kk e := by rw [hc]; exact List.mem_cons_self
        unfold fitM at this
        rw [hgd] at this
        rcases List.mem_append.mp this with h | h
        · exact mem_sortI.mp (List.mem_filter.mp h).1
        · exact mem_sortI.mp (List.mem_filter.mp h).1
      obtain ⟨hc0, hcn⟩ := okO.num l hlm c hcl
      obtain ⟨cn, rfl⟩ : ∃ cn : Nat, c = cn := ⟨c.toNat, by omega⟩
      have hcn' : cn < s1.2.length := by omega
      refine ⟨lv4, zv4, 0, .int cn, rfl, rfl, SqL.of hlv4, by rw [hzv]; exact atI_zero, ?_⟩
      have S5 := S4.set 3 (R := rI (.int cn)) mnI (v := .int cn) rfl
      have s4 := A4.sm sm off
      obtain ⟨zr, hzr, rzr⟩ := D4.hr cn _ (List.getElem?_eq_getElem hcn')
      have hrow : rowOf s1 cn = s1.2[cn] := by
        unfold rowOf
        rw [Int.toNat_natCast, List.getD_eq_getElem?_getD, List.getElem?_eq_getElem hcn']
        rfl
      have hrl := okO.row s1.2[cn] (List.getElem_mem hcn')
      refine q_appI (d := evD e) (l := aR4 cn) (e_dgetKO kI_inj (e_sl (ev S5 rfl) (slt_same hs s4) O.c.cl sR rfl rfl mnX) (EvR.xi (ev S5 rfl)) D4.hR (mem_upTo.mpr ⟨by omega, by omega⟩)) hzr rzr (ev S5 rfl) (by rw [List.length_map]; omega) fun H5 ws e5 rw5 t5 => ?_
      have S6 := (S5.sm e5).up (m := true) t5
      have D5 := D4.app (r := s1.2[cn] ++ [e]) e5 hcn' (by rw [List.map_append]; exact rw5) t5
      have A5 : After H (pSt lS dR sa aR st.2.length) (upd H5 (aR4 cn) (.lst ws)) (pSt lS dR sa4 aR4 s1.2.length) := A4.mut e5 (.inr (.inr (.inr ⟨cn, hcn', rfl⟩))) t5 fun b h => .inl h
      generalize (upd H5 (aR4 cn) (.lst ws)) = H6 at S6 D5 A5
      have s6 := A5.sm sm off
      have fin : ∀ (σ9 : St) (H9 : Hp) (sa9 : List Addr) (ss9 : List (List Int)), Sat true [some (rX (.ref g)), some (rI (evD e)), some (rI (.int kk)), some (rI (.int cn)), none, none] σ9 H9 → After H (pSt lS dR sa aR st.2.length) H9 (pSt lS dR sa9 aR4 s1.2.length) → StD lS dR sa9 aR4 H9 (ss9, s1.2.set cn (s1.2[cn] ++ [e])) → (ss9, s1.2.set cn (s1.2[cn] ++ [e])) = moveM s1 kk cn e →
          tRet (tTup (tCons (tVar 3) (tCons (tOp (rI0 fun i j => .int (i + j)) (tVar 2) (tC (.int 1))) tNil))) { nx := fun _ H' => Q .non H', rt := Q } σ9 H9 := fun σ9 H9 sa9 ss9 S9 A9 D9 e9 => by
        refine s_ret (R := rI (.tuple [.int cn, .int ((kk + 1 : Nat) : Int)])) (e_tup (a_cons (ev S9 rfl) (a_cons (EvR.isI (e_add (ev S9 rfl) e_int) (by push_cast; rfl)) a_nil)) (by show 2 ≤ 100000; decide)) fun v H10 e10 hv => ?_
        have em : (putM L st e).1 = (ss9, s1.2.set cn (s1.2[cn] ++ [e])) := by rw [hput, e9]
        have hl9 : (putM L st e).1.2.length = s1.2.length := by rw [em]; simp
        refine k v H10 sa9 aR4 (by rw [hl9]; exact A9.trans (After.same e10)) (by show StD lS dR sa9 aR4 H10 (putM L st e).1; rw [em]; exact D9.sm e10) (by show rI (.tuple [.int (putM L st e).2.1, .int ((putM L st e).2.2 : Nat)]) H10 v; rw [hput]; exact hv) fun lx hlx hp => ?_
        obtain ⟨q, xs, eq, hq, _⟩ := hv
        rw [eq] at hlx
        cases hlx
        replace hp : pSt lS dR sa9 aR4 (putM L st e).1.2.length lx := hp
        rw [em] at hp
        have D10 := D9.sm e10
        rcases hp with hp | hp | hp | ⟨i, hi, hp⟩
        · rw [hp, D10.hS] at hq; cases hq
        · rw [hp, D10.hR] at hq; cases hq
        · obtain ⟨_, l', hl'⟩ := D10.asR hp
          rw [hl'] at hq; cases hq
        · obtain ⟨z, a, _⟩ := D10.hr i _ (List.getElem?_eq_getElem hi)
          rw [hp, a] at hq; cases hq
      refine q_ifN (b := decide ((0 : Int) < (kk : Int))) (b_test (e_gtI (ev S6 rfl) e_int)) (fun hb6 H7 e7 => ?_) (fun hb6 H7 e7 => ?_)
      · have hk0 : 0 < kk := by rw [decide_eq_true_eq] at hb6; omega
        have S7 := S6.sm e7
        have s7 := s6.trans e7
        have D7 := D5.sm e7
        have ea4 : sa4.length = s1.1.length := D4.hl
        have hka : sa4[kk]? = some (sa4[kk]'(by omega)) := List.getElem?_eq_getElem _
        have hkb : sa4[kk - 1]? = some (sa4[kk - 1]'(by omega)) := List.getElem?_eq_getElem _
        have hkl1 : s1.1[kk - 1]? = some (s1.1[kk - 1]'(by omega)) := List.getElem?_eq_getElem _
        have hgd1 : s1.1.getD (kk - 1) [] = s1.1[kk - 1]'(by omega) := by rw [List.getD_eq_getElem?_getD, hkl1]; rfl
        generalize hl1 : (s1.1[kk - 1]'(by omega)) = l1 at hkl1 hgd1
        have hl1m : l1 ∈ s1.1 := List.mem_of_getElem? hkl1
        have hal := D7.hs kk _ l hka hkl
        have hal1 := D7.hs (kk - 1) _ l1 hkb hkl1
        have hln := okO.nd l hlm
        have hln1 := okO.nd l1 hl1m
        have ek1 : ((kk : Int) - 1) = ((kk - 1 : Nat) : Int) := by omega
        refine q_set (e_lc (enc := PyData.int) (xs := l) (F := fun n Γ => Γ.set 5 (some (rI (.int n)))) (fun n => !decide (n = (cn : Int))) PyData.int S7 (i_list (e_at (e_ixV (e_sl (ev S7 rfl) (slt_same hs s7) O.c.cl sS rfl rfl mnX) D7.hS (ev S7 rfl) (atI_nat (by rw [List.getElem?_map, hka]; rfl))) hal ints_imL)) (by omega) (fun n _ => tg_i) (by decide) fun n hn σ8 H8 e8 S8 => ⟨b_test (e_neI (ev S8 rfl) (ev S8 rfl)), fun _ => ev S8 rfl⟩) fun v H8 e8 hv => ?_
        obtain ⟨lo, zo, rfl, hlon, hlo, rlo⟩ := hv
        have S8 := (S7.sm e8).set 4 (mnX (v := .ref lo)) rfl
        have s8 := s7.trans e8
        have D8 := D7.sm e8
        refine q_setV (R := rLF H8 (.int cn :: l1.map PyData.int)) (j := kk) (e_lstStar (ev S8 rfl) (e_at (e_ixV (e_sl (ev S8 rfl) (slt_same hs s8) O.c.cl sS rfl rfl mnX) D8.hS (EvR.isI (e_sub (ev S8 rfl) e_int) (by rw [ek1])) (atI_nat (by rw [List.getElem?_map, hkb]; rfl))) (e8 _ _ hal1) ints_imL) (by rw [List.length_map]; omega)) (e_sl (ev S8 rfl) (slt_same hs s8) O.c.cl sS rfl rfl mnX) (ev S8 rfl) D8.hS (ixN_nat (by rw [List.length_map]; omega)) mnMo fun v H9 e9 hv => ?_
        obtain ⟨ln, zn, rfl, hlnn, hlnv, rln⟩ := hv
        have ezn : zn = ((cn : Int) :: l1).map V.int := imL_ints (bs := (cn : Int) :: l1) rln
        have ezo : zo = (l.filter fun n => !decide (n = (cn : Int))).map V.int := imL_ints rlo
        subst ezn ezo
        have neS : ∀ {b x : Addr} {u : HO} {Hx : Hp}, Hx b = some u → Hx x = none → x ≠ b := fun h n z => by rw [← z, n] at h; cases h
        have D9 := D8.setS e9 (i := kk) (a := ln) (l := (cn : Int) :: l1) hkO (neS D8.hS hlnn) (fun m hm => (neS (D8.hr m _ (List.getElem?_eq_getElem hm)).choose_spec.1 hlnn).symm) hlnv
        have t9 : Tp H9 (upd H9 lS (.lst ((sa4.map V.ref).set kk (.ref ln)))) := tp_lst (e9 _ _ D8.hS)
        have A8 : After H (pSt lS dR sa aR st.2.length) H8 (pSt lS dR sa4 aR4 s1.2.length) := A5.trans (After.same (e7.trans e8))
        have A9 : After H (pSt lS dR sa aR st.2.length) (upd H9 lS (.lst ((sa4.map V.ref).set kk (.ref ln)))) (pSt lS dR (sa4.set kk ln) aR4 s1.2.length) := A8.mut e9 (.inl rfl) t9 fun b hb => by
          rcases hb with hb | hb | hb | hb
          · exact .inl (.inl hb)
          · exact .inl (.inr (.inl hb))
          · rcases List.mem_or_eq_of_mem_set hb with h | h
            · exact .inl (.inr (.inr (.inl h)))
            · rw [h]; exact .inr hlnn
          · exact .inl (.inr (.inr (.inr hb)))
        have S9 := (S8.sm e9).up (m := true) t9
        have s9 := A9.sm sm off
        have hloS : lo ≠ lS := neS D7.hS hlon
        have hlo9 : upd H9 lS (.lst ((sa4.map V.ref).set kk (.ref ln))) lo = some (.lst ((l.filter fun n => !decide (n = (cn : Int))).map V.int)) := by
          rw [upd_ne hloS]
          exact e9 _ _ hlo
        generalize hH9 : upd H9 lS (.lst ((sa4.map V.ref).set kk (.ref ln))) = G9 at D9 A9 S9 s9 hlo9 t9
        refine s_setV (R := rX (.ref lo)) (j := kk - 1) (ev S9 rfl) (e_sl (ev S9 rfl) (slt_same hs s9) O.c.cl sS rfl rfl mnX) (EvR.isI (e_sub (ev S9 rfl) e_int) (by rw [ek1])) D9.hS (ixN_nat (by rw [List.length_map, List.length_set]; omega)) mnX fun v H10 e10 hv => ?_
        cases hv
        have D10 := D9.setS e10 (i := kk - 1) (a := lo) (l := l.filter fun n => !decide (n = (cn : Int))) (by show kk - 1 < (s1.1.set kk _).length; rw [List.length_set]; omega) hloS (fun m hm => (neS (D7.hr m _ (List.getElem?_eq_getElem hm)).choose_spec.1 hlon).symm) (e10 _ _ hlo9)
        have t10 : Tp H10 (upd H10 lS (.lst (((sa4.set kk ln).map V.ref).set (kk - 1) (.ref lo)))) := tp_lst (e10 _ _ D9.hS)
        have hloH : H lo = none ∨ pSt lS dR sa aR st.2.length lo := by
          by_cases hp : pSt lS dR sa aR st.2.length lo
          · exact .inr hp
          · left
            cases q : H lo with
            | none => rfl
            | some u =>
              have := (A5.trans (After.same e7)).old lo u q hp
              rw [hlon] at this
              cases this
        have A10 : After H (pSt lS dR sa aR st.2.length) (upd H10 lS (.lst (((sa4.set kk ln).map V.ref).set (kk - 1) (.ref lo)))) (pSt lS dR ((sa4.set kk ln).set (kk - 1) lo) aR4 s1.2.length) := by
          have B := A9.trans (After.same e10)
          refine ⟨fun b u hb hn => ?_, B.tp.trans t10, fun b hb => ?_⟩
          · rw [upd_ne fun z => ?_]
            · exact B.old b u hb hn
            · have h1 := A9.nw lS (.inl rfl)
              rw [z] at hb hn
              rcases h1 with h1 | h1
              · exact hn h1
              · rw [h1] at hb
                cases hb
          · rcases hb with hb | hb | hb | hb
            · exact B.nw b (.inl hb)
            · exact B.nw b (.inr (.inl hb))
            · rcases List.mem_or_eq_of_mem_set hb with h | h
              · exact B.nw b (.inr (.inr (.inl h)))
              · rw [h]
                exact hloH.symm
            · exact B.nw b (.inr (.inr (.inr hb)))
        refine fin _ _ _ _ ((((S9.sm e10).up (m := true) t10).fgt 4).fgt 5) A10 D10 ?_
        unfold moveM
        rw [if_neg (by omega), hrow, Int.toNat_natCast, hgd, hgd1]
      · have hk0 : kk = 0 := by rw [decide_eq_false_iff_not] at hb6; omega
        refine fin _ H7 sa4 s1.1 (S6.sm e7) (A5.trans (After.same e7)) (D5.sm e7) ?_
        unfold moveM
        rw [if_pos hk0, hrow, Int.toNat_natCast]

theorem upTo_rows (s : SS) : (upTo s.2.length).map (rowOf s) = s.2 := by
  unfold upTo
  rw [List.map_map]
  refine List.ext_getElem (by simp) fun i h1 h2 => ?_
  simp [rowOf, h2]
theorem rowsM_eq (s : SS) : ((upTo s.2.length).filter fun n => !(rowOf s n).isEmpty).map (rowOf s) = rowsM s := by
  unfold rowsM
  conv => rhs; rw [← upTo_rows s]
  rw [List.filter_map]
  rfl
theorem upTo_sorted (n : Nat) : (upTo n).Pairwise fun a b => a ≤ b := by
  unfold upTo
  exact List.pairwise_map.mpr (List.Pairwise.imp (fun {a b} h => by omega) List.pairwise_lt_range)
theorem cnt_few {s : SS} (ok : SOk s) : s.2.length ≤ 55 := by
  have h1 := ok.cnt
  have h2 := ok.few
  unfold firstN at h1
  rw [Int.fdiv_eq_ediv_of_nonneg _ (by decide)] at h1
  have h3 : (s.1.length : Int) * ((s.1.length : Int) + 1) ≤ 10 * 11 := Int.mul_le_mul (by omega) (by omega) (by omega) (by omega)
  omega
def spSrows (cO cS : Addr) : Sp := spSt cO cS (ι := Unit) (fun _ _ _ => True) (fun _ => []) (fun _ s _ => s) (fun _ s _ => rI (rowsD (rowsM s)))
theorem sc_Srows : FnScope ["self", "used", "number"] ["self"] (defScope s_Srows) := ⟨rfl, rfl, rfl, by decide +kernel, rfl, by decide +kernel, by decide +kernel⟩
theorem ok_Srows {f : Addr} {fd : FuncData} (X : TM K cS "rows" "Stairs.rows" s_Srows ["self"] f fd) (T : TB mg) (O : TSt K mg cS) : FnOk P w K mg base CX0 1 f fd ["self"] (spSrows cO cS) := by
  have nd := sc_Srows.nd
  refine X.F.ok sc_Srows (fun vs H Q E h => ?_) (fun cdv A outer s H vs Q E hr h => ?_)
  · obtain ⟨L, Hb, g, lS, dR, sa, aR, s, i, rest, rfl, rfl, _⟩ := h
    rfl
  · have hu := hu_of hr
    obtain ⟨L, Hb, g, lS, dR, sa, aR, st, i, rest, rfl, rfl, F, sm, off, D, ok, _, k⟩ := h
    refine ⟨_, (pss_cons (ps_setLc (i := 1) (own := [("number", 2)]) (tt := (tTest (tOp _ (tCB (rLenS K) (tCons (tDGet (SlX.tSl K _ "own_rows") _) tNil)) _))) rfl nd rfl rfl (sw_true rfl rfl rfl (by decide +kernel)) (pi_list (pe_callB (call_sortedDI rfl) rfl T.n_sorted (by decide +kernel) (pa_cons (SlX.pe_sl (pv 0)) pa_nil))) (blkOk_by (by kernel_rfl)) (fun _ _ _ _ _ => (pg_name (i := 2) nd rfl (by first | exact Or.inl rfl | exact Or.inr rfl))) (fun _ _ _ _ _ => (pts_one (pt_cmpR op_gt (pe_callB call_len_seq rfl T.n_len PySem.boot_len (pa_cons (pe_dget hu (SlX.pe_sl (pv 0)) (pv 2) (fun _ _ => rfl)) pa_nil)) pe_int (nomark _)))) (fun _ _ _ _ _ => (pv 2)))
      (pss_one (ps_ret (pe_callTy call_tuple_of rfl T.n_tuple (by decide +kernel) (pa_cons (pe_lc (own := [("number", 2)]) (te := (tCB (rTupS K) (tCons (tDGet (SlX.tSl K _ "own_rows") _) tNil))) rfl nd (pi_list (pv 1)) (blkOk_by (by kernel_rfl)) (fun _ _ _ _ _ => (pg_name (i := 2) nd rfl (by first | exact Or.inl rfl | exact Or.inr rfl))) (fun _ _ _ _ _ => pts_nil) (fun _ _ _ _ _ => (pe_callTy call_tuple_of rfl T.n_tuple (by decide +kernel) (pa_cons (pe_dget hu (SlX.pe_sl (pv 0)) (pv 2) (fun _ _ => rfl)) pa_nil)))) pa_nil))))), ?_⟩
    obtain ⟨dx, vo, hs, hO⟩ := F.ex
    obtain ⟨pR, sR⟩ := O.sR
    have S : Sat false [some (rX (.ref g)), none, none] [some (.ref g), none, none] H := ⟨rfl, fun j T h => by
      match j, h with
      | 0, h => cases h; exact ⟨mnX, _, rfl, rfl⟩
      | 1, h => cases h
      | 2, h => cases h⟩
    have hc := cnt_few ok
    have srt : EvR (tCB (fun xs H Q => ∃ (a : Addr) (kvs : List (Key × V)) (ks : List Int), xs = [.ref a] ∧ Rd H a (.dK kvs) ∧ kvs.map (·.1) = ks.map Sum.inl ∧ ks.length < 64 ∧ ∀ (ys : List Int) (p : Addr), ys.Perm ks → ys.Pairwise (· ≤ ·) → H p = none → Q (.ref p) (upd H p (.lst (ys.map V.int)))) (tCons (SlX.tSl K (tVar 0) "own_rows") tNil)) [some (.ref g), none, none] H (rL ((upTo st.2.length).map PyData.int)) := by
      intro H1 e1 Q1 q1
      refine e_sl (R := rX (.ref dR)) (ev S rfl) (slt_same hs sm) O.c.cl sR rfl rfl mnX H1 e1 _ fun x H2 e2 hx => ?_
      cases hx
      refine ⟨dR, _, upTo st.2.length, rfl, .inl ((e1.trans e2) _ _ D.hR), by rw [List.map_map]; rfl, by rw [upTo_length]; omega, fun ys p pm pw hp => q1 _ _ (e2.trans (same_new hp)) ⟨p, _, rfl, upd_same, ?_⟩⟩
      have : ys = upTo st.2.length := List.Perm.eq_of_pairwise (le := fun a b : Int => a ≤ b) (fun a b _ _ h1 h2 => by omega) pw (upTo_sorted _) pm
      rw [this]
      exact ints_imL
    have hrow : ∀ n ∈ upTo st.2.length, ∃ z, H (aR n) = some (.lst z) ∧ ImL H ((rowOf st n).map evD) z := fun n hn => by
      have h1 := mem_upTo.mp hn
      have h2 : n.toNat < st.2.length := by omega
      obtain ⟨z, a, b⟩ := D.hr n.toNat _ (List.getElem?_eq_getElem h2)
      have e1 : ((n.toNat : Nat) : Int) = n := Int.toNat_of_nonneg h1.1
      rw [e1] at a
      refine ⟨z, a, ?_⟩
      unfold rowOf
      rw [List.getD_eq_getElem?_getD, List.getElem?_eq_getElem h2]
      exact b
    refine g_set (R := rL (((upTo st.2.length).filter fun n => !(rowOf st n).isEmpty).map PyData.int)) S (EvR.l (e_lc (enc := PyData.int) (xs := upTo st.2.length) (F := fun n Γ => Γ.set 2 (some (rI (.int n)))) (fun n => !(rowOf st n).isEmpty) PyData.int S (i_list srt) (by rw [upTo_length]; omega) (fun n _ => tg_i) (by decide) fun n hn σ2 H2 e2 S2 => ⟨?_, fun _ => ev S2 rfl⟩)) mnMo fun σ1 H1 e1 S1 => ?_
    · obtain ⟨z, hz, rz⟩ := hrow n hn
      refine EvB.is (b_test (e_gtI (e_lenL (e_at (e_dgetKO kI_inj (e_sl (ev S2 rfl) (slt_same hs (sm.trans e2)) O.c.cl sR rfl rfl mnX) (EvR.xi (ev S2 rfl)) (e2 _ _ D.hR) hn) (e2 _ _ hz) (rz.sm e2))) e_int)) ?_
      rw [List.length_map]
      cases rowOf st n with
      | nil => rfl
      | cons a b =>
        rw [List.length_cons]
        show decide ((0 : Int) < ((b.length + 1 : Nat) : Int)) = true
        rw [decide_eq_true_eq]
        omega
    · have hfl : ((upTo st.2.length).filter fun n => !(rowOf st n).isEmpty).length ≤ 55 := Nat.le_trans (List.length_filter_le _ _) (by rw [upTo_length]; exact hc)
      refine s_ret (R := rI (rowsD (rowsM st))) (e_tupL (EvR.isL (EvR.l (e_lc (enc := PyData.int) (xs := (upTo st.2.length).filter fun n => !(rowOf st n).isEmpty) (F := fun n Γ => Γ.set 2 (some (rI (.int n)))) (fun _ => true) (fun n => .tuple ((rowOf st n).map evD)) S1 (i_list (ev S1 rfl)) (by omega) (fun n _ => tg_i) (by decide) fun n hn σ2 H2 e2 S2 => ⟨b_yes, fun _ => ?_⟩)) ?_)) fun v H3 e3 hv => ?_
      · have hn1 := (List.mem_filter.mp hn).1
        obtain ⟨z, hz, rz⟩ := hrow n hn1
        have e12 := e1.trans e2
        exact e_tupL (e_at (e_dgetKO kI_inj (e_sl (ev S2 rfl) (slt_same hs (sm.trans e12)) O.c.cl sR rfl rfl mnX) (EvR.xi (ev S2 rfl)) (e12 _ _ D.hR) hn1) (e12 _ _ hz) (rz.sm e12))
      · rw [fT, ← rowsM_eq, List.map_map]
        rfl
      · have e13 := e1.trans e3
        refine k v H3 sa aR (After.same e13) (D.sm e13) hv fun lx hlx hp => ?_
        obtain ⟨q, xs, eq, hq, _⟩ := hv
        rw [eq] at hlx
        cases hlx
        have D3 := D.sm e13
        rcases hp with hp | hp | hp | ⟨i, hi, hp⟩
        · rw [hp, D3.hS] at hq; cases hq
        · rw [hp, D3.hR] at hq; cases hq
        · obtain ⟨_, l', hl'⟩ := D3.asR hp
          rw [hl'] at hq; cases hq
        · obtain ⟨z, a, _⟩ := D3.hr i _ (List.getElem?_eq_getElem hi)
          rw [hp, a] at hq; cases hq
/-- a new rule of stairs -/
def NewSt (cS : Addr) (vo : V) (H : Hp) : Rs := fun H' v => ∃ (g lS dR dx : Addr) (aR : Int → Addr) (Hb : Hp), v = .ref g ∧ Same H Hb ∧ Same Hb H' ∧ Hb lS = none ∧ Hb dR = none ∧ SlX.Slt Hb g cS dx [some vo, some (.ref dR), some (.ref lS)] ∧ StD lS dR [] aR H' ([], []) ∧ H g = none ∧ H dx = none
theorem newSt_mn {vo : V} {H : Hp} : Mn false (NewSt cS vo H) := fun H1 H2 v e ⟨g, lS, dR, dx, aR, Hb, a, b, c, d, f, h, i, j⟩ => ⟨g, lS, dR, dx, aR, Hb, a, b, Same.trans c e, d, f, h, i.sm e, j⟩
def spSinit (cS : Addr) : Sp := fun vs H Q _ => ∃ (H0 : Hp) (x dx : Addr) (vo : V), vs = [.ref x, vo] ∧ H0 x = none ∧ H0 dx = none ∧ dx ≠ x ∧ H = upd (upd H0 dx (.own x)) x (.ins cS dx []) ∧ ∀ H', NewSt cS vo H0 H' (.ref x) → Q .non H'
theorem e_newSt {σ : St} {H : Hp} {ta : TE} {E : XK} {vo : V} (h : EvR ta σ H (rX vo)) : EvR (StX.tMakeR cS (spSinit cS) E (tCons ta tNil)) σ H (NewSt cS vo H) := fun H1 e Q q => h H1 e _ fun vo H2 e2 hO => fun x dx hx hd hne => by
  cases hO
  refine ⟨H2, x, dx, vo, rfl, hx, hd, hne, rfl, fun H' hN => ?_⟩
  obtain ⟨g, lS, dR, dx', aR, Hb, a, b, c, d, f, h, i, j, l⟩ := hN
  exact ⟨rfl, q _ H' (e2.trans (b.trans c)) ⟨g, lS, dR, dx', aR, Hb, a, (e.trans e2).trans b, c, d, f, h, i, (e.trans e2).free j, (e.trans e2).free l⟩⟩
theorem sc_Sinit : FnScope ["self", "order"] ["self", "order"] (defScope s_Sinit) := ⟨rfl, rfl, rfl, by decide +kernel, rfl, by decide +kernel, by decide +kernel⟩
theorem ok_Sinit {f : Addr} {fd : FuncData} (X : TM K cS "__init__" "Stairs.__init__" s_Sinit ["self", "order"] f fd) (T : TB mg) (O : TSt K mg cS) : FnOk P w K mg base CX0 1 f fd ["self", "order"] (spSinit cS) := by
  have nd := sc_Sinit.nd
  refine X.F.ok sc_Sinit (fun vs H Q E h => ?_) (fun cdv A outer s H vs Q E hr h => ?_)
  · obtain ⟨H0, x, dx, vo, rfl, _⟩ := h
    rfl
  · have hu := hu_of hr
    obtain ⟨H0, o, dx, vo, rfl, ho0, hd0, hne, rfl, k⟩ := h
    refine ⟨_, (pss_cons (SlX.ps_sl (pv 0) (pv 1))
      (pss_cons (SlX.ps_sl (pv 0) (pe_lst pa_nil))
      (pss_one (SlX.ps_sl (pv 0) pe_dnewK)))), ?_⟩
    have e0 : Same H0 (upd (upd H0 dx (.own o)) o (.ins cS dx [])) := same_mut (same_new hd0) ho0
    have B : Bld cS o dx (upd (upd H0 dx (.own o)) o (.ins cS dx [])) [] := bld_new hne
    obtain ⟨pO, sO⟩ := O.sO
    obtain ⟨pS, sS⟩ := O.sS
    obtain ⟨pR, sR⟩ := O.sR
    have S : Sat true [some (rX (.ref o)), some (rX vo)] [some (.ref o), some vo] (upd (upd H0 dx (.own o)) o (.ins cS dx [])) := ⟨rfl, fun i T h => by
      match i, h with
      | 0, h => cases h; exact ⟨mnX, _, rfl, rfl⟩
      | 1, h => cases h; exact ⟨mnX, _, rfl, rfl⟩⟩
    refine q_sl (R := rX vo) (ev S rfl) (ev S rfl) B O.c.cl sO (fun y H1 e1 hy H2 eH B2 t2 => ?_) mnX
    cases hy
    have st : ∀ {Ha Hc : Hp} {vs : List (Option V)}, Same H0 Ha → Hc = SlX.slH Ha o cS dx vs → Same H0 Hc := fun e1 eH b u hb => by
      rw [eH, SlX.slH_ne (ne_of_none hb ho0) (ne_of_none hb hd0)]
      exact e1 _ _ hb
    have s2 := st (e0.trans e1) eH
    have S2 := (S.sm e1).up (m := true) t2
    refine q_sl (R := rLF H2 []) (e_lstF a_nil (by decide)) (ev S2 rfl) B2 O.c.cl sS (fun y H3 e3 hy H4 eH4 B4 t4 => ?_) mnMo
    obtain ⟨lS, zS, rfl, hnS, hlS, rS⟩ := hy
    cases rS
    have s4 := st (s2.trans e3) eH4
    have S4 := (S2.sm e3).up (m := true) t4
    refine s_sl (R := fun H' v => ∃ d, v = .ref d ∧ H4 d = none ∧ H' d = some (.dK [])) (fun H1 e Q q => fun p hp => q _ _ (same_new hp) ⟨p, rfl, e.free hp, upd_same⟩) (ev S4 rfl) B4 O.c.cl sR (fun y H5 e5 hy H6 eH6 B6 t6 => ?_) (fun _ _ _ e ⟨d, a, b, c⟩ => ⟨d, a, b, e _ _ c⟩)
    obtain ⟨dR, rfl, hnR, hdR⟩ := hy
    have s6 := st (s4.trans e5) eH6
    have neo : ∀ {b : Addr} {Hx : Hp} {vs : List (Option V)}, Bld cS o dx Hx vs → Hx b = none → b ≠ o ∧ b ≠ dx := fun B h => ⟨fun z => B.o_some.1 (z ▸ h), fun z => B.o_some.2 (z ▸ h)⟩
    have hlS4 : H4 lS = some (.lst []) := by rw [eH4, SlX.slH_ne (neo B2 hnS).1 (neo B2 hnS).2]; exact hlS
    have hlS6 : H6 lS = some (.lst []) := by rw [eH6, SlX.slH_ne (neo B2 hnS).1 (neo B2 hnS).2]; exact e5 _ _ hlS4
    have hdR6 : H6 dR = some (.dK []) := by rw [eH6, SlX.slH_ne (neo B4 hnR).1 (neo B4 hnR).2]; exact hdR
    have hS0 : H0 lS = none := s2.free hnS
    have hR0 : H0 dR = none := s4.free hnR
    have sb : Same H0 (Hid H6 fun b => b = lS ∨ b = dR) := hid_same' s6 fun b hb => by rcases hb with hb | hb <;> rw [hb] <;> assumption
    refine k H6 ⟨o, lS, dR, dx, fun _ => 0, Hid H6 fun b => b = lS ∨ b = dR, rfl, sb, hid_same _ _, hid_off (.inl rfl), hid_off (.inr rfl), ?_, ⟨hlS6, rfl, fun i a l h => (by simp at h), hdR6, fun n r h => (by simp at h), fun a h => (by cases h), fun n h => absurd h (Nat.not_lt_zero _), fun m n h => absurd h (Nat.not_lt_zero _)⟩, ho0, hd0⟩
    have no : ¬ (o = lS ∨ o = dR) := fun z => z.elim (fun z => (neo B2 hnS).1 z.symm) fun z => (neo B4 hnR).1 z.symm
    have nd' : ¬ (dx = lS ∨ dx = dR) := fun z => z.elim (fun z => (neo B2 hnS).2 z.symm) fun z => (neo B4 hnR).2 z.symm
    rcases B6.slt with ⟨q1, q2⟩ | ⟨q1, q2⟩
    · exact .inl ⟨by rw [hid_on no]; exact q1, q2⟩
    · exact .inr ⟨by rw [hid_on no]; exact q1, by rw [hid_on nd']; exact q2⟩
end
end Fs

/-! FsV: stairs, stair_costs. -/
namespace Fs
open PySem L2
abbrev s_stairs : Stmt := topS 22
abbrev s_stair_costs : Stmt := topS 23
theorem toldF_len (L : Lg) : ∀ (es : List Ev) (s : SS), (toldF L s es).length = es.length
  | [], _ => rfl
  | e :: es, s => by
    show ((e, _) :: toldF L _ es).length = _
    rw [List.length_cons, toldF_len L es, List.length_cons]
theorem StD.out {lS dR l : Addr} {sa : List Addr} {aR : Int → Addr} {H : Hp} {s : SS} {o : HO} (D : StD lS dR sa aR H s) (n : ¬ pSt lS dR sa aR s.2.length l) (t : Tp H (upd H l o)) : StD lS dR sa aR (upd H l o) s := by
  refine ⟨by rw [upd_ne fun z => n (.inl z.symm)]; exact D.hS, D.hl, fun i a q ha hq => ?_, by rw [upd_ne fun z => n (.inr (.inl z.symm))]; exact D.hR, fun m r h => ?_, D.nS, D.nSR, D.inj⟩
  · rw [upd_ne (fun z : a = l => n (.inr (.inr (.inl (by rw [← z]; exact List.mem_of_getElem? ha)))))]
    exact D.hs i a q ha hq
  · obtain ⟨z, a, b⟩ := D.hr m r h
    have hm := (List.getElem?_eq_some_iff.mp h).1
    exact ⟨z, by rw [upd_ne fun y => n (.inr (.inr (.inr ⟨m, hm, y.symm⟩)))]; exact a, b.up t⟩
section
variable {P : Program} {w : World} {K : PySem.W.Frag} {mg : Str → Option Value} {base : Heap} {cO cC cG cS : Addr}
def spStairs : Sp := spS (fun L : Lg => Well L ∧ StOk L) (fun L => [rI (lgD L)]) (fun L H0 => rLF H0 ((stairsM L).map tdD))
theorem sc_stairs : FnScope ["log", "order", "rule", "event"] ["log"] (defScope s_stairs) := ⟨rfl, rfl, rfl, by decide +kernel, rfl, by decide +kernel, by decide +kernel⟩
theorem ok_stairs {f f1 fO fM fS fP : Addr} {fd fd1 : FuncData} (X : TF K mg "stairs" s_stairs ["log"] f fd) (T : TB mg) (G_coming : GF P w K mg base 9 "coming" f1 fd1 ["log"] spComing) (G_Order : GC P w K mg base 7 "Order" cO fO (spOinit cO)) (M_Order_marked : GM P w K mg base 1 "marked" cO fM (spOmarked cO))
    (G_Stairs : GC P w K mg base 1 "Stairs" cS fS (spSinit cS)) (M_Stairs_put : GM P w K mg base 3 "put" cS fP (spPut cO cS)) : FnOk P w K mg base CX0 10 f fd ["log"] spStairs := by
  have nd := sc_stairs.nd
  refine fn_spS (m := false) X.F sc_stairs (fun _ => rfl) (fun i => mlI ml0) fun cdv A outer s H0 E hr => ?_
  have hu := hu_of hr
  refine ⟨_, (pss_cons (ps_set (i := 1) nd rfl (by first | exact Or.inl rfl | exact Or.inr rfl) (StX.pe_makeR G_Order.m G_Order.F (hr.mono (by first | decide | omega)) rfl G_Order.g pass0 (pa_cons (pv 0) pa_nil)))
      (pss_cons (ps_set (i := 2) nd rfl (by first | exact Or.inl rfl | exact Or.inr rfl) (StX.pe_makeR G_Stairs.m G_Stairs.F (hr.mono (by first | decide | omega)) rfl G_Stairs.g pass0 (pa_cons (pv 1) pa_nil)))
      (pss_one (ps_ret (pe_lc (own := [("event", 3)]) (tt := (tTest (tOp (rInD K) _ _))) (te := (tTup (tCons _ (StX.tStar K _ tNil)))) rfl nd (pi_list (pe_call G_coming.F (hr.mono (by first | decide | omega)) rfl G_coming.g G_coming.kp G_coming.b .nil pass0 (pa_cons (pv 0) pa_nil))) (blkOk_by (by kernel_rfl)) (fun _ _ _ _ _ => (pg_name (i := 3) nd rfl (by first | exact Or.inl rfl | exact Or.inr rfl))) (fun _ _ _ _ _ => (pts_one (pt_cmpR (op_inD hr.u65) (pv 3) (SlX.pe_methSl0 (pv 1) M_Order_marked.c M_Order_marked.m M_Order_marked.F (hr.mono (by first | decide | omega)) pass0) (by rfl)))) (fun _ _ _ _ _ => (pe_tup (pa_cons (pv 3) (StX.pa_star (SlX.pe_methSl (pv 2) M_Stairs_put.c M_Stairs_put.m M_Stairs_put.F (hr.mono (by first | decide | omega)) pass0 (pa_cons (pv 3) pa_nil)) pa_nil))))))))), ?_⟩
  rintro L ⟨W, SO⟩ σ H S Q k
  refine g_set (R := OrdAt cO L) S (e_make L W (aI (ev S rfl) aa_nil)) mnMo fun σ1 H1 e1 S1 => ?_
  obtain ⟨vo, hvo, S1p⟩ := S1.pin 1 rfl
  refine q_set (R := NewSt cS vo H1) (e_newSt (ev S1p rfl)) fun v H2 e2 hN => ?_
  obtain ⟨g, lS, dR, dx0, aR0, Hb, rfl, b1, b2, bS, bR, hsl, D2, _⟩ := hN
  have S2 : Sat true [some (rI (lgD L)), some (rX vo), some (rX (.ref g)), none] (σ1.set 2 (some (.ref g))) H2 := ((S1p.sm e2).set 2 (mnX (v := .ref g)) rfl).tp (mlI (mlX (mlX ml0)))
  have hvb : OrdAt cO L Hb vo := mnMo _ _ _ b1 hvo
  have F : StF cO cS L Hb g lS dR := ⟨dx0, vo, hsl, hvb⟩
  have hlen : (come L).length ≤ 100 := Nat.le_trans (comeF_len L _ _) W.many
  -- what holds when the events pre have come
  let Inv : Hp → Addr → List Ev → Hp → Prop := fun H3 Dl pre H' => Same Hb H' ∧ Tp H3 H' ∧ (∀ b u, H3 b = some u → ¬ pSt lS dR [] aR0 0 b → H' b = some u) ∧ ∃ sa aR, (∀ b, pSt lS dR sa aR (stAfter L (pre.filter fun e => decide (e ∈ mks L))).2.length b → pSt lS dR [] aR0 0 b ∨ H3 b = none) ∧ ¬ pSt lS dR sa aR (stAfter L (pre.filter fun e => decide (e ∈ mks L))).2.length Dl ∧
    StD lS dR sa aR H' (stAfter L (pre.filter fun e => decide (e ∈ mks L))) ∧ ∃ acc, H' Dl = some (.lst acc) ∧ ImL H' ((toldF L ([], []) (pre.filter fun e => decide (e ∈ mks L))).map tdD) acc
  unfold tRet
  refine t_lcM (enc := evD) (xs := come L) (M := Fz H2) (i_listF (e_callT L W (aI (ev S2 rfl) aa_nil) fun H0' H' v e0 r => ?_)) (Same.refl H2) fun H4 Dl e4 hD => ?_
  · obtain ⟨l, xs, a, b, c, d⟩ := r
    exact ⟨l, xs, a, e0.free b, c, d⟩
  · have pD : ∀ b, pSt lS dR [] aR0 0 b → b = lS ∨ b = dR := fun b h => by
      rcases h with h | h | h | ⟨i, hi, _⟩
      · exact .inl h
      · exact .inr h
      · cases h
      · exact absurd hi (Nat.not_lt_zero _)
    have D4 := D2.sm e4
    have lSne : lS ≠ Dl := ne_of_none D4.hS hD
    have dRne : dR ≠ Dl := ne_of_none D4.hR hD
    have sm4 : Same Hb H4 := b2.trans e4
    have hDb : Hb Dl = none := sm4.free hD
    have noD : ¬ pSt lS dR [] aR0 0 Dl := fun h => (pD _ h).elim (fun z => lSne z.symm) fun z => dRne z.symm
    refine ⟨Inv H4 Dl, ⟨same_mut sm4 hDb, (same_new hD).tp, fun b u hb _ => by rw [upd_ne (ne_of_none hb hD)]; exact hb, [], aR0, fun b hb => .inl hb, noD, D4.sm (same_new hD), [], upd_same, rfl⟩, fun pre H' hI => ⟨fun a o n h => hI.2.2.1 a o h fun hp => ?_, hI.2.1⟩, fun pre x post H' H'' v esp hI s r => ?_, fun H' hI => ?_⟩
    · rcases pD a hp with z | z
      · rw [z, D2.hS] at n; cases n
      · rw [z, D2.hR] at n; cases n
    · obtain ⟨i1, i2, i3, sa, aR, i4, i5, i6, acc, i7, i8⟩ := hI
      have hx : x ∈ come L := by rw [esp]; simp
      have hxe := come_sub hx
      have S5 := ((S2.up (m := true) (e4.tp.trans (i2.trans s.tp))).wipe [3]).set 3 mnI r
      have H5s : Same Hb H'' := i1.trans s
      have hfil : (pre ++ [x]).filter (fun e => decide (e ∈ mks L)) = pre.filter (fun e => decide (e ∈ mks L)) ++ (if x ∈ mks L then [x] else []) := by
        rw [List.filter_append]
        congr 1
        by_cases h : x ∈ mks L <;> simp [h]
      refine ⟨(wipe_set (List.mem_singleton.mpr rfl)).trans wipe_twice, ?_⟩
      refine (b_test (e_inE (a := x) (es := mks L) (ev S5 rfl) (e_methR (R := OrdAt cO L) (T := rL ((mks L).map evD)) (fun H v h => ordAt_slt h) mnMo (e_known (R := OrdAt cO L) (ev S5 rfl) (mnMo _ _ _ H5s hvb) mnMo) aa_nil L True.intro rfl fun _ _ _ _ r => rLF.l r))).go fun H6 e6 => ?_
      by_cases hm : x ∈ mks L
      · rw [decide_eq_true hm, if_pos rfl]
        rw [if_pos hm] at hfil
        have S6 := S5.sm e6
        obtain ⟨vx, hvx, rvx⟩ := S6.get (i := 3) (R := rI (evD x)) rfl
        obtain ⟨dxg, vo', hsg, _⟩ := F.ex
        have es := s.trans e6
        have H6s := H5s.trans e6
        have hoff : ∀ b, pSt lS dR sa aR (stAfter L (pre.filter fun e => decide (e ∈ mks L))).2.length b → Hb b = none := fun b hb => by
          rcases i4 b hb with h | h
          · rcases pD b h with z | z
            · rw [z]; exact bS
            · rw [z]; exact bR
          · exact sm4.free h
        have hck : comeK L = pre.filter (fun e => decide (e ∈ mks L)) ++ x :: post.filter (fun e => decide (e ∈ mks L)) := by
          unfold comeK
          rw [esp, List.filter_append, List.filter_cons, if_pos (decide_eq_true hm)]
        refine ⟨vx, hvx, t_meth (a := g) (dx := dxg) (vs := [some vo', some (.ref dR), some (.ref lS)]) (as := [rI (evD x)]) (ev S6 rfl) (slt_same hsg H6s) (aI (ev S6 rfl) aa_nil) fun ws H7 e7 aa => ⟨L, Hb, g, lS, dR, sa, aR, stAfter L (pre.filter fun e => decide (e ∈ mks L)), x, ws, rfl, aa, F, H6s.trans e7, hoff, i6.sm (es.trans e7), SO.ok _ _ hck, ⟨hxe, SO.st _ _ _ hck⟩, fun v8 H8 sa8 aR8 A8 D8 hv8 hp8 => ?_⟩⟩
        obtain ⟨q, xs, rfl, hq, rq⟩ := hv8
        have e57 := es.trans e7
        refine ⟨q, xs, rfl, .inl (SqT.of hq), ?_⟩
        have hxl : xs.length = 2 := rq.len
        refine ⟨by show (vx :: (xs ++ [])).length ≤ sizeLine; rw [List.append_nil, List.length_cons, hxl]; decide, fun p hp => ?_⟩
        show ∃ acc, upd H8 p (.tup (vx :: (xs ++ []))) Dl = some (.lst acc) ∧ acc.length < sizeLine ∧ Inv H4 Dl (pre ++ [x]) (upd (upd H8 p (.tup (vx :: (xs ++ [])))) Dl (.lst (acc ++ [.ref p])))
        rw [List.append_nil]
        have e9 : Same H8 (upd H8 p (.tup (vx :: xs))) := same_new hp
        have hD7 : H7 Dl = some (.lst acc) := e57 _ _ i7
        have hD8 : H8 Dl = some (.lst acc) := A8.old _ _ hD7 i5
        have hD9 := e9 _ _ hD8
        have nD8 : ¬ pSt lS dR sa8 aR8 (putM L (stAfter L (pre.filter fun e => decide (e ∈ mks L))) x).1.2.length Dl := fun h => by
          rcases A8.nw _ h with z | z
          · exact i5 z
          · rw [hD7] at z; cases z
        have t9 : Tp (upd H8 p (.tup (vx :: xs))) (upd (upd H8 p (.tup (vx :: xs))) Dl (.lst (acc ++ [.ref p]))) := tp_lst hD9
        have s8 : Same Hb H8 := A8.sm (H6s.trans e7) hoff
        have est : (putM L (stAfter L (pre.filter fun e => decide (e ∈ mks L))) x).1 = stAfter L (pre.filter (fun e => decide (e ∈ mks L)) ++ [x]) := (stAfter_snoc L _ x).symm
        have hlacc : acc.length ≤ 100 := by
          rw [i8.len, List.length_map]
          rw [toldF_len]
          have h1 := List.length_filter_le (fun e => decide (e ∈ mks L)) pre
          have h2 := congrArg List.length esp
          rw [List.length_append] at h2
          omega
        refine ⟨acc, hD9, len_lt (by omega), ?_⟩
        show Same Hb _ ∧ Tp H4 _ ∧ _ ∧ _
        rw [hfil, ← est]
        refine ⟨same_mut (s8.trans e9) hDb, i2.trans (e57.tp.trans (A8.tp.trans (e9.tp.trans t9))), fun b u hb hn => ?_, sa8, aR8, fun b hb => ?_, nD8, (D8.sm e9).out nD8 t9, acc ++ [.ref p], upd_same, ?_⟩
        · rw [upd_ne (ne_of_none hb hD)]
          refine e9 _ _ (A8.old _ _ (e57 _ _ (i3 b u hb hn)) fun hpb => ?_)
          rcases i4 b hpb with z | z
          · exact hn z
          · rw [hb] at z; cases z
        · rcases A8.nw b hb with z | z
          · exact i4 b z
          · by_cases hp0 : pSt lS dR [] aR0 0 b
            · exact .inl hp0
            · right
              cases q4 : H4 b with
              | none => rfl
              | some u =>
                rw [e57 _ _ (i3 b u q4 hp0)] at z
                cases z
        · rw [toldF_snoc, List.map_append]
          refine ((i8.sm e57).up (A8.tp.trans (e9.tp.trans t9))).snoc ?_
          refine Im.up (Im.tup (H := upd H8 p (.tup (vx :: xs))) upd_same ⟨vx, xs, rfl, ?_, rq.sm e9⟩) t9
          exact Im.up rvx (e7.tp.trans (A8.tp.trans e9.tp))
      · rw [decide_eq_false hm, if_neg Bool.false_ne_true]
        rw [if_neg hm, List.append_nil] at hfil
        have es := s.trans e6
        show Inv H4 Dl (pre ++ [x]) H6
        show Same Hb H6 ∧ Tp H4 H6 ∧ _ ∧ _
        rw [hfil]
        exact ⟨i1.trans es, i2.trans es.tp, fun b u hb hn => es _ _ (i3 b u hb hn), sa, aR, i4, i5, i6.sm es, acc, es _ _ i7, i8.sm es⟩
    · obtain ⟨i1, i2, i3, sa, aR, i4, i5, i6, acc, i7, i8⟩ := hI
      refine k _ H' (e1.trans (b1.trans i1)) ⟨Dl, acc, rfl, (e1.trans (b1.trans b2)).free (e4.free hD), i7, i8⟩
end
end Fs

/-! FsX: stair_costs. -/
namespace Fs
open PySem L2

/-! ### how much there is in the rows -/
theorem flat_set (e : Ev) : ∀ (l : List (List Ev)) (i : Nat), (l.set i (l.getD i [] ++ [e])).flatten.length ≤ l.flatten.length + 1
  | [], i => by simp
  | r :: l, 0 => by
    simp [List.length_append]
    omega
  | r :: l, i + 1 => by
    have h := flat_set e l i
    simp [List.length_append] at h ⊢
    omega
theorem flat_step (L : Lg) (e : Ev) : ∀ (f : Nat) (s : SS) (k : Nat), (stepM L e f s k).1.2.flatten.length = s.2.flatten.length
  | 0, _, _ => rfl
  | f + 1, s, k => by
    have ho : (openM s k).2.flatten.length = s.2.flatten.length := by
      unfold openM
      split
      · show (s.2 ++ List.replicate (s.1.length + 1) []).flatten.length = _
        rw [List.flatten_append, List.length_append]
        simp
      · rfl
    unfold stepM
    split
    · rw [flat_step L e f, ho]
    · exact ho
theorem flat_put (L : Lg) (s : SS) (e : Ev) : (putM L s e).1.2.flatten.length ≤ s.2.flatten.length + 1 := by
  rw [← flat_step L e 20 s 0]
  exact flat_set e _ _
theorem flat_fold (L : Lg) : ∀ (es : List Ev) (s : SS), (es.foldl (fun s e => (putM L s e).1) s).2.flatten.length ≤ s.2.flatten.length + es.length
  | [], s => Nat.le_refl _
  | e :: es, s => by
    have h1 := flat_fold L es (putM L s e).1
    have h2 := flat_put L s e
    rw [List.foldl_cons, List.length_cons]
    omega
theorem flat_filter : ∀ l : List (List Ev), (l.filter fun r => !r.isEmpty).flatten.length = l.flatten.length ∧ (l.filter fun r => !r.isEmpty).length ≤ l.flatten.length
  | [] => ⟨rfl, Nat.le_refl _⟩
  | r :: l => by
    obtain ⟨h1, h2⟩ := flat_filter l
    cases r with
    | nil => exact ⟨by simpa using h1, by simpa using h2⟩
    | cons x r =>
      rw [List.filter_cons, if_pos (show (!(x :: r).isEmpty) = true from rfl), List.flatten_cons, List.flatten_cons, List.length_append, List.length_append, h1, List.length_cons, List.length_cons]
      exact ⟨rfl, by omega⟩
theorem rows_few (L : Lg) (es : List Ev) : (rowsM (stAfter L es)).flatten.length ≤ es.length ∧ (rowsM (stAfter L es)).length ≤ es.length := by
  obtain ⟨h1, h2⟩ := flat_filter (stAfter L es).2
  have h3 := flat_fold L es ([], [])
  have h4 : (([], []) : SS).2.flatten.length = 0 := rfl
  have h5 : (stAfter L es).2.flatten.length ≤ es.length := by
    unfold stAfter
    omega
  exact ⟨by unfold rowsM; omega, by unfold rowsM; omega⟩

/-! ### the costs -/
def cntN (pre : List Ev) (n : Nm) : Int := ((pre.filter fun e => decide (e.1 = n)).length : Int)
noncomputable def mksOf (L : Lg) (es : List Ev) : List Ev := es.filter fun e => decide (e ∈ mks L)
abbrev CT := Ev × Int × Int × Int
noncomputable def laterM (L : Lg) (std : Nm → Int) (rows : List (List Ev)) : Int := (rows.length : Int) + (widthM (gah L rows) (elderE rows ++ newE L std) - (rows.length : Int))
/-- the cost when the events pre, the last of them marked, have come -/
noncomputable def costAt (L : Lg) (pre : List Ev) (e : Ev) : CT :=
  (e, ((rowsM (stAfter L (mksOf L pre))).length : Int), widthM (ahead L) (mksOf L pre), laterM L (cntN pre) (rowsM (stAfter L (mksOf L pre))))
noncomputable def costsF (L : Lg) : List Ev → List Ev → List CT
  | _, [] => []
  | p, e :: es => (if e ∈ mks L then [costAt L (p ++ [e]) e] else []) ++ costsF L (p ++ [e]) es
noncomputable def costsM (L : Lg) : List CT := costsF L [] (come L)
def csD (t : CT) : PyData := .tuple [evD t.1, .int t.2.1, .int t.2.2.1, .int t.2.2.2]
theorem costsF_snoc (L : Lg) : ∀ (es p : List Ev) (e : Ev), costsF L p (es ++ [e]) = costsF L p es ++ (if e ∈ mks L then [costAt L (p ++ es ++ [e]) e] else [])
  | [], p, e => by
    show (if e ∈ mks L then [costAt L (p ++ [e]) e] else []) ++ [] = [] ++ _
    rw [List.append_nil, List.nil_append, List.append_nil]
  | x :: es, p, e => by
    show (if x ∈ mks L then [costAt L (p ++ [x]) x] else []) ++ costsF L (p ++ [x]) (es ++ [e]) = ((if x ∈ mks L then [costAt L (p ++ [x]) x] else []) ++ costsF L (p ++ [x]) es) ++ _
    rw [costsF_snoc L es, List.append_assoc]
    simp
theorem costsF_len (L : Lg) : ∀ (es p : List Ev), (costsF L p es).length ≤ es.length
  | [], _ => Nat.le_refl _
  | e :: es, p => by
    have h := costsF_len L es (p ++ [e])
    unfold costsF
    rw [List.length_append, List.length_cons]
    split
    · rw [List.length_singleton]; omega
    · rw [List.length_nil]; omega
theorem mksOf_snoc (L : Lg) (es : List Ev) (x : Ev) : mksOf L (es ++ [x]) = mksOf L es ++ (if x ∈ mks L then [x] else []) := by
  unfold mksOf
  rw [List.filter_append]
  congr 1
  by_cases h : x ∈ mks L <;> simp [h]
theorem cntN_snoc (pre : List Ev) (x : Ev) : (fun n : Nm => PyData.int (cntN (pre ++ [x]) n)) = fun n => if n = x.1 then .int (cntN pre x.1 + 1) else .int (cntN pre n) := by
  funext n
  unfold cntN
  rw [List.filter_append, List.length_append]
  by_cases h : n = x.1
  · subst h
    simp
  · have h' : ¬ x.1 = n := fun z => h z.symm
    simp [h, h']

/-! ### what holds while the costs are told -/
structure CB (Hb H5 : Hp) (d fl sl : Addr) : Prop where
  hd : Hb d = none
  hf : Hb fl = none
  hs : Hb sl = none
  df : d ≠ fl
  ds : d ≠ sl
  fs : fl ≠ sl
  d5 : H5 d ≠ none
  f5 : H5 fl ≠ none
  s5 : H5 sl ≠ none
structure CI (Hb H5 H6 : Hp) (d fl sl lS dR : Addr) (names : List Nm) (f : Nm → Int) (s : SS) (es : List Ev) (cs : List CT) (H : Hp) : Prop where
  sm : Same Hb H
  tp : Tp H6 H
  fz : ∀ b u, H5 b = none → H6 b = some u → H b = some u
  dv : DV kN .dK H d names (fun n => .int (f n))
  st : ∃ sa aR, StD lS dR sa aR H s ∧ ∀ b, pSt lS dR sa aR s.2.length b → Hb b = none ∧ b ≠ d ∧ b ≠ fl ∧ b ≠ sl ∧ (H5 b = none → H6 b = none)
  so : ∃ zs, H sl = some (.lst zs) ∧ ImL H (es.map evD) zs
  fo : ∃ ws, H fl = some (.lst ws) ∧ ImL H (cs.map csD) ws
section
variable {Hb H5 H6 H H1 : Hp} {d fl sl lS dR : Addr} {names : List Nm} {f g : Nm → Int} {s : SS} {es : List Ev} {cs : List CT}
theorem CI.same (I : CI Hb H5 H6 d fl sl lS dR names f s es cs H) (e : Same H H1) : CI Hb H5 H6 d fl sl lS dR names f s es cs H1 := by
  obtain ⟨sa, aR, a, b⟩ := I.st
  obtain ⟨zs, z1, z2⟩ := I.so
  obtain ⟨ws, w1, w2⟩ := I.fo
  exact ⟨I.sm.trans e, I.tp.trans e.tp, fun b u h1 h2 => e _ _ (I.fz b u h1 h2), I.dv.sm e, ⟨sa, aR, a.sm e, b⟩, ⟨zs, e _ _ z1, z2.sm e⟩, ws, e _ _ w1, w2.sm e⟩
theorem CI.putD (I : CI Hb H5 H6 d fl sl lS dR names f s es cs H) (B : CB Hb H5 d fl sl) {o : HO} (t : Tp H (upd H d o)) (D : DV kN .dK (upd H d o) d names (fun n => .int (g n))) : CI Hb H5 H6 d fl sl lS dR names g s es cs (upd H d o) := by
  obtain ⟨sa, aR, a, b⟩ := I.st
  obtain ⟨zs, z1, z2⟩ := I.so
  obtain ⟨ws, w1, w2⟩ := I.fo
  exact ⟨same_mut I.sm B.hd, I.tp.trans t, fun b u h1 h2 => by rw [upd_ne (fun z : b = d => B.d5 (z ▸ h1))]; exact I.fz b u h1 h2, D, ⟨sa, aR, a.out (fun h => (b _ h).2.1 rfl) t, b⟩, ⟨zs, by rw [upd_ne B.ds.symm]; exact z1, z2.up t⟩, ws, by rw [upd_ne B.df.symm]; exact w1, w2.up t⟩
theorem CI.putS (I : CI Hb H5 H6 d fl sl lS dR names f s es cs H) (B : CB Hb H5 d fl sl) {ws : List V} {es' : List Ev} (t : Tp H (upd H sl (.lst ws))) (r : ImL (upd H sl (.lst ws)) (es'.map evD) ws) : CI Hb H5 H6 d fl sl lS dR names f s es' cs (upd H sl (.lst ws)) := by
  obtain ⟨sa, aR, a, b⟩ := I.st
  obtain ⟨us, w1, w2⟩ := I.fo
  exact ⟨same_mut I.sm B.hs, I.tp.trans t, fun b u h1 h2 => by rw [upd_ne (fun z : b = sl => B.s5 (z ▸ h1))]; exact I.fz b u h1 h2, I.dv.up (fun o h => by rw [upd_ne B.ds]; exact h) t, ⟨sa, aR, a.out (fun h => (b _ h).2.2.2.1 rfl) t, b⟩, ⟨ws, upd_same, r⟩, us, by rw [upd_ne B.fs]; exact w1, w2.up t⟩
theorem CI.putF (I : CI Hb H5 H6 d fl sl lS dR names f s es cs H) (B : CB Hb H5 d fl sl) {ws : List V} {cs' : List CT} (t : Tp H (upd H fl (.lst ws))) (r : ImL (upd H fl (.lst ws)) (cs'.map csD) ws) : CI Hb H5 H6 d fl sl lS dR names f s es cs' (upd H fl (.lst ws)) := by
  obtain ⟨sa, aR, a, b⟩ := I.st
  obtain ⟨zs, z1, z2⟩ := I.so
  exact ⟨same_mut I.sm B.hf, I.tp.trans t, fun b u h1 h2 => by rw [upd_ne (fun z : b = fl => B.f5 (z ▸ h1))]; exact I.fz b u h1 h2, I.dv.up (fun o h => by rw [upd_ne B.df]; exact h) t, ⟨sa, aR, a.out (fun h => (b _ h).2.2.1 rfl) t, b⟩, ⟨zs, by rw [upd_ne B.fs.symm]; exact z1, z2.up t⟩, ws, upd_same, r⟩
theorem CI.aft {s' : SS} {sa sa' : List Addr} {aR aR' : Int → Addr} (I : CI Hb H5 H6 d fl sl lS dR names f s es cs H) (off : ∀ b, pSt lS dR sa aR s.2.length b → Hb b = none ∧ b ≠ d ∧ b ≠ fl ∧ b ≠ sl ∧ (H5 b = none → H6 b = none))
    (A : After H (pSt lS dR sa aR s.2.length) H1 (pSt lS dR sa' aR' s'.2.length)) (D' : StD lS dR sa' aR' H1 s') : CI Hb H5 H6 d fl sl lS dR names f s' es cs H1 := by
  obtain ⟨zs, z1, z2⟩ := I.so
  obtain ⟨ws, w1, w2⟩ := I.fo
  refine ⟨A.sm I.sm fun b h => (off b h).1, I.tp.trans A.tp, fun b u h1 h2 => A.old b u (I.fz b u h1 h2) fun hp => ?_, I.dv.up (fun o h => A.old _ _ h fun hp => (off _ hp).2.1 rfl) A.tp, ⟨sa', aR', D', fun b hb => ?_⟩, ⟨zs, A.old _ _ z1 fun hp => (off _ hp).2.2.2.1 rfl, z2.up A.tp⟩, ws, A.old _ _ w1 fun hp => (off _ hp).2.2.1 rfl, w2.up A.tp⟩
  · have z := (off b hp).2.2.2.2 h1
    rw [h2] at z
    cases z
  · rcases A.nw b hb with h | h
    · exact off b h
    · obtain ⟨kvs, k1, _⟩ := I.dv
      refine ⟨I.sm.free h, fun z => ?_, fun z => ?_, fun z => ?_, fun h5 => ?_⟩
      · rw [z, k1] at h; cases h
      · rw [z, w1] at h; cases h
      · rw [z, z1] at h; cases h
      · cases q : H6 b with
        | none => rfl
        | some u =>
          rw [I.fz b u h5 q] at h
          cases h
end
section
variable {K : PySem.W.Frag} {σ : St} {H H' : Hp} {ta tb tc te tx : TE} {R T : Rs} {D : Ends} {tz : TS} {m : Bool} {Γ : Gam}
/-- a, b, c = e, f, g through a tuple -/
theorem q_three {i j l : Nat} {T U : Hp → Rs} (S : Sat m Γ σ H) (ha : EvR ta σ H R) (hb : ∀ He, Same H He → EvR tb σ He (T He)) (hc : ∀ He, Same H He → EvR tc σ He (U He)) (hU : ∀ He, Mn false (U He)) (k : ∀ v u x σ' H1 H2 H', Same H H1 → R H1 v → Same H1 H2 → T H1 H2 u → Same H2 H' → U H2 H' x → Sat m (((Γ.set i (some (rX v))).set j (some (rX u))).set l (some (rX x))) σ' H' → tz D σ' H') :
    tSeq (tAsg (tTup (tCons ta (tCons tb (tCons tc tNil)))) (gTup K 3 (gCons (gName i) (gCons (gName j) (gCons (gName l) gNil))))) tz D σ H := ha.go fun v H1 e1 r => (hb H1 e1).go fun u H2 e2 s => (hc H2 (e1.trans e2)).go fun x H3 e3 t => ⟨by show 3 ≤ sizeLine; decide, fun p hp => by
  have e4 : Same H3 (upd H3 p (.tup [v, u, x])) := same_new hp
  refine ⟨p, [v, u, x], rfl, SqT.of upd_same, rfl, v, [u, x], rfl, u, [x], rfl, x, [], rfl, rfl, ?_⟩
  exact k v u x _ H1 H2 _ e1 r e2 s (e3.trans e4) (hU _ _ _ _ e4 t) ((((S.sm (e1.trans (e2.trans (e3.trans e4)))).set i mnX rfl).set j mnX rfl).set l mnX rfl)⟩
/-- a, b = e, f -/
theorem q_par {i j : Nat} {T : Hp → Rs} (S : Sat m Γ σ H) (ha : EvR ta σ H R) (hb : ∀ He, Same H He → EvR tb σ He (T He)) (k : ∀ v u σ' He H', Same H He → R He v → Same He H' → T He H' u → Sat m ((Γ.set i (some (rX v))).set j (some (rX u))) σ' H' → tz D σ' H') :
    tSeq (tPar i j (tCons ta (tCons tb tNil))) tz D σ H := ha.go fun v H1 e1 r => (hb H1 e1).go fun u H2 e2 s => ⟨v, u, rfl, k v u _ H1 H2 e1 r e2 s (((S.sm (e1.trans e2)).set i mnX rfl).set j mnX rfl)⟩
/-- x = o.m(..) for what it does -/
theorem g_meth {C a dx : Addr} {sp : Sp} {E : XK} {vs : List (Option V)} {tr : TA} {as : List Rs} {i : Nat} (ho : EvR ta σ H (rX (.ref a))) (hs : SlX.Slt H a C dx vs) (ha : EvA tr σ H as) (k : ∀ ws H1, Same H H1 → Args as H1 ws → sp (.ref a :: ws) H1 (fun v H' => tz D (σ.set i (some v)) H') E) :
    tSeq (tAsg (SlX.tMethSl C sp E ta tr) (gName i)) tz D σ H := t_meth ho hs ha k
/-- d[k] += c -/
theorem q_daugK {α : Type} [DecidableEq α] {key : α → Key} (inj : ∀ x y, key x = key y → x = y) {o : Addr} {f : α → Int} {xs : List α} {e : α} {c : Int} (hd : EvR ta σ H (rX (.ref o))) (hk : EvR tb σ H (rX (kV (key e)))) (hv : EvR tc σ H (rI (.int c))) (Dd : DV key .dK H o xs fun n => .int (f n)) (hx : e ∈ xs) (hz : xs.length < 100000)
    (k : ∀ H1 w, Same H H1 → DV key .dK (upd H1 o (.dK w)) o xs (fun z => if z = e then .int (f e + c) else .int (f z)) → Tp H1 (upd H1 o (.dK w)) → tz D σ (upd H1 o (.dK w))) : tSeq (sDAug ta tb tc rAdd) tz D σ H := hd.go fun x H1 e1 hx1 => hk H1 e1 _ fun y H2 e2 hy => by
  cases hy
  obtain ⟨v, g1, rv⟩ := (Dd.sm (e1.trans e2)).getK hx
  refine ⟨o, v, hx1, g1, hv H2 (e1.trans e2) _ fun y2 H3 e3 hy2 => ⟨f e, c, rv, hy2, ?_⟩⟩
  have e13 := (e1.trans e2).trans e3
  obtain ⟨H', p1, ⟨w, rfl⟩, p3⟩ := (Dd.sm e13).putKk (e := e) inj (v := .int (f e + c)) (g := .int (f e + c)) rfl hz
  obtain ⟨kvs, z1, _⟩ := Dd.sm e13
  rw [if_pos hx] at p3
  exact ⟨_, p1, k _ _ e13 p3 (tp_dK z1)⟩
end
section
variable {P : Program} {w : World} {K : PySem.W.Frag} {mg : Str → Option Value} {base : Heap} {cO cC cG cS : Addr}
def spCosts : Sp := spS (fun L : Lg => Well L ∧ StOk L ∧ (evs L).length ≤ 16 ∧ (mks L).length ≤ 12) (fun L => [rI (lgD L)]) (fun L H0 => rLF H0 ((costsM L).map csD))
theorem sc_costs : FnScope ["log", "order", "many", "found", "machine", "rule", "some", "event", "rows", "later"] ["log"] (defScope s_stair_costs) := ⟨rfl, rfl, rfl, by decide +kernel, rfl, by decide +kernel, by decide +kernel⟩
theorem mksOf_len (L : Lg) {pre post : List Ev} (h : come L = pre ++ post) : (mksOf L pre).length ≤ (evs L).length := by
  have h1 : (mksOf L pre).length ≤ pre.length := List.length_filter_le _ _
  have h2 : (come L).length ≤ (evs L).length := comeF_len L _ _
  have h3 := congrArg List.length h
  rw [List.length_append] at h3
  omega
theorem ok_stair_costs {f f0 f1 f2 fO fM fS fP fR fC fW : Addr} {fd fd0 fd1 fd2 : FuncData} (X : TF K mg "stair_costs" s_stair_costs ["log"] f fd) (T : TB mg) (G_tupled : GF P w K mg base 6 "tupled" f0 fd0 ["thing"] (spTupled 6)) (G_coming : GF P w K mg base 9 "coming" f1 fd1 ["log"] spComing) (G_Order : GC P w K mg base 7 "Order" cO fO (spOinit cO)) (M_Order_marked : GM P w K mg base 1 "marked" cO fM (spOmarked cO))
    (G_Stairs : GC P w K mg base 1 "Stairs" cS fS (spSinit cS)) (M_Stairs_put : GM P w K mg base 3 "put" cS fP (spPut cO cS)) (M_Stairs_rows : GM P w K mg base 1 "rows" cS fR (spSrows cO cS)) (G_fewest_on : GF P w K mg base 37 "fewest_on" f2 fd2 ["log", "stand", "counters"] spFewest)
    (G_Crowd : GC P w K mg base 1 "Crowd" cC fC (spCinit cC)) (M_Crowd_width : GM P w K mg base 34 "width" cC fW (spCwidth cC (fun L e => e ∈ evs L) (OrdAt cO) ahead)) : FnOk P w K mg base CX0 38 f fd ["log"] spCosts := by
  have nd := sc_costs.nd
  refine fn_spS (m := true) X.F sc_costs (fun _ => rfl) (fun i => mlI ml0) fun cdv A outer s H0 E hr => ?_
  have hu := hu_of hr
  refine ⟨_, (pss_cons (ps_asg (pe_tup (pa_cons (StX.pe_makeR G_Order.m G_Order.F (hr.mono (by first | decide | omega)) rfl G_Order.g pass0 (pa_cons (pv 0) pa_nil)) (pa_cons (pe_dc (own := [("machine", 4)]) (tk := (tOp (rIxT K) _ _)) rfl nd (pi_tup (pe_ix ix_tup (pe_call G_tupled.F (hr.mono (by first | decide | omega)) rfl G_tupled.g G_tupled.kp G_tupled.b .nil pass0 (pa_cons (pv 0) pa_nil)) pe_int (fun _ _ => rfl))) (blkOk_by (by kernel_rfl)) (fun _ _ _ _ _ => (pg_name (i := 4) nd rfl (by first | exact Or.inl rfl | exact Or.inr rfl))) (fun _ _ _ _ _ => pts_nil) (fun _ _ _ _ _ => (pe_ix ix_tup (pv 4) pe_int (fun _ _ => rfl))) (fun _ _ _ _ _ => pe_int)) (pa_cons (pe_lst pa_nil) pa_nil)))) (pg_tup (by rfl) (pgs_cons (pg_name (i := 1) nd rfl (by first | exact Or.inl rfl | exact Or.inr rfl)) (pgs_cons (pg_name (i := 2) nd rfl (by first | exact Or.inl rfl | exact Or.inr rfl)) (pgs_cons (pg_name (i := 3) nd rfl (by first | exact Or.inl rfl | exact Or.inr rfl)) pgs_nil)))))
      (pss_cons (ps_par (i := 5) (j := 6) (by rfl) nd rfl rfl (by decide) rfl rfl (pa_cons (StX.pe_makeR G_Stairs.m G_Stairs.F (hr.mono (by first | decide | omega)) rfl G_Stairs.g pass0 (pa_cons (pv 1) pa_nil)) (pa_cons (pe_lst pa_nil) pa_nil)) (by rfl))
      (pss_cons (ps_for PassesOwn.never rfl (pi_list (pe_call G_coming.F (hr.mono (by first | decide | omega)) rfl G_coming.g G_coming.kp G_coming.b .nil pass0 (pa_cons (pv 0) pa_nil))) (pg_name (i := 7) nd rfl (by first | exact Or.inl rfl | exact Or.inr rfl)) (pss_cons (ps_daug hu (pv 2) (pe_ix ix_tup (pv 7) pe_int (fun _ _ => rfl)) pe_int in_add (fun _ _ _ => rfl))
      (pss_one (ps_if (pt_cmpR (op_inD hr.u65) (pv 7) (SlX.pe_methSl0 (pv 1) M_Order_marked.c M_Order_marked.m M_Order_marked.F (hr.mono (by first | decide | omega)) pass0) (by rfl)) (pss_cons (ps_expr (pe_bm PySem.F.plainAttrs_list PySem.F.slot_list_append PySem.F.type_list_append mt_append (pv 6) (pa_cons (pv 7) pa_nil)))
      (pss_cons (ps_expr (SlX.pe_methSl (pv 5) M_Stairs_put.c M_Stairs_put.m M_Stairs_put.F (hr.mono (by first | decide | omega)) pass0 (pa_cons (pv 7) pa_nil)))
      (pss_cons (ps_set (i := 8) nd rfl (by first | exact Or.inl rfl | exact Or.inr rfl) (SlX.pe_methSl0 (pv 5) M_Stairs_rows.c M_Stairs_rows.m M_Stairs_rows.F (hr.mono (by first | decide | omega)) pass0))
      (pss_cons (ps_set (i := 9) nd rfl (by first | exact Or.inl rfl | exact Or.inr rfl) (pe_op op_add (pe_callB call_len_seq rfl T.n_len PySem.boot_len (pa_cons (pv 8) pa_nil)) (pe_call G_fewest_on.F (hr.mono (by first | decide | omega)) rfl G_fewest_on.g G_fewest_on.kp G_fewest_on.b .nil pass0 (pa_cons (pv 0) (pa_cons (pe_callTy call_tuple_of rfl T.n_tuple (by decide +kernel) (pa_cons (pe_lc (own := [("machine", 4)]) (te := (tDGet _ (tOp (rIxT K) _ _))) rfl nd (pi_tup (pe_ix ix_tup (pe_call G_tupled.F (hr.mono (by first | decide | omega)) rfl G_tupled.g G_tupled.kp G_tupled.b .nil pass0 (pa_cons (pv 0) pa_nil)) pe_int (fun _ _ => rfl))) (blkOk_by (by kernel_rfl)) (fun _ _ _ _ _ => (pg_name (i := 4) nd rfl (by first | exact Or.inl rfl | exact Or.inr rfl))) (fun _ _ _ _ _ => pts_nil) (fun _ _ _ _ _ => (pe_dget hu (pv 2) (pe_ix ix_tup (pv 4) pe_int (fun _ _ => rfl)) (fun _ _ => rfl)))) pa_nil)) (pa_cons (pv 8) pa_nil))))))
      (pss_one (ps_expr (pe_bm PySem.F.plainAttrs_list PySem.F.slot_list_append PySem.F.type_list_append mt_append (pv 3) (pa_cons (pe_tup (pa_cons (pv 7) (pa_cons (pe_callB call_len_seq rfl T.n_len PySem.boot_len (pa_cons (pv 8) pa_nil)) (pa_cons (SlX.pe_methSl0 (StX.pe_makeR G_Crowd.m G_Crowd.F (hr.mono (by first | decide | omega)) rfl G_Crowd.g pass0 (pa_cons (pv 1) (pa_cons (pv 6) pa_nil))) M_Crowd_width.c M_Crowd_width.m M_Crowd_width.F (hr.mono (by first | decide | omega)) pass0) (pa_cons (pv 9) pa_nil))))) pa_nil)))))))) pss_nil))))
      (pss_one (ps_ret (pv 3)))))), ?_⟩
  rintro L ⟨W, SO, he16, hm12⟩ σ H S Q k
  replace S : Sat true [some (rI (lgD L)), none, none, none, none, none, none, none, none, none] σ H := S
  have hmach : L.1.length ≤ 10 := W.few.1
  refine q_three (R := OrdAt cO L) (T := fun He H' v => ∃ d, v = .ref d ∧ He d = none ∧ DV kN .dK H' d (L.1.map (·.1)) (fun n => .int 0)) (U := fun He => rLF He []) S (e_make L W (aI (ev S rfl) aa_nil)) (fun He e => e_dcKv (enc := mcD) (xs := L.1) (F := fun m Γ => Γ.set 4 (some (rI (mcD m)))) kN_inj (fun m => m.1) (fun _ => .int 0) (S.sm e)
    (i_tup (e_ixT (e_callT (lgD L) (fits_lg W) (aI (ev (S.sm e) rfl) aa_nil) fun _ _ _ _ r => r) e_int rfl)) (by omega) (fun m _ => tg_i) (by decide) W.names fun m hm σ2 H2 S2 => ⟨EvR.xs (e_ixT (ev (R := rI (mcD m)) S2 rfl) e_int rfl), e_int⟩) (fun He e => e_lstF (ds := []) a_nil (by decide)) (fun _ => mnMo) fun vo u xf σ1 H1 H2 H3 e1 hO e2 hd e3 hf S1 => ?_
  obtain ⟨d, rfl, hdn, hD⟩ := hd
  obtain ⟨fl, zf, rfl, hfn, hfl, rf⟩ := hf
  refine q_par (R := NewSt cS vo H3) (T := fun He => rLF He []) S1 (e_newSt (ev S1 rfl)) (fun He e => e_lstF (ds := []) a_nil (by decide)) fun v u σ2 H4 H5 e4 hN e5 hs S2 => ?_
  obtain ⟨g, lS, dR, dx0, aR0, Hb', rfl, b1, b2, bS, bR, hslt, D4, hgn, hdxn⟩ := hN
  obtain ⟨sl, zl, rfl, hsn, hsl, rs⟩ := hs
  replace S2 : Sat true [some (rI (lgD L)), some (rX vo), some (rX (.ref d)), some (rX (.ref fl)), none, some (rX (.ref g)), some (rX (.ref sl)), none, none, none] σ2 H5 := S2
  have hD3 := hD.sm e3
  obtain ⟨kvs, hd3, _⟩ := hD3
  have hd2 : H2 d ≠ none := by
    obtain ⟨kvs2, q, _⟩ := hD
    rw [q]
    intro z
    cases z
  have hbd := b1 _ _ hd3
  have hbf := b1 _ _ hfl
  have nlS : lS ≠ d ∧ lS ≠ fl ∧ dR ≠ d ∧ dR ≠ fl := ⟨(ne_of_none hbd bS).symm, (ne_of_none hbf bS).symm, (ne_of_none hbd bR).symm, (ne_of_none hbf bR).symm⟩
  have B : CB (Hid Hb' fun b => b = d ∨ b = fl) H5 d fl sl := ⟨hid_off (.inl rfl), hid_off (.inr rfl), (hid_same _ _).free (b2.free hsn), fun z => hd2 (z ▸ hfn), ne_of_none (b2 _ _ hbd) hsn, ne_of_none (b2 _ _ hbf) hsn, (by rw [e5 _ _ (b2 _ _ hbd)]; intro z; cases z), (by rw [e5 _ _ (b2 _ _ hbf)]; intro z; cases z), (by rw [hsl]; intro z; cases z)⟩
  have sm1 : Same H1 (Hid Hb' fun b => b = d ∨ b = fl) := hid_same' (e2.trans (e3.trans b1)) fun b hb => by
    rcases hb with hb | hb
    · rw [hb]; exact hdn
    · rw [hb]; exact e2.free hfn
  have sm5 : Same (Hid Hb' fun b => b = d ∨ b = fl) H5 := (hid_same _ _).trans (b2.trans e5)
  have hOb : OrdAt cO L (Hid Hb' fun b => b = d ∨ b = fl) vo := mnMo _ _ _ sm1 hO
  have hsltb : SlX.Slt (Hid Hb' fun b => b = d ∨ b = fl) g cS dx0 [some vo, some (.ref dR), some (.ref lS)] := by
    have n1 : ¬ (g = d ∨ g = fl) := fun z => z.elim (fun z => ne_of_none hd3 hgn z.symm) fun z => ne_of_none hfl hgn z.symm
    have n2 : ¬ (dx0 = d ∨ dx0 = fl) := fun z => z.elim (fun z => ne_of_none hd3 hdxn z.symm) fun z => ne_of_none hfl hdxn z.symm
    rcases hslt with ⟨q1, q2⟩ | ⟨q1, q2⟩
    · exact .inl ⟨by rw [hid_on n1]; exact q1, q2⟩
    · exact .inr ⟨by rw [hid_on n1]; exact q1, by rw [hid_on n2]; exact q2⟩
  have bS' := (hid_same Hb' fun b => b = d ∨ b = fl).free bS
  have bR' := (hid_same Hb' fun b => b = d ∨ b = fl).free bR
  generalize (Hid Hb' fun b => b = d ∨ b = fl) = Hb at B sm1 sm5 hOb hsltb bS' bR'
  have F : StF cO cS L Hb g lS dR := ⟨dx0, vo, hsltb, hOb⟩
  have hlen : (come L).length ≤ 100 := Nat.le_trans (comeF_len L _ _) W.many
  have inn : ∀ m ∈ L.1, m.1 ∈ L.1.map (·.1) := fun m hm => List.mem_map.mpr ⟨m, hm, rfl⟩
  refine q_forM (M := Fz H5) (enc := evD) (xs := come L) (i_listF (e_callT L W (aI (ev S2 rfl) aa_nil) fun H0' H' v e0 r => ?_)) fun H6 e6 => ⟨fun pre σ' H' => Sat true [some (rI (lgD L)), some (rX vo), some (rX (.ref d)), some (rX (.ref fl)), none, some (rX (.ref g)), some (rX (.ref sl)), none, none, none] σ' H' ∧
    CI Hb H5 H6 d fl sl lS dR (L.1.map (·.1)) (cntN pre) (stAfter L (mksOf L pre)) (mksOf L pre) (costsF L [] pre) H', ⟨S2.sm e6, sm5.trans e6, Tp.refl _, fun b u _ h => h, (hD.sm e3).sm (e4.trans (e5.trans e6)), ⟨[], aR0, D4.sm (e5.trans e6), fun b hb => ?_⟩, ⟨zl, e6 _ _ hsl, rs.sm e6⟩, zf, (e4.trans (e5.trans e6)) _ _ hfl, rf.sm (e4.trans (e5.trans e6))⟩, fun pre σ' H' h => ⟨fun a o h1 h2 => h.2.fz a o h1 h2, h.2.tp⟩, fun pre x post σ' H' H'' v esp hI sm hv => ?_, fun σ' H' hI => ?_⟩
  · obtain ⟨l, xs, a, b, c, dd⟩ := r
    exact ⟨l, xs, a, e0.free b, c, dd⟩
  · have hb2 : b = lS ∨ b = dR := by
      rcases hb with h | h | h | ⟨i, hi, _⟩
      · exact .inl h
      · exact .inr h
      · cases h
      · exact absurd hi (Nat.not_lt_zero _)
    rcases hb2 with z | z
    · subst z
      exact ⟨bS', nlS.1, nlS.2.1, ne_of_none D4.hS hsn, fun h => (by rw [e5 _ _ D4.hS] at h; cases h)⟩
    · subst z
      exact ⟨bR', nlS.2.2.1, nlS.2.2.2, ne_of_none D4.hR hsn, fun h => (by rw [e5 _ _ D4.hR] at h; cases h)⟩
  · obtain ⟨S', I'⟩ := hI
    have hx : x ∈ come L := by rw [esp]; simp
    have hxe := come_sub hx
    have hin : x.1 ∈ L.1.map (·.1) := by
      obtain ⟨m, hm, e1, _⟩ := ev_name hxe
      exact List.mem_map.mpr ⟨m, hm, e1⟩
    have I := I'.same sm
    have S7 := (S'.sm sm).set 7 mnI hv
    have hlp : pre.length < 100 := by
      have h2 := congrArg List.length esp
      rw [List.length_append, List.length_cons] at h2
      omega
    refine q_daugK kN_inj (f := cntN pre) (e := x.1) (c := 1) (ev S7 rfl) (EvR.xs (e_ixT (ev (R := rI (evD x)) S7 rfl) e_int rfl)) e_int I.dv hin (by rw [List.length_map]; omega) fun H8 w8 e8 D8 t8 => ?_
    rw [← cntN_snoc] at D8
    have I8 := (I.same e8).putD B (g := cntN (pre ++ [x])) t8 D8
    have S8 := (S7.sm e8).up (m := true) t8
    refine s_ifN (b := decide (x ∈ mks L)) (b_test (e_inE (a := x) (es := mks L) (ev S8 rfl) (e_methR (R := OrdAt cO L) (T := rL ((mks L).map evD)) (fun H v h => ordAt_slt h) mnMo (e_known (R := OrdAt cO L) (ev S8 rfl) (mnMo _ _ _ I8.sm hOb) mnMo) aa_nil L True.intro rfl fun _ _ _ _ r => rLF.l r))) (fun hb H9 e9 => ?_) (fun hb H9 e9 => ?_)
    · have hm : x ∈ mks L := of_decide_eq_true hb
      have hck : comeK L = mksOf L pre ++ x :: mksOf L post := by
        unfold comeK mksOf
        rw [esp, List.filter_append, List.filter_cons, if_pos (decide_eq_true hm)]
      have hml : mksOf L (pre ++ [x]) = mksOf L pre ++ [x] := by rw [mksOf_snoc, if_pos hm]
      have hml16 : (mksOf L (pre ++ [x])).length ≤ (evs L).length := mksOf_len L (post := post) (by rw [esp]; simp)
      have hst : stAfter L (mksOf L (pre ++ [x])) = (putM L (stAfter L (mksOf L pre)) x).1 := by rw [hml, stAfter_snoc]
      have S9 := S8.sm e9
      have I9 := I8.same e9
      obtain ⟨zs, z1, z2⟩ := I9.so
      refine q_appI (ev S9 rfl) z1 z2 (ev (i := 7) S9 rfl) (by have h3 : (mksOf L pre).length ≤ pre.length := List.length_filter_le _ _; rw [List.length_map]; omega) fun H10 w10 e10 r10 t10 => ?_
      have I10 := (I9.same e10).putS B (es' := mksOf L (pre ++ [x])) t10 (by rw [hml, List.map_append]; exact r10)
      have S10 := (S9.sm e10).up (m := true) t10
      obtain ⟨sa, aR, D10, off10⟩ := I10.st
      refine q_meth (a := g) (dx := dx0) (vs := [some vo, some (.ref dR), some (.ref lS)]) (as := [rI (evD x)]) (ev S10 rfl) (slt_same hsltb I10.sm) (aI (ev S10 rfl) aa_nil) fun ws H11 e11 aa => ⟨L, Hb, g, lS, dR, sa, aR, stAfter L (mksOf L pre), x, ws, rfl, aa, F, I10.sm.trans e11, fun b hb => (off10 b hb).1, D10.sm e11, SO.ok _ _ hck, ⟨hxe, SO.st _ _ _ hck⟩, fun v8 H12 sa8 aR8 A12 D12 hv8 hp8 => ?_⟩
      have I12 : CI Hb H5 H6 d fl sl lS dR (L.1.map (·.1)) (cntN (pre ++ [x])) (stAfter L (mksOf L (pre ++ [x]))) (mksOf L (pre ++ [x])) (costsF L [] pre) H12 := by
        rw [hst]
        exact (I10.same e11).aft off10 A12 D12
      have S12 := (S10.sm e11).up (m := true) A12.tp
      clear A12 D12
      have hok : SOk (stAfter L (mksOf L (pre ++ [x]))) := by
        refine SO.ok _ (mksOf L post) ?_
        rw [hck, hml]
        simp
      have hfew := rows_few L (mksOf L (pre ++ [x]))
      obtain ⟨sa3, aR3, D13, off13⟩ := I12.st
      refine (g_meth (a := g) (dx := dx0) (vs := [some vo, some (.ref dR), some (.ref lS)]) (as := []) (ev S12 rfl) (slt_same hsltb I12.sm) aa_nil fun ws H13 e13 aa => ⟨L, Hb, g, lS, dR, sa3, aR3, stAfter L (mksOf L (pre ++ [x])), (), ws, rfl, aa, F, I12.sm.trans e13, fun b hb => (off13 b hb).1, D13.sm e13, hok, True.intro, fun v14 H14 sa14 aR14 A14 D14 hv14 hp14 => ?_⟩)
      have I14 := (I12.same e13).aft off13 A14 D14
      have S14 := ((S12.sm e13).up (m := true) A14.tp).set 8 mnI hv14
      clear A14 D14
      generalize hrw : rowsM (stAfter L (mksOf L (pre ++ [x]))) = rows at hfew S14 hv14
      have G : GOk (L, cntN (pre ++ [x]), rows) := ⟨W, by show rows.length ≤ 200; omega, by show rows.flatten.length ≤ 200; omega⟩
      have hEl : (elderE rows ++ newE L (cntN (pre ++ [x]))).length ≤ 30 := by
        have h1 : (newE L (cntN (pre ++ [x]))).length ≤ (mks L).length := List.length_filter_le _ _
        have h2 : (elderE rows).length = rows.length := by unfold elderE; rw [List.length_map, upTo_length]
        rw [List.length_append]
        omega
      refine g_setI (d := .int (laterM L (cntN (pre ++ [x])) rows)) S14 ?_ fun σ15 H15 e15 S15 => ?_
      · refine e_add (i := (rows.length : Int)) (j := widthM (gah L rows) (elderE rows ++ newE L (cntN (pre ++ [x]))) - (rows.length : Int)) (EvR.isI (e_lenT (ds := rows.map fun r => .tuple (r.map evD)) (ev (i := 8) S14 rfl)) (by rw [List.length_map])) ?_
        refine e_callT ((L, cntN (pre ++ [x]), rows) : GIx) ⟨G, hEl⟩ (aI (ev (i := 0) S14 rfl) (aI ?_ (aI (ev (i := 8) S14 rfl) aa_nil))) fun _ _ _ _ r => r
        refine EvR.isI (e_tupL (EvR.l (e_lc (enc := mcD) (xs := L.1) (F := fun m Γ => Γ.set 4 (some (rI (mcD m)))) (fun _ => true) (fun m => .int (cntN (pre ++ [x]) m.1)) S14 (i_tup (e_ixT (e_callT (lgD L) (fits_lg W) (aI (ev (i := 0) S14 rfl) aa_nil) fun _ _ _ _ r => r) e_int rfl)) (by omega) (fun m _ => tg_i) (by decide) fun m hm σ7 H7 e7 S7 =>
          ⟨b_yes, fun _ => e_dgetK (key := kN) (f := fun n => .int (cntN (pre ++ [x]) n)) (e := m.1) (ev (i := 2) S7 rfl) (EvR.xs (e_ixT (ev (i := 4) (R := rI (mcD m)) S7 rfl) e_int rfl)) (I14.dv.sm e7) (inn m hm)⟩))) (by rw [fT]; rfl)
      have I15 := I14.same e15
      obtain ⟨us, u1, u2⟩ := I15.fo
      obtain ⟨ys, y1, y2⟩ := I15.so
      refine s_appI (d := csD (costAt L (pre ++ [x]) x)) (ev S15 rfl) u1 u2 ?_ ?_ fun H16 w16 e16 r16 t16 => ?_
      · have ec : csD (costAt L (pre ++ [x]) x) = .tuple [evD x, .int (rows.length : Int), .int (widthM (ahead L) (mksOf L (pre ++ [x]))), .int (laterM L (cntN (pre ++ [x])) rows)] := by
          unfold csD costAt
          rw [hrw]
        rw [ec]
        refine e_tup (a_cons (ev (i := 7) S15 rfl) (a_cons (EvR.isI (e_lenT (ds := rows.map fun r => .tuple (r.map evD)) (ev (i := 8) S15 rfl)) (by rw [List.length_map])) (a_cons (e_methR (R := CrowdO cO cC L (mksOf L (pre ++ [x]))) (fun H v h => crowd_slt h) (crowd_mn mnMo) (e_make ((⟨OrdAt cO L, mnMo⟩, mksOf L (pre ++ [x])) : {R : Rs // Mn false R} × List Ev) True.intro (aa_cons mnMo (e_known (R := OrdAt cO L) (ev (i := 1) S15 rfl) (mnMo _ _ _ I15.sm hOb) mnMo) (aa_cons mnMo (e_at (ev (i := 6) S15 rfl) y1 y2) aa_nil)))
          aa_nil (L, mksOf L (pre ++ [x])) ⟨by show (mksOf L (pre ++ [x])).length ≤ 30; omega, fun y hy => ?_⟩ rfl fun _ _ _ _ r => r) (a_cons (ev (i := 9) S15 rfl) a_nil)))) (by show 4 ≤ 100000; decide)
        exact W.mark _ (of_decide_eq_true (List.mem_filter.mp hy).2)
      · have := costsF_len L pre []
        rw [List.length_map]
        omega
      · have I16 := (I15.same e16).putF B (cs' := costsF L [] (pre ++ [x])) t16 (by rw [costsF_snoc, if_pos hm, List.map_append]; exact r16)
        exact ⟨((((S15.sm e16).up (m := true) t16).fgt 7).fgt 8).fgt 9, I16⟩
    · have hm : x ∉ mks L := of_decide_eq_false hb
      show Sat true _ _ _ ∧ CI _ _ _ _ _ _ _ _ _ _ _ _ _ _
      rw [mksOf_snoc, costsF_snoc, if_neg hm, if_neg hm, List.append_nil, List.append_nil]
      exact ⟨(S8.sm e9).fgt 7, I8.same e9⟩
  · obtain ⟨ws, w1, w2⟩ := hI.2.fo
    have hn : H fl = none := (e1.trans e2).free hfn
    refine s_ret (R := rLF H ((costsM L).map csD)) ((ev (i := 3) hI.1 rfl).imp fun H7 v e7 hv => ⟨fl, ws, hv, hn, e7 _ _ w1, w2.sm e7⟩) fun v H7 e7 hv => k v H7 ((e1.trans (sm1.trans hI.2.sm)).trans e7) hv
end
end Fs

/-! FsW: the law's own functions that read a log. -/
namespace Fs
open PySem L2
abbrev s_Levents : Stmt := topS 28
abbrev s_Las_come : Stmt := topS 29
abbrev s_Lmarked : Stmt := topS 30
abbrev s_Lmarked_come : Stmt := topS 34
def evOf (m : Mc) : List Ev := (upTo m.2.1.toNat).map fun i => (m.1, i)
def mkOf (m : Mc) : List Ev := m.2.2.map fun i => (m.1, i)
theorem rLF.old {H H1 H' : Hp} {ds : List PyData} {v : V} (h : rLF H1 ds H' v) (e : Same H H1) : rLF H ds H' v := by
  obtain ⟨l, xs, a, b, c, d⟩ := h
  exact ⟨l, xs, a, e.free b, c, d⟩
theorem pre_len {α β : Type} {xs pre : List α} {x : α} {post : List α} (f : α → List β) (h : xs = pre ++ x :: post) : (pre.flatMap f).length + (f x).length ≤ (xs.flatMap f).length := by
  rw [h, List.flatMap_append, List.flatMap_cons, List.length_append, List.length_append]
  omega
section
variable {P : Program} {w : World} {K : PySem.W.Frag} {mg : Str → Option Value} {base : Heap} {cO cC cG cS : Addr}
def spLevents : Sp := spS (fun L : Lg => Well L) (fun L => [rI (lgD L)]) (fun L H0 => rLF H0 ((evs L).map evD))
def spLmarked : Sp := spS (fun L : Lg => Well L) (fun L => [rI (lgD L)]) (fun L H0 => rLF H0 ((mks L).map evD))
theorem sc_Levents : FnScope ["_law_log_so", "_law_found", "_law_machine", "_law_number"] ["_law_log_so"] (defScope s_Levents) := ⟨rfl, rfl, rfl, by decide +kernel, rfl, by decide +kernel, by decide +kernel⟩
theorem sc_Lmarked : FnScope ["_law_log_so", "_law_found", "_law_machine", "_law_number"] ["_law_log_so"] (defScope s_Lmarked) := ⟨rfl, rfl, rfl, by decide +kernel, rfl, by decide +kernel, by decide +kernel⟩
theorem ok_Levents {f : Addr} {fd : FuncData} (X : TF K mg "_law_events" s_Levents ["_law_log_so"] f fd) (T : TB mg) : FnOk P w K mg base CX0 1 f fd ["_law_log_so"] spLevents := by
  have nd := sc_Levents.nd
  refine fn_spS (m := false) X.F sc_Levents (fun _ => rfl) (fun i => mlI ml0) fun cdv A outer s H0 E hr => ?_
  have hu := hu_of hr
  refine ⟨_, (pss_cons (ps_set (i := 1) nd rfl (by first | exact Or.inl rfl | exact Or.inr rfl) (pe_lst pa_nil))
      (pss_cons (ps_for PassesOwn.never rfl (pi_tup (pe_ix ix_tup (pv 0) pe_int (fun _ _ => rfl))) (pg_name (i := 2) nd rfl (by first | exact Or.inl rfl | exact Or.inr rfl)) (pss_one (ps_set (i := 1) nd rfl (by first | exact Or.inl rfl | exact Or.inr rfl) (pe_op op_cat (pv 1) (pe_lc (own := [("_law_number", 3)]) (te := (tTup (tCons (tOp (rIxT K) _ _) (tCons _ tNil)))) rfl nd (pi_range1 rfl T.n_range (pa_cons (pe_ix ix_tup (pv 2) pe_int (fun _ _ => rfl)) pa_nil)) (blkOk_by (by kernel_rfl)) (fun _ _ _ _ _ => (pg_name (i := 3) nd rfl (by first | exact Or.inl rfl | exact Or.inr rfl))) (fun _ _ _ _ _ => pts_nil) (fun _ _ _ _ _ => (pe_tup (pa_cons (pe_ix ix_tup (pv 2) pe_int (fun _ _ => rfl)) (pa_cons (pv 3) pa_nil)))))))))
      (pss_one (ps_ret (pv 1))))), ?_⟩
  rintro L W σ H S Q k
  replace S : Sat false [some (rI (lgD L)), none, none, none] σ H := S
  have hmach : L.1.length ≤ 10 := W.few.1
  refine g_set (R := rLF H (([] : List Ev).map evD)) S (e_lstF (ds := []) a_nil (by decide)) mnMo fun σ1 H1 e1 S1 => ?_
  refine q_for (m := false) (enc := mcD) (xs := L.1) (i_tup (e_ixT (d := .tuple (L.1.map mcD)) (ev S1 rfl) e_int rfl)) fun H2 e2 => ⟨fun pre σ' H' => Sat false [some (rI (lgD L)), some (rLF H ((pre.flatMap evOf).map evD)), none, none] σ' H' ∧ Same H2 H', ⟨S1.sm e2, Same.refl _⟩, fun pre σ' H' h => h.2, fun pre m post σ' H' H'' v esp hI sm hv => ?_, fun σ' H' hI => ?_⟩
  · obtain ⟨S', s'⟩ := hI
    have hm : m ∈ L.1 := by rw [esp]; simp
    have S7 := (S'.sm sm).set 2 mnI hv
    have hl := pre_len evOf esp
    have hmany : (evs L).length ≤ 100 := W.many
    have eh : (evs L).length = (L.1.flatMap evOf).length := rfl
    have el : (evOf m).length = m.2.1.toNat := by unfold evOf; rw [List.length_map, upTo_length]
    have hsz := W.size m hm
    refine l_set (R := rLF H (((pre ++ [m]).flatMap evOf).map evD)) S7 (EvR.imp (e_catF (ds := (pre.flatMap evOf).map evD) (es := (evOf m).map evD) ((ev (i := 1) S7 rfl).imp fun _ _ _ r => rLF.l r) ?_ ?_) fun H' v e r => ?_) mnMo fun σ8 H8 e8 S8 => ⟨S8.fgt 2, s'.trans (sm.trans e8)⟩
    · refine EvR.isL (EvR.l (e_lc (enc := PyData.int) (xs := upTo m.2.1.toNat) (F := fun i Γ => Γ.set 3 (some (rI (.int i)))) (fun _ => true) (fun i => evD (m.1, i)) S7 (i_rng (e_ixT (d := .int m.2.1) (ev (R := rI (mcD m)) (i := 2) S7 rfl) e_int rfl) ⟨by omega, by omega⟩) (by rw [upTo_length]; omega) (fun i _ => tg_i) (by decide) fun i hi σ9 H9 e9 S9 =>
        ⟨b_yes, fun _ => e_tup (a_cons (e_ixT (d := .str m.1.1) (ev (R := rI (mcD m)) (i := 2) S9 rfl) e_int rfl) (a_cons (ev (i := 3) S9 rfl) a_nil)) (by show 2 ≤ 100000; decide)⟩)) ?_
      unfold evOf
      rw [fT, List.map_map]
      rfl
    · rw [List.length_map, List.length_map]
      omega
    · rw [List.flatMap_append, List.map_append, List.flatMap_cons, List.flatMap_nil, List.append_nil]
      exact rLF.old r ((e1.trans e2).trans (s'.trans sm))
  · refine s_ret (R := rLF H ((evs L).map evD)) (ev (i := 1) hI.1 rfl) fun v H7 e7 hv => k v H7 ((e1.trans (e2.trans hI.2)).trans e7) hv
theorem ok_Lmarked {f : Addr} {fd : FuncData} (X : TF K mg "_law_marked" s_Lmarked ["_law_log_so"] f fd) (T : TB mg) : FnOk P w K mg base CX0 1 f fd ["_law_log_so"] spLmarked := by
  have nd := sc_Lmarked.nd
  refine fn_spS (m := false) X.F sc_Lmarked (fun _ => rfl) (fun i => mlI ml0) fun cdv A outer s H0 E hr => ?_
  have hu := hu_of hr
  refine ⟨_, (pss_cons (ps_set (i := 1) nd rfl (by first | exact Or.inl rfl | exact Or.inr rfl) (pe_lst pa_nil))
      (pss_cons (ps_for PassesOwn.never rfl (pi_tup (pe_ix ix_tup (pv 0) pe_int (fun _ _ => rfl))) (pg_name (i := 2) nd rfl (by first | exact Or.inl rfl | exact Or.inr rfl)) (pss_one (ps_set (i := 1) nd rfl (by first | exact Or.inl rfl | exact Or.inr rfl) (pe_op op_cat (pv 1) (pe_lc (own := [("_law_number", 3)]) (te := (tTup (tCons (tOp (rIxT K) _ _) (tCons _ tNil)))) rfl nd (pi_tup (pe_ix ix_tup (pv 2) pe_int (fun _ _ => rfl))) (blkOk_by (by kernel_rfl)) (fun _ _ _ _ _ => (pg_name (i := 3) nd rfl (by first | exact Or.inl rfl | exact Or.inr rfl))) (fun _ _ _ _ _ => pts_nil) (fun _ _ _ _ _ => (pe_tup (pa_cons (pe_ix ix_tup (pv 2) pe_int (fun _ _ => rfl)) (pa_cons (pv 3) pa_nil)))))))))
      (pss_one (ps_ret (pv 1))))), ?_⟩
  rintro L W σ H S Q k
  replace S : Sat false [some (rI (lgD L)), none, none, none] σ H := S
  have hmach : L.1.length ≤ 10 := W.few.1
  refine g_set (R := rLF H (([] : List Ev).map evD)) S (e_lstF (ds := []) a_nil (by decide)) mnMo fun σ1 H1 e1 S1 => ?_
  refine q_for (m := false) (enc := mcD) (xs := L.1) (i_tup (e_ixT (d := .tuple (L.1.map mcD)) (ev S1 rfl) e_int rfl)) fun H2 e2 => ⟨fun pre σ' H' => Sat false [some (rI (lgD L)), some (rLF H ((pre.flatMap mkOf).map evD)), none, none] σ' H' ∧ Same H2 H', ⟨S1.sm e2, Same.refl _⟩, fun pre σ' H' h => h.2, fun pre m post σ' H' H'' v esp hI sm hv => ?_, fun σ' H' hI => ?_⟩
  · obtain ⟨S', s'⟩ := hI
    have hm : m ∈ L.1 := by rw [esp]; simp
    have S7 := (S'.sm sm).set 2 mnI hv
    have hl := pre_len mkOf esp
    have hmany : (mks L).length ≤ 100 := mks_len W
    have eh : (mks L).length = (L.1.flatMap mkOf).length := rfl
    have el : (mkOf m).length = m.2.2.length := by unfold mkOf; rw [List.length_map]
    have hsz := W.marks m hm
    refine l_set (R := rLF H (((pre ++ [m]).flatMap mkOf).map evD)) S7 (EvR.imp (e_catF (ds := (pre.flatMap mkOf).map evD) (es := (mkOf m).map evD) ((ev (i := 1) S7 rfl).imp fun _ _ _ r => rLF.l r) ?_ ?_) fun H' v e r => ?_) mnMo fun σ8 H8 e8 S8 => ⟨S8.fgt 2, s'.trans (sm.trans e8)⟩
    · refine EvR.isL (EvR.l (e_lc (enc := PyData.int) (xs := m.2.2) (F := fun i Γ => Γ.set 3 (some (rI (.int i)))) (fun _ => true) (fun i => evD (m.1, i)) S7 (i_tup (e_ixT (d := .tuple (m.2.2.map .int)) (ev (R := rI (mcD m)) (i := 2) S7 rfl) e_int rfl)) (by omega) (fun i _ => tg_i) (by decide) fun i hi σ9 H9 e9 S9 =>
        ⟨b_yes, fun _ => e_tup (a_cons (e_ixT (d := .str m.1.1) (ev (R := rI (mcD m)) (i := 2) S9 rfl) e_int rfl) (a_cons (ev (i := 3) S9 rfl) a_nil)) (by show 2 ≤ 100000; decide)⟩)) ?_
      unfold mkOf
      rw [fT, List.map_map]
      rfl
    · rw [List.length_map, List.length_map]
      omega
    · rw [List.flatMap_append, List.map_append, List.flatMap_cons, List.flatMap_nil, List.append_nil]
      exact rLF.old r ((e1.trans e2).trans (s'.trans sm))
  · refine s_ret (R := rLF H ((mks L).map evD)) (ev (i := 1) hI.1 rfl) fun v H7 e7 hv => k v H7 ((e1.trans (e2.trans hI.2)).trans e7) hv

/-! ### the order as the law tells it -/
def OrdD (L : Lg) : Rs := fun H v => ∃ (d : Addr) (xs : List Ev) (adr : Ev → Addr), v = .ref d ∧ H d = some (.dT (xs.map fun x => (kE x, V.ref (adr x)))) ∧ (∀ e, e ∈ xs ↔ e ∈ evs L) ∧ ∀ e ∈ evs L, ∃ (zs : List V) (os : List Ev), H (adr e) = some (.lst zs) ∧ ImL H (os.map evD) zs ∧ os.length ≤ 100 ∧ ∀ o, o ∈ os ↔ Ahead L o e
theorem ordD_mn {L : Lg} : Mn false (OrdD L) := fun H H' v e ⟨d, xs, adr, a, b, c, k⟩ => ⟨d, xs, adr, a, e _ _ b, c, fun x hx => by
  obtain ⟨zs, os, z1, z2, z3⟩ := k x hx
  exact ⟨zs, os, e _ _ z1, z2.sm e, z3⟩⟩
theorem eqv_nil (ds : List PyData) : PyData.eqv (.list ds) (.list []) = ds.isEmpty := by
  cases ds <;> rfl
theorem e_neNil {σ : St} {H : Hp} {ta tb : TE} {es : List Ev} (h : EvR ta σ H (rL (es.map evD))) (hb : EvR tb σ H (rL [])) : EvR (tOp (rNeD K) ta tb) σ H (rI (.bool (!es.isEmpty))) := (e_neD h hb (sh_evs es) (sh_evs [])).isI (by rw [List.map_nil, eqv_nil]; cases es <;> rfl)
theorem firstOf_all {L : Lg} {fs ls : List Ev} (h1 : ∀ x ∈ evs L, x ∈ fs ∨ x ∈ ls) (h2 : ∀ x ∈ ls, x ∉ fs) (hr : ∀ a b, Ahead L a b → a ∈ evs L) (x : Ev) (os : List Ev) (ho : ∀ o, o ∈ os ↔ Ahead L o x) : os.all (fun o => decide (o ∈ fs)) = !(ls.any fun y => ahead L y x) := by
  rw [Bool.eq_iff_iff, List.all_eq_true, Bool.not_eq_true', List.any_eq_false]
  constructor
  · intro h y hy ha
    have := h y ((ho y).mpr (ahead_iff.mp ha))
    exact h2 y hy (of_decide_eq_true this)
  · intro h o hoo
    have ha := (ho o).mp hoo
    rcases h1 o (hr _ _ ha) with z | z
    · exact decide_eq_true z
    · exact absurd (ahead_iff.mpr ha) (h o z)
theorem ahead_in {L : Lg} {a b : Ev} (h : Ahead L a b) : a ∈ evs L := by
  induction h with
  | one h _ => exact h
  | more _ _ ih => exact ih
def spLas_come : Sp := spS (fun L : Lg => Well L) (fun L => [rI (lgD L), OrdD L]) (fun L H0 => rLF H0 ((come L).map evD))
theorem sc_Las_come : FnScope ["_law_log_so", "_law_order_so", "_law_left", "_law_found", "_law_here", "_law_own", "_law_far"] ["_law_log_so", "_law_order_so"] (defScope s_Las_come) := ⟨rfl, rfl, rfl, by decide +kernel, rfl, by decide +kernel, by decide +kernel⟩
theorem ok_Las_come {f f1 : Addr} {fd fd1 : FuncData} (X : TF K mg "_law_as_come" s_Las_come ["_law_log_so", "_law_order_so"] f fd) (T : TB mg) (G__law_events : GF P w K mg base 1 "_law_events" f1 fd1 ["_law_log_so"] spLevents) : FnOk P w K mg base CX0 2 f fd ["_law_log_so", "_law_order_so"] spLas_come := by
  have nd := sc_Las_come.nd
  refine fn_spS (m := false) X.F sc_Las_come (fun _ => rfl) (fun i => mlI (ml ordD_mn ml0)) fun cdv A outer s H0 E hr => ?_
  have hu := hu_of hr
  refine ⟨_, (pss_cons (ps_asg (pe_tup (pa_cons (pe_call G__law_events.F (hr.mono (by first | decide | omega)) rfl G__law_events.g G__law_events.kp G__law_events.b .nil pass0 (pa_cons (pv 0) pa_nil)) (pa_cons (pe_lst pa_nil) pa_nil))) (pg_tup (by rfl) (pgs_cons (pg_name (i := 2) nd rfl (by first | exact Or.inl rfl | exact Or.inr rfl)) (pgs_cons (pg_name (i := 3) nd rfl (by first | exact Or.inl rfl | exact Or.inr rfl)) pgs_nil))))
      (pss_cons (ps_while PassesOwn.never (pt_cmpR (op_neD hr.units) (pv 2) (pe_lst pa_nil) (nomark _)) (pss_cons (ps_set (i := 4) nd rfl (by first | exact Or.inl rfl | exact Or.inr rfl) (pe_ix ix_list (pe_lc (own := [("_law_own", 5)]) (tt := (tB (tCB (rAll K) (tCons (tLc (iList K _) _ _ (tOp (rInD K) _ _) _) tNil)))) rfl nd (pi_list (pv 2)) (blkOk_by (by kernel_rfl)) (fun _ _ _ _ _ => (pg_name (i := 5) nd rfl (by first | exact Or.inl rfl | exact Or.inr rfl))) (fun _ _ _ _ _ => (pts_one (pt_val (pe_callB (cr_all rfl) rfl T.n_all (by decide +kernel) (pa_cons (pe_lc (own := [("_law_far", 6)]) (te := (tOp (rInD K) _ _)) rfl nd (pi_list (pe_dget hu (pv 1) (pv 5) (fun _ _ => rfl))) (blkOk_by (by kernel_rfl)) (fun _ _ _ _ _ => (pg_name (i := 6) nd rfl (by first | exact Or.inl rfl | exact Or.inr rfl))) (fun _ _ _ _ _ => pts_nil) (fun _ _ _ _ _ => (pe_cmpR (op_inD hr.u65) (pv 6) (pv 3) (by rfl)))) pa_nil))))) (fun _ _ _ _ _ => (pv 5))) pe_int (fun _ _ => rfl)))
      (pss_cons (ps_expr (pe_bm PySem.F.plainAttrs_list PySem.F.slot_list_append PySem.F.type_list_append mt_append (pv 3) (pa_cons (pv 4) pa_nil)))
      (pss_one (ps_setLc (i := 2) (own := [("_law_own", 5)]) (tt := (tTest (tOp (rNeD K) _ _))) rfl nd rfl rfl (sw_true rfl rfl rfl (by decide +kernel)) (pi_list (pv 2)) (blkOk_by (by kernel_rfl)) (fun _ _ _ _ _ => (pg_name (i := 5) nd rfl (by first | exact Or.inl rfl | exact Or.inr rfl))) (fun _ _ _ _ _ => (pts_one (pt_cmpR (op_neD hr.units) (pv 5) (pv 4) (nomark _)))) (fun _ _ _ _ _ => (pv 5)))))))
      (pss_one (ps_ret (pv 3))))), ?_⟩
  rintro L W σ H S Q k
  replace S : Sat false [some (rI (lgD L)), some (OrdD L), none, none, none, none, none] σ H := S
  obtain ⟨vo, hO, S0⟩ := S.pin 1 rfl
  refine q_two (R := rLF H ((evs L).map evD)) (T := fun He => rLF He []) S0 ((e_callT L W (aI (ev S0 rfl) aa_nil) fun H0' H' v e0 r => rLF.old r e0)) (fun He _ => e_lstF a_nil (by decide)) (fun _ => mnMo) fun vl u σ1 He H1 e1 hL e1' hF S1 => ?_
  obtain ⟨ll, zl, rfl, hln, hl1, rl1⟩ := hL
  obtain ⟨fl, zf, rfl, hfn, hf, rf⟩ := hF
  cases rf
  have Z1 : Bs (fun b => b = fl) (Hid H1 fun b => b = fl) H1 := Bs.of fun b hb => ⟨_, hb ▸ hf, by intro xs q; cases q⟩
  have sHb : Same He (Hid H1 fun b => b = fl) := hid_same' e1' fun b hb => hb ▸ hfn
  have hOb : OrdD L (Hid H1 fun b => b = fl) vo := ordD_mn _ _ _ (e1.trans sHb) hO
  have hlb := sHb _ _ hl1
  have rlb := rl1.sm sHb
  generalize (Hid H1 fun b => b = fl) = Hb at Z1 sHb hOb hlb rlb
  obtain ⟨od, oxs, adr, rfl, hod, hox, hadr⟩ := hOb
  have hfH : H fl = none := e1.free hfn
  have S1t : Sat true [some (rI (lgD L)), some (rX (.ref od)), some (rX (.ref ll)), some (rX (.ref fl)), none, none, none] σ1 H1 := (S1.tp (mlI (mlX (mlX (mlX ml0)))))
  refine q_while (fun n σ' H' => ∃ fs ls zf ll zl, Sat true [some (rI (lgD L)), some (rX (.ref od)), some (rX (.ref ll)), some (rX (.ref fl)), none, none, none] σ' H' ∧ (∃ Hx, Same Hb Hx ∧ Bs (fun b => b = fl) Hx H' ∧ Hx ll = some (.lst zl) ∧ ImL Hx (ls.map evD) zl) ∧ H' fl = some (.lst zf) ∧ ImL H' (fs.map evD) zf ∧
    fs ++ comeF L ls.length ls = come L ∧ ls.Nodup ∧ (∀ x ∈ ls, x ∈ evs L) ∧ (∀ x ∈ evs L, x ∈ fs ∨ x ∈ ls) ∧ (∀ x ∈ ls, x ∉ fs) ∧ fs.length + ls.length ≤ 100 ∧ n = ls.length ∧ Same H H') ⟨[], evs L, [], ll, zl, S1t, ⟨Hb, Same.refl _, Z1, hlb, rlb⟩, hf, (show ImL H1 (([] : List Ev).map evD) [] from rfl), rfl, evs_nodup W, fun _ h => h, fun _ h => .inr h, fun _ _ h => (by cases h), by have := W.many; simpa using this, rfl, e1.trans e1'⟩ ?_
  rintro n σ' H3 ⟨fs, ls, zf, ll, zl, S3, ⟨Hx, sx, Z3, hl3, rl3⟩, hf3, rf3, hc, hnd, hsub, hcov, hdis, hlen, rfl, sH⟩
  refine ⟨_, b_test (e_neNil (e_at (ev (i := 2) S3 rfl) (Z3.sm _ _ hl3) (rl3.sm Z3.sm)) (e_lst (ds := []) a_nil (by decide))), fun H4 e4 => ⟨fun hb => ?_, fun hb => ?_⟩⟩
  · have hne : ls ≠ [] := fun z => by rw [z] at hb; cases hb
    obtain ⟨e, r, hfo, hel⟩ := firstOf_some W hne hsub fun a x h => nxt_evs W h
    have hstep := comeF_step hfo hel
    have S4 := S3.sm e4
    have hod4 := (sx.trans (Z3.sm.trans e4)) _ _ hod
    have hl4 := e4 _ _ (Z3.sm _ _ hl3)
    have rl4 := (rl3.sm Z3.sm).sm e4
    have hf4 := e4 _ _ hf3
    have rf4 := rf3.sm e4
    refine g_setI (d := evD e) S4 (e_ixL (ds := (firstOf L ls).map evD) (EvR.l (e_lc (enc := evD) (xs := ls) (F := fun x Γ => Γ.set 5 (some (rI (evD x)))) (fun x => !(ls.any fun y => ahead L y x)) evD S4 (i_list (e_at (ev (i := 2) S4 rfl) hl4 rl4)) (by omega) (fun x _ => tg_i) (by decide) fun x hx σ5 H5 e5 S5 => ⟨b_B ?_, fun _ => ev (i := 5) S5 rfl⟩)) e_int (by rw [hfo]; exact atI_zero)) fun σ6 H6 e6 S6 => ?_
    · obtain ⟨zs, os, z1, z2, z3, z4⟩ := hadr x (hsub x hx)
      have s5 := (sx.trans (Z3.sm.trans e4)).trans e5
      refine EvR.isI (e_all (bs := os.map fun o => decide (o ∈ fs)) ((EvR.l (e_lc (enc := evD) (xs := os) (F := fun y Γ => Γ.set 6 (some (rI (evD y)))) (fun _ => true) (fun o => .bool (decide (o ∈ fs))) S5 (i_list (e_at (e_dgetO (ev (i := 1) S5 rfl) (ev (i := 5) S5 rfl) (e5 _ _ hod4) ((hox x).mpr (hsub x hx))) (s5 _ _ z1) (z2.sm s5))) (by omega) (fun y _ => tg_i) (by decide) fun y hy σ6 H6 e6 S6 =>
        ⟨b_yes, fun _ => e_inE (ev (i := 6) S6 rfl) (e_at (ev (i := 3) S6 rfl) (e6 _ _ (e5 _ _ hf4)) (rf4.sm (e5.trans e6)))⟩)).isL (by rw [fT, List.map_map]; rfl))) ?_
      rw [← firstOf_all hcov hdis (fun a b h => ahead_in h) x os z4]
      simp [List.all_map]
    · refine q_appI (d := evD e) (ev (i := 3) S6 rfl) (e6 _ _ hf4) (rf4.sm e6) (ev (i := 4) S6 rfl) (by rw [List.length_map]; omega) fun H7 ws7 e7 r7 t7 => ?_
      have S7 := (S6.sm e7).up (m := true) t7
      obtain ⟨Hy, Z7, sy, _⟩ := Z3.grow0 (e4.trans (e6.trans e7))
      have Z7' := Z7.mut (a := fl) (o := .lst ws7) rfl (by intro xs q; cases q)
      have hl7 := Z7'.sm _ _ (sy _ _ hl3)
      have rl7 := (rl3.sm sy).sm Z7'.sm
      refine s_set (R := rLF (upd H7 fl (.lst ws7)) ((ls.erase e).map evD)) ?_ fun v H8 e8 hv => ?_
      · have ee : ls.erase e = ls.filter fun x => !decide (x = e) := by
          rw [hnd.erase_eq_filter]
          refine List.filter_congr fun x _ => ?_
          rw [Bool.eq_iff_iff]
          simp
        rw [ee]
        exact e_lc (enc := evD) (xs := ls) (F := fun x Γ => Γ.set 5 (some (rI (evD x)))) (fun x => !decide (x = e)) evD S7 (i_list (e_at (ev (i := 2) S7 rfl) hl7 rl7)) (by omega) (fun x _ => tg_i) (by decide) fun x hx σ5 H5 e5 S5 => ⟨b_test (e_neE (ev (i := 5) S5 rfl) (ev (i := 4) S5 rfl)), fun _ => ev (i := 5) S5 rfl⟩
      · obtain ⟨l8, z8, rfl, h8n, h8, r8⟩ := hv
        have hle := List.length_erase_of_mem hel
        have hlp := List.length_pos_of_mem hel
        obtain ⟨Hz, Z8, sz, hz8⟩ := Z7'.grow0 e8
        refine ⟨(ls.erase e).length, by omega, fs ++ [e], ls.erase e, ws7, l8, z8, ((S7.sm e8).set 2 (mnX (v := .ref l8)) rfl).fgt 4, ⟨Hz, sx.trans (sy.trans sz), Z8, ?_, Z8.im r8⟩, e8 _ _ upd_same, ?_, ?_, hnd.erase e, fun x hx => hsub x (List.mem_of_mem_erase hx), fun x hx => ?_, fun x hx => ?_, ?_, rfl, ?_⟩
        · rw [hz8 _ h8n]; exact h8
        · rw [List.map_append]; exact r7.sm e8
        · rw [← hc, hstep, List.append_assoc]
          rfl
        · by_cases hxe : x = e
          · left; rw [hxe]; simp
          · rcases hcov x hx with z | z
            · left; exact List.mem_append_left _ z
            · right; exact (List.mem_erase_of_ne hxe).mpr z
        · intro z
          rcases List.mem_append.mp z with z | z
          · exact hdis x (List.mem_of_mem_erase hx) z
          · rw [List.mem_singleton.mp z] at hx
            exact (hnd.mem_erase_iff.mp hx).1 rfl
        · rw [List.length_append, List.length_singleton]; omega
        · exact (same_mut (sH.trans (e4.trans (e6.trans e7))) hfH).trans e8
  · have hz : ls = [] := by cases ls with | nil => rfl | cons _ _ => cases hb
    subst hz
    have hfs : fs = come L := by rw [← hc]; simp [comeF]
    subst hfs
    exact s_ret (R := rX (.ref fl)) (ev (i := 3) (S3.sm e4) rfl) fun v H5 e5 hv => by
      cases hv
      exact k _ _ (sH.trans (e4.trans e5)) ⟨fl, zf, rfl, hfH, (e4.trans e5) _ _ hf3, rf3.sm (e4.trans e5)⟩
def spLmarked_come : Sp := spS (fun L : Lg => Well L) (fun L => [rI (lgD L), OrdD L]) (fun L H0 => rLF H0 ((comeK L).map evD))
theorem sc_Lmarked_come : FnScope ["_law_log_so", "_law_order_so", "_law_own"] ["_law_log_so", "_law_order_so"] (defScope s_Lmarked_come) := ⟨rfl, rfl, rfl, by decide +kernel, rfl, by decide +kernel, by decide +kernel⟩
theorem ok_Lmarked_come {f f1 f2 : Addr} {fd fd1 fd2 : FuncData} (X : TF K mg "_law_marked_come" s_Lmarked_come ["_law_log_so", "_law_order_so"] f fd) (T : TB mg) (G__law_as_come : GF P w K mg base 2 "_law_as_come" f1 fd1 ["_law_log_so", "_law_order_so"] spLas_come) (G__law_marked : GF P w K mg base 1 "_law_marked" f2 fd2 ["_law_log_so"] spLmarked) : FnOk P w K mg base CX0 3 f fd ["_law_log_so", "_law_order_so"] spLmarked_come := by
  have nd := sc_Lmarked_come.nd
  refine fn_spS (m := false) X.F sc_Lmarked_come (fun _ => rfl) (fun i => mlI (ml ordD_mn ml0)) fun cdv A outer s H0 E hr => ?_
  have hu := hu_of hr
  refine ⟨_, (pss_one (ps_ret (pe_lc (own := [("_law_own", 2)]) (tt := (tTest (tOp (rInD K) _ _))) rfl nd (pi_list (pe_call G__law_as_come.F (hr.mono (by first | decide | omega)) rfl G__law_as_come.g G__law_as_come.kp G__law_as_come.b .nil pass0 (pa_cons (pv 0) (pa_cons (pv 1) pa_nil)))) (blkOk_by (by kernel_rfl)) (fun _ _ _ _ _ => (pg_name (i := 2) nd rfl (by first | exact Or.inl rfl | exact Or.inr rfl))) (fun _ _ _ _ _ => (pts_one (pt_cmpR (op_inD hr.u65) (pv 2) (pe_call G__law_marked.F (hr.mono (by first | decide | omega)) rfl G__law_marked.g G__law_marked.kp G__law_marked.b .nil pass0 (pa_cons (pv 0) pa_nil)) (by rfl)))) (fun _ _ _ _ _ => (pv 2))))), ?_⟩
  rintro L W σ H S Q k
  replace S : Sat false [some (rI (lgD L)), some (OrdD L), none] σ H := S
  have hlen : (come L).length ≤ 100 := Nat.le_trans (comeF_len L _ _) W.many
  refine s_ret (R := rLF H ((comeK L).map evD)) ?_ k
  exact e_lc (enc := evD) (xs := come L) (F := fun x Γ => Γ.set 2 (some (rI (evD x)))) (fun x => decide (x ∈ mks L)) evD S (i_list (e_callT L W (aI (ev S rfl) (aa_cons ordD_mn (ev S rfl) aa_nil)) fun _ _ _ _ r => rLF.l r)) (by omega) (fun x _ => tg_i) (by decide) fun x hx σ5 H5 e5 S5 =>
    ⟨b_test (e_inE (ev (i := 2) S5 rfl) (e_callT L W (aI (ev (i := 0) S5 rfl) aa_nil) fun _ _ _ _ r => rLF.l r)), fun _ => ev (i := 2) S5 rfl⟩
end
end Fs

/-! FsY: the law's rows and bounds. -/
namespace Fs
open PySem L2
abbrev s_Lrows : Stmt := topS 35
abbrev s_Lbounds : Stmt := topS 36
abbrev T3 := Ev × Int × Nat
def keysT (told : List T3) : List Int := told.foldl (fun xs t => if t.2.1 ∈ xs then xs else xs ++ [t.2.1]) []
def rowT (told : List T3) (k : Int) : List Ev := (told.filter fun t => decide (t.2.1 = k)).map (·.1)
def rowsT (told : List T3) : List (List Ev) := (sortI (keysT told)).map (rowT told)
theorem keysT_snoc (pre : List T3) (t : T3) : keysT (pre ++ [t]) = if t.2.1 ∈ keysT pre then keysT pre else keysT pre ++ [t.2.1] := by
  unfold keysT
  rw [List.foldl_append]
  rfl
theorem keysT_len : ∀ (told : List T3) (xs : List Int), (told.foldl (fun xs t => if t.2.1 ∈ xs then xs else xs ++ [t.2.1]) xs).length ≤ xs.length + told.length
  | [], xs => Nat.le_refl _
  | t :: told, xs => by
    have h := keysT_len told (if t.2.1 ∈ xs then xs else xs ++ [t.2.1])
    have h2 : (if t.2.1 ∈ xs then xs else xs ++ [t.2.1]).length ≤ xs.length + 1 := by
      split
      · omega
      · rw [List.length_append, List.length_singleton]
        exact Nat.le_refl _
    rw [List.foldl_cons, List.length_cons]
    omega
theorem mem_keysT : ∀ (told : List T3) (xs : List Int) (k : Int), k ∈ told.foldl (fun xs t => if t.2.1 ∈ xs then xs else xs ++ [t.2.1]) xs ↔ k ∈ xs ∨ ∃ t ∈ told, t.2.1 = k
  | [], xs, k => by simp
  | t :: told, xs, k => by
    rw [List.foldl_cons, mem_keysT told]
    by_cases h : t.2.1 ∈ xs
    · rw [if_pos h]
      constructor
      · rintro (h1 | ⟨u, hu, e⟩)
        · exact .inl h1
        · exact .inr ⟨u, List.mem_cons_of_mem _ hu, e⟩
      · rintro (h1 | ⟨u, hu, e⟩)
        · exact .inl h1
        · rcases List.mem_cons.mp hu with z | z
          · left; rw [← e, z]; exact h
          · exact .inr ⟨u, z, e⟩
    · rw [if_neg h]
      constructor
      · rintro (h1 | ⟨u, hu, e⟩)
        · rcases List.mem_append.mp h1 with z | z
          · exact .inl z
          · exact .inr ⟨t, List.mem_cons_self, (List.mem_singleton.mp z).symm⟩
        · exact .inr ⟨u, List.mem_cons_of_mem _ hu, e⟩
      · rintro (h1 | ⟨u, hu, e⟩)
        · exact .inl (List.mem_append_left _ h1)
        · rcases List.mem_cons.mp hu with z | z
          · left; rw [← e, z]; simp
          · exact .inr ⟨u, z, e⟩
theorem rowT_none {pre : List T3} {k : Int} (h : k ∉ keysT pre) : rowT pre k = [] := by
  unfold rowT
  rw [List.map_eq_nil_iff, List.filter_eq_nil_iff]
  intro t ht hk
  exact h ((mem_keysT pre [] k).mpr (.inr ⟨t, ht, of_decide_eq_true hk⟩))
theorem rowT_snoc (pre : List T3) (t : T3) : (fun k => PyData.tuple ((rowT (pre ++ [t]) k).map evD)) = fun k => if k = t.2.1 then .tuple ((rowT pre t.2.1).map evD ++ [evD t.1]) else .tuple ((rowT pre k).map evD) := by
  funext k
  unfold rowT
  rw [List.filter_append, List.map_append, List.map_append]
  by_cases h : k = t.2.1
  · subst h
    simp
  · have h' : ¬ t.2.1 = k := fun z => h z.symm
    simp [h, h']
section
variable {K : PySem.W.Frag} {σ : St} {H : Hp} {ta tb tc : TE}
/-- d.get(k, z) -/
theorem e_dget2K {α : Type} [DecidableEq α] {key : α → Key} (inj : ∀ x y, key x = key y → x = y) {o : Addr} {f : α → PyData} {xs : List α} {e : α} (hd : EvR ta σ H (rX (.ref o))) (hk : EvR tb σ H (rX (kV (key e)))) (hz : EvR tc σ H (rI (.tuple []))) (Dd : DV key .dK H o xs f) (hx : e ∉ xs → f e = .tuple []) : EvR (tDGet2 ta tb tc) σ H (rI (f e)) := fun H1 e1 Q q =>
  hd H1 e1 _ fun x H2 e2 hx2 => ⟨o, hx2, .inl ⟨_, .inl (Dd.sm (e1.trans e2)).choose_spec.1⟩, hk H2 (e1.trans e2) _ fun y H3 e3 hy => hz H3 ((e1.trans e2).trans e3) _ fun z H4 e4 hz4 => by
    cases hy
    obtain ⟨ov, g, h1, h2⟩ := (Dd.sm (((e1.trans e2).trans e3).trans e4)).inK (e := e) inj
    refine ⟨ov, g, q _ _ ((e2.trans e3).trans e4) ?_⟩
    by_cases h : e ∈ xs
    · obtain ⟨v, rfl, r⟩ := h1 h
      exact r
    · rw [h2 h, hx h]
      exact hz4⟩
/-- sorted(d) of a dict whose keys are numbers -/
theorem e_sortDI {o : Addr} {f : Int → PyData} {xs : List Int} (hd : EvR ta σ H (rX (.ref o))) (Dd : DV kI .dK H o xs f) (hl : xs.length < 64) :
    EvR (tCB (fun xs H Q => ∃ (a : Addr) (kvs : List (Key × V)) (ks : List Int), xs = [.ref a] ∧ Rd H a (.dK kvs) ∧ kvs.map (·.1) = ks.map Sum.inl ∧ ks.length < 64 ∧ ∀ (ys : List Int) (p : Addr), ys.Perm ks → ys.Pairwise (· ≤ ·) → H p = none → Q (.ref p) (upd H p (.lst (ys.map V.int)))) (tCons ta tNil)) σ H (rL ((sortI xs).map PyData.int)) := fun H1 e1 Q1 q1 => hd H1 e1 _ fun x H2 e2 hx => by
  cases hx
  obtain ⟨kvs, z1, z2, _⟩ := Dd.sm (e1.trans e2)
  refine ⟨o, kvs, xs, rfl, .inl z1, z2, hl, fun ys p pm pw hp => q1 _ _ (e2.trans (same_new hp)) ⟨p, _, rfl, upd_same, ?_⟩⟩
  have : ys = sortI xs := sortI_of pm (pw.imp fun {a b} h => by rw [le_int]; exact decide_eq_true h)
  rw [this]
  exact ints_imL
end
section
variable {P : Program} {w : World} {K : PySem.W.Frag} {mg : Str → Option Value} {base : Heap} {cO cC cG cS : Addr}
def spLrows : Sp := spS (fun told : List T3 => told.length ≤ 60) (fun told => [rL (told.map tdD)]) (fun told _ => rI (rowsD (rowsT told)))
theorem sc_Lrows : FnScope ["_law_told", "_law_found", "_law_event_so", "_law_k", "_law_at_so"] ["_law_told"] (defScope s_Lrows) := ⟨rfl, rfl, rfl, by decide +kernel, rfl, by decide +kernel, by decide +kernel⟩
theorem ok_Lrows {f : Addr} {fd : FuncData} (X : TF K mg "_law_rows" s_Lrows ["_law_told"] f fd) (T : TB mg) : FnOk P w K mg base CX0 1 f fd ["_law_told"] spLrows := by
  have nd := sc_Lrows.nd
  refine fn_spS (m := false) X.F sc_Lrows (fun _ => rfl) (fun i => ml mnMo ml0) fun cdv A outer s H0 E hr => ?_
  have hu := hu_of hr
  refine ⟨_, (pss_cons (ps_set (i := 1) nd rfl (by first | exact Or.inl rfl | exact Or.inr rfl) pe_dnewK)
      (pss_cons (ps_for PassesOwn.never rfl (pi_list (pv 0)) (pg_tup (by rfl) (pgs_cons (pg_name (i := 2) nd rfl (by first | exact Or.inl rfl | exact Or.inr rfl)) (pgs_cons (pg_name (i := 3) nd rfl (by first | exact Or.inl rfl | exact Or.inr rfl)) (pgs_cons (pg_name (i := 4) nd rfl (by first | exact Or.inl rfl | exact Or.inr rfl)) pgs_nil)))) (pss_one (ps_dput hu (pv 1) (pv 3) (pe_op op_catA (pe_dget2 hu (pv 1) (pv 3) (pe_tup pa_nil) ⟨by rfl, by rfl, by rfl, by rfl⟩) (pe_tup (pa_cons (pv 2) pa_nil))) rfl)))
      (pss_one (ps_ret (pe_callTy call_tuple_of rfl T.n_tuple (by decide +kernel) (pa_cons (pe_lc (own := [("_law_k", 3)]) rfl nd (pi_list (pe_callB (call_sortedDI rfl) rfl T.n_sorted (by decide +kernel) (pa_cons (pv 1) pa_nil))) (blkOk_by (by kernel_rfl)) (fun _ _ _ _ _ => (pg_name (i := 3) nd rfl (by first | exact Or.inl rfl | exact Or.inr rfl))) (fun _ _ _ _ _ => pts_nil) (fun _ _ _ _ _ => (pe_dget hu (pv 1) (pv 3) (fun _ _ => rfl)))) pa_nil)))))), ?_⟩
  rintro told h60 σ H S Q k
  replace h60 : told.length ≤ 60 := h60
  replace S : Sat false [some (rL (told.map tdD)), none, none, none, none] σ H := S
  obtain ⟨v0, ⟨l, zs, rfl, hl, rl⟩, S0⟩ := S.pin 0 rfl
  refine q_set (R := fun H' v => ∃ d, v = .ref d ∧ H d = none ∧ H' d = some (.dK [])) (fun H1 e Q q => fun p hp => q _ _ (same_new hp) ⟨p, rfl, e.free hp, upd_same⟩) fun v H1 e1 hd => ?_
  obtain ⟨d, rfl, hdn, hd1⟩ := hd
  have S1 : Sat true [some (rX (.ref l)), some (rX (.ref d)), none, none, none] _ H1 := ((S0.sm e1).set 1 (mnX (v := .ref d)) rfl).tp (mlX (mlX ml0))
  have nld : l ≠ d := ne_of_none hl hdn
  refine q_forM (M := At l) (enc := tdD) (xs := told) (i_listA (ev (i := 0) S1 rfl) (e1 _ _ hl) (rl.sm e1)) fun H2 e2 => ⟨fun pre σ' H' => Sat true [some (rX (.ref l)), some (rX (.ref d)), none, none, none] σ' H' ∧ H' l = some (.lst zs) ∧ Tp H2 H' ∧ Same H H' ∧ DV kI .dK H' d (keysT pre) (fun k => .tuple ((rowT pre k).map evD)), ⟨S1.sm e2, (e1.trans e2) _ _ hl, Tp.refl _, e1.trans e2, [], e2 _ _ hd1, rfl, fun x hx => (by cases hx)⟩, fun pre σ' H' h => ⟨h.2.1.trans ((e1.trans e2) _ _ hl).symm, h.2.2.1⟩, fun pre t post σ' H' H'' v esp hI sm hv => ?_, fun σ' H' hI => ?_⟩
  · obtain ⟨S', hl', tp', sH, D'⟩ := hI
    obtain ⟨σ2, a2, S6, _⟩ := (tg_tup (K := K) (n := 3) (tg_cons (tg_i (i := 2)) (tg_cons (tg_i (i := 3)) (tg_cons (tg_i (i := 4)) tg_nil))) rfl : Tg _ (rI (tdD t)) _ _) true _ v σ' H'' (S'.sm sm) hv
    refine a2 _ ?_
    have hpl : pre.length ≤ 60 := by
      have h2 := congrArg List.length esp
      rw [List.length_append] at h2
      omega
    have hkl := keysT_len pre []
    have hkl2 : (keysT pre).length ≤ 60 := by
      unfold keysT
      simp at hkl
      omega
    have hrl : (rowT pre t.2.1).length ≤ 60 := by
      unfold rowT
      rw [List.length_map]
      exact Nat.le_trans (List.length_filter_le _ _) hpl
    refine s_dputK kI_inj (e := t.2.1) (gd := .tuple ((rowT pre t.2.1).map evD ++ [evD t.1])) (e_catA (ds := (rowT pre t.2.1).map evD) (es := [evD t.1]) (e_dget2K (key := kI) kI_inj (f := fun k => .tuple ((rowT pre k).map evD)) (e := t.2.1) (ev (i := 1) S6 rfl) (EvR.xi (ev (i := 3) S6 rfl)) (e_tup a_nil (by decide)) (D'.sm sm) fun h => by rw [rowT_none h]; rfl) (e_tup (a_cons (ev (i := 2) S6 rfl) a_nil) (by show 1 ≤ 100000; decide)) (by rw [List.length_map, List.length_singleton]; omega)) (ev (i := 1) S6 rfl) (EvR.xi (ev (i := 3) S6 rfl)) (D'.sm sm) (by omega) fun H7 w7 e7 D7 t7 => ?_
    rw [← keysT_snoc, ← rowT_snoc] at D7
    exact ⟨((((S6.up (m := true) t7 : Sat true _ σ2 _)).fgt 2).fgt 3).fgt 4, by rw [upd_ne nld]; exact (sm.trans e7) _ _ hl', tp'.trans (sm.tp.trans t7), same_mut (sH.trans (sm.trans e7)) hdn, D7⟩
  · obtain ⟨S', hl', tp', sH, D'⟩ := hI
    have hkl := keysT_len told []
    have hkl2 : (keysT told).length ≤ 60 := by
      unfold keysT
      simp at hkl
      omega
    refine s_ret (R := rI (rowsD (rowsT told))) (EvR.isI (e_tupL (EvR.l (e_lc (enc := PyData.int) (xs := sortI (keysT told)) (F := fun n Γ => Γ.set 3 (some (rI (.int n)))) (fun _ => true) (fun n => .tuple ((rowT told n).map evD)) S' (i_list (e_sortDI (ev (i := 1) S' rfl) D' (by omega))) (by rw [sortI_len]; omega) (fun n _ => tg_i) (by decide) fun n hn σ2 H2 e2 S2 => ⟨b_yes, fun _ => e_dgetK (key := kI) (f := fun k => .tuple ((rowT told k).map evD)) (e := n) (ev (i := 1) S2 rfl) (EvR.xi (ev (i := 3) S2 rfl)) (D'.sm e2) (mem_sortI.mp hn)⟩))) ?_) fun v H3 e3 hv => k v H3 (sH.trans e3) hv
    rw [fT]
    unfold rowsD rowsT
    rw [List.map_map]
    rfl

/-! ### the bounds -/
def bAfter (pre : List (T3 × CT)) : Int := match pre.getLast? with
  | none => 0
  | some p => p.2.2.2.2
structure BOk1 (wide b : Int) (t : T3) (c : CT) : Prop where
  ev : c.1 = t.1
  lo : 1 ≤ t.2.2
  hi : (t.2.2 : Int) ≤ c.2.2.1
  wd : c.2.2.1 ≤ wide
  us : c.2.1 * 2 ≤ c.2.2.1 * (c.2.2.1 + 1)
  kk : t.2.1 < (c.2.2.1 * (c.2.2.1 + 1)).fdiv 2
  l1 : wide ≤ c.2.2.2
  l2 : c.2.1 ≤ c.2.2.2
  l3 : b ≤ c.2.2.2
structure BOk (wide : Int) (told : List T3) (costs : List CT) : Prop where
  each : ∀ pre p post, told.zip costs = pre ++ p :: post → BOk1 wide (bAfter pre) p.1 p.2
  nil : costs = [] → wide = 0
  last : ∀ cs c, costs = cs ++ [c] → c.2.1 = c.2.2.2 ∧ c.2.2.1 = wide
theorem zip_tc : ∀ (told : List T3) (costs : List CT), zipD (told.map tdD) (costs.map csD) = (told.zip costs).map fun p => .tuple [tdD p.1, csD p.2]
  | [], _ => rfl
  | _ :: _, [] => rfl
  | t :: told, c :: costs => by
    show _ :: zipD (told.map tdD) (costs.map csD) = _ :: _
    rw [zip_tc told costs]
    rfl
theorem widthM_le (ah : Ev → Ev → Bool) (es : List Ev) : widthM ah es ≤ es.length := by
  unfold widthM
  omega
theorem e_max3 {σ : St} {H : Hp} {ta tb tc : TE} {i j k : Int} (ha : EvR ta σ H (rI (.int i))) (hb : EvR tb σ H (rI (.int j))) (hc : EvR tc σ H (rI (.int k))) :
    EvR (tCB (fun xs H Q => ∃ i j k, xs = [.int i, .int j, .int k] ∧ Q (.int (max (max i j) k)) H) (tCons ta (tCons tb (tCons tc tNil)))) σ H (rI (.int (max (max i j) k))) := fun H1 e Q q =>
  ha H1 e _ fun x H2 e2 hx => hb H2 (e.trans e2) _ fun y H3 e3 hy => hc H3 ((e.trans e2).trans e3) _ fun z H4 e4 hz => ⟨i, j, k, by rw [show x = V.int i from hx, show y = V.int j from hy, show z = V.int k from hz], q _ _ ((e2.trans e3).trans e4) rfl⟩
theorem csD_sh (cs : List CT) : SeqAt.shaped (.list (cs.map csD)) = true := sh_list fun d hd => by
  obtain ⟨c, _, rfl⟩ := List.mem_map.mp hd
  refine ⟨?_, ?_⟩
  · show (PyData.canLay0 (evD c.1) && (PyData.canLay0 (.int c.2.1) && (PyData.canLay0 (.int c.2.2.1) && (PyData.canLay0 (.int c.2.2.2) && true)))) = true
    rw [can_ev]
    rfl
  · show 2 ≤ 60
    decide
theorem e_eqNilC {σ : St} {H : Hp} {ta tb : TE} {cs : List CT} (h : EvR ta σ H (rL (cs.map csD))) (hb : EvR tb σ H (rL [])) : EvR (tOp (rEqD K) ta tb) σ H (rI (.bool cs.isEmpty)) := (e_eqD h hb (csD_sh cs) (csD_sh [])).isI (by rw [List.map_nil, eqv_nil]; cases cs <;> rfl)
def spLbounds : Sp := spS (fun i : Lg × List T3 × List CT => Well i.1 ∧ (mks i.1).length ≤ 30 ∧ BOk (widthM (ahead i.1) (mks i.1)) i.2.1 i.2.2) (fun i => [rI (lgD i.1), rL (i.2.1.map tdD), rL (i.2.2.map csD)]) (fun _ _ => rI (.bool true))
theorem sc_Lbounds : FnScope ["_law_log_so", "_law_told", "_law_costs_so", "_law_wide", "_law_before", "_law_event_so", "_law_k", "_law_at_so", "_law_its", "_law_used", "_law_far_so", "_law_least"] ["_law_log_so", "_law_told", "_law_costs_so"] (defScope s_Lbounds) := ⟨rfl, rfl, rfl, by decide +kernel, rfl, by decide +kernel, by decide +kernel⟩
theorem ok_Lbounds {f f1 : Addr} {fd fd1 : FuncData} (X : TF K mg "_law_bounds_right" s_Lbounds ["_law_log_so", "_law_told", "_law_costs_so"] f fd) (T : TB mg) (G_width : GF P w K mg base 35 "width" f1 fd1 ["log"] spWidth) : FnOk P w K mg base CX0 36 f fd ["_law_log_so", "_law_told", "_law_costs_so"] spLbounds := by
  have nd := sc_Lbounds.nd
  refine fn_spS (m := false) X.F sc_Lbounds (fun _ => rfl) (fun i => mlI (ml mnMo (ml mnMo ml0))) fun cdv A outer s H0 E hr => ?_
  have hu := hu_of hr
  refine ⟨_, (pss_cons (ps_par (i := 3) (j := 4) (by rfl) nd rfl rfl (by decide) rfl rfl (pa_cons (pe_call G_width.F (hr.mono (by first | decide | omega)) rfl G_width.g G_width.kp G_width.b .nil pass0 (pa_cons (pv 0) pa_nil)) (pa_cons pe_int pa_nil)) (by rfl))
      (pss_cons (ps_for PassesOwn.never rfl (RZ.pi_zipA rfl T.n_zip (pa_cons (pv 1) (pa_cons (pv 2) pa_nil))) (pg_tup (by rfl) (pgs_cons (pg_tup (by rfl) (pgs_cons (pg_name (i := 5) nd rfl (by first | exact Or.inl rfl | exact Or.inr rfl)) (pgs_cons (pg_name (i := 6) nd rfl (by first | exact Or.inl rfl | exact Or.inr rfl)) (pgs_cons (pg_name (i := 7) nd rfl (by first | exact Or.inl rfl | exact Or.inr rfl)) pgs_nil)))) (pgs_cons (pg_tup (by rfl) (pgs_cons (pg_name (i := 8) nd rfl (by first | exact Or.inl rfl | exact Or.inr rfl)) (pgs_cons (pg_name (i := 9) nd rfl (by first | exact Or.inl rfl | exact Or.inr rfl)) (pgs_cons (pg_name (i := 10) nd rfl (by first | exact Or.inl rfl | exact Or.inr rfl)) (pgs_cons (pg_name (i := 11) nd rfl (by first | exact Or.inl rfl | exact Or.inr rfl)) pgs_nil))))) pgs_nil))) (pss_cons (ps_if (PW.pt (pw_or (pt_cmpR (op_neD hr.units) (pv 8) (pv 5) (nomark _)) (pw_or (pt_cmpR op_lt (pv 7) pe_int (nomark _)) (pw_or (pt_cmpR op_gt (pv 7) (pv 10) (nomark _)) (pw_or (pt_cmpR op_gt (pv 10) (pv 3) (nomark _)) (pw_or1 (pt_cmpR op_gt (pe_op op_mul (pv 9) pe_int) (pe_op op_mul (pv 10) (pe_op op_add (pv 10) pe_int)) (nomark _)))))))) (pss_one (ps_ret pe_bl)) pss_nil)
      (pss_cons (ps_if (PW.pt (pw_or (pt_cmpR op_ge (pv 6) (pe_op op_fdivN (pe_op op_mul (pv 10) (pe_op op_add (pv 10) pe_int)) pe_int) (nomark _)) (pw_or1 (pt_cmpR op_lt (pv 11) (pe_callB (call_max3i rfl) rfl T.n_max (by decide +kernel) (pa_cons (pv 3) (pa_cons (pv 9) (pa_cons (pv 4) pa_nil)))) (nomark _))))) (pss_one (ps_ret pe_bl)) pss_nil)
      (pss_one (ps_set (i := 4) nd rfl (by first | exact Or.inl rfl | exact Or.inr rfl) (pv 11))))))
      (pss_cons (ps_if (pt_cmpR (op_eqD hr.units) (pv 2) (pe_lst pa_nil) (nomark _)) (pss_one (ps_ret (pe_cmpR op_eq (pv 3) pe_int (nomark _)))) pss_nil)
      (pss_one (ps_ret (pe_and (pe_cmpR op_eq (pe_ix ix_tup (pe_ix ix_list (pv 2) (pe_un un_neg pe_int) (fun _ _ => rfl)) pe_int (fun _ _ => rfl)) (pe_ix ix_tup (pe_ix ix_list (pv 2) (pe_un un_neg pe_int) (fun _ _ => rfl)) pe_int (fun _ _ => rfl)) (nomark _)) (pe_one (pe_cmpR op_eq (pe_ix ix_tup (pe_ix ix_list (pv 2) (pe_un un_neg pe_int) (fun _ _ => rfl)) pe_int (fun _ _ => rfl)) (pv 3) (nomark _))))))))), ?_⟩
  rintro ⟨L, told, costs⟩ ⟨W, h30, B⟩ σ H S Q k
  replace W : Well L := W
  replace h30 : (mks L).length ≤ 30 := h30
  replace B : BOk (widthM (ahead L) (mks L)) told costs := B
  replace S : Sat false [some (rI (lgD L)), some (rL (told.map tdD)), some (rL (costs.map csD)), none, none, none, none, none, none, none, none, none] σ H := S
  have hw30 := widthM_le (ahead L) (mks L)
  refine q_par (R := rI (.int (widthM (ahead L) (mks L)))) (T := fun _ => rI (.int 0)) S (e_callT L ⟨W, h30⟩ (aI (ev (i := 0) S rfl) aa_nil) fun _ _ _ _ r => r) (fun _ _ => e_int) fun v u σ1 H1 H2 e1 hv e2 hu' S1 => ?_
  generalize widthM (ahead L) (mks L) = wide at B hv hw30
  cases (show v = V.int wide from hv)
  cases (show u = V.int 0 from hu')
  replace S1 : Sat false [some (rI (lgD L)), some (rL (told.map tdD)), some (rL (costs.map csD)), some (rI (.int wide)), some (rI (.int 0)), none, none, none, none, none, none, none] σ1 H2 := S1
  have hz := i_zipL (K := K) (xs := told.map tdD) (ys := costs.map csD) (aa_cons mnMo (ev (i := 1) S1 rfl) (aa_cons mnMo (ev (i := 2) S1 rfl) aa_nil))
  rw [zip_tc] at hz
  refine q_for (m := false) (enc := fun p : T3 × CT => .tuple [tdD p.1, csD p.2]) (xs := told.zip costs) hz fun H3 e3 => ⟨fun pre σ' H' => Sat false [some (rI (lgD L)), some (rL (told.map tdD)), some (rL (costs.map csD)), some (rI (.int wide)), some (rI (.int (bAfter pre))), none, none, none, none, none, none, none] σ' H' ∧ Same H3 H', ⟨S1.sm e3, Same.refl _⟩, fun pre σ' H' h => h.2, fun pre p post σ' H' H'' v esp hI sm hv => ?_, fun σ' H' hI => ?_⟩
  · obtain ⟨S', s'⟩ := hI
    have b := B.each _ _ _ esp
    obtain ⟨⟨te, tk, ta⟩, ⟨ce, cu, cw, cl⟩⟩ := p
    obtain ⟨bev, blo, bhi, bwd, bus, bkk, bl1, bl2, bl3⟩ := b
    replace bev : ce = te := bev
    replace blo : 1 ≤ ta := blo
    replace bhi : (ta : Int) ≤ cw := bhi
    replace bwd : cw ≤ wide := bwd
    replace bus : cu * 2 ≤ cw * (cw + 1) := bus
    replace bkk : tk < (cw * (cw + 1)).fdiv 2 := bkk
    replace bl1 : wide ≤ cl := bl1
    replace bl2 : cu ≤ cl := bl2
    replace bl3 : bAfter pre ≤ cl := bl3
    subst bev
    obtain ⟨σ2, a2, S6, _⟩ := (tg_tup (K := K) (n := 2) (tg_cons (tg_tup (K := K) (n := 3) (tg_cons (tg_i (i := 5)) (tg_cons (tg_i (i := 6)) (tg_cons (tg_i (i := 7)) tg_nil))) rfl) (tg_cons (tg_tup (K := K) (n := 4) (tg_cons (tg_i (i := 8)) (tg_cons (tg_i (i := 9)) (tg_cons (tg_i (i := 10)) (tg_cons (tg_i (i := 11)) tg_nil)))) rfl) tg_nil)) rfl : Tg _ (rI (.tuple [tdD (ce, tk, ta), csD (ce, cu, cw, cl)])) _ _) false _ v σ' H'' (S'.sm sm) hv
    refine a2 _ ?_
    replace S6 : Sat false [some (rI (lgD L)), some (rL (told.map tdD)), some (rL (costs.map csD)), some (rI (.int wide)), some (rI (.int (bAfter pre))), some (rI (evD ce)), some (rI (.int tk)), some (rI (.int (ta : Int))), some (rI (evD ce)), some (rI (.int cu)), some (rI (.int cw)), some (rI (.int cl))] σ2 H'' := S6
    have hcm : CMul cw (cw + 1) := .inl ⟨by omega, by omega⟩
    refine q_ifN (b := false) (EvB.is (b_or (b_test (e_neE (ev (i := 8) S6 rfl) (ev (i := 5) S6 rfl))) fun _ => b_or (b_test (e_ltI (ev (i := 7) S6 rfl) e_int)) fun _ => b_or (b_test (e_gtI (ev (i := 7) S6 rfl) (ev (i := 10) S6 rfl))) fun _ => b_or (b_test (e_gtI (ev (i := 10) S6 rfl) (ev (i := 3) S6 rfl))) fun _ => b_test (e_gtI (e_mul (ev (i := 9) S6 rfl) e_int (.inr ⟨by decide, by decide⟩)) (e_mul (ev (i := 10) S6 rfl) (e_add (ev (i := 10) S6 rfl) e_int) hcm))) ?_) (fun h => by cases h) fun _ H7 e7 => ?_
    · rw [Bool.eq_false_iff]
      intro h
      simp only [Bool.or_eq_true, decide_eq_true_eq, Bool.not_eq_true', decide_eq_false_iff_not] at h
      rcases h with h | h | h | h | h
      · exact absurd trivial h
      · omega
      · omega
      · omega
      · omega
    have S7 := S6.sm e7
    refine q_ifN (b := false) (EvB.is (b_or (b_test (e_geI (ev (i := 6) S7 rfl) (e_fdiv (e_mul (ev (i := 10) S7 rfl) (e_add (ev (i := 10) S7 rfl) e_int) hcm) e_int ⟨by decide, by decide⟩))) fun _ => b_test (e_ltI (ev (i := 11) S7 rfl) (e_max3 (ev (i := 3) S7 rfl) (ev (i := 9) S7 rfl) (ev (i := 4) S7 rfl)))) ?_) (fun h => by cases h) fun _ H8 e8 => ?_
    · rw [Bool.eq_false_iff]
      intro h
      simp only [Bool.or_eq_true, decide_eq_true_eq] at h
      rcases h with h | h
      · omega
      · omega
    refine l_set (S7.sm e8) (ev (i := 11) (S7.sm e8) rfl) mnI fun σ9 H9 e9 S9 => ⟨?_, s'.trans (sm.trans (e7.trans (e8.trans e9)))⟩
    have eb : bAfter (pre ++ [((ce, tk, ta), (ce, cu, cw, cl))]) = cl := by
      unfold bAfter
      rw [List.getLast?_append]
      rfl
    rw [eb]
    exact ((((((S9.fgt 5).fgt 6).fgt 7).fgt 8).fgt 9).fgt 10).fgt 11
  · obtain ⟨S', s'⟩ := hI
    have sH := e1.trans (e2.trans (e3.trans s'))
    refine q_ifN (b := costs.isEmpty) (b_test (e_eqNilC (ev (i := 2) S' rfl) (e_lst (ds := []) a_nil (by decide)))) (fun h H7 e7 => ?_) fun h H7 e7 => ?_
    · have hn : costs = [] := List.isEmpty_iff.mp h
      refine s_ret (R := rI (.bool true)) (EvR.isI (e_eqI (ev (i := 3) (S'.sm e7) rfl) e_int) (by rw [B.nil hn]; rfl)) fun v H8 e8 hv => k v H8 (sH.trans (e7.trans e8)) hv
    · have S7 := S'.sm e7
      rcases List.eq_nil_or_concat costs with hr0 | ⟨cs, c, hr1⟩
      · rw [hr0] at h; cases h
      · rw [List.concat_eq_append] at hr1
        obtain ⟨z1, z2⟩ := B.last cs c hr1
        have lst : ∀ {H8 : Hp}, Same H7 H8 → ∀ {ta tb : TE}, EvR ta σ' H8 (rL (costs.map csD)) → EvR tb σ' H8 (rI (.int (-1))) → EvR (tOp (rIxL K) ta tb) σ' H8 (rI (csD c)) := fun e ta tb ha hb => e_ixL ha hb (by rw [hr1, List.map_append]; exact atI_last)
        refine s_ret (R := rI (.bool true)) (EvR.isI (e_andV (a := decide (c.2.1 = c.2.2.2)) (b := decide (c.2.2.1 = wide)) (e_eqI (e_ixT (lst (Same.refl _) (ev (i := 2) S7 rfl) (e_neg e_int)) e_int rfl) (e_ixT (lst (Same.refl _) (ev (i := 2) S7 rfl) (e_neg e_int)) e_int rfl)) fun _ => e_eqI (e_ixT (lst (Same.refl _) (ev (i := 2) S7 rfl) (e_neg e_int)) e_int rfl) (ev (i := 3) S7 rfl)) (by rw [z1, z2]; simp)) fun v H8 e8 hv => k v H8 (sH.trans (e7.trans e8)) hv
end
end Fs

/-! FsK: the widest antichain by matching; what the stairs keep. -/
namespace Fs
open PySem
/-! ### what a search for one more pair does -/
/-- what a search that succeeds has done -/
structure PWin (ah : Ev → Ev → Bool) (es : List Ev) (F : Ev → Prop) (e : Ev) (T : Tk) (S : List Ev) (T' : Tk) : Prop where
  nd : T'.1.Nodup
  len : T'.1.length = T.1.length + 1
  sub : ∀ o ∈ T.1, o ∈ T'.1
  inn : ∀ o ∈ T'.1, o ∈ es
  arc : ∀ o ∈ T'.1, ah (T'.2 o) o = true
  keep : ∀ o ∈ S, o ∈ T.1 → T'.2 o = T.2 o
  dead : ∀ o, F o → T'.2 o = T.2 o
  img : (T'.1.map T'.2).Perm (e :: T.1.map T.2)
/-- a search that fails has seen all that is behind, and all of it is taken -/
structure PFail (ah : Ev → Ev → Bool) (es : List Ev) (T : Tk) (S S' : List Ev) : Prop where
  sub : ∀ o ∈ S, o ∈ S'
  tak : ∀ o ∈ S', o ∉ S → o ∈ T.1 ∧ ∀ x ∈ es, ah (T.2 o) x = true → x ∈ S'
structure PIn (ah : Ev → Ev → Bool) (es : List Ev) (F : Ev → Prop) (T : Tk) : Prop where
  nd : T.1.Nodup
  inn : ∀ o ∈ T.1, o ∈ es
  arc : ∀ o ∈ T.1, ah (T.2 o) o = true
  fin : ∀ o, F o → o ∈ T.1
  cl : ∀ o, F o → ∀ x ∈ es, ah (T.2 o) x = true → F x
theorem map_put {T : Tk} {o e : Ev} (nd : T.1.Nodup) (h : o ∈ T.1) {l : List Ev} (p : (T.1.map T.2).Perm (T.2 o :: l)) : ((aPut T o e).1.map (aPut T o e).2).Perm (e :: l) := by
  unfold aPut
  rw [if_pos h]
  obtain ⟨a, b, e1⟩ := List.append_of_mem h
  rw [e1] at nd p ⊢
  have h1 := (List.nodup_append.mp nd).2.2
  have h2 := (List.nodup_cons.mp (List.nodup_append.mp nd).2.1).1
  have ea : a.map (fun z => if z = o then e else T.2 z) = a.map T.2 := List.map_congr_left fun x hx => if_neg (h1 x hx o List.mem_cons_self)
  have eb : b.map (fun z => if z = o then e else T.2 z) = b.map T.2 := List.map_congr_left fun x hx => if_neg fun z : x = o => h2 (z ▸ hx)
  rw [List.map_append, List.map_cons] at p ⊢
  show (a.map (fun z => if z = o then e else T.2 z) ++ (if o = o then e else T.2 o) :: b.map (fun z => if z = o then e else T.2 z)).Perm _
  rw [ea, eb, if_pos rfl]
  have p2 := (List.perm_middle.symm.trans p)
  have p3 : (a.map T.2 ++ b.map T.2).Perm l := (List.Perm.cons_inv p2)
  exact List.perm_middle.trans (p3.cons e)
theorem unseen_snoc {es S : List Ev} {o : Ev} (ho : o ∈ es) (h : o ∉ S) : (es.filter fun x => !decide (x ∈ S ++ [o])).length < (es.filter fun x => !decide (x ∈ S)).length := by
  have key : ∀ l : List Ev, (l.filter fun x => !decide (x ∈ S ++ [o])).length ≤ (l.filter fun x => !decide (x ∈ S)).length ∧ (o ∈ l → (l.filter fun x => !decide (x ∈ S ++ [o])).length < (l.filter fun x => !decide (x ∈ S)).length) := by
    intro l
    induction l with
    | nil => exact ⟨Nat.le_refl _, fun h => by cases h⟩
    | cons x l ih =>
      obtain ⟨i1, i2⟩ := ih
      by_cases hx : x = o
      · subst hx
        rw [List.filter_cons, List.filter_cons, if_neg (by simp), if_pos (by simp [h])]
        exact ⟨by rw [List.length_cons]; omega, fun _ => by rw [List.length_cons]; omega⟩
      · by_cases hs : x ∈ S
        · rw [List.filter_cons, List.filter_cons, if_neg (by simp [hs]), if_neg (by simp [hs])]
          exact ⟨i1, fun z => i2 ((List.mem_cons.mp z).resolve_left fun q => hx q.symm)⟩
        · rw [List.filter_cons, List.filter_cons, if_pos (by simp [hs, hx]), if_pos (by simp [hs])]
          refine ⟨by simp only [List.length_cons]; omega, fun z => ?_⟩
          have := i2 ((List.mem_cons.mp z).resolve_left fun q => hx q.symm)
          simp only [List.length_cons]; omega
  exact (key es).2 ho
theorem unseen_mono {es S S2 : List Ev} (h : ∀ o ∈ S, o ∈ S2) : (es.filter fun x => !decide (x ∈ S2)).length ≤ (es.filter fun x => !decide (x ∈ S)).length := by
  induction es with
  | nil => exact Nat.le_refl _
  | cons x l ih =>
    by_cases hs : x ∈ S
    · rw [List.filter_cons, List.filter_cons, if_neg (by simp [h x hs]), if_neg (by simp [hs])]
      exact ih
    · by_cases h2 : x ∈ S2
      · rw [List.filter_cons, List.filter_cons, if_neg (by simp [h2]), if_pos (by simp [hs])]
        rw [List.length_cons]; omega
      · rw [List.filter_cons, List.filter_cons, if_pos (by simp [h2]), if_pos (by simp [hs])]
        simp only [List.length_cons]; omega
/-- what a search promises -/
def PSpec (ah : Ev → Ev → Bool) (es : List Ev) (F : Ev → Prop) (n : Nat) (rec : Ev → Tk → List Ev → Bool × Tk × List Ev) : Prop :=
  ∀ e T S, PIn ah es F T → (es.filter fun x => !decide (x ∈ S)).length < n → ((rec e T S).1 = true → PWin ah es F e T S (rec e T S).2.1) ∧
    ((rec e T S).1 = false → (rec e T S).2.1 = T ∧ PFail ah es T S (rec e T S).2.2 ∧ ∀ x ∈ es, ah e x = true → x ∈ (rec e T S).2.2) ∧
    ((∀ x ∈ es, ah e x = true → F x) → (rec e T S).1 = false)
theorem pullL_spec {ah : Ev → Ev → Bool} {es : List Ev} {F : Ev → Prop} {n : Nat} {rec : Ev → Tk → List Ev → Bool × Tk × List Ev} (R : PSpec ah es F n rec) (e : Ev) :
    ∀ (os : List Ev) (T : Tk) (S : List Ev), (∀ o ∈ os, o ∈ es) → (∀ x ∈ es, ah e x = true → x ∈ os ∨ x ∈ S) → PIn ah es F T → (es.filter fun x => !decide (x ∈ S)).length < n + 1 →
      ((pullL ah rec e os T S).1 = true → PWin ah es F e T S (pullL ah rec e os T S).2.1) ∧
      ((pullL ah rec e os T S).1 = false → (pullL ah rec e os T S).2.1 = T ∧ PFail ah es T S (pullL ah rec e os T S).2.2 ∧ ∀ x ∈ es, ah e x = true → x ∈ (pullL ah rec e os T S).2.2) ∧
      ((∀ x ∈ es, ah e x = true → F x) → (pullL ah rec e os T S).1 = false)
  | [], T, S, hos, hx, I, hn => by
    unfold pullL
    refine ⟨fun h => (by cases h), fun _ => ⟨rfl, ⟨fun o h => h, fun o h h2 => absurd h h2⟩, fun x h1 h2 => (hx x h1 h2).resolve_left (List.not_mem_nil)⟩, fun _ => rfl⟩
  | o :: os, T, S, hos, hx, I, hn => by
    have hoe : o ∈ es := hos o List.mem_cons_self
    have hos2 : ∀ o ∈ os, o ∈ es := fun x h => hos x (List.mem_cons_of_mem _ h)
    unfold pullL
    by_cases c : o ∉ S ∧ ah e o = true
    · rw [if_pos c]
      by_cases ct : o ∉ T.1
      · rw [if_pos ct]
        refine ⟨fun _ => ⟨?_, ?_, ?_, ?_, ?_, ?_, ?_, ?_⟩, fun h => (by cases h), fun hF => absurd (I.fin o (hF o hoe c.2)) ct⟩
        · show (if o ∈ T.1 then T.1 else T.1 ++ [o]).Nodup
          rw [if_neg ct]
          exact List.nodup_append.mpr ⟨I.nd, List.nodup_cons.mpr ⟨List.not_mem_nil, List.nodup_nil⟩, fun a ha b hb q => ct (by rw [← List.mem_singleton.mp hb, ← q]; exact ha)⟩
        · show (if o ∈ T.1 then T.1 else T.1 ++ [o]).length = _
          rw [if_neg ct, List.length_append, List.length_singleton]
        · intro x hx
          show x ∈ (if o ∈ T.1 then T.1 else T.1 ++ [o])
          rw [if_neg ct]
          exact List.mem_append_left _ hx
        · intro x hx
          have hx : x ∈ (if o ∈ T.1 then T.1 else T.1 ++ [o]) := hx
          rw [if_neg ct] at hx
          rcases List.mem_append.mp hx with z | z
          · exact I.inn x z
          · rw [List.mem_singleton.mp z]; exact hoe
        · intro x hx
          have hx : x ∈ (if o ∈ T.1 then T.1 else T.1 ++ [o]) := hx
          rw [if_neg ct] at hx
          show ah (if x = o then e else T.2 x) x = true
          by_cases q : x = o
          · rw [if_pos q, q]; exact c.2
          · rw [if_neg q]
            rcases List.mem_append.mp hx with z | z
            · exact I.arc x z
            · exact absurd (List.mem_singleton.mp z) q
        · intro x hxs hxt
          show (if x = o then e else T.2 x) = T.2 x
          rw [if_neg fun q : x = o => ct (q ▸ hxt)]
        · intro x hF
          show (if x = o then e else T.2 x) = T.2 x
          rw [if_neg fun q : x = o => ct (q ▸ I.fin x hF)]
        · unfold aPut
          rw [if_neg ct, List.map_append, List.map_cons, List.map_nil]
          show (T.1.map (fun z => if z = o then e else T.2 z) ++ [if o = o then e else T.2 o]).Perm _
          rw [if_pos rfl]
          have : T.1.map (fun z => if z = o then e else T.2 z) = T.1.map T.2 := List.map_congr_left fun x hx => if_neg fun q : x = o => ct (q ▸ hx)
          rw [this]
          exact List.perm_append_comm
      · rw [if_neg ct]
        have ht : o ∈ T.1 := Classical.not_not.mp ct
        have hn2 : (es.filter fun x => !decide (x ∈ S ++ [o])).length < n := by
          have := unseen_snoc hoe c.1
          omega
        obtain ⟨r1, r2, r3⟩ := R (T.2 o) T (S ++ [o]) I hn2
        show ((if (rec (T.2 o) T (S ++ [o])).1 = true then (true, aPut (rec (T.2 o) T (S ++ [o])).2.1 o e, (rec (T.2 o) T (S ++ [o])).2.2) else pullL ah rec e os (rec (T.2 o) T (S ++ [o])).2.1 (rec (T.2 o) T (S ++ [o])).2.2).1 = true → _) ∧ _
        generalize hr : rec (T.2 o) T (S ++ [o]) = r at r1 r2 r3
        obtain ⟨b, T1, S1⟩ := r
        cases b with
        | true =>
          rw [if_pos rfl]
          have w := r1 rfl
          have hk : T1.2 o = T.2 o := w.keep o (List.mem_append_right _ List.mem_cons_self) ht
          have ho1 : o ∈ T1.1 := w.sub o ht
          have nF : ¬ F o := fun hF => by
            have := r3 fun x h1 h2 => I.cl o hF x h1 h2
            cases this
          refine ⟨fun _ => ⟨?_, ?_, ?_, ?_, ?_, ?_, ?_, ?_⟩, fun h => (by cases h), fun hF => absurd (hF o hoe c.2) nF⟩
          · show (if o ∈ T1.1 then T1.1 else T1.1 ++ [o]).Nodup
            rw [if_pos ho1]; exact w.nd
          · show (if o ∈ T1.1 then T1.1 else T1.1 ++ [o]).length = _
            rw [if_pos ho1]; exact w.len
          · intro x hx
            show x ∈ (if o ∈ T1.1 then T1.1 else T1.1 ++ [o])
            rw [if_pos ho1]; exact w.sub x hx
          · intro x hx
            have hx : x ∈ (if o ∈ T1.1 then T1.1 else T1.1 ++ [o]) := hx
            rw [if_pos ho1] at hx
            exact w.inn x hx
          · intro x hx
            have hx : x ∈ (if o ∈ T1.1 then T1.1 else T1.1 ++ [o]) := hx
            rw [if_pos ho1] at hx
            show ah (if x = o then e else T1.2 x) x = true
            by_cases q : x = o
            · rw [if_pos q, q]; exact c.2
            · rw [if_neg q]; exact w.arc x hx
          · intro x hxs hxt
            show (if x = o then e else T1.2 x) = T.2 x
            rw [if_neg fun q : x = o => c.1 (q ▸ hxs)]
            exact w.keep x (List.mem_append_left _ hxs) hxt
          · intro x hF
            show (if x = o then e else T1.2 x) = T.2 x
            rw [if_neg fun q : x = o => nF (q ▸ hF)]
            exact w.dead x hF
          · refine map_put w.nd ho1 ?_
            rw [hk]
            exact w.img
        | false =>
          rw [if_neg Bool.false_ne_true]
          obtain ⟨q1, q2, q3⟩ := r2 rfl
          replace q1 : T1 = T := q1
          replace q2 : PFail ah es T (S ++ [o]) S1 := q2
          replace q3 : ∀ x ∈ es, ah (T.2 o) x = true → x ∈ S1 := q3
          subst q1
          have ss : ∀ x ∈ S, x ∈ S1 := fun x h => q2.sub x (List.mem_append_left _ h)
          have so : o ∈ S1 := q2.sub o (List.mem_append_right _ List.mem_cons_self)
          obtain ⟨a1, a2, a3⟩ := pullL_spec R e os T1 S1 hos2 (fun x h1 h2 => by
            rcases hx x h1 h2 with z | z
            · rcases List.mem_cons.mp z with z | z
              · right; rw [z]; exact so
              · left; exact z
            · right; exact ss x z) I (by have := unseen_mono (es := es) ss; omega)
          refine ⟨fun h => ?_, fun h => ?_, a3⟩
          · have w := a1 h
            exact ⟨w.nd, w.len, w.sub, w.inn, w.arc, fun x hs => w.keep x (ss x hs), w.dead, w.img⟩
          · obtain ⟨b1, b2, b3⟩ := a2 h
            refine ⟨b1, ⟨fun x hs => b2.sub x (ss x hs), fun x h1 h2 => ?_⟩, b3⟩
            by_cases hxo : x = o
            · subst hxo
              exact ⟨ht, fun y y1 y2 => b2.sub y (q3 y y1 y2)⟩
            · by_cases h3 : x ∈ S1
              · obtain ⟨c1, c2⟩ := q2.tak x h3 fun z => by
                  rcases List.mem_append.mp z with z | z
                  · exact h2 z
                  · exact hxo (List.mem_singleton.mp z)
                exact ⟨c1, fun y y1 y2 => b2.sub y (c2 y y1 y2)⟩
              · exact b2.tak x h1 h3
    · rw [if_neg c]
      exact pullL_spec R e os T S hos2 (fun x h1 h2 => by
        rcases hx x h1 h2 with z | z
        · rcases List.mem_cons.mp z with z | z
          · right
            rw [z] at h2 ⊢
            exact Classical.byContradiction fun q => c ⟨q, h2⟩
          · left; exact z
        · right; exact z) I hn
theorem pullM_spec {ah : Ev → Ev → Bool} {es : List Ev} {F : Ev → Prop} : ∀ n, PSpec ah es F n (pullM ah es n)
  | 0 => fun e T S I hn => absurd hn (Nat.not_lt_zero _)
  | n + 1 => fun e T S I hn => pullL_spec (pullM_spec n) e es T S (fun o h => h) (fun x h _ => .inl h) I hn

/-! ### the whole matching -/
structure MInv (ah : Ev → Ev → Bool) (es : List Ev) (done : List Ev) (X : List Ev) (F : Ev → Prop) (T : Tk) : Prop where
  I : PIn ah es F T
  img : (T.1.map T.2 ++ X).Perm done
  out : ∀ x ∈ X, ∀ y ∈ es, ah x y = true → F y
theorem matchM_spec {ah : Ev → Ev → Bool} {es : List Ev} (h30 : es.length ≤ 30) : ∀ (l done : List Ev) (X : List Ev) (F : Ev → Prop) (T : Tk), MInv ah es done X F T → ∃ X' F', MInv ah es (done ++ l) X' F' (matchM ah es l T)
  | [], done, X, F, T, M => ⟨X, F, by rw [List.append_nil]; exact M⟩
  | e :: l, done, X, F, T, M => by
    unfold matchM
    have hlen : (es.filter fun x => !decide (x ∈ ([] : List Ev))).length < 31 := Nat.lt_succ_of_le (Nat.le_trans (List.length_filter_le _ _) h30)
    obtain ⟨r1, r2, _⟩ := pullM_spec (F := F) 31 e T [] M.I hlen
    generalize hr : pullM ah es 31 e T [] = r at r1 r2
    obtain ⟨b, T1, S1⟩ := r
    have ed : done ++ e :: l = (done ++ [e]) ++ l := by simp
    rw [ed]
    cases b with
    | true =>
      have w := r1 rfl
      refine matchM_spec h30 l (done ++ [e]) X F T1 ⟨⟨w.nd, w.inn, w.arc, fun o h => w.sub o (M.I.fin o h), fun o h x h1 h2 => M.I.cl o h x h1 (by rw [← w.dead o h]; exact h2)⟩, ?_, M.out⟩
      exact ((w.img.append_right X).trans (M.img.cons e)).trans (List.perm_append_comm (l₁ := [e]))
    | false =>
      obtain ⟨q1, q2, q3⟩ := r2 rfl
      replace q1 : T1 = T := q1
      replace q2 : PFail ah es T [] S1 := q2
      replace q3 : ∀ x ∈ es, ah e x = true → x ∈ S1 := q3
      subst q1
      refine matchM_spec h30 l (done ++ [e]) (X ++ [e]) (fun o => F o ∨ o ∈ S1) T1 ⟨⟨M.I.nd, M.I.inn, M.I.arc, fun o h => h.elim (M.I.fin o) fun z => (q2.tak o z List.not_mem_nil).1, fun o h x h1 h2 => h.elim (fun z => .inl (M.I.cl o z x h1 h2)) fun z => .inr ((q2.tak o z List.not_mem_nil).2 x h1 h2)⟩, ?_, fun x hx y h1 h2 => ?_⟩
      · rw [← List.append_assoc]
        exact M.img.append_right [e]
      · rcases List.mem_append.mp hx with z | z
        · exact .inl (M.out x z y h1 h2)
        · rw [List.mem_singleton.mp z] at h2
          exact .inr (q3 y h1 h2)

/-! ### antichains -/
structure Anti (ah : Ev → Ev → Bool) (es A : List Ev) : Prop where
  nd : A.Nodup
  sub : ∀ a ∈ A, a ∈ es
  un : ∀ a ∈ A, ∀ b ∈ A, ah a b = false
theorem nodup_sub_len {α : Type} [DecidableEq α] : ∀ {A B : List α}, A.Nodup → (∀ a ∈ A, a ∈ B) → A.length ≤ B.length
  | [], _, _, _ => Nat.zero_le _
  | a :: A, B, nd, h => by
    obtain ⟨n1, n2⟩ := List.nodup_cons.mp nd
    have hb : a ∈ B := h a List.mem_cons_self
    have := nodup_sub_len (B := B.erase a) n2 fun x hx => (List.mem_erase_of_ne fun q : x = a => n1 (q ▸ hx)).mpr (h x (List.mem_cons_of_mem _ hx))
    rw [List.length_erase_of_mem hb] at this
    have := List.length_pos_of_mem hb
    rw [List.length_cons]
    omega
theorem matchM_fin {ah : Ev → Ev → Bool} {es : List Ev} (h30 : es.length ≤ 30) : ∃ X F, MInv ah es es X F (matchM ah es es ([], id)) := by
  have := matchM_spec (ah := ah) h30 es [] [] (fun _ => False) ([], id) ⟨⟨List.nodup_nil, fun o h => absurd h List.not_mem_nil, fun o h => absurd h List.not_mem_nil, fun o h => h.elim, fun o h => h.elim⟩, List.Perm.refl _, fun x hx => absurd hx List.not_mem_nil⟩
  rwa [List.nil_append] at this
/-- no antichain is wider -/
theorem width_ge {ah : Ev → Ev → Bool} {es A : List Ev} (h30 : es.length ≤ 30) (nd : es.Nodup) (tr : ∀ a b c, a ∈ es → b ∈ es → c ∈ es → ah a b = true → ah b c = true → ah a c = true) (H : Anti ah es A) : (A.length : Int) ≤ widthM ah es := by
  obtain ⟨X, F, M⟩ := matchM_fin (ah := ah) h30
  unfold widthM
  generalize matchM ah es es ([], id) = T at M
  have hi : (T.1.map T.2).Nodup := by
    have := M.img.nodup_iff.mpr nd
    exact (List.nodup_append.mp this).1
  have hes : ∀ o ∈ T.1, T.2 o ∈ es := fun o ho => M.img.mem_iff.mp (List.mem_append_left _ (List.mem_map.mpr ⟨o, ho, rfl⟩))
  -- those ahead of some of A
  let D := es.filter fun x => A.any fun a => ah x a
  let R := es.filter fun x => !(decide (x ∈ A) || A.any fun a => ah x a)
  let f := fun o : Ev => decide (o ∈ A) || A.any fun a => ah o a
  have mD : ∀ x, x ∈ es → (∃ a ∈ A, ah x a = true) → x ∈ D := fun x h ⟨a, ha, hx⟩ => List.mem_filter.mpr ⟨h, List.any_eq_true.mpr ⟨a, ha, hx⟩⟩
  have h1 : (T.1.filter f).length ≤ D.length := by
    have := nodup_sub_len (A := (T.1.filter f).map T.2) (B := D) (List.Nodup.sublist ((List.filter_sublist).map T.2) hi) fun x hx => by
      obtain ⟨o, ho, rfl⟩ := List.mem_map.mp hx
      obtain ⟨o1, o2⟩ := List.mem_filter.mp ho
      refine mD _ (hes o o1) ?_
      rcases Bool.or_eq_true _ _ ▸ o2 with z | z
      · exact ⟨o, of_decide_eq_true z, M.I.arc o o1⟩
      · obtain ⟨a, ha, hz⟩ := List.any_eq_true.mp z
        exact ⟨a, ha, tr _ _ _ (hes o o1) (M.I.inn o o1) (H.sub a ha) (M.I.arc o o1) hz⟩
    rwa [List.length_map] at this
  have h2 : (T.1.filter fun o => !f o).length ≤ R.length := nodup_sub_len (List.Nodup.sublist List.filter_sublist M.I.nd) fun x hx => by
    obtain ⟨o1, o2⟩ := List.mem_filter.mp hx
    exact List.mem_filter.mpr ⟨M.I.inn x o1, o2⟩
  have h3 : (A ++ D ++ R).length ≤ es.length := nodup_sub_len (B := es) (by
    refine List.nodup_append.mpr ⟨List.nodup_append.mpr ⟨H.nd, List.Nodup.sublist List.filter_sublist nd, fun a ha b hb q => ?_⟩, List.Nodup.sublist List.filter_sublist nd, fun a ha b hb q => ?_⟩
    · subst q
      obtain ⟨c, hc, z⟩ := List.any_eq_true.mp (List.mem_filter.mp hb).2
      rw [H.un a ha c hc] at z
      cases z
    · subst q
      have z := (List.mem_filter.mp hb).2
      simp only [Bool.not_eq_true', Bool.or_eq_false_iff, decide_eq_false_iff_not] at z
      rcases List.mem_append.mp ha with y | y
      · exact z.1 y
      · have := (List.mem_filter.mp y).2
        rw [z.2] at this
        cases this) fun x hx => by
    rcases List.mem_append.mp hx with y | y
    · rcases List.mem_append.mp y with y | y
      · exact H.sub x y
      · exact (List.mem_filter.mp y).1
    · exact (List.mem_filter.mp y).1
  have h4 : T.1.length = (T.1.filter f).length + (T.1.filter fun o => !f o).length := by
    generalize T.1 = l
    induction l with
    | nil => rfl
    | cons x l ih =>
      rw [List.filter_cons, List.filter_cons]
      cases f x <;> simp [ih] <;> omega
  simp only [List.length_append] at h3
  omega
/-- some antichain is as wide -/
theorem width_le {ah : Ev → Ev → Bool} {es : List Ev} (h30 : es.length ≤ 30) (nd : es.Nodup) : ∃ A, Anti ah es A ∧ (A.length : Int) = widthM ah es := by
  obtain ⟨X, F, M⟩ := matchM_fin (ah := ah) h30
  unfold widthM
  generalize matchM ah es es ([], id) = T at M
  have hn : (T.1.map T.2 ++ X).Nodup := M.img.nodup_iff.mpr nd
  have hl := M.img.length_eq
  rw [List.length_append, List.length_map] at hl
  obtain ⟨n1, n2, n3⟩ := List.nodup_append.mp hn
  have hes : ∀ o ∈ T.1, T.2 o ∈ es := fun o ho => M.img.mem_iff.mp (List.mem_append_left _ (List.mem_map.mpr ⟨o, ho, rfl⟩))
  classical
  let FL := T.1.filter fun o => decide (F o)
  let Z := FL.map T.2 ++ X
  have hz : Z.Nodup := List.nodup_append.mpr ⟨List.Nodup.sublist (List.filter_sublist.map T.2) n1, n2, fun a ha b hb => n3 a (by
    obtain ⟨o, ho, rfl⟩ := List.mem_map.mp ha
    exact List.mem_map.mpr ⟨o, (List.mem_filter.mp ho).1, rfl⟩) b hb⟩
  have hout : ∀ x ∈ Z, ∀ y ∈ es, ah x y = true → F y := fun x hx y hy h => by
    rcases List.mem_append.mp hx with q | q
    · obtain ⟨o, ho, rfl⟩ := List.mem_map.mp q
      exact M.I.cl o (of_decide_eq_true (List.mem_filter.mp ho).2) y hy h
    · exact M.out x q y hy h
  have hzs : ∀ x ∈ Z, x ∈ es := fun x hx => by
    rcases List.mem_append.mp hx with q | q
    · obtain ⟨o, ho, rfl⟩ := List.mem_map.mp q
      exact hes o (List.mem_filter.mp ho).1
    · exact M.img.mem_iff.mp (List.mem_append_right _ q)
  let A0 := Z.filter fun x => !decide (F x)
  have hA0 : Anti ah es A0 := ⟨List.Nodup.sublist List.filter_sublist hz, fun a ha => hzs a (List.mem_filter.mp ha).1, fun a ha b hb => by
    obtain ⟨b1, b2⟩ := List.mem_filter.mp hb
    obtain ⟨a1, _⟩ := List.mem_filter.mp ha
    cases h : ah a b with
    | false => rfl
    | true =>
      have := hout a a1 b (hzs b b1) h
      simp [this] at b2⟩
  have hlen : X.length ≤ A0.length := by
    have e1 : Z.length = A0.length + (Z.filter fun x => decide (F x)).length := by
      show Z.length = (Z.filter fun x => !decide (F x)).length + _
      generalize Z = l
      induction l with
      | nil => rfl
      | cons x l ih =>
        rw [List.filter_cons, List.filter_cons]
        by_cases q : F x <;> simp [q, ih] <;> omega
    have e2 : (Z.filter fun x => decide (F x)).length ≤ FL.length := nodup_sub_len (List.Nodup.sublist List.filter_sublist hz) fun x hx => by
      obtain ⟨_, h2⟩ := List.mem_filter.mp hx
      exact List.mem_filter.mpr ⟨M.I.fin x (of_decide_eq_true h2), h2⟩
    have e3 : Z.length = FL.length + X.length := by
      show (FL.map T.2 ++ X).length = _
      rw [List.length_append, List.length_map]
    omega
  refine ⟨A0.take X.length, ⟨List.Nodup.sublist (List.take_sublist _ _) hA0.nd, fun a ha => hA0.sub a (List.mem_of_mem_take ha), fun a ha b hb => hA0.un a (List.mem_of_mem_take ha) b (List.mem_of_mem_take hb)⟩, ?_⟩
  rw [List.length_take]
  omega
end Fs
namespace Fs
open PySem
/-! ### the stairs keep -/
theorem getD_app {α : Type} {l m : List α} {d : α} {i : Nat} (h : i < l.length) : (l ++ m).getD i d = l.getD i d := by
  rw [List.getD_eq_getElem?_getD, List.getD_eq_getElem?_getD, List.getElem?_append_left h]
theorem getD_appR {α : Type} {l m : List α} {d : α} {i : Nat} (h : l.length ≤ i) : (l ++ m).getD i d = m.getD (i - l.length) d := by
  rw [List.getD_eq_getElem?_getD, List.getD_eq_getElem?_getD, List.getElem?_append_right h]
structure SI0 (L : Lg) (es : List Ev) (s : SS) : Prop where
  cnt : 2 * s.2.length = s.1.length * (s.1.length + 1)
  lens : ∀ i, i < s.1.length → (s.1.getD i []).length = i + 1
  num : ∀ l ∈ s.1, ∀ n ∈ l, 0 ≤ n ∧ n < s.2.length
  nd : s.1.flatten.Nodup
  chain : ∀ r ∈ s.2, r.Pairwise fun x y => ahead L x y = true
  part : s.2.flatten.Perm es
  anti : ∀ l ∈ s.1, ∀ a ∈ l, ∀ b ∈ l, ∀ x y, (rowOf s a).getLast? = some x → (rowOf s b).getLast? = some y → ahead L x y = false
theorem rowOf_mem {s : SS} {n : Int} {x : Ev} (h : x ∈ rowOf s n) : rowOf s n ∈ s.2 := by
  unfold rowOf at h ⊢
  rw [List.getD_eq_getElem?_getD] at h ⊢
  cases e : s.2[n.toNat]? with
  | none => rw [e] at h; cases h
  | some r => exact List.mem_of_getElem? e
theorem rowOf_es {L : Lg} {es : List Ev} {s : SS} (I : SI0 L es s) {n : Int} {x : Ev} (h : x ∈ rowOf s n) : x ∈ es :=
  I.part.mem_iff.mp (List.mem_flatten.mpr ⟨_, rowOf_mem h, h⟩)
theorem mem_last {l : List Ev} {x : Ev} (h : l.getLast? = some x) : x ∈ l := List.mem_of_getLast? h
theorem getD_mem {α : Type} {l : List (List α)} {i : Nat} (h : i < l.length) : l.getD i [] ∈ l := by
  rw [List.getD_eq_getElem?_getD, List.getElem?_eq_getElem h]
  exact List.getElem_mem h
theorem si_begin {L : Lg} {es : List Ev} {s : SS} (I : SI0 L es s) : SI0 L es (beginM s) := by
  have hrow : ∀ n : Int, 0 ≤ n → n < s.2.length → rowOf (beginM s) n = rowOf s n := fun n h0 h => by
    exact getD_app (by omega)
  have hbare : ∀ n : Int, (s.2.length : Int) ≤ n → rowOf (beginM s) n = [] := fun n h => by
    refine (getD_appR (by omega)).trans ?_
    rw [List.getD_eq_getElem?_getD, List.getElem?_replicate]
    split <;> rfl
  refine ⟨?_, fun i hi => ?_, fun l hl n hn => ?_, ?_, fun r hr => ?_, ?_, fun l hl a ha b hb x y hx hy => ?_⟩
  · have h := I.cnt
    unfold beginM
    simp only [List.length_append, List.length_replicate, List.length_singleton]
    rw [Nat.mul_add, h]
    generalize s.1.length = m
    simp only [Nat.add_mul, Nat.mul_add, Nat.mul_one, Nat.one_mul]
    omega
  · unfold beginM at hi ⊢
    simp only [List.length_append, List.length_singleton] at hi
    by_cases h : i < s.1.length
    · show ((s.1 ++ [_]).getD i []).length = _
      rw [getD_app h]
      exact I.lens i h
    · have : i = s.1.length := by omega
      subst this
      show ((s.1 ++ [_]).getD s.1.length []).length = _
      rw [getD_appR (Nat.le_refl _), Nat.sub_self]
      simp [upTo]
  · have hl : l ∈ s.1 ++ [_] := hl
    show 0 ≤ n ∧ n < ((s.2 ++ List.replicate (s.1.length + 1) ([] : List Ev)).length : Int)
    rw [List.length_append, List.length_replicate]
    rcases List.mem_append.mp hl with h | h
    · have := I.num l h n hn
      omega
    · rw [List.mem_singleton.mp h] at hn
      obtain ⟨i, hi, rfl⟩ := List.mem_map.mp hn
      have := mem_upTo.mp hi
      omega
  · show (s.1 ++ [_]).flatten.Nodup
    rw [List.flatten_append]
    refine List.nodup_append.mpr ⟨I.nd, ?_, fun a ha b hb q => ?_⟩
    · simp only [List.flatten_cons, List.flatten_nil, List.append_nil]
      exact List.pairwise_map.mpr (List.Pairwise.imp (fun {a b} h q => h (by omega)) (upTo_nodup _))
    · simp only [List.flatten_cons, List.flatten_nil, List.append_nil] at hb
      obtain ⟨i, hi, rfl⟩ := List.mem_map.mp hb
      have := mem_upTo.mp hi
      obtain ⟨l, hl, hal⟩ := List.mem_flatten.mp ha
      have := I.num l hl a hal
      omega
  · have hr : r ∈ s.2 ++ List.replicate (s.1.length + 1) [] := hr
    rcases List.mem_append.mp hr with h | h
    · exact I.chain r h
    · rw [List.eq_of_mem_replicate h]
      exact List.Pairwise.nil
  · show (s.2 ++ List.replicate (s.1.length + 1) []).flatten.Perm es
    rw [List.flatten_append, List.flatten_replicate_nil, List.append_nil]
    exact I.part
  · have hl : l ∈ s.1 ++ [_] := hl
    rcases List.mem_append.mp hl with h | h
    · have ha2 := I.num l h a ha
      have hb2 := I.num l h b hb
      rw [hrow a ha2.1 ha2.2] at hx
      rw [hrow b hb2.1 hb2.2] at hy
      exact I.anti l h a ha b hb x y hx hy
    · rw [List.mem_singleton.mp h] at ha
      obtain ⟨i, hi, rfl⟩ := List.mem_map.mp ha
      have := mem_upTo.mp hi
      rw [hbare _ (by omega)] at hx
      cases hx
theorem fit_nil {L : Lg} {s : SS} {k : Nat} {e : Ev} (h : fitM L s k e = []) {n : Int} (hn : n ∈ s.1.getD k []) : ∃ x, (rowOf s n).getLast? = some x ∧ ahead L x e = false := by
  unfold fitM at h
  obtain ⟨h1, h2⟩ := List.append_eq_nil_iff.mp h
  rw [List.filter_eq_nil_iff] at h1 h2
  have a1 := h1 n (mem_sortI.mpr hn)
  have a2 := h2 n (mem_sortI.mpr hn)
  cases hr : (rowOf s n).getLast? with
  | none =>
    rw [List.getLast?_eq_none_iff.mp hr] at a2
    exact absurd rfl a2
  | some x =>
    rw [hr] at a1
    refine ⟨x, rfl, ?_⟩
    cases hq : ahead L x e with
    | false => rfl
    | true => exact absurd hq a1
theorem fit_mem {L : Lg} {s : SS} {k : Nat} {e : Ev} {c : Int} (h : c ∈ fitM L s k e) : c ∈ s.1.getD k [] ∧ (rowOf s c = [] ∨ ∃ x, (rowOf s c).getLast? = some x ∧ ahead L x e = true) := by
  unfold fitM at h
  rcases List.mem_append.mp h with h | h
  · obtain ⟨h1, h2⟩ := List.mem_filter.mp h
    refine ⟨mem_sortI.mp h1, .inr ?_⟩
    cases hr : (rowOf s c).getLast? with
    | none => rw [hr] at h2; cases h2
    | some x =>
      rw [hr] at h2
      exact ⟨x, rfl, h2⟩
  · obtain ⟨h1, h2⟩ := List.mem_filter.mp h
    exact ⟨mem_sortI.mp h1, .inl (List.isEmpty_iff.mp h2)⟩
theorem two_split {α : Type} {l : List (List α)} {k : Nat} (h0 : 0 < k) (h : k < l.length) : ∃ P A B Q, l = P ++ A :: B :: Q ∧ P.length = k - 1 ∧ l.getD (k - 1) [] = A ∧ l.getD k [] = B := by
  have h1 : k - 1 < l.length := by omega
  refine ⟨l.take (k - 1), l[k - 1], l[k], l.drop (k + 1), ?_, by rw [List.length_take]; omega, by rw [List.getD_eq_getElem?_getD, List.getElem?_eq_getElem h1]; rfl, by rw [List.getD_eq_getElem?_getD, List.getElem?_eq_getElem h]; rfl⟩
  conv => lhs; rw [← List.take_append_drop (k - 1) l, List.drop_eq_getElem_cons h1]
  have e : k - 1 + 1 = k := by omega
  rw [e, List.drop_eq_getElem_cons h]
theorem two_set {α : Type} {P Q : List α} {A B X Y : α} {k : Nat} (h0 : 0 < k) (h : P.length = k - 1) : ((P ++ A :: B :: Q).set k Y).set (k - 1) X = P ++ X :: Y :: Q := by
  have e : k = P.length + 1 := by omega
  subst e
  rw [Nat.add_sub_cancel, List.set_append_right _ _ (by omega), List.set_append_right _ _ (by omega)]
  simp
theorem rowOf_move {s : SS} {k : Nat} {c n : Int} {e : Ev} (hc : 0 ≤ c ∧ c < s.2.length) (hn : 0 ≤ n) : rowOf (moveM s k c e) n = if n = c then rowOf s c ++ [e] else rowOf s n := by
  unfold moveM rowOf
  show (s.2.set c.toNat (s.2.getD c.toNat [] ++ [e])).getD n.toNat [] = _
  rw [List.getD_eq_getElem?_getD]
  by_cases h : n = c
  · subst h
    rw [if_pos rfl, List.getElem?_set_self (by omega)]
    rfl
  · rw [if_neg h, List.getElem?_set_ne (by omega), ← List.getD_eq_getElem?_getD]
theorem flat_set_perm {l : List (List Ev)} {i : Nat} {e : Ev} (h : i < l.length) : (l.set i (l.getD i [] ++ [e])).flatten.Perm (l.flatten ++ [e]) := by
  have h2 : l.getD i [] = l[i] := by rw [List.getD_eq_getElem?_getD, List.getElem?_eq_getElem h]; rfl
  have h3 : l.set i (l.getD i [] ++ [e]) = l.take i ++ (l[i] ++ [e]) :: l.drop (i + 1) := by
    rw [h2]
    exact List.set_eq_take_append_cons_drop.trans (if_pos h)
  have h4 : l.flatten = (l.take i).flatten ++ (l[i] ++ (l.drop (i + 1)).flatten) := by
    conv => lhs; rw [← List.take_append_drop i l, List.drop_eq_getElem_cons h]
    rw [List.flatten_append, List.flatten_cons]
  rw [h3, h4, List.flatten_append, List.flatten_cons, List.append_assoc, List.append_assoc, List.append_assoc]
  refine List.Perm.append_left _ (List.Perm.append_left _ ?_)
  exact List.perm_append_comm
section
variable {L : Lg} (irr : ∀ a, ahead L a a = false) (tr : ∀ a b c, ahead L a b = true → ahead L b c = true → ahead L a c = true)
include irr tr
theorem si_move {es : List Ev} {s : SS} (I : SI0 L es s) {k : Nat} {c : Int} {e : Ev} (hk : k < s.1.length) (hc : c ∈ s.1.getD k []) (hr : rowOf s c = [] ∨ ∃ x, (rowOf s c).getLast? = some x ∧ ahead L x e = true) (hf : 0 < k → fitM L s (k - 1) e = []) (hl : ∀ x ∈ es, ahead L e x = false) : SI0 L (es ++ [e]) (moveM s k c e) := by
  have hcl : s.1.getD k [] ∈ s.1 := getD_mem hk
  have hcn := I.num _ hcl c hc
  have hcn2 : c.toNat < s.2.length := by omega
  have hchain : ∀ r ∈ (moveM s k c e).2, r.Pairwise fun x y => ahead L x y = true := fun r hr2 => by
    have hr2 : r ∈ s.2.set c.toNat (rowOf s c ++ [e]) := hr2
    rcases List.mem_or_eq_of_mem_set hr2 with h | h
    · exact I.chain r h
    · rw [h]
      refine List.pairwise_append.mpr ⟨?_, List.pairwise_singleton _ _, fun x hx y hy => ?_⟩
      · rcases hr with z | ⟨x, hx, _⟩
        · rw [z]; exact List.Pairwise.nil
        · exact I.chain _ (rowOf_mem (mem_last hx))
      · rw [List.mem_singleton.mp hy]
        rcases hr with z | ⟨w, hw, hwe⟩
        · rw [z] at hx; cases hx
        · have hch := I.chain _ (rowOf_mem (mem_last hw))
          obtain ⟨ys, hys⟩ := List.getLast?_eq_some_iff.mp hw
          rw [hys] at hch hx
          rcases List.mem_append.mp hx with q | q
          · exact tr _ _ _ ((List.pairwise_append.mp hch).2.2 x q w List.mem_cons_self) hwe
          · rw [List.mem_singleton.mp q]; exact hwe
  have hpart : (moveM s k c e).2.flatten.Perm (es ++ [e]) := by
    show (s.2.set c.toNat (s.2.getD c.toNat [] ++ [e])).flatten.Perm _
    exact (flat_set_perm hcn2).trans (I.part.append_right [e])
  have hlast : ∀ x, (rowOf s c ++ [e]).getLast? = some x → x = e := fun x h => by
    rw [List.getLast?_append] at h
    exact (Option.some.inj h).symm
  -- lists without c keep their lasts
  have hkeep : ∀ l : List Int, c ∉ l → (∀ n ∈ l, 0 ≤ n) → (∀ a ∈ l, ∀ b ∈ l, ∀ x y, (rowOf s a).getLast? = some x → (rowOf s b).getLast? = some y → ahead L x y = false) → ∀ a ∈ l, ∀ b ∈ l, ∀ x y, (rowOf (moveM s k c e) a).getLast? = some x → (rowOf (moveM s k c e) b).getLast? = some y → ahead L x y = false := fun l h1 h2 h3 a ha b hb x y hx hy => by
    rw [rowOf_move hcn (h2 a ha), if_neg fun z : a = c => h1 (z ▸ ha)] at hx
    rw [rowOf_move hcn (h2 b hb), if_neg fun z : b = c => h1 (z ▸ hb)] at hy
    exact h3 a ha b hb x y hx hy
  have h2l : (moveM s k c e).2.length = s.2.length := List.length_set
  by_cases h0 : k = 0
  · subst h0
    have e1 : (moveM s 0 c e).1 = s.1 := rfl
    obtain ⟨A, Q, hs⟩ : ∃ A Q, s.1 = A :: Q := by
      cases q : s.1 with
      | nil => rw [q] at hk; exact absurd hk (Nat.not_lt_zero _)
      | cons A Q => exact ⟨A, Q, rfl⟩
    have hA : A = [c] := by
      have h := I.lens 0 hk
      rw [hs] at h hc
      replace h : A.length = 1 := h
      replace hc : c ∈ A := hc
      obtain ⟨d, rfl⟩ := List.length_eq_one_iff.mp h
      rw [List.mem_singleton.mp hc]
    refine ⟨by rw [h2l, e1]; exact I.cnt, fun i hi => by rw [e1] at hi ⊢; exact I.lens i hi, fun l hl2 => by rw [e1] at hl2; rw [h2l]; exact I.num l hl2, by rw [e1]; exact I.nd, hchain, hpart, fun l hl2 => ?_⟩
    rw [e1] at hl2
    have hl3 := hl2
    rw [hs] at hl3
    rcases List.mem_cons.mp hl3 with z | z
    · rw [z, hA]
      intro a ha b hb x y hx hy
      rw [List.mem_singleton.mp ha, rowOf_move hcn hcn.1, if_pos rfl] at hx
      rw [List.mem_singleton.mp hb, rowOf_move hcn hcn.1, if_pos rfl] at hy
      rw [hlast x hx, hlast y hy]
      exact irr e
    · refine hkeep l (fun hcl2 => ?_) (fun n hn => (I.num l hl2 n hn).1) (I.anti l hl2)
      have nd := I.nd
      rw [hs, hA, List.flatten_cons] at nd
      exact (List.nodup_append.mp nd).2.2 c List.mem_cons_self c (List.mem_flatten.mpr ⟨l, z, hcl2⟩) rfl
  · have h0 : 0 < k := Nat.pos_of_ne_zero h0
    obtain ⟨P, A, B, Q, hs, hP, hA, hB⟩ := two_split h0 hk
    have e1 : (moveM s k c e).1 = P ++ (B.filter fun n => !decide (n = c)) :: (c :: A) :: Q := by
      show (if k = 0 then s.1 else (s.1.set k (c :: s.1.getD (k - 1) [])).set (k - 1) ((s.1.getD k []).filter fun n => !decide (n = c))) = _
      rw [if_neg (by omega), hA, hB]
      conv => lhs; rw [hs]
      exact two_set h0 hP
    rw [hB] at hc
    have nd := I.nd
    rw [hs] at nd
    rw [List.flatten_append, List.flatten_cons, List.flatten_cons] at nd
    obtain ⟨n1, n2, n3⟩ := List.nodup_append.mp nd
    obtain ⟨n4, n5, n6⟩ := List.nodup_append.mp n2
    obtain ⟨n7, n8, n9⟩ := List.nodup_append.mp n5
    have hAm : A ∈ s.1 := by rw [hs]; simp
    have hBm : B ∈ s.1 := by rw [hs]; simp
    have hcA : c ∉ A := fun z => n6 c z c (List.mem_append_left _ hc) rfl
    have hBl : B.length = k + 1 := by rw [← hB]; exact I.lens k hk
    have hAl : A.length = k := by
      have := I.lens (k - 1) (by omega)
      rw [hA] at this
      omega
    have hBf : (B.filter fun n => !decide (n = c)) = B.erase c := by
      rw [List.Nodup.erase_eq_filter n7]
      apply List.filter_congr
      intro x _
      by_cases q : x = c <;> simp [q]
    have hBfl : (B.filter fun n => !decide (n = c)).length = k := by
      rw [hBf, List.length_erase_of_mem hc, hBl]
      omega
    refine ⟨?_, fun i hi => ?_, fun l hl2 n hn => ?_, ?_, hchain, hpart, fun l hl2 => ?_⟩
    · rw [h2l, I.cnt, e1, hs]
      simp only [List.length_append, List.length_cons]
    · have hi2 : i < s.1.length := by
        rw [e1] at hi
        rw [hs]
        simpa only [List.length_append, List.length_cons] using hi
      have hil := I.lens i hi2
      rw [e1]
      rw [hs] at hil
      by_cases c1 : i < P.length
      · rw [getD_app c1] at hil ⊢
        exact hil
      · rw [getD_appR (by omega)] at hil ⊢
        rcases Nat.lt_or_ge (i - P.length) 2 with c2 | c2
        · by_cases c3 : i - P.length = 0
          · rw [c3]
            show (B.filter fun n => !decide (n = c)).length = _
            omega
          · have c4 : i - P.length = 1 := by omega
            rw [c4]
            show (c :: A).length = _
            rw [List.length_cons]
            omega
        · obtain ⟨j, hj⟩ : ∃ j, i - P.length = j + 2 := ⟨i - P.length - 2, by omega⟩
          rw [hj] at hil ⊢
          exact hil
    · rw [h2l]
      rw [e1] at hl2
      rcases List.mem_append.mp hl2 with z | z
      · exact I.num l (by rw [hs]; exact List.mem_append_left _ z) n hn
      · rcases List.mem_cons.mp z with z | z
        · rw [z] at hn
          exact I.num B hBm n (List.mem_filter.mp hn).1
        · rcases List.mem_cons.mp z with z | z
          · rw [z] at hn
            rcases List.mem_cons.mp hn with q | q
            · rw [q]; exact hcn
            · exact I.num A hAm n q
          · exact I.num l (by rw [hs]; simp [z]) n hn
    · rw [e1, hBf]
      have p : (P ++ B.erase c :: (c :: A) :: Q).flatten.Perm s.1.flatten := by
        rw [hs, List.flatten_append, List.flatten_append, List.flatten_cons, List.flatten_cons, List.flatten_cons, List.flatten_cons]
        refine List.Perm.append_left _ ?_
        rw [← List.append_assoc, ← List.append_assoc]
        refine List.Perm.append_right _ ?_
        have p1 : (B.erase c ++ c :: A).Perm (c :: (B.erase c ++ A)) := List.perm_middle
        have p2 : (c :: (B.erase c ++ A)).Perm (B ++ A) := ((List.perm_cons_erase hc).symm).append_right A
        exact (p1.trans p2).trans List.perm_append_comm
      exact p.nodup_iff.mpr I.nd
    · rw [e1] at hl2
      have other : l ∈ P ∨ l ∈ Q → ∀ a ∈ l, ∀ b ∈ l, ∀ x y, (rowOf (moveM s k c e) a).getLast? = some x → (rowOf (moveM s k c e) b).getLast? = some y → ahead L x y = false := fun hPQ => by
        have hm : l ∈ s.1 := by rw [hs]; rcases hPQ with z | z <;> simp [z]
        refine hkeep l (fun hcl2 => ?_) (fun n hn => (I.num l hm n hn).1) (I.anti l hm)
        rcases hPQ with z | z
        · exact n3 c (List.mem_flatten.mpr ⟨l, z, hcl2⟩) c (List.mem_append_right _ (List.mem_append_left _ hc)) rfl
        · exact n9 c hc c (List.mem_flatten.mpr ⟨l, z, hcl2⟩) rfl
      rcases List.mem_append.mp hl2 with z | z
      · exact other (.inl z)
      · rcases List.mem_cons.mp z with z | z
        · subst z
          refine hkeep _ (fun q => ?_) (fun n hn => (I.num B hBm n (List.mem_filter.mp hn).1).1) fun a ha b hb => I.anti B hBm a (List.mem_filter.mp ha).1 b (List.mem_filter.mp hb).1
          have := (List.mem_filter.mp q).2
          simp at this
        · rcases List.mem_cons.mp z with z | z
          · subst z
            intro a ha b hb x y hx hy
            have h0n : ∀ n ∈ c :: A, 0 ≤ n := fun n hn => by
              rcases List.mem_cons.mp hn with q | q
              · rw [q]; exact hcn.1
              · exact (I.num A hAm n q).1
            rw [rowOf_move hcn (h0n a ha)] at hx
            rw [rowOf_move hcn (h0n b hb)] at hy
            by_cases qa : a = c
            · rw [if_pos qa] at hx
              rw [hlast x hx]
              by_cases qb : b = c
              · rw [if_pos qb] at hy
                rw [hlast y hy]
                exact irr e
              · rw [if_neg qb] at hy
                exact hl y (rowOf_es I (mem_last hy))
            · rw [if_neg qa] at hx
              have ha2 : a ∈ A := (List.mem_cons.mp ha).resolve_left qa
              by_cases qb : b = c
              · rw [if_pos qb] at hy
                rw [hlast y hy]
                obtain ⟨w, hw, hwe⟩ := fit_nil (hf h0) (n := a) (by rw [hA]; exact ha2)
                rw [hw] at hx
                rw [← Option.some.inj hx]
                exact hwe
              · rw [if_neg qb] at hy
                exact I.anti A hAm a ha2 b ((List.mem_cons.mp hb).resolve_left qb) x y hx hy
          · exact other (.inr z)
end
end Fs
namespace Fs
open PySem
theorem snoc_ind {α : Type} {P : List α → Prop} (h0 : P []) (h1 : ∀ l x, P l → P (l ++ [x])) : ∀ l, P l := by
  have key : ∀ n l, l.length = n → P l := by
    intro n
    induction n with
    | zero => intro l h; rw [List.length_eq_zero_iff.mp h]; exact h0
    | succ n ih =>
      intro l h
      rcases List.eq_nil_or_concat l with q | ⟨m, x, q⟩
      · rw [q] at h; cases h
      · rw [List.concat_eq_append] at q
        rw [q]
        refine h1 m x (ih m ?_)
        rw [q, List.length_append, List.length_singleton] at h
        omega
  exact fun l => key _ l rfl
theorem begin_step {s : SS} : (beginM s).1.getD s.1.length [] = (upTo (s.1.length + 1)).map fun i => (s.2.length : Int) + i := by
  refine (getD_appR (Nat.le_refl _)).trans ?_
  rw [Nat.sub_self]
  rfl
theorem begin_bare {s : SS} {n : Int} (h : (s.2.length : Int) ≤ n) : rowOf (beginM s) n = [] := by
  refine (getD_appR (by omega)).trans ?_
  rw [List.getD_eq_getElem?_getD, List.getElem?_replicate]
  split <;> rfl
theorem begin_row {s : SS} {n : Int} (h0 : 0 ≤ n) (h : n < s.2.length) : rowOf (beginM s) n = rowOf s n := getD_app (by omega)
theorem begin_fits (L : Lg) (s : SS) (e : Ev) : fitM L (beginM s) s.1.length e ≠ [] := fun h => by
  have hm : (s.2.length : Int) ∈ (beginM s).1.getD s.1.length [] := by
    rw [begin_step]
    exact List.mem_map.mpr ⟨0, mem_upTo.mpr ⟨Int.le_refl _, by omega⟩, by omega⟩
  obtain ⟨x, hx, _⟩ := fit_nil h hm
  rw [begin_bare (Int.le_refl _)] at hx
  cases hx
theorem fit_begin {L : Lg} {es : List Ev} {s : SS} (I : SI0 L es s) {j : Nat} (hj : j < s.1.length) (e : Ev) : fitM L (beginM s) j e = fitM L s j e := by
  have e1 : (beginM s).1.getD j [] = s.1.getD j [] := getD_app hj
  have hr : ∀ n ∈ sortI (s.1.getD j []), rowOf (beginM s) n = rowOf s n := fun n hn => by
    have := I.num _ (getD_mem hj) n (mem_sortI.mp hn)
    exact begin_row this.1 this.2
  unfold fitM
  rw [e1]
  congr 1
  · exact List.filter_congr fun n hn => by rw [hr n hn]
  · exact List.filter_congr fun n hn => by rw [hr n hn]
theorem step_spec {L : Lg} {es : List Ev} {s : SS} (I : SI0 L es s) (e : Ev) : ∀ f k, k ≤ s.1.length → s.1.length < k + f → (∀ j < k, fitM L s j e = []) →
    (stepM L e f s k).2 ≤ s.1.length ∧ (stepM L e f s k).1 = openM s (stepM L e f s k).2 ∧ (∀ j < (stepM L e f s k).2, fitM L s j e = []) ∧ fitM L (stepM L e f s k).1 (stepM L e f s k).2 e ≠ []
  | 0, k, h1, h2, h3 => absurd h2 (by omega)
  | f + 1, k, h1, h2, h3 => by
    unfold stepM
    by_cases h : fitM L (openM s k) k e = []
    · rw [if_pos h]
      have hk : k ≠ s.1.length := fun z => by
        unfold openM at h
        rw [if_pos z, z] at h
        exact begin_fits L s e h
      have ho : openM s k = s := if_neg hk
      rw [ho] at h ⊢
      exact step_spec I e f (k + 1) (by omega) (by omega) fun j hj => by
        by_cases q : j = k
        · rw [q]; exact h
        · exact h3 j (by omega)
    · rw [if_neg h]
      exact ⟨h1, rfl, h3, h⟩
theorem row_apart {L : Lg} {es : List Ev} {s : SS} (I : SI0 L es s) (nd : es.Nodup) {a b : Int} (ha : 0 ≤ a) (hb : 0 ≤ b) {x : Ev} (hx : x ∈ rowOf s a) (hy : x ∈ rowOf s b) : a = b := by
  have h := (List.pairwise_flatten.mp (I.part.nodup_iff.mpr nd)).2
  rw [List.pairwise_iff_getElem] at h
  have len : ∀ {n : Int}, x ∈ rowOf s n → ∃ hn : n.toNat < s.2.length, x ∈ s.2[n.toNat] := fun {n} hn => by
    unfold rowOf at hn
    rw [List.getD_eq_getElem?_getD] at hn
    by_cases q : n.toNat < s.2.length
    · rw [List.getElem?_eq_getElem q] at hn
      exact ⟨q, hn⟩
    · rw [List.getElem?_eq_none (by omega)] at hn
      cases hn
  obtain ⟨l1, m1⟩ := len hx
  obtain ⟨l2, m2⟩ := len hy
  rcases Nat.lt_trichotomy a.toNat b.toNat with q | q | q
  · exact absurd rfl (h _ _ l1 l2 q x m1 x m2)
  · omega
  · exact absurd rfl (h _ _ l2 l1 q x m2 x m1)
theorem anti_mono {ah : Ev → Ev → Bool} {es fs A : List Ev} (h : ∀ x ∈ es, x ∈ fs) (H : Anti ah es A) : Anti ah fs A := ⟨H.nd, fun a ha => h a (H.sub a ha), H.un⟩
/-- what a put does -/
structure PutS (L : Lg) (es : List Ev) (s : SS) (e : Ev) (k : Nat) (c : Int) : Prop where
  eq : putM L s e = (moveM (openM s k) k c e, c, k + 1)
  st : (stepM L e 20 s 0).1 = openM s k
  kl : k ≤ s.1.length
  cm : c ∈ (openM s k).1.getD k []
  row : rowOf (openM s k) c = [] ∨ ∃ x, (rowOf (openM s k) c).getLast? = some x ∧ ahead L x e = true
  I : SI0 L (es ++ [e]) (moveM (openM s k) k c e)
  ml : (moveM (openM s k) k c e).1.length = (openM s k).1.length
theorem open_si {L : Lg} {es : List Ev} {s : SS} (I : SI0 L es s) (k : Nat) : SI0 L es (openM s k) := by
  unfold openM
  split
  · exact si_begin I
  · exact I
theorem open_lt {s : SS} {k : Nat} (h : k ≤ s.1.length) : k < (openM s k).1.length ∧ (openM s k).1.length = if k = s.1.length then s.1.length + 1 else s.1.length := by
  unfold openM
  by_cases q : k = s.1.length
  · rw [if_pos q, if_pos q]
    unfold beginM
    rw [List.length_append, List.length_singleton]
    omega
  · rw [if_neg q, if_neg q]
    omega
theorem move_len {s : SS} {k : Nat} {c : Int} {e : Ev} : (moveM s k c e).1.length = s.1.length := by
  unfold moveM
  split
  · rfl
  · simp only [List.length_set]
section
variable {L : Lg} (irr : ∀ a, ahead L a a = false) (tr : ∀ a b c, ahead L a b = true → ahead L b c = true → ahead L a c = true)
include irr tr
theorem si_put {es : List Ev} {s : SS} (I : SI0 L es s) (hm : s.1.length ≤ 10) {e : Ev} (hl : ∀ x ∈ es, ahead L e x = false) : ∃ k c, PutS L es s e k c ∧ ∀ j < k, fitM L s j e = [] := by
  obtain ⟨a1, a2, a3, a4⟩ := step_spec I e 20 0 (Nat.zero_le _) (by omega) fun j hj => absurd hj (Nat.not_lt_zero _)
  generalize hr : stepM L e 20 s 0 = r at a1 a2 a3 a4
  obtain ⟨s1, k⟩ := r
  replace a1 : k ≤ s.1.length := a1
  replace a2 : s1 = openM s k := a2
  replace a3 : ∀ j < k, fitM L s j e = [] := a3
  replace a4 : fitM L s1 k e ≠ [] := a4
  subst a2
  obtain ⟨c, cs, hc⟩ : ∃ c cs, fitM L (openM s k) k e = c :: cs := by
    cases q : fitM L (openM s k) k e with
    | nil => exact absurd q a4
    | cons c cs => exact ⟨c, cs, rfl⟩
  have hcm : c ∈ fitM L (openM s k) k e := by rw [hc]; exact List.mem_cons_self
  obtain ⟨b1, b2⟩ := fit_mem hcm
  have hf : 0 < k → fitM L (openM s k) (k - 1) e = [] := fun h0 => by
    have z := a3 (k - 1) (by omega)
    unfold openM
    split
    · rw [fit_begin I (by omega)]; exact z
    · exact z
  refine ⟨k, c, ⟨?_, by rw [hr], a1, b1, b2, si_move irr tr (open_si I k) (open_lt a1).1 b1 b2 hf hl, move_len⟩, a3⟩
  unfold putM
  rw [hr]
  show (moveM (openM s k) k ((fitM L (openM s k) k e).headD 0) e, (fitM L (openM s k) k e).headD 0, k + 1) = _
  rw [hc]
  rfl
/-- a put on a step finds that many side by side -/
theorem put_anti {es : List Ev} {s : SS} (I : SI0 L es s) (nd : (es ++ [e]).Nodup) (hl : ∀ x ∈ es, ahead L e x = false) {k : Nat} (hk : k ≤ s.1.length) (hf : ∀ j < k, fitM L s j e = []) : ∃ A, Anti (ahead L) (es ++ [e]) A ∧ A.length = k + 1 := by
  cases k with
  | zero => exact ⟨[e], ⟨List.nodup_cons.mpr ⟨List.not_mem_nil, List.nodup_nil⟩, fun a ha => List.mem_append_right _ ha, fun a ha b hb => by rw [List.mem_singleton.mp ha, List.mem_singleton.mp hb]; exact irr e⟩, rfl⟩
  | succ k =>
    obtain ⟨n1, _, n3⟩ := List.nodup_append.mp nd
    have hlm : s.1.getD k [] ∈ s.1 := getD_mem (by omega)
    have hlen := I.lens k (by omega)
    have hf2 := fun {n : Int} (hn : n ∈ s.1.getD k []) => fit_nil (hf k (by omega)) hn
    have hnd : (s.1.getD k []).Nodup := (List.pairwise_flatten.mp I.nd).1 _ hlm
    generalize hA : s.1.getD k [] = A at hf2 hlm hlen hnd
    have hlast : ∀ n ∈ A, (rowOf s n).getLast? = some ((rowOf s n).getLast?.getD e) ∧ (rowOf s n).getLast?.getD e ∈ es ∧ ahead L ((rowOf s n).getLast?.getD e) e = false := fun n hn => by
      obtain ⟨x, hx, h2⟩ := hf2 hn
      rw [hx]
      exact ⟨rfl, rowOf_es I (mem_last hx), h2⟩
    refine ⟨e :: A.map fun n => (rowOf s n).getLast?.getD e, ⟨List.nodup_cons.mpr ⟨fun h => ?_, ?_⟩, fun a ha => ?_, fun a ha b hb => ?_⟩, by rw [List.length_cons, List.length_map, hlen]⟩
    · obtain ⟨n, hn, q⟩ := List.mem_map.mp h
      have h2 := (hlast n hn).2.1
      rw [q] at h2
      exact n3 e h2 e List.mem_cons_self rfl
    · refine List.pairwise_map.mpr (List.Pairwise.imp_of_mem (fun {a b} ha hb q z => q ?_) hnd)
      have h1 := mem_last (hlast a ha).1
      have h2 := mem_last (hlast b hb).1
      rw [z] at h1
      exact row_apart I n1 (I.num A hlm a ha).1 (I.num A hlm b hb).1 h1 h2
    · rcases List.mem_cons.mp ha with q | q
      · rw [q]; exact List.mem_append_right _ List.mem_cons_self
      · obtain ⟨n, hn, rfl⟩ := List.mem_map.mp q
        exact List.mem_append_left _ (hlast n hn).2.1
    · rcases List.mem_cons.mp ha with q | q
      · rcases List.mem_cons.mp hb with w | w
        · rw [q, w]; exact irr e
        · obtain ⟨n, hn, rfl⟩ := List.mem_map.mp w
          rw [q]
          exact hl _ (hlast n hn).2.1
      · obtain ⟨n, hn, rfl⟩ := List.mem_map.mp q
        rcases List.mem_cons.mp hb with w | w
        · rw [w]; exact (hlast n hn).2.2
        · obtain ⟨n2, hn2, rfl⟩ := List.mem_map.mp w
          exact I.anti A hlm n hn n2 hn2 _ _ (hlast n hn).1 (hlast n2 hn2).1
/-- the stairs after es -/
structure SI (L : Lg) (es : List Ev) (s : SS) : Prop where
  I : SI0 L es s
  wide : ∃ A, Anti (ahead L) es A ∧ A.length = s.1.length
def Cm (L : Lg) (es : List Ev) : Prop := es.Nodup ∧ es.Pairwise fun x y => ahead L y x = false
omit irr tr in
theorem cm_init {es : List Ev} {e : Ev} (h : Cm L (es ++ [e])) : Cm L es ∧ ∀ x ∈ es, ahead L e x = false := by
  obtain ⟨a, b, c⟩ := List.pairwise_append.mp h.2
  exact ⟨⟨(List.nodup_append.mp h.1).1, a⟩, fun x hx => c x hx e List.mem_cons_self⟩
theorem si_snoc {es : List Ev} {s : SS} (I : SI L es s) (hm : s.1.length ≤ 10) {e : Ev} (h : Cm L (es ++ [e])) : ∃ k c, PutS L es s e k c ∧ (∀ j < k, fitM L s j e = []) ∧ SI L (es ++ [e]) (putM L s e).1 ∧ ∃ A, Anti (ahead L) (es ++ [e]) A ∧ A.length = k + 1 := by
  obtain ⟨_, hl⟩ := cm_init h
  obtain ⟨k, c, p, hf⟩ := si_put irr tr I.I hm hl
  have an := put_anti irr tr I.I h.1 hl p.kl hf
  refine ⟨k, c, p, hf, ⟨by rw [p.eq]; exact p.I, ?_⟩, an⟩
  rw [p.eq]
  show ∃ A, Anti (ahead L) (es ++ [e]) A ∧ A.length = (moveM (openM s k) k c e).1.length
  rw [p.ml, (open_lt p.kl).2]
  by_cases q : k = s.1.length
  · rw [if_pos q, ← q]; exact an
  · rw [if_neg q]
    obtain ⟨A, h1, h2⟩ := I.wide
    exact ⟨A, anti_mono (fun x hx => List.mem_append_left _ hx) h1, h2⟩
theorem si_after : ∀ es, Cm L es → (∀ A, Anti (ahead L) es A → A.length ≤ 9) → SI L es (stAfter L es) := by
  refine snoc_ind (fun _ _ => ⟨⟨rfl, fun i h => absurd h (Nat.not_lt_zero _), fun l h => (by cases h), List.nodup_nil, fun r h => (by cases h), List.Perm.refl _, fun l h => (by cases h)⟩, [], ⟨List.nodup_nil, fun a h => (by cases h), fun a h => (by cases h)⟩, rfl⟩) fun es e ih h hb => ?_
  have I := ih (cm_init h).1 fun A hA => hb A (anti_mono (fun x hx => List.mem_append_left _ hx) hA)
  obtain ⟨A, h1, h2⟩ := I.wide
  have := hb A (anti_mono (fun x hx => List.mem_append_left _ hx) h1)
  obtain ⟨k, c, _, _, z, _⟩ := si_snoc irr tr I (by omega) h
  rw [stAfter_snoc]
  exact z
end
end Fs

/-! FsL: the order of coming; few steps; what must be in the end. -/
namespace Fs
open PySem

/-! ### as they come -/
section
variable {L : Lg} (W : Well L)
include W
theorem irrL (a : Ev) : ahead L a a = false := by
  cases h : ahead L a a with
  | false => rfl
  | true =>
    obtain ⟨r, hr⟩ := W.rank
    have := (ahead_rank hr (fun _ _ h => nxt_evs W h) (ahead_iff.mp h)).2.2
    omega
omit W in
theorem trL (a b c : Ev) (h1 : ahead L a b = true) (h2 : ahead L b c = true) : ahead L a c = true := ahead_iff.mpr (ahead_trans (ahead_iff.mp h1) (ahead_iff.mp h2))
theorem asymL {a b : Ev} (h : ahead L a b = true) : ahead L b a = false := by
  cases q : ahead L b a with
  | false => rfl
  | true => exact absurd (trL _ _ _ h q) (by rw [irrL W]; simp)
theorem comeF_all : ∀ (n : Nat) (ls : List Ev), ls.length = n → ls.Nodup → (∀ x ∈ ls, x ∈ evs L) → (comeF L n ls).Perm ls ∧ (comeF L n ls).Pairwise fun x y => ahead L y x = false
  | 0, ls, h, _, _ => by
    rw [List.length_eq_zero_iff.mp h]
    exact ⟨List.Perm.refl _, List.Pairwise.nil⟩
  | n + 1, ls, h, nd, hs => by
    obtain ⟨e, r, he, hm⟩ := firstOf_some W (ls := ls) (by intro z; rw [z] at h; cases h) hs fun _ _ h => nxt_evs W h
    have hmin : e ∈ firstOf L ls := by rw [he]; exact List.mem_cons_self
    obtain ⟨i1, i2⟩ := comeF_all n (ls.erase e) (by rw [List.length_erase_of_mem hm, h]; rfl) (nd.erase e) fun x hx => hs x (List.mem_of_mem_erase hx)
    unfold comeF
    rw [he]
    refine ⟨(i1.cons e).trans (List.perm_cons_erase hm).symm, List.pairwise_cons.mpr ⟨fun y hy => ?_, i2⟩⟩
    have h2 := (List.mem_filter.mp hmin).2
    cases q : ahead L y e with
    | false => rfl
    | true =>
      have : (ls.any fun o => ahead L o e) = true := List.any_eq_true.mpr ⟨y, List.mem_of_mem_erase (i1.mem_iff.mp hy), q⟩
      rw [this] at h2
      cases h2
theorem come_perm : (come L).Perm (evs L) := (comeF_all W _ _ rfl (evs_nodup W) fun _ h => h).1
theorem cm_come : Cm L (come L) := ⟨(come_perm W).nodup_iff.mpr (evs_nodup W), (comeF_all W _ _ rfl (evs_nodup W) fun _ h => h).2⟩
omit W in
theorem cm_sub {es fs : List Ev} (h : es.Sublist fs) (c : Cm L fs) : Cm L es := ⟨List.Nodup.sublist h c.1, List.Pairwise.sublist h c.2⟩
theorem cm_comeK : Cm L (comeK L) := cm_sub List.filter_sublist (cm_come W)
theorem comeK_perm : (comeK L).Perm (mks L) := by
  refine (List.perm_ext_iff_of_nodup (cm_comeK W).1 W.mknd).mpr fun x => ?_
  unfold comeK
  rw [List.mem_filter, decide_eq_true_eq, (come_perm W).mem_iff]
  exact ⟨fun h => h.2, fun h => ⟨W.mark x h, h⟩⟩

/-! ### events of one machine -/
omit W in
theorem mem_evs {n : Nm} {i : Int} : (n, i) ∈ evs L ↔ ∃ m ∈ L.1, m.1 = n ∧ 0 ≤ i ∧ i < m.2.1 := by
  constructor
  · intro h
    exact ev_name h
  · rintro ⟨m, hm, rfl, h1, h2⟩
    exact List.mem_flatMap.mpr ⟨m, hm, List.mem_map.mpr ⟨i, mem_upTo.mpr ⟨h1, by omega⟩, rfl⟩⟩
theorem evs_down {n : Nm} {i j : Int} (h : (n, j) ∈ evs L) (h0 : 0 ≤ i) (hj : i ≤ j) : (n, i) ∈ evs L := by
  obtain ⟨m, hm, e, h1, h2⟩ := mem_evs.mp h
  exact mem_evs.mpr ⟨m, hm, e, h0, by omega⟩
theorem ahead_line {n : Nm} {i : Int} (h0 : 0 ≤ i) : ∀ d : Nat, (n, i + d + 1) ∈ evs L → ahead L (n, i) (n, i + d + 1) = true
  | 0, h => ahead_iff.mpr (.one (evs_down W h h0 (by omega)) (by
      unfold nxt
      have : (n, i + 1) ∈ evs L := by simpa using h
      refine List.mem_append_left _ ?_
      show _ ∈ (if (n, i + 1) ∈ evs L then [(n, i + 1)] else [])
      rw [if_pos this]
      simp))
  | d + 1, h => by
    have h1 : (n, i + (d + 1 : Nat) + 1) ∈ evs L := h
    have h2 : (n, i + d + 1) ∈ evs L := evs_down W h1 (by omega) (by omega)
    refine ahead_iff.mpr (.more (ahead_iff.mp (ahead_line h0 d h2)) ?_)
    unfold nxt
    have e : i + d + 1 + 1 = i + (d + 1 : Nat) + 1 := by omega
    refine List.mem_append_left _ ?_
    show _ ∈ (if (n, i + d + 1 + 1) ∈ evs L then [(n, i + d + 1 + 1)] else [])
    rw [e, if_pos h1]
    simp
theorem ahead_lt {n : Nm} {i j : Int} (h0 : 0 ≤ i) (hij : i < j) (h : (n, j) ∈ evs L) : ahead L (n, i) (n, j) = true := by
  have e : j = i + ((j - i - 1).toNat : Nat) + 1 := by omega
  rw [e] at h ⊢
  exact ahead_line W h0 _ h
theorem evs_pos {e : Ev} (h : e ∈ evs L) : 0 ≤ e.2 := by
  obtain ⟨_, _, _, h1, _⟩ := ev_name h
  exact h1
/-- side by side: at most one of each machine -/
theorem anti_few {A : List Ev} (h : Anti (ahead L) (evs L) A) : A.length ≤ L.1.length := by
  have := nodup_sub_len (A := A.map (·.1)) (B := L.1.map (·.1)) (List.pairwise_map.mpr (List.Pairwise.imp_of_mem (fun {a b} ha hb q z => q ?_) h.nd)) fun x hx => by
    obtain ⟨a, ha, rfl⟩ := List.mem_map.mp hx
    obtain ⟨m, hm, e, _⟩ := ev_name (h.sub a ha)
    exact List.mem_map.mpr ⟨m, hm, e⟩
  · have h1 := h.sub a ha
    have h2 := h.sub b hb
    have p1 := evs_pos W h1
    have p2 := evs_pos W h2
    obtain ⟨an, ai⟩ := a
    obtain ⟨bn, bi⟩ := b
    have z : an = bn := z
    subst z
    rcases Int.lt_trichotomy ai bi with q | q | q
    · have := ahead_lt W p1 q h2
      rw [h.un _ ha _ hb] at this
      cases this
    · rw [q]
    · have := ahead_lt W p2 q h1
      rw [h.un _ hb _ ha] at this
      cases this
  · rwa [List.length_map, List.length_map] at this
end

/-! ### the stairs are well -/
structure Few (L : Lg) : Prop where
  w : Well L
  five : L.1.length ≤ 5
  ev : (evs L).length ≤ 16
  mkd : (mks L).length ≤ 12
section
variable {L : Lg} (F : Few L)
include F
theorem anti5 {A : List Ev} {es : List Ev} (hes : ∀ x ∈ es, x ∈ evs L) (h : Anti (ahead L) es A) : A.length ≤ 5 := Nat.le_trans (anti_few F.w (anti_mono hes h)) F.five
theorem si_of {es : List Ev} (h : es.Sublist (come L)) : SI L es (stAfter L es) :=
  si_after (irrL F.w) trL es (cm_sub h (cm_come F.w)) fun A hA => Nat.le_trans (anti5 F (fun x hx => come_sub (h.subset hx)) hA) (by omega)
theorem si_len {es : List Ev} (h : es.Sublist (come L)) : (stAfter L es).1.length ≤ 5 := by
  obtain ⟨A, h1, h2⟩ := (si_of F h).wide
  rw [← h2]
  exact anti5 F (fun x hx => come_sub (h.subset hx)) h1
theorem si_put_of {es : List Ev} {e : Ev} (h : (es ++ [e]).Sublist (come L)) : ∃ k c, PutS L es (stAfter L es) e k c ∧ (∀ j < k, fitM L (stAfter L es) j e = []) ∧ SI L (es ++ [e]) (stAfter L (es ++ [e])) ∧ ∃ A, Anti (ahead L) (es ++ [e]) A ∧ A.length = k + 1 := by
  have hs : es.Sublist (come L) := (List.sublist_append_left _ _).trans h
  rw [stAfter_snoc]
  exact si_snoc (irrL F.w) trL (si_of F hs) (Nat.le_trans (si_len F hs) (by omega)) (cm_sub h (cm_come F.w))
omit F in
theorem comeK_sub (L : Lg) : (comeK L).Sublist (come L) := List.filter_sublist
theorem stOk_of : StOk L := by
  refine ⟨fun pre post h => ?_, fun pre e post h => ?_⟩
  · have hs : pre.Sublist (come L) := List.Sublist.trans (by rw [h]; exact List.sublist_append_left _ _) (comeK_sub L)
    have I := si_of F hs
    have h5 := si_len F hs
    refine ⟨?_, by omega, I.I.num, fun r hr => ?_, fun l hl => ?_⟩
    · have c := I.I.cnt
      unfold firstN
      rw [Int.fdiv_eq_ediv_of_nonneg _ (by decide)]
      generalize (stAfter L pre).1.length = m at c
      generalize (stAfter L pre).2.length = n at c
      have : ((m : Int) * (m + 1)) = 2 * n := by
        have := congrArg (Nat.cast (R := Int)) c
        push_cast at this
        omega
      rw [this]
      omega
    · have h1 : r.length ≤ (stAfter L pre).2.flatten.length := (List.sublist_flatten_of_mem hr).length_le
      rw [I.I.part.length_eq] at h1
      have h2 := hs.length_le
      rw [(come_perm F.w).length_eq] at h2
      have := F.ev
      omega
    · obtain ⟨i, hi, rfl⟩ := List.getElem_of_mem hl
      have := I.I.lens i hi
      rw [List.getD_eq_getElem?_getD, List.getElem?_eq_getElem hi] at this
      have : (stAfter L pre).1[i].length = i + 1 := this
      omega
  · have hs : (pre ++ [e]).Sublist (come L) := List.Sublist.trans (by rw [h]; simp) (comeK_sub L)
    obtain ⟨k, c, p, _, _⟩ := si_put_of F hs
    rw [p.st]
    have h5 := si_len F ((List.sublist_append_left _ _).trans hs)
    have := (open_lt p.kl).2
    split at this <;> omega
end

/-! ### rows and what has not come yet -/
def lastsOf (rows : List (List Ev)) : List Ev := rows.filterMap List.getLast?
/-- a set of last ones and one of new ones, side by side -/
structure Par (L : Lg) (rows : List (List Ev)) (new A B : List Ev) : Prop where
  an : A.Nodup
  asub : ∀ a ∈ A, ∃ r ∈ rows, r.getLast? = some a
  bn : B.Nodup
  bsub : ∀ b ∈ B, b ∈ new
  ab : ∀ a ∈ A, ∀ b ∈ B, ahead L a b = false
  bb : ∀ a ∈ B, ∀ b ∈ B, ahead L a b = false
structure RowsN (L : Lg) (rows : List (List Ev)) (new : List Ev) : Prop where
  bare : ∀ r ∈ rows, r ≠ []
  nd : rows.flatten.Nodup
  nnd : new.Nodup
  nb : ∀ x ∈ new, x.1 ≠ bareN
  few : rows.length + new.length ≤ 30
section
variable {L : Lg} {rows : List (List Ev)} {new : List Ev} (W : Well L) (N : RowsN L rows new)
theorem elderE_len (rows : List (List Ev)) : (elderE rows).length = rows.length := by
  unfold elderE
  rw [List.length_map, upTo_length]
theorem mem_elderE {rows : List (List Ev)} {x : Ev} : x ∈ elderE rows ↔ x.1 = bareN ∧ 0 ≤ x.2 ∧ x.2 < rows.length := by
  unfold elderE
  rw [List.mem_map]
  constructor
  · rintro ⟨i, hi, rfl⟩
    exact ⟨rfl, mem_upTo.mp hi⟩
  · rintro ⟨h1, h2⟩
    exact ⟨x.2, mem_upTo.mpr h2, by rw [← h1]⟩
include N in
theorem pn_nodup : (elderE rows ++ new).Nodup := List.nodup_append.mpr ⟨List.pairwise_map.mpr (List.Pairwise.imp (fun {a b} h e => h (congrArg Prod.snd e)) (upTo_nodup _)), N.nnd, fun a ha b hb q => N.nb b hb (by rw [← q]; exact (mem_elderE.mp ha).1)⟩
include N in
theorem pn_len : (elderE rows ++ new).length ≤ 30 := by
  rw [List.length_append, elderE_len]
  exact N.few
theorem gah_bare {a b : Ev} (h : b.1 = bareN) : gah L rows a b = false := by
  unfold gah
  rw [if_pos (.inr h), h]
  simp
theorem gah_row {a b : Ev} (h : a.1 = bareN) (hb : b.1 ≠ bareN) : gah L rows a b = openB L (rows.getD a.2.toNat []) b := by
  unfold gah
  rw [if_pos (.inl h)]
  simp [hb]
theorem gah_new {a b : Ev} (h : a.1 ≠ bareN) (hb : b.1 ≠ bareN) : gah L rows a b = ahead L a b := by
  unfold gah
  rw [if_neg (by simp [h, hb])]
theorem gah_tr (a b c : Ev) (h1 : gah L rows a b = true) (h2 : gah L rows b c = true) : gah L rows a c = true := by
  have hb : b.1 ≠ bareN := fun z => by rw [gah_bare z] at h1; cases h1
  have hc : c.1 ≠ bareN := fun z => by rw [gah_bare z] at h2; cases h2
  rw [gah_new hb hc] at h2
  by_cases ha : a.1 = bareN
  · rw [gah_row ha hb] at h1
    rw [gah_row ha hc]
    unfold openB at h1 ⊢
    cases q : (rows.getD a.2.toNat []).getLast? with
    | none => rfl
    | some x =>
      rw [q] at h1
      exact trL _ _ _ h1 h2
  · rw [gah_new ha hb] at h1
    rw [gah_new ha hc]
    exact trL _ _ _ h1 h2
include N
theorem last_row {i j : Nat} {a : Ev} (hi : i < rows.length) (hj : j < rows.length) (h1 : rows[i].getLast? = some a) (h2 : rows[j].getLast? = some a) : i = j := by
  have h := (List.pairwise_flatten.mp N.nd).2
  rw [List.pairwise_iff_getElem] at h
  rcases Nat.lt_trichotomy i j with q | q | q
  · exact absurd rfl (h _ _ hi hj q a (mem_last h1) a (mem_last h2))
  · exact q
  · exact absurd rfl (h _ _ hj hi q a (mem_last h2) a (mem_last h1))
theorem par_le {A B : List Ev} (P : Par L rows new A B) : ((A.length + B.length : Nat) : Int) ≤ widthM (gah L rows) (elderE rows ++ new) := by
  have key : ∀ a : Ev, ∃ i : Nat, a ∈ A → ∃ h : i < rows.length, rows[i].getLast? = some a := fun a => by
    by_cases ha : a ∈ A
    · obtain ⟨r, hr, h⟩ := P.asub a ha
      obtain ⟨i, hi, rfl⟩ := List.getElem_of_mem hr
      exact ⟨i, fun _ => ⟨hi, h⟩⟩
    · exact ⟨0, fun h => absurd h ha⟩
  obtain ⟨ix, hix⟩ := Classical.axiomOfChoice key
  have h := width_ge (ah := gah L rows) (A := A.map (fun a => ((bareN, (ix a : Int)) : Ev)) ++ B) (pn_len N) (pn_nodup N) (fun a b c _ _ _ => gah_tr a b c) ⟨?_, ?_, ?_⟩
  · rw [List.length_append, List.length_map] at h
    exact h
  · refine List.nodup_append.mpr ⟨List.pairwise_map.mpr (List.Pairwise.imp_of_mem (fun {a b} ha hb q z => q ?_) P.an), P.bn, fun a ha b hb q => ?_⟩
    · obtain ⟨x, hx, rfl⟩ := List.mem_map.mp ha
      exact N.nb b (P.bsub b hb) (by rw [← q])
    · obtain ⟨i1, i2⟩ := hix a ha
      obtain ⟨j1, j2⟩ := hix b hb
      have z : (ix a : Int) = ix b := congrArg Prod.snd z
      have z : ix a = ix b := by omega
      have : rows[ix a] = rows[ix b] := by congr 1
      rw [this, j2] at i2
      exact (Option.some.inj i2).symm
  · intro a ha
    rcases List.mem_append.mp ha with q | q
    · obtain ⟨x, hx, rfl⟩ := List.mem_map.mp q
      obtain ⟨i1, _⟩ := hix x hx
      exact List.mem_append_left _ (mem_elderE.mpr ⟨rfl, Int.natCast_nonneg _, by show (ix x : Int) < _; omega⟩)
    · exact List.mem_append_right _ (P.bsub a q)
  · intro a ha b hb
    rcases List.mem_append.mp hb with q | q
    · obtain ⟨x, hx, rfl⟩ := List.mem_map.mp q
      exact gah_bare rfl
    · have hbn := N.nb b (P.bsub b q)
      rcases List.mem_append.mp ha with w | w
      · obtain ⟨x, hx, rfl⟩ := List.mem_map.mp w
        rw [gah_row rfl hbn]
        obtain ⟨i1, i2⟩ := hix x hx
        have e : rows.getD (ix x : Int).toNat [] = rows[ix x] := by
          rw [Int.toNat_natCast, List.getD_eq_getElem?_getD, List.getElem?_eq_getElem i1]
          rfl
        show openB L (rows.getD (ix x : Int).toNat []) b = false
        unfold openB
        rw [e, i2]
        exact P.ab x hx b q
      · rw [gah_new (N.nb a (P.bsub a w)) hbn]
        exact P.bb a w b q
theorem par_ge : ∃ A B, Par L rows new A B ∧ ((A.length + B.length : Nat) : Int) = widthM (gah L rows) (elderE rows ++ new) := by
  obtain ⟨X, H, hX⟩ := width_le (ah := gah L rows) (pn_len N) (pn_nodup N)
  have bare_of : ∀ x ∈ X, x.1 = bareN → x ∈ elderE rows := fun x hx h => by
    rcases List.mem_append.mp (H.sub x hx) with q | q
    · exact q
    · exact absurd h (N.nb x q)
  have new_of : ∀ x ∈ X, x.1 ≠ bareN → x ∈ new := fun x hx h => by
    rcases List.mem_append.mp (H.sub x hx) with q | q
    · exact absurd (mem_elderE.mp q).1 h
    · exact q
  let X1 := X.filter fun x => decide (x.1 = bareN)
  let X2 := X.filter fun x => !decide (x.1 = bareN)
  let f := fun x : Ev => ((rows.getD x.2.toNat []).getLast?).getD x
  have hf : ∀ x ∈ X1, ∃ h : x.2.toNat < rows.length, rows[x.2.toNat].getLast? = some (f x) ∧ rows.getD x.2.toNat [] = rows[x.2.toNat] := fun x hx => by
    obtain ⟨h1, h2⟩ := List.mem_filter.mp hx
    have := mem_elderE.mp (bare_of x h1 (of_decide_eq_true h2))
    have hl : x.2.toNat < rows.length := by omega
    have e : rows.getD x.2.toNat [] = rows[x.2.toNat] := by
      rw [List.getD_eq_getElem?_getD, List.getElem?_eq_getElem hl]
      rfl
    refine ⟨hl, ?_, e⟩
    have hne := N.bare _ (List.getElem_mem hl)
    show rows[x.2.toNat].getLast? = some (((rows.getD x.2.toNat []).getLast?).getD x)
    rw [e]
    cases q : rows[x.2.toNat].getLast? with
    | none => exact absurd (List.getLast?_eq_none_iff.mp q) hne
    | some y => rfl
  have hnd : (X1.map f).Nodup := List.pairwise_map.mpr (List.Pairwise.imp_of_mem (fun {a b} ha hb q z => q (by
      obtain ⟨i1, i2, _⟩ := hf a ha
      obtain ⟨j1, j2, _⟩ := hf b hb
      rw [z] at i2
      have e := last_row N i1 j1 i2 j2
      obtain ⟨a1, a2⟩ := List.mem_filter.mp ha
      obtain ⟨b1, b2⟩ := List.mem_filter.mp hb
      have a3 := mem_elderE.mp (bare_of a a1 (of_decide_eq_true a2))
      have b3 := mem_elderE.mp (bare_of b b1 (of_decide_eq_true b2))
      exact Prod.ext (a3.1.trans b3.1.symm) (by omega))) (List.Nodup.sublist List.filter_sublist H.nd))
  refine ⟨X1.map f, X2, ⟨hnd, fun a ha => ?_, List.Nodup.sublist List.filter_sublist H.nd, fun b hb => ?_, fun a ha b hb => ?_, fun a ha b hb => ?_⟩, ?_⟩
  · obtain ⟨x, hx, rfl⟩ := List.mem_map.mp ha
    obtain ⟨i1, i2, _⟩ := hf x hx
    exact ⟨_, List.getElem_mem i1, i2⟩
  · obtain ⟨h1, h2⟩ := List.mem_filter.mp hb
    exact new_of b h1 (by simpa using h2)
  · obtain ⟨x, hx, rfl⟩ := List.mem_map.mp ha
    obtain ⟨i1, i2, i3⟩ := hf x hx
    obtain ⟨h1, h2⟩ := List.mem_filter.mp hx
    obtain ⟨h3, h4⟩ := List.mem_filter.mp hb
    have := H.un x h1 b h3
    rw [gah_row (of_decide_eq_true h2) (by simpa using h4)] at this
    unfold openB at this
    rw [i3, i2] at this
    exact this
  · obtain ⟨h1, h2⟩ := List.mem_filter.mp ha
    obtain ⟨h3, h4⟩ := List.mem_filter.mp hb
    have := H.un a h1 b h3
    rwa [gah_new (by simpa using h2) (by simpa using h4)] at this
  · rw [← hX, List.length_map]
    congr 1
    show (X.filter fun x => decide (x.1 = bareN)).length + (X.filter fun x => !decide (x.1 = bareN)).length = X.length
    generalize X = l
    induction l with
    | nil => rfl
    | cons x l ih =>
      rw [List.filter_cons, List.filter_cons]
      by_cases q : x.1 = bareN <;> simp [q] <;> omega
end
end Fs

/-! FsG: the bounds hold. -/
namespace Fs
open PySem
theorem pair_mem {α : Type} {R : α → α → Prop} {l : List α} (h : l.Pairwise R) {a b : α} (ha : a ∈ l) (hb : b ∈ l) (n : a ≠ b) : R a b ∨ R b a := by
  rw [List.pairwise_iff_getElem] at h
  obtain ⟨i, hi, rfl⟩ := List.getElem_of_mem ha
  obtain ⟨j, hj, rfl⟩ := List.getElem_of_mem hb
  rcases Nat.lt_trichotomy i j with q | q | q
  · exact .inl (h i j hi hj q)
  · subst q; exact absurd rfl n
  · exact .inr (h j i hj hi q)
theorem row_same {rows : List (List Ev)} (nd : rows.flatten.Nodup) {r1 r2 : List Ev} (h1 : r1 ∈ rows) (h2 : r2 ∈ rows) {x : Ev} (x1 : x ∈ r1) (x2 : x ∈ r2) : r1 = r2 := by
  have h := (List.pairwise_flatten.mp nd).2
  rw [List.pairwise_iff_getElem] at h
  obtain ⟨i, hi, rfl⟩ := List.getElem_of_mem h1
  obtain ⟨j, hj, rfl⟩ := List.getElem_of_mem h2
  rcases Nat.lt_trichotomy i j with q | q | q
  · exact absurd rfl (h _ _ hi hj q x x1 x x2)
  · subst q; rfl
  · exact absurd rfl (h _ _ hj hi q x x2 x x1)
theorem flat_rows : ∀ l : List (List Ev), (l.filter fun r => !r.isEmpty).flatten = l.flatten
  | [] => rfl
  | r :: l => by
    cases r with
    | nil => simpa using flat_rows l
    | cons x r =>
      rw [List.filter_cons, if_pos (show (!(x :: r).isEmpty) = true from rfl), List.flatten_cons, List.flatten_cons, flat_rows l]
theorem mem_rowsM {s : SS} {r : List Ev} : r ∈ rowsM s ↔ r ∈ s.2 ∧ r ≠ [] := by
  unfold rowsM
  rw [List.mem_filter]
  cases r <;> simp
theorem last_rowsM {s : SS} {x : Ev} : (∃ r ∈ rowsM s, r.getLast? = some x) ↔ ∃ r ∈ s.2, r.getLast? = some x := by
  constructor
  · rintro ⟨r, hr, h⟩
    exact ⟨r, (mem_rowsM.mp hr).1, h⟩
  · rintro ⟨r, hr, h⟩
    exact ⟨r, mem_rowsM.mpr ⟨hr, fun z => by rw [z] at h; cases h⟩, h⟩

section
variable {L : Lg} (W : Well L)
include W
/-- what has come of a machine: the first ones -/
theorem cnt_iff : ∀ p q, come L = p ++ q → ∀ (n : Nm) (i : Int), (n, i) ∈ p ↔ (n, i) ∈ evs L ∧ i < cntN p n := by
  refine snoc_ind (fun q _ n i => ⟨fun h => absurd h List.not_mem_nil, fun h => ?_⟩) fun p e ih q hq n i => ?_
  · have h0 := evs_pos W h.1
    have h1 : i < (0 : Int) := h.2
    exact absurd h1 (by show ¬ i < 0; have : (0 : Int) ≤ i := h0; omega)
  · have hq2 : come L = p ++ e :: q := by rw [hq]; simp
    have IH := ih (e :: q) hq2
    have cm := cm_come W
    rw [hq2] at cm
    obtain ⟨c1, c2⟩ := cm
    obtain ⟨n1, n2, n3⟩ := List.nodup_append.mp c1
    have hp2 := (List.pairwise_cons.mp (List.pairwise_append.mp c2).2.1).1
    have hep : e ∉ p := fun z => n3 e z e List.mem_cons_self rfl
    have hee : e ∈ evs L := come_sub (by rw [hq2]; simp)
    obtain ⟨en, ei⟩ := e
    have h0 : 0 ≤ ei := evs_pos W hee
    have hcn : (0 : Int) ≤ cntN p en := Int.natCast_nonneg _
    have heq : ei = cntN p en := by
      rcases Int.lt_trichotomy ei (cntN p en) with z | z | z
      · exact absurd ((IH en ei).mpr ⟨hee, z⟩) hep
      · exact z
      · have hc : (en, cntN p en) ∈ evs L := evs_down W hee hcn (by omega)
        have ha := ahead_lt W hcn z hee
        have hm : (en, cntN p en) ∈ come L := (come_perm W).mem_iff.mpr hc
        rw [hq2] at hm
        rcases List.mem_append.mp hm with y | y
        · have := ((IH en _).mp y).2
          omega
        · rcases List.mem_cons.mp y with y | y
          · have : cntN p en = ei := congrArg Prod.snd y
            omega
          · rw [hp2 _ y] at ha
            cases ha
    have hcnt : cntN (p ++ [(en, ei)]) n = cntN p n + if en = n then 1 else 0 := by
      unfold cntN
      rw [List.filter_append, List.length_append]
      by_cases z : en = n <;> simp [z]
    rw [hcnt, List.mem_append, IH, List.mem_singleton]
    by_cases z : en = n
    · subst z
      rw [if_pos rfl]
      constructor
      · rintro (⟨a, b⟩ | a)
        · exact ⟨a, by omega⟩
        · rw [a]
          have : i = ei := congrArg Prod.snd a
          exact ⟨hee, by omega⟩
      · rintro ⟨a, b⟩
        by_cases y : i = ei
        · right; rw [y]
        · left; exact ⟨a, by omega⟩
    · rw [if_neg z, Int.add_zero]
      constructor
      · rintro (h | a)
        · exact h
        · exact absurd (congrArg Prod.fst a).symm z
      · exact fun h => .inl h
theorem mem_newE {p q : List Ev} (h : come L = p ++ q) {e : Ev} : e ∈ newE L (cntN p) ↔ e ∈ mks L ∧ e ∉ p := by
  unfold newE
  rw [List.mem_filter, decide_eq_true_eq]
  constructor
  · rintro ⟨a, b⟩
    refine ⟨a, fun z => ?_⟩
    have := ((cnt_iff W p q h e.1 e.2).mp z).2
    omega
  · rintro ⟨a, b⟩
    refine ⟨a, ?_⟩
    by_cases z : e.2 < cntN p e.1
    · exact absurd ((cnt_iff W p q h e.1 e.2).mpr ⟨W.mark e a, z⟩) b
    · omega
theorem newE_eq {p q p' q' : List Ev} (h : come L = p ++ q) (h' : come L = p' ++ q') (hm : ∀ e ∈ mks L, e ∈ p ↔ e ∈ p') : newE L (cntN p) = newE L (cntN p') := by
  have h1 := fun e => mem_newE W h (e := e)
  have h2 := fun e => mem_newE W h' (e := e)
  unfold newE at h1 h2 ⊢
  refine List.filter_congr fun e he => ?_
  have a := h1 e
  have b := h2 e
  rw [List.mem_filter] at a b
  rw [Bool.eq_iff_iff]
  constructor
  · intro z
    exact (b.mpr ⟨he, fun y => (a.mp ⟨he, z⟩).2 ((hm e he).mpr y)⟩).2
  · intro z
    exact (a.mpr ⟨he, fun y => (b.mp ⟨he, z⟩).2 ((hm e he).mp y)⟩).2
end

noncomputable def rowsAt (L : Lg) (p : List Ev) : List (List Ev) := rowsM (stAfter L (mksOf L p))
noncomputable def LT (L : Lg) (p : List Ev) : Int := laterM L (cntN p) (rowsAt L p)
section
variable {L : Lg} (F : Few L)
include F
omit F in
theorem mksOf_sub {p q : List Ev} (h : come L = p ++ q) : (mksOf L p).Sublist (come L) := by
  rw [h]
  exact List.Sublist.trans List.filter_sublist (List.sublist_append_left _ _)
theorem mksOf_few {p q : List Ev} (h : come L = p ++ q) : (mksOf L p).length ≤ 12 := by
  refine Nat.le_trans (nodup_sub_len (B := mks L) (cm_sub (mksOf_sub h) (cm_come F.w)).1 fun a ha => ?_) F.mkd
  exact of_decide_eq_true (List.mem_filter.mp ha).2
theorem rowsN_at {p q : List Ev} (h : come L = p ++ q) : RowsN L (rowsAt L p) (newE L (cntN p)) := by
  have I := si_of F (mksOf_sub h)
  refine ⟨fun r hr => (mem_rowsM.mp hr).2, ?_, List.Nodup.sublist List.filter_sublist F.w.mknd, fun x hx => ?_, ?_⟩
  · unfold rowsAt rowsM
    rw [flat_rows]
    exact I.I.part.nodup_iff.mpr (cm_sub (mksOf_sub h) (cm_come F.w)).1
  · exact ev_bare F.w (F.w.mark x (List.mem_filter.mp hx).1)
  · have h1 := (rows_few L (mksOf L p)).2
    have h2 := mksOf_few F h
    have h3 : (newE L (cntN p)).length ≤ (mks L).length := List.length_filter_le _ _
    have := F.mkd
    show (rowsM _).length + _ ≤ 30
    omega
omit F in
theorem LT_eq (p : List Ev) : LT L p = widthM (gah L (rowsAt L p)) (elderE (rowsAt L p) ++ newE L (cntN p)) := by
  unfold LT laterM
  omega
theorem LT_used {p q : List Ev} (h : come L = p ++ q) : ((rowsAt L p).length : Int) ≤ LT L p := by
  rw [LT_eq]
  have N := rowsN_at F h
  have := width_ge (ah := gah L (rowsAt L p)) (A := elderE (rowsAt L p)) (pn_len N) (pn_nodup N) (fun a b c _ _ _ => gah_tr a b c) ⟨(List.nodup_append.mp (pn_nodup N)).1, fun a ha => List.mem_append_left _ ha, fun a ha b hb => gah_bare (mem_elderE.mp hb).1⟩
  rwa [elderE_len] at this
theorem LT_done {p q : List Ev} (h : come L = p ++ q) (hall : ∀ e ∈ mks L, e ∈ p) : LT L p = (rowsAt L p).length := by
  refine Int.le_antisymm ?_ (LT_used F h)
  rw [LT_eq]
  have hn : newE L (cntN p) = [] := List.eq_nil_iff_forall_not_mem.mpr fun e he => by
    obtain ⟨a, b⟩ := (mem_newE F.w h).mp he
    exact b (hall e a)
  have := widthM_le (gah L (rowsAt L p)) (elderE (rowsAt L p) ++ newE L (cntN p))
  rw [hn, List.append_nil, elderE_len] at this
  rw [hn, List.append_nil]
  exact this
/-- the widest of all marked is no more than what must be -/
theorem LT_wide {p q : List Ev} (h : come L = p ++ q) : widthM (ahead L) (mks L) ≤ LT L p := by
  obtain ⟨A, H, hA⟩ := width_le (ah := ahead L) (es := mks L) (Nat.le_trans F.mkd (by decide)) F.w.mknd
  rw [← hA, LT_eq]
  have N := rowsN_at F h
  have I := si_of F (mksOf_sub h)
  have key : ∀ a : Ev, ∃ x : Ev, a ∈ A → a ∈ p → ∃ r ∈ rowsAt L p, a ∈ r ∧ r.getLast? = some x := fun a => by
    by_cases h1 : a ∈ A ∧ a ∈ p
    · have h2 : a ∈ mksOf L p := List.mem_filter.mpr ⟨h1.2, decide_eq_true (H.sub a h1.1)⟩
      obtain ⟨r, hr, har⟩ := List.mem_flatten.mp (I.I.part.mem_iff.mpr h2)
      cases q : r.getLast? with
      | none => rw [List.getLast?_eq_none_iff.mp q] at har; cases har
      | some x => exact ⟨x, fun _ _ => ⟨r, mem_rowsM.mpr ⟨hr, fun z => by rw [z] at har; cases har⟩, har, q⟩⟩
    · exact ⟨a, fun z y => absurd ⟨z, y⟩ h1⟩
  obtain ⟨f, hf⟩ := Classical.axiomOfChoice key
  have up : ∀ a ∈ A, a ∈ p → a = f a ∨ ahead L a (f a) = true := fun a ha hp => by
    obtain ⟨r, hr, har, hl⟩ := hf a ha hp
    by_cases z : a = f a
    · exact .inl z
    · right
      have ch := I.I.chain r (mem_rowsM.mp hr).1
      obtain ⟨ys, hys⟩ := List.getLast?_eq_some_iff.mp hl
      rw [hys] at ch har
      rcases List.mem_append.mp har with y | y
      · exact (List.pairwise_append.mp ch).2.2 a y _ List.mem_cons_self
      · exact absurd (List.mem_singleton.mp y) z
  have hnd : ((A.filter fun a => decide (a ∈ p)).map f).Nodup := List.pairwise_map.mpr (List.Pairwise.imp_of_mem (fun {a b} ha hb q z => by
    obtain ⟨a1, a2⟩ := List.mem_filter.mp ha
    obtain ⟨b1, b2⟩ := List.mem_filter.mp hb
    obtain ⟨r1, hr1, ha1, hl1⟩ := hf a a1 (of_decide_eq_true a2)
    obtain ⟨r2, hr2, hb2, hl2⟩ := hf b b1 (of_decide_eq_true b2)
    rw [z] at hl1
    have e := row_same N.nd hr1 hr2 (mem_last hl1) (mem_last hl2)
    subst e
    rcases pair_mem (I.I.chain _ (mem_rowsM.mp hr1).1) ha1 hb2 q with y | y
    · rw [H.un a a1 b b1] at y; cases y
    · rw [H.un b b1 a a1] at y; cases y) (List.Nodup.sublist List.filter_sublist H.nd))
  have P : Par L (rowsAt L p) (newE L (cntN p)) ((A.filter fun a => decide (a ∈ p)).map f) (A.filter fun a => !decide (a ∈ p)) := by
    refine ⟨hnd, fun x hx => ?_, List.Nodup.sublist List.filter_sublist H.nd, fun b hb => ?_, fun x hx b hb => ?_, fun a ha b hb => H.un a (List.mem_filter.mp ha).1 b (List.mem_filter.mp hb).1⟩
    · obtain ⟨a, ha, rfl⟩ := List.mem_map.mp hx
      obtain ⟨a1, a2⟩ := List.mem_filter.mp ha
      obtain ⟨r, hr, _, hl⟩ := hf a a1 (of_decide_eq_true a2)
      exact ⟨r, hr, hl⟩
    · obtain ⟨b1, b2⟩ := List.mem_filter.mp hb
      exact (mem_newE F.w h).mpr ⟨H.sub b b1, by simpa using b2⟩
    · obtain ⟨a, ha, rfl⟩ := List.mem_map.mp hx
      obtain ⟨a1, a2⟩ := List.mem_filter.mp ha
      obtain ⟨b1, _⟩ := List.mem_filter.mp hb
      cases z : ahead L (f a) b with
      | false => rfl
      | true =>
        have hab : ahead L a b = true := by
          rcases up a a1 (of_decide_eq_true a2) with y | y
          · rw [y]; exact z
          · exact trL _ _ _ y z
        rw [H.un a a1 b b1] at hab
        cases hab
  have := par_le N P
  rw [List.length_map] at this
  have e : (A.filter fun a => decide (a ∈ p)).length + (A.filter fun a => !decide (a ∈ p)).length = A.length := by
    generalize A = l
    induction l with
    | nil => rfl
    | cons x l ih =>
      rw [List.filter_cons, List.filter_cons]
      by_cases q : x ∈ p <;> simp [q] <;> omega
  rw [e] at this
  exact this
/-- a marked event more: what must be does not fall -/
theorem LT_step {p q : List Ev} {e : Ev} (h : come L = p ++ e :: q) (hm : e ∈ mks L) : LT L p ≤ LT L (p ++ [e]) := by
  have h' : come L = (p ++ [e]) ++ q := by rw [h]; simp
  have N := rowsN_at F h
  have N' := rowsN_at F h'
  rw [LT_eq, LT_eq]
  obtain ⟨A, B, P, hAB⟩ := par_ge N
  rw [← hAB]
  have es1 : mksOf L (p ++ [e]) = mksOf L p ++ [e] := by rw [mksOf_snoc, if_pos hm]
  have hsub : (mksOf L p ++ [e]).Sublist (come L) := by rw [← es1]; exact mksOf_sub h'
  obtain ⟨k, c, U, _, I', _⟩ := si_put_of F hsub
  have I := si_of F (mksOf_sub h)
  have hrow : rowsAt L (p ++ [e]) = rowsM (moveM (openM (stAfter L (mksOf L p)) k) k c e) := by
    unfold rowsAt
    rw [es1, stAfter_snoc, U.eq]
  have I1 := open_si I.I k
  generalize hs1 : openM (stAfter L (mksOf L p)) k = s1 at U hrow I1
  have hcn := I1.num _ (getD_mem (by rw [← hs1]; exact (open_lt U.kl).1)) c (by have := U.cm; rwa [hs1] at this)
  have hrw : rowOf s1 c = [] ∨ ∃ x, (rowOf s1 c).getLast? = some x ∧ ahead L x e = true := by have := U.row; rwa [hs1] at this
  have hep : e ∉ mksOf L p := fun z => by
    have := (cm_sub hsub (cm_come F.w)).1
    exact (List.nodup_append.mp this).2.2 e z e List.mem_cons_self rfl
  have sub1 : ∀ r ∈ (stAfter L (mksOf L p)).2, r ∈ s1.2 := fun r hr => by
    rw [← hs1]
    unfold openM
    split
    · exact List.mem_append_left _ hr
    · exact hr
  -- the last ones stay, but that of c
  have hlast : ∀ a, (∃ r ∈ rowsAt L p, r.getLast? = some a) → (∃ r ∈ rowsAt L (p ++ [e]), r.getLast? = some a) ∨ (rowOf s1 c).getLast? = some a := fun a ha => by
    obtain ⟨r, hr, hl⟩ := last_rowsM.mp ha
    obtain ⟨i, hi, rfl⟩ := List.getElem_of_mem (sub1 r hr)
    by_cases z : c.toNat = i
    · right
      unfold rowOf
      rw [List.getD_eq_getElem?_getD, z, List.getElem?_eq_getElem hi]
      exact hl
    · left
      rw [hrow, last_rowsM]
      refine ⟨s1.2[i], ?_, hl⟩
      show s1.2[i] ∈ s1.2.set c.toNat (rowOf s1 c ++ [e])
      exact List.mem_iff_getElem.mpr ⟨i, by rw [List.length_set]; exact hi, List.getElem_set_ne z _⟩
  have helast : ∃ r ∈ rowsAt L (p ++ [e]), r.getLast? = some e := by
    rw [hrow, last_rowsM]
    refine ⟨rowOf s1 c ++ [e], ?_, by simp⟩
    show _ ∈ s1.2.set c.toNat (rowOf s1 c ++ [e])
    exact List.mem_iff_getElem.mpr ⟨c.toNat, by rw [List.length_set]; omega, List.getElem_set_self _⟩
  have hAes : ∀ a ∈ A, a ∈ mksOf L p := fun a ha => by
    obtain ⟨r, hr, hl⟩ := P.asub a ha
    exact I.I.part.mem_iff.mp (List.mem_flatten.mpr ⟨r, (mem_rowsM.mp hr).1, mem_last hl⟩)
  have hx : ∀ a, (rowOf s1 c).getLast? = some a → ahead L a e = true := fun a ha => by
    rcases hrw with z | ⟨x, hx, hxe⟩
    · rw [z] at ha; cases ha
    · rw [hx] at ha
      rw [← Option.some.inj ha]
      exact hxe
  have hnew : ∀ b ∈ B, b ≠ e → b ∈ newE L (cntN (p ++ [e])) := fun b hb hne => by
    obtain ⟨b1, b2⟩ := (mem_newE F.w h).mp (P.bsub b hb)
    refine (mem_newE F.w h').mpr ⟨b1, fun z => ?_⟩
    rcases List.mem_append.mp z with y | y
    · exact b2 y
    · exact hne (List.mem_singleton.mp y)
  by_cases heB : e ∈ B
  · have P' : Par L (rowsAt L (p ++ [e])) (newE L (cntN (p ++ [e]))) (e :: A) (B.erase e) := by
      refine ⟨List.nodup_cons.mpr ⟨fun z => hep (hAes e z), P.an⟩, fun a ha => ?_, P.bn.erase e, fun b hb => ?_, fun a ha b hb => ?_, fun a ha b hb => P.bb a (List.mem_of_mem_erase ha) b (List.mem_of_mem_erase hb)⟩
      · rcases List.mem_cons.mp ha with z | z
        · rw [z]; exact helast
        · rcases hlast a (P.asub a z) with y | y
          · exact y
          · have := hx a y
            rw [P.ab a z e heB] at this
            cases this
      · refine hnew b (List.mem_of_mem_erase hb) fun z => ?_
        rw [z] at hb
        exact (P.bn.not_mem_erase) hb
      · rcases List.mem_cons.mp ha with z | z
        · rw [z]; exact P.bb e heB b (List.mem_of_mem_erase hb)
        · exact P.ab a z b (List.mem_of_mem_erase hb)
    have := par_le N' P'
    rw [List.length_cons, List.length_erase_of_mem heB] at this
    have := List.length_pos_of_mem heB
    omega
  · classical
    have P' : Par L (rowsAt L (p ++ [e])) (newE L (cntN (p ++ [e]))) (A.map fun a => if (rowOf s1 c).getLast? = some a then e else a) B := by
      refine ⟨List.pairwise_map.mpr (List.Pairwise.imp_of_mem (fun {a b} ha hb q z => ?_) P.an), fun a ha => ?_, P.bn, fun b hb => hnew b hb fun z => heB (z ▸ hb), fun a ha b hb => ?_, P.bb⟩
      · by_cases y1 : (rowOf s1 c).getLast? = some a
        · rw [if_pos y1] at z
          by_cases y2 : (rowOf s1 c).getLast? = some b
          · rw [y1] at y2; exact q (Option.some.inj y2)
          · rw [if_neg y2] at z
            exact hep (z ▸ hAes b hb)
        · rw [if_neg y1] at z
          by_cases y2 : (rowOf s1 c).getLast? = some b
          · rw [if_pos y2] at z
            exact hep (z ▸ hAes a ha)
          · rw [if_neg y2] at z
            exact q z
      · obtain ⟨x, hxA, rfl⟩ := List.mem_map.mp ha
        by_cases y : (rowOf s1 c).getLast? = some x
        · rw [if_pos y]; exact helast
        · rw [if_neg y]
          exact (hlast x (P.asub x hxA)).resolve_right y
      · obtain ⟨x, hxA, rfl⟩ := List.mem_map.mp ha
        by_cases y : (rowOf s1 c).getLast? = some x
        · rw [if_pos y]
          cases z : ahead L e b with
          | false => rfl
          | true =>
            have := trL _ _ _ (hx x y) z
            rw [P.ab x hxA b hb] at this
            cases this
        · rw [if_neg y]
          exact P.ab x hxA b hb
    have := par_le N' P'
    rw [List.length_map] at this
    exact this
theorem LT_skip {p q : List Ev} {e : Ev} (h : come L = p ++ e :: q) (hm : e ∉ mks L) : LT L (p ++ [e]) = LT L p ∧ rowsAt L (p ++ [e]) = rowsAt L p := by
  have h' : come L = (p ++ [e]) ++ q := by rw [h]; simp
  have es1 : mksOf L (p ++ [e]) = mksOf L p := by rw [mksOf_snoc, if_neg hm, List.append_nil]
  have er : rowsAt L (p ++ [e]) = rowsAt L p := by unfold rowsAt; rw [es1]
  refine ⟨?_, er⟩
  rw [LT_eq, LT_eq, er, newE_eq F.w h' h fun x hx => ?_]
  rw [List.mem_append, List.mem_singleton]
  exact ⟨fun z => z.elim id fun y => absurd (y ▸ hx) hm, .inl⟩
theorem LT_mono : ∀ (r p q : List Ev), come L = p ++ r ++ q → LT L p ≤ LT L (p ++ r)
  | [], p, q, h => by rw [List.append_nil]; exact Int.le_refl _
  | e :: r, p, q, h => by
    have h1 : come L = p ++ e :: (r ++ q) := by rw [h]; simp
    have e1 : p ++ e :: r = (p ++ [e]) ++ r := by simp
    rw [e1]
    have ih := LT_mono r (p ++ [e]) q (by rw [h]; simp)
    by_cases hm : e ∈ mks L
    · exact Int.le_trans (LT_step F h1 hm) ih
    · rw [(LT_skip F h1 hm).1] at ih
      exact ih
end
end Fs

/-! FsH: what is told and what it costs, side by side; the rows as the law reads them. -/
namespace Fs
open PySem
noncomputable def tellAt (L : Lg) (p : List Ev) (e : Ev) : T3 := (e, (putM L (stAfter L (mksOf L p)) e).2.1, (putM L (stAfter L (mksOf L p)) e).2.2)
noncomputable def ZF (L : Lg) : List Ev → List Ev → List (T3 × CT)
  | _, [] => []
  | p, e :: q => (if e ∈ mks L then [(tellAt L p e, costAt L (p ++ [e]) e)] else []) ++ ZF L (p ++ [e]) q
theorem ZF_snd (L : Lg) : ∀ q p, (ZF L p q).map (·.2) = costsF L p q
  | [], p => rfl
  | e :: q, p => by
    unfold ZF costsF
    rw [List.map_append, ZF_snd L q]
    congr 1
    split <;> rfl
theorem ZF_fst (L : Lg) : ∀ q p, (ZF L p q).map (·.1) = toldF L (stAfter L (mksOf L p)) (q.filter fun e => decide (e ∈ mks L))
  | [], p => rfl
  | e :: q, p => by
    unfold ZF
    rw [List.map_append, ZF_fst L q, mksOf_snoc]
    by_cases h : e ∈ mks L
    · rw [if_pos h, if_pos h, List.filter_cons, if_pos (decide_eq_true h), stAfter_snoc]
      rfl
    · rw [if_neg h, if_neg h, List.filter_cons, if_neg (by simpa using h), List.append_nil]
      rfl
theorem ZF_told (L : Lg) : (ZF L [] (come L)).map (·.1) = stairsM L := ZF_fst L (come L) []
theorem ZF_costs (L : Lg) : (ZF L [] (come L)).map (·.2) = costsM L := ZF_snd L (come L) []
theorem zip_fs {α β : Type} : ∀ l : List (α × β), (l.map (·.1)).zip (l.map (·.2)) = l
  | [] => rfl
  | x :: l => by rw [List.map_cons, List.map_cons, List.zip_cons_cons, zip_fs l]
theorem ZF_nil (L : Lg) : ∀ q p, ZF L p q = [] → ∀ x ∈ q, x ∉ mks L
  | [], p, _, x, hx => by cases hx
  | e :: q, p, h, x, hx => by
    unfold ZF at h
    obtain ⟨h1, h2⟩ := List.append_eq_nil_iff.mp h
    rcases List.mem_cons.mp hx with z | z
    · intro hm
      rw [z] at hm
      rw [if_pos hm] at h1
      cases h1
    · exact ZF_nil L q _ h2 x z
theorem ZF_split (L : Lg) : ∀ q p pre x post, ZF L p q = pre ++ x :: post → ∃ q1 e q2, q = q1 ++ e :: q2 ∧ e ∈ mks L ∧ x = (tellAt L (p ++ q1) e, costAt L (p ++ q1 ++ [e]) e) ∧ pre = ZF L p q1 ∧ post = ZF L (p ++ q1 ++ [e]) q2
  | [], p, pre, x, post, h => by
    have h : [] = pre ++ x :: post := h
    simp at h
  | a :: q, p, pre, x, post, h => by
    unfold ZF at h
    by_cases hm : a ∈ mks L
    · rw [if_pos hm] at h
      cases pre with
      | nil =>
        obtain ⟨h1, h2⟩ := List.cons_eq_cons.mp h
        exact ⟨[], a, q, rfl, hm, by rw [List.append_nil]; exact h1.symm, rfl, by rw [List.append_nil]; exact h2.symm⟩
      | cons y pre =>
        obtain ⟨h1, h2⟩ := List.cons_eq_cons.mp h
        obtain ⟨q1, e, q2, a1, a2, a3, a4, a5⟩ := ZF_split L q (p ++ [a]) pre x post h2
        have e1 : p ++ [a] ++ q1 = p ++ a :: q1 := by simp
        rw [e1] at a3 a5
        refine ⟨a :: q1, e, q2, by rw [a1]; rfl, a2, a3, ?_, a5⟩
        rw [a4, ← h1]
        show _ = (if a ∈ mks L then _ else _) ++ ZF L (p ++ [a]) q1
        rw [if_pos hm]
        rfl
    · rw [if_neg hm] at h
      obtain ⟨q1, e, q2, a1, a2, a3, a4, a5⟩ := ZF_split L q (p ++ [a]) pre x post h
      have e1 : p ++ [a] ++ q1 = p ++ a :: q1 := by simp
      rw [e1] at a3 a5
      refine ⟨a :: q1, e, q2, by rw [a1]; rfl, a2, a3, ?_, a5⟩
      rw [a4]
      show _ = (if a ∈ mks L then _ else _) ++ ZF L (p ++ [a]) q1
      rw [if_neg hm]
      rfl
theorem costAt_eq (L : Lg) (p : List Ev) (e : Ev) : costAt L p e = (e, ((rowsAt L p).length : Int), widthM (ahead L) (mksOf L p), LT L p) := rfl
theorem told_costs_len (L : Lg) : (stairsM L).length = (costsM L).length := by
  rw [← ZF_told, ← ZF_costs, List.length_map, List.length_map]
theorem toldF_fst (L : Lg) : ∀ (es : List Ev) (s : SS), (toldF L s es).map (·.1) = es
  | [], s => rfl
  | e :: es, s => by
    unfold toldF
    rw [List.map_cons, toldF_fst L es]
theorem told_fst (L : Lg) : (stairsM L).map (·.1) = comeK L := toldF_fst L _ _
section
variable {L : Lg} (F : Few L)
include F
theorem bok1 {p q : List Ev} {e : Ev} (h : come L = p ++ e :: q) (hm : e ∈ mks L) {b : Int} (hb : b ≤ LT L (p ++ [e])) : BOk1 (widthM (ahead L) (mks L)) b (tellAt L p e) (costAt L (p ++ [e]) e) := by
  have h' : come L = (p ++ [e]) ++ q := by rw [h]; simp
  have es1 : mksOf L (p ++ [e]) = mksOf L p ++ [e] := by rw [mksOf_snoc, if_pos hm]
  have hsub : (mksOf L p ++ [e]).Sublist (come L) := by rw [← es1]; exact mksOf_sub h'
  obtain ⟨k, c, U, _, I', A, hA, hAl⟩ := si_put_of F hsub
  have hnd := (cm_sub hsub (cm_come F.w)).1
  have h30 : (mksOf L p ++ [e]).length ≤ 30 := by have := mksOf_few F h'; rw [es1] at this; omega
  have wge := fun {A : List Ev} (H : Anti (ahead L) (mksOf L p ++ [e]) A) => width_ge h30 hnd (fun a b c _ _ _ => trL a b c) H
  have etold : tellAt L p e = (e, c, k + 1) := by unfold tellAt; rw [U.eq]
  have hsub2 : ∀ x ∈ mksOf L p ++ [e], x ∈ mks L := fun x hx => by
    rw [← es1] at hx
    exact of_decide_eq_true (List.mem_filter.mp hx).2
  have hwide : widthM (ahead L) (mksOf L p ++ [e]) ≤ widthM (ahead L) (mks L) := by
    obtain ⟨A2, H2, e2⟩ := width_le (ah := ahead L) h30 hnd
    rw [← e2]
    exact width_ge (Nat.le_trans F.mkd (by decide)) F.w.mknd (fun a b c _ _ _ => trL a b c) (anti_mono hsub2 H2)
  obtain ⟨A3, H3, e3⟩ := I'.wide
  have hm3 := wge H3
  rw [e3] at hm3
  have hcnt := I'.I.cnt
  have hk := wge hA
  rw [hAl] at hk
  have hused : (rowsAt L (p ++ [e])).length ≤ (stAfter L (mksOf L p ++ [e])).2.length := by
    unfold rowsAt rowsM
    rw [es1]
    exact List.length_filter_le _ _
  have hc : 0 ≤ c ∧ c < (stAfter L (mksOf L p ++ [e])).2.length := by
    have I1 := open_si (si_of F ((List.sublist_append_left _ _).trans hsub)).I k
    have := I1.num _ (getD_mem (open_lt U.kl).1) c U.cm
    rw [stAfter_snoc, U.eq]
    show 0 ≤ c ∧ c < (((openM (stAfter L (mksOf L p)) k).2.set c.toNat _).length : Int)
    rw [List.length_set]
    exact this
  have hd := LT_wide F h'
  have hu := LT_used F h'
  rw [costAt_eq, etold, es1]
  generalize widthM (ahead L) (mksOf L p ++ [e]) = far at hm3 hk hwide
  generalize (stAfter L (mksOf L p ++ [e])).1.length = m at hm3 hcnt
  generalize (stAfter L (mksOf L p ++ [e])).2.length = n at hcnt hused hc
  have hmm : ((m : Int) * (m + 1)) ≤ far * (far + 1) := Int.mul_le_mul hm3 (by omega) (by omega) (by omega)
  have hcn : 2 * (n : Int) = (m : Int) * (m + 1) := by
    have := congrArg (Nat.cast (R := Int)) hcnt
    push_cast at this
    omega
  refine ⟨rfl, Nat.le_add_left 1 k, by show ((k + 1 : Nat) : Int) ≤ far; exact hk, hwide, ?_, ?_, hd, hu, hb⟩
  · show ((rowsAt L (p ++ [e])).length : Int) * 2 ≤ far * (far + 1)
    omega
  · show c < (far * (far + 1)).fdiv 2
    rw [Int.fdiv_eq_ediv_of_nonneg _ (by decide)]
    omega
theorem LT_nonneg {p q : List Ev} (h : come L = p ++ q) : 0 ≤ LT L p := by
  have := LT_used F h
  omega
theorem bok : BOk (widthM (ahead L) (mks L)) (stairsM L) (costsM L) := by
  rw [← ZF_told, ← ZF_costs]
  refine ⟨fun pre z post h => ?_, fun h => ?_, fun cs c h => ?_⟩
  · rw [zip_fs] at h
    obtain ⟨q1, e, q2, a1, a2, a3, a4, a5⟩ := ZF_split L _ _ _ _ _ h
    rw [List.nil_append] at a3
    rw [a3]
    refine bok1 F a1 a2 ?_
    have h' : come L = (q1 ++ [e]) ++ q2 := by rw [a1]; simp
    rcases List.eq_nil_or_concat pre with q | ⟨pre2, y, q⟩
    · rw [q]
      exact LT_nonneg F h'
    · rw [List.concat_eq_append] at q
      have hy : bAfter pre = y.2.2.2.2 := by
        unfold bAfter
        rw [q, List.getLast?_append]
        rfl
      rw [hy]
      rw [a4] at q
      obtain ⟨r1, f, r2, b1, b2, b3, _, _⟩ := ZF_split L _ _ _ _ _ q
      rw [b3, List.nil_append]
      show LT L (r1 ++ [f]) ≤ LT L (q1 ++ [e])
      have e1 : q1 ++ [e] = (r1 ++ [f]) ++ (r2 ++ [e]) := by rw [b1]; simp
      rw [e1]
      exact LT_mono F _ _ q2 (by rw [a1, b1]; simp)
  · have hn : ZF L [] (come L) = [] := List.map_eq_nil_iff.mp h
    have := ZF_nil L _ _ hn
    have hm : mks L = [] := List.eq_nil_iff_forall_not_mem.mpr fun x hx => this x ((come_perm F.w).mem_iff.mpr (F.w.mark x hx)) hx
    rw [hm]
    rfl
  · have : ∃ zs z, ZF L [] (come L) = zs ++ [z] ∧ z.2 = c := by
      rcases List.eq_nil_or_concat (ZF L [] (come L)) with q | ⟨zs, z, q⟩
      · rw [q] at h
        simp at h
      · rw [List.concat_eq_append] at q
        refine ⟨zs, z, q, ?_⟩
        rw [q, List.map_append] at h
        have := congrArg List.getLast? h
        rw [List.getLast?_append, List.getLast?_append] at this
        exact Option.some.inj this
    obtain ⟨zs, z, q, hz⟩ := this
    obtain ⟨q1, e, q2, a1, a2, a3, a4, a5⟩ := ZF_split L _ _ _ _ _ q
    have hno := ZF_nil L _ _ a5.symm
    have h' : come L = (q1 ++ [e]) ++ q2 := by rw [a1]; simp
    have hall : ∀ x ∈ mks L, x ∈ q1 ++ [e] := fun x hx => by
      have : x ∈ come L := (come_perm F.w).mem_iff.mpr (F.w.mark x hx)
      rw [h'] at this
      rcases List.mem_append.mp this with y | y
      · exact y
      · exact absurd hx (hno x y)
    rw [← hz, a3, List.nil_append]
    rw [costAt_eq]
    show ((rowsAt L (q1 ++ [e])).length : Int) = LT L (q1 ++ [e]) ∧ widthM (ahead L) (mksOf L (q1 ++ [e])) = widthM (ahead L) (mks L)
    refine ⟨(LT_done F h' hall).symm, ?_⟩
    have hnd := (cm_sub (mksOf_sub h') (cm_come F.w)).1
    have h30 : (mksOf L (q1 ++ [e])).length ≤ 30 := Nat.le_trans (mksOf_few F h') (by decide)
    have hk30 : (mks L).length ≤ 30 := Nat.le_trans F.mkd (by decide)
    have s1 : ∀ x ∈ mksOf L (q1 ++ [e]), x ∈ mks L := fun x hx => of_decide_eq_true (List.mem_filter.mp hx).2
    have s2 : ∀ x ∈ mks L, x ∈ mksOf L (q1 ++ [e]) := fun x hx => List.mem_filter.mpr ⟨hall x hx, decide_eq_true hx⟩
    refine Int.le_antisymm ?_ ?_
    · obtain ⟨A2, H2, e2⟩ := width_le (ah := ahead L) h30 hnd
      rw [← e2]
      exact width_ge hk30 F.w.mknd (fun a b c _ _ _ => trL a b c) (anti_mono s1 H2)
    · obtain ⟨A2, H2, e2⟩ := width_le (ah := ahead L) hk30 F.w.mknd
      rw [← e2]
      exact width_ge h30 hnd (fun a b c _ _ _ => trL a b c) (anti_mono s2 H2)
end

/-! ### the rows as the law reads them -/
noncomputable def toldOf (L : Lg) (es : List Ev) : List T3 := toldF L ([], []) es
theorem sortI_eq {ys l : List Int} (p : ys.Perm l) (h : ys.Pairwise (· ≤ ·)) : ys = sortI l := sortI_of p (h.imp fun {a b} h => by rw [le_int]; exact decide_eq_true h)
theorem keysT_nd : ∀ told : List T3, (keysT told).Nodup := by
  refine snoc_ind List.nodup_nil fun l t ih => ?_
  rw [keysT_snoc]
  by_cases h : t.2.1 ∈ keysT l
  · rw [if_pos h]; exact ih
  · rw [if_neg h]
    exact List.nodup_append.mpr ⟨ih, List.nodup_cons.mpr ⟨List.not_mem_nil, List.nodup_nil⟩, fun a ha b hb e => h (by rw [← List.mem_singleton.mp hb, ← e]; exact ha)⟩
theorem rowT_app (told : List T3) (t : T3) (n : Int) : rowT (told ++ [t]) n = rowT told n ++ if t.2.1 = n then [t.1] else [] := by
  unfold rowT
  rw [List.filter_append, List.map_append]
  congr 1
  by_cases h : t.2.1 = n <;> simp [h]
theorem rows_list (s : SS) : s.2 = (upTo s.2.length).map (rowOf s) := by
  unfold upTo
  rw [List.map_map]
  refine List.ext_getElem? fun i => ?_
  rw [List.getElem?_map]
  by_cases h : i < s.2.length
  · rw [List.getElem?_range h, List.getElem?_eq_getElem h]
    show _ = some (rowOf s ((i : Nat) : Int))
    unfold rowOf
    rw [Int.toNat_natCast, List.getD_eq_getElem?_getD, List.getElem?_eq_getElem h]
    rfl
  · rw [List.getElem?_eq_none (by omega), List.getElem?_eq_none (by rw [List.length_range]; omega)]
    rfl
section
variable {L : Lg} (F : Few L)
include F
theorem told_rows : ∀ es : List Ev, es.Sublist (come L) → (∀ n, 0 ≤ n → rowOf (stAfter L es) n = rowT (toldOf L es) n) ∧ ∀ t ∈ toldOf L es, 0 ≤ t.2.1 ∧ t.2.1 < (stAfter L es).2.length := by
  refine snoc_ind (fun _ => ⟨fun n _ => ?_, fun t h => by cases h⟩) fun es e ih hs => ?_
  · unfold rowOf
    show ([] : List (List Ev)).getD _ _ = _
    simp [rowT, toldOf, toldF]
  · obtain ⟨i1, i2⟩ := ih ((List.sublist_append_left _ _).trans hs)
    obtain ⟨k, c, U, _, _, _⟩ := si_put_of F hs
    have I := si_of F ((List.sublist_append_left _ _).trans hs)
    have I1 := open_si I.I k
    have hc := I1.num _ (getD_mem (open_lt U.kl).1) c U.cm
    have et : toldOf L (es ++ [e]) = toldOf L es ++ [(e, c, k + 1)] := by
      unfold toldOf
      rw [toldF_snoc]
      have : es.foldl (fun s e => (putM L s e).1) ([], []) = stAfter L es := rfl
      rw [this, U.eq]
    have hlen : (stAfter L es).2.length ≤ (openM (stAfter L es) k).2.length := by
      unfold openM
      split
      · show _ ≤ ((stAfter L es).2 ++ _).length
        rw [List.length_append]
        omega
      · exact Nat.le_refl _
    have hrow : ∀ n, 0 ≤ n → rowOf (openM (stAfter L es) k) n = rowT (toldOf L es) n := fun n hn => by
      unfold openM
      split
      · by_cases q : n < (stAfter L es).2.length
        · rw [begin_row hn q]; exact i1 n hn
        · rw [begin_bare (by omega)]
          symm
          unfold rowT
          rw [List.map_eq_nil_iff, List.filter_eq_nil_iff]
          intro t ht hz
          have := i2 t ht
          have := of_decide_eq_true hz
          omega
      · exact i1 n hn
    rw [stAfter_snoc, U.eq, et]
    refine ⟨fun n hn => ?_, fun t ht => ?_⟩
    · rw [rowT_app]
      show rowOf (moveM (openM (stAfter L es) k) k c e) n = _
      rw [rowOf_move hc hn]
      by_cases q : n = c
      · subst q
        rw [if_pos rfl, if_pos rfl, hrow n hn]
      · rw [if_neg q, if_neg fun z : c = n => q z.symm, List.append_nil, hrow n hn]
    · show 0 ≤ t.2.1 ∧ t.2.1 < (((openM (stAfter L es) k).2.set c.toNat _).length : Int)
      rw [List.length_set]
      rcases List.mem_append.mp ht with z | z
      · have := i2 t z
        omega
      · rw [List.mem_singleton.mp z]
        exact hc
theorem rowsT_rows {es : List Ev} (hs : es.Sublist (come L)) : rowsT (toldOf L es) = rowsM (stAfter L es) := by
  obtain ⟨h1, h2⟩ := told_rows F es hs
  generalize stAfter L es = s at h1 h2
  generalize toldOf L es = told at h1 h2
  have hk : ∀ k, k ∈ keysT told ↔ ∃ t ∈ told, t.2.1 = k := fun k => by
    have := mem_keysT told [] k
    exact this.trans ⟨fun h => h.resolve_left List.not_mem_nil, .inr⟩
  have hne : ∀ k, 0 ≤ k → (rowOf s k ≠ [] ↔ k ∈ keysT told) := fun k hk0 => by
    rw [h1 k hk0, hk]
    unfold rowT
    constructor
    · intro h
      obtain ⟨x, hx⟩ := List.exists_mem_of_ne_nil _ h
      obtain ⟨t, ht, _⟩ := List.mem_map.mp hx
      obtain ⟨t1, t2⟩ := List.mem_filter.mp ht
      exact ⟨t, t1, of_decide_eq_true t2⟩
    · rintro ⟨t, ht, e⟩ h
      rw [List.map_eq_nil_iff, List.filter_eq_nil_iff] at h
      exact h t ht (decide_eq_true e)
  have hsort : ((upTo s.2.length).filter fun n => !(rowOf s n).isEmpty) = sortI (keysT told) := by
    refine sortI_eq ?_ (List.Pairwise.sublist List.filter_sublist (upTo_sorted _))
    refine (List.perm_ext_iff_of_nodup (List.Nodup.sublist List.filter_sublist (upTo_nodup _)) (keysT_nd told)).mpr fun k => ?_
    rw [List.mem_filter]
    constructor
    · rintro ⟨a, b⟩
      refine (hne k (mem_upTo.mp a).1).mp fun z => ?_
      rw [z] at b
      cases b
    · intro a
      obtain ⟨t, ht, e⟩ := (hk k).mp a
      have := h2 t ht
      rw [e] at this
      refine ⟨mem_upTo.mpr this, ?_⟩
      have z := (hne k this.1).mpr a
      cases q : rowOf s k with
      | nil => exact absurd q z
      | cons _ _ => rfl
  unfold rowsT rowsM
  conv => rhs; rw [rows_list s]
  rw [List.filter_map]
  have : ((upTo s.2.length).filter ((fun r => !List.isEmpty r) ∘ rowOf s)) = (upTo s.2.length).filter fun n => !(rowOf s n).isEmpty := rfl
  rw [this, hsort]
  refine List.map_congr_left fun n hn => ?_
  have hn2 := (hk n).mp (mem_sortI.mp hn)
  obtain ⟨t, ht, e⟩ := hn2
  have := h2 t ht
  rw [h1 n (by omega)]
end
end Fs

/-! FsI: the log as it was then. -/
namespace Fs
open PySem
theorem upTo_filter {a b : Nat} (h : b ≤ a) : ((upTo a).filter fun i => decide (i < (b : Int))) = upTo b := by
  refine List.Perm.eq_of_pairwise (le := fun a b : Int => a ≤ b) (fun a b _ _ h1 h2 => by omega) (List.Pairwise.sublist List.filter_sublist (upTo_sorted a)) (upTo_sorted b) ((List.perm_ext_iff_of_nodup (List.Nodup.sublist List.filter_sublist (upTo_nodup _)) (upTo_nodup _)).mpr fun k => ?_)
  rw [List.mem_filter, mem_upTo, mem_upTo, decide_eq_true_eq]
  omega
theorem toldF_app (L : Lg) : ∀ (a b : List Ev) (s : SS), toldF L s (a ++ b) = toldF L s a ++ toldF L (a.foldl (fun s e => (putM L s e).1) s) b
  | [], b, s => rfl
  | e :: a, b, s => by
    show (e, _) :: toldF L (putM L s e).1 (a ++ b) = _
    rw [toldF_app L a]
    rfl
theorem costsF_app (L : Lg) : ∀ (a b p : List Ev), costsF L p (a ++ b) = costsF L p a ++ costsF L (p ++ a) b
  | [], b, p => by
    rw [List.append_nil]
    rfl
  | e :: a, b, p => by
    show (if e ∈ mks L then _ else []) ++ costsF L (p ++ [e]) (a ++ b) = ((if e ∈ mks L then _ else []) ++ costsF L (p ++ [e]) a) ++ _
    rw [costsF_app L a, List.append_assoc]
    simp
theorem costsF_len2 (L : Lg) : ∀ (a p : List Ev), (costsF L p a).length = (mksOf L a).length
  | [], p => rfl
  | e :: a, p => by
    show ((if e ∈ mks L then _ else []) ++ costsF L (p ++ [e]) a).length = (List.filter _ (e :: a)).length
    rw [List.length_append, costsF_len2 L a, List.filter_cons]
    by_cases h : e ∈ mks L
    · rw [if_pos h, if_pos (decide_eq_true h)]
      show 1 + _ = _ + 1
      exact Nat.add_comm _ _
    · rw [if_neg h, if_neg (by simpa using h)]
      exact Nat.zero_add _
theorem widthM_same {ah bh : Ev → Ev → Bool} {es : List Ev} (h30 : es.length ≤ 30) (nd : es.Nodup) (ta : ∀ a b c, a ∈ es → b ∈ es → c ∈ es → ah a b = true → ah b c = true → ah a c = true) (h : ∀ a ∈ es, ∀ b ∈ es, ah a b = bh a b) : widthM ah es = widthM bh es := by
  have tb : ∀ a b c, a ∈ es → b ∈ es → c ∈ es → bh a b = true → bh b c = true → bh a c = true := fun a b c ha hb hc h1 h2 => by
    rw [← h a ha b hb] at h1
    rw [← h b hb c hc] at h2
    rw [← h a ha c hc]
    exact ta a b c ha hb hc h1 h2
  refine Int.le_antisymm ?_ ?_
  · obtain ⟨A, H, e⟩ := width_le (ah := ah) h30 nd
    rw [← e]
    exact width_ge h30 nd tb ⟨H.nd, H.sub, fun a ha b hb => by rw [← h a (H.sub a ha) b (H.sub b hb)]; exact H.un a ha b hb⟩
  · obtain ⟨A, H, e⟩ := width_le (ah := bh) h30 nd
    rw [← e]
    exact width_ge h30 nd ta ⟨H.nd, H.sub, fun a ha b hb => by rw [h a (H.sub a ha) b (H.sub b hb)]; exact H.un a ha b hb⟩
section
variable {L : Lg} (F : Few L) {cm rest : List Ev} (hc : come L = cm ++ rest)
include F hc
theorem cm_down {x y : Ev} (h : ahead L x y = true) (hy : y ∈ cm) : x ∈ cm := by
  have c := cm_come F.w
  have hx : x ∈ come L := (come_perm F.w).mem_iff.mpr (ahead_evs F.w (ahead_iff.mp h)).1
  rw [hc] at c hx
  rcases List.mem_append.mp hx with z | z
  · exact z
  · have := (List.pairwise_append.mp c.2).2.2 y hy x z
    rw [h] at this
    cases this
theorem cm_evs {x : Ev} (h : x ∈ cm) : x ∈ evs L := come_sub (by rw [hc]; exact List.mem_append_left _ h)
theorem cm_lt {x : Ev} (h : x ∈ evs L) : x ∈ cm ↔ x.2 < cntN cm x.1 := by
  have := cnt_iff F.w cm rest hc x.1 x.2
  exact ⟨fun z => (this.mp z).2, fun z => this.mpr ⟨h, z⟩⟩
theorem cnt_le {m : Mc} (hm : m ∈ L.1) : cntN cm m.1 ≤ m.2.1 := by
  have hnd : cm.Nodup := (List.nodup_append.mp (by have := (cm_come F.w).1; rwa [hc] at this)).1
  have h0 := (F.w.size m hm).1
  have := nodup_sub_len (A := (cm.filter fun e => decide (e.1 = m.1)).map (·.2)) (B := upTo m.2.1.toNat) (List.pairwise_map.mpr (List.Pairwise.imp_of_mem (fun {a b} ha hb q z => by
    have h1 := of_decide_eq_true (List.mem_filter.mp ha).2
    have h2 := of_decide_eq_true (List.mem_filter.mp hb).2
    exact q (Prod.ext (h1.trans h2.symm) z)) (List.Nodup.sublist List.filter_sublist hnd))) fun x hx => by
      obtain ⟨e, he, rfl⟩ := List.mem_map.mp hx
      obtain ⟨e1, e2⟩ := List.mem_filter.mp he
      obtain ⟨m2, hm2, q, p1, p2⟩ := ev_name (cm_evs F hc e1)
      have : m2 = m := by
        have hn := F.w.names
        rw [of_decide_eq_true e2] at q
        obtain ⟨i, hi, rfl⟩ := List.getElem_of_mem hm
        obtain ⟨j, hj, rfl⟩ := List.getElem_of_mem hm2
        have hn2 := List.pairwise_iff_getElem.mp hn
        rcases Nat.lt_trichotomy i j with y | y | y
        · exact absurd (by rw [List.getElem_map, List.getElem_map]; exact q.symm) (hn2 i j (by rw [List.length_map]; exact hi) (by rw [List.length_map]; exact hj) y)
        · subst y; rfl
        · exact absurd (by rw [List.getElem_map, List.getElem_map]; exact q) (hn2 j i (by rw [List.length_map]; exact hj) (by rw [List.length_map]; exact hi) y)
      rw [this] at p2
      exact mem_upTo.mpr ⟨p1, by omega⟩
  rw [List.length_map, upTo_length] at this
  unfold cntN
  omega
theorem elder_evs : evs (elderL L (cntN cm)) = (evs L).filter fun e => decide (e ∈ cm) := by
  have e1 : ((evs L).filter fun e => decide (e ∈ cm)) = (evs L).filter fun e => decide (e.2 < cntN cm e.1) := List.filter_congr fun e he => by
    rw [decide_eq_decide]
    exact cm_lt F hc he
  rw [e1]
  unfold evs elderL
  rw [List.flatMap_map, List.filter_flatMap]
  have key : ∀ ms : List Mc, (∀ m ∈ ms, m ∈ L.1) → (ms.flatMap fun m => (upTo (cntN cm m.1).toNat).map fun i => ((m.1, i) : Ev)) = ms.flatMap fun m => ((upTo m.2.1.toNat).map fun i => ((m.1, i) : Ev)).filter fun e => decide (e.2 < cntN cm e.1) := by
    intro ms
    induction ms with
    | nil => exact fun _ => rfl
    | cons m ms ih =>
      intro h
      rw [List.flatMap_cons, List.flatMap_cons, ih fun x hx => h x (List.mem_cons_of_mem _ hx)]
      congr 1
      have hle := cnt_le F hc (h m List.mem_cons_self)
      have h0 : 0 ≤ cntN cm m.1 := Int.natCast_nonneg _
      rw [List.filter_map]
      have : ((fun e : Ev => decide (e.2 < cntN cm e.1)) ∘ fun i => (m.1, i)) = fun i => decide (i < (((cntN cm m.1).toNat : Nat) : Int)) := by
        funext i
        show decide (i < cntN cm m.1) = _
        rw [Int.toNat_of_nonneg h0]
      rw [this, upTo_filter (by omega)]
  exact key L.1 fun _ h => h
theorem elder_mks : mks (elderL L (cntN cm)) = (mks L).filter fun e => decide (e ∈ cm) := by
  have e1 : ((mks L).filter fun e => decide (e ∈ cm)) = (mks L).filter fun e => decide (e.2 < cntN cm e.1) := List.filter_congr fun e he => by
    rw [decide_eq_decide]
    exact cm_lt F hc (F.w.mark e he)
  rw [e1]
  unfold mks elderL
  rw [List.flatMap_map, List.filter_flatMap]
  congr 1
  funext m
  rw [List.filter_map]
  rfl
theorem mem_ev {x : Ev} : x ∈ evs (elderL L (cntN cm)) ↔ x ∈ cm := by
  rw [elder_evs F hc, List.mem_filter, decide_eq_true_eq]
  exact ⟨fun h => h.2, fun h => ⟨cm_evs F hc h, h⟩⟩
theorem elder_nxt {e x : Ev} (hx : x ∈ cm) : x ∈ nxt (elderL L (cntN cm)) e ↔ x ∈ nxt L e := by
  have key : ∀ m ∈ L.2, m.2 = x → decide (m.2.2 < cntN cm m.2.1) = true := fun m hm h => by
    rw [decide_eq_true_eq, ← cm_lt F hc (F.w.lets m hm).2, h]
    exact hx
  have e1 : x ∈ (if (e.1, e.2 + 1) ∈ evs (elderL L (cntN cm)) then [(e.1, e.2 + 1)] else []) ↔ x ∈ (if (e.1, e.2 + 1) ∈ evs L then [(e.1, e.2 + 1)] else []) := by
    constructor
    · intro h
      split at h
      · rename_i q
        rw [if_pos (cm_evs F hc ((mem_ev F hc).mp q))]
        exact h
      · cases h
    · intro h
      split at h
      · rw [if_pos ((mem_ev F hc).mpr (by rw [← List.mem_singleton.mp h]; exact hx))]
        exact h
      · cases h
  unfold nxt
  rw [List.mem_append, List.mem_append, e1]
  refine or_congr Iff.rfl ?_
  rw [List.mem_map, List.mem_map]
  constructor
  · rintro ⟨m, hm, rfl⟩
    obtain ⟨m1, m2⟩ := List.mem_filter.mp hm
    exact ⟨m, List.mem_filter.mpr ⟨(List.mem_filter.mp m1).1, m2⟩, rfl⟩
  · rintro ⟨m, hm, rfl⟩
    obtain ⟨m1, m2⟩ := List.mem_filter.mp hm
    exact ⟨m, List.mem_filter.mpr ⟨List.mem_filter.mpr ⟨m1, key m m1 rfl⟩, m2⟩, rfl⟩
theorem elder_nxt_cm {e x : Ev} (h : x ∈ nxt (elderL L (cntN cm)) e) : x ∈ cm := by
  unfold nxt at h
  rcases List.mem_append.mp h with z | z
  · split at z
    · rename_i q
      rw [List.mem_singleton.mp z]
      exact (mem_ev F hc).mp q
    · cases z
  · obtain ⟨m, hm, rfl⟩ := List.mem_map.mp z
    obtain ⟨m1, _⟩ := List.mem_filter.mp hm
    obtain ⟨m2, m3⟩ := List.mem_filter.mp m1
    exact (cm_lt F hc (F.w.lets m m2).2).mpr (of_decide_eq_true m3)
theorem elder_ahead {a b : Ev} (hb : b ∈ cm) : ahead (elderL L (cntN cm)) a b = ahead L a b := by
  rw [Bool.eq_iff_iff, ahead_iff, ahead_iff]
  constructor
  · intro h
    clear hb
    induction h with
    | one h1 h2 => exact .one (cm_evs F hc ((mem_ev F hc).mp h1)) ((elder_nxt F hc (elder_nxt_cm F hc h2)).mp h2)
    | more _ h2 ih => exact .more ih ((elder_nxt F hc (elder_nxt_cm F hc h2)).mp h2)
  · intro h
    induction h with
    | one h1 h2 =>
      have := cm_down F hc (ahead_iff.mpr (.one h1 h2)) hb
      exact .one ((mem_ev F hc).mpr this) ((elder_nxt F hc hb).mpr h2)
    | more h1 h2 ih =>
      have := cm_down F hc (ahead_iff.mpr (.one (ahead_evs F.w h1).2 h2)) hb
      exact .more (ih this) ((elder_nxt F hc hb).mpr h2)
theorem elder_well : Well (elderL L (cntN cm)) where
  names := by
    show ((L.1.map fun m => ((m.1, cntN cm m.1, _) : Mc)).map (·.1)).Nodup
    rw [List.map_map]
    exact F.w.names
  size := fun m hm => by
    obtain ⟨x, hx, rfl⟩ := List.mem_map.mp hm
    have := cnt_le F hc hx
    have h0 : 0 ≤ cntN cm x.1 := Int.natCast_nonneg _
    have := (F.w.size x hx).2
    exact ⟨h0, by show cntN cm x.1 ≤ 100; omega⟩
  many := by
    rw [elder_evs F hc]
    exact Nat.le_trans (List.length_filter_le _ _) F.w.many
  marks := fun m hm => by
    obtain ⟨x, hx, rfl⟩ := List.mem_map.mp hm
    exact Nat.le_trans (List.length_filter_le _ _) (F.w.marks x hx)
  few := by
    refine ⟨?_, Nat.le_trans (List.length_filter_le _ _) F.w.few.2⟩
    show (L.1.map _).length ≤ 10
    rw [List.length_map]
    exact F.w.few.1
  lets := fun m hm => by
    obtain ⟨m1, m2⟩ := List.mem_filter.mp hm
    have h2 := (cm_lt F hc (F.w.lets m m1).2).mpr (of_decide_eq_true m2)
    have h1 := cm_down F hc (x := m.1) (y := m.2) (ahead_iff.mpr (.one (F.w.lets m m1).1 (by
      unfold nxt
      exact List.mem_append_right _ (List.mem_map.mpr ⟨m, List.mem_filter.mpr ⟨m1, decide_eq_true rfl⟩, rfl⟩)))) h2
    exact ⟨(mem_ev F hc).mpr h1, (mem_ev F hc).mpr h2⟩
  mark := fun e he => by
    rw [elder_mks F hc] at he
    exact (mem_ev F hc).mpr (of_decide_eq_true (List.mem_filter.mp he).2)
  mknd := by
    rw [elder_mks F hc]
    exact List.Nodup.sublist List.filter_sublist F.w.mknd
  bare := fun m hm => by
    obtain ⟨x, hx, rfl⟩ := List.mem_map.mp hm
    exact F.w.bare x hx
  rank := by
    obtain ⟨r, hr⟩ := F.w.rank
    exact ⟨r, fun a b ha hb => hr a b (cm_evs F hc ((mem_ev F hc).mp ha)) ((elder_nxt F hc (elder_nxt_cm F hc hb)).mp hb)⟩
theorem elder_few : Few (elderL L (cntN cm)) where
  w := elder_well F hc
  five := by
    show (L.1.map _).length ≤ 5
    rw [List.length_map]
    exact F.five
  ev := by
    rw [elder_evs F hc]
    exact Nat.le_trans (List.length_filter_le _ _) F.ev
  mkd := by
    rw [elder_mks F hc]
    exact Nat.le_trans (List.length_filter_le _ _) F.mkd
theorem elder_comeF : ∀ (q r : List Ev) (n : Nat) (ls : List Ev), ls.Nodup → comeF L n ls = q ++ r → (∀ e ∈ q, e ∈ cm) → comeF (elderL L (cntN cm)) q.length (ls.filter fun e => decide (e ∈ cm)) = q
  | [], r, n, ls, nd, h, hq => rfl
  | e :: q, r, 0, ls, nd, h, hq => by
    have h : [] = e :: (q ++ r) := h
    cases h
  | e :: q, r, n + 1, ls, nd, h, hq => by
    unfold comeF at h
    cases hf : firstOf L ls with
    | nil => rw [hf] at h; cases h
    | cons a t =>
      rw [hf] at h
      obtain ⟨h1, h2⟩ := List.cons_eq_cons.mp (show a :: comeF L n (ls.erase a) = e :: (q ++ r) from h)
      subst h1
      have ha : a ∈ cm := hq a List.mem_cons_self
      have e1 : firstOf (elderL L (cntN cm)) (ls.filter fun e => decide (e ∈ cm)) = (firstOf L ls).filter fun e => decide (e ∈ cm) := by
        unfold firstOf
        rw [List.filter_filter, List.filter_filter]
        refine List.filter_congr fun x hx => ?_
        by_cases hxc : x ∈ cm
        · have : ((ls.filter fun e => decide (e ∈ cm)).any fun o => ahead (elderL L (cntN cm)) o x) = ls.any fun o => ahead L o x := by
            rw [Bool.eq_iff_iff, List.any_eq_true, List.any_eq_true]
            constructor
            · rintro ⟨o, ho, h3⟩
              rw [elder_ahead F hc hxc] at h3
              exact ⟨o, (List.mem_filter.mp ho).1, h3⟩
            · rintro ⟨o, ho, h3⟩
              exact ⟨o, List.mem_filter.mpr ⟨ho, decide_eq_true (cm_down F hc h3 hxc)⟩, by rw [elder_ahead F hc hxc]; exact h3⟩
          rw [this, Bool.and_comm]
        · simp [hxc]
      rw [hf, List.filter_cons, if_pos (decide_eq_true ha)] at e1
      have e2 : (ls.filter fun e => decide (e ∈ cm)).erase a = (ls.erase a).filter fun e => decide (e ∈ cm) := by
        rw [List.Nodup.erase_eq_filter nd, List.Nodup.erase_eq_filter (List.Nodup.sublist List.filter_sublist nd), List.filter_filter, List.filter_filter]
        refine List.filter_congr fun x _ => Bool.and_comm _ _
      show comeF (elderL L (cntN cm)) (q.length + 1) _ = _
      unfold comeF
      rw [e1]
      show a :: comeF _ q.length ((ls.filter fun e => decide (e ∈ cm)).erase a) = a :: q
      rw [e2, elder_comeF q r n (ls.erase a) (nd.erase a) h2 fun x hx => hq x (List.mem_cons_of_mem _ hx)]
theorem elder_come : come (elderL L (cntN cm)) = cm := by
  have hnd : cm.Nodup := (List.nodup_append.mp (by have := (cm_come F.w).1; rwa [hc] at this)).1
  have h := elder_comeF F hc cm rest (evs L).length (evs L) (evs_nodup F.w) hc fun e h => h
  have hlen : (evs (elderL L (cntN cm))).length = cm.length := by
    refine ((List.perm_ext_iff_of_nodup (evs_nodup (elder_well F hc)) hnd).mpr fun x => mem_ev F hc).length_eq
  unfold come
  rw [hlen]
  rw [elder_evs F hc]
  exact h
theorem elder_mem {e : Ev} (h : e ∈ cm) : e ∈ mks (elderL L (cntN cm)) ↔ e ∈ mks L := by
  rw [elder_mks F hc, List.mem_filter, decide_eq_true_eq]
  exact ⟨fun z => z.1, fun z => ⟨z, h⟩⟩
theorem elder_mksOf {p : List Ev} (hp : ∀ e ∈ p, e ∈ cm) : mksOf (elderL L (cntN cm)) p = mksOf L p := List.filter_congr fun e he => by
  rw [decide_eq_decide]
  exact elder_mem F hc (hp e he)
theorem elder_comeK : comeK (elderL L (cntN cm)) = mksOf L cm := by
  have : comeK (elderL L (cntN cm)) = mksOf (elderL L (cntN cm)) (come (elderL L (cntN cm))) := rfl
  rw [this, elder_come F hc]
  exact elder_mksOf F hc fun e h => h
theorem elder_fit {e : Ev} (h : e ∈ cm) (s : SS) (k : Nat) : fitM (elderL L (cntN cm)) s k e = fitM L s k e := by
  have : (fun x => ahead (elderL L (cntN cm)) x e) = fun x => ahead L x e := funext fun x => elder_ahead F hc h
  unfold fitM
  rw [this]
theorem elder_step {e : Ev} (h : e ∈ cm) : ∀ (f : Nat) (s : SS) (k : Nat), stepM (elderL L (cntN cm)) e f s k = stepM L e f s k
  | 0, _, _ => rfl
  | f + 1, s, k => by
    unfold stepM
    rw [elder_fit F hc h, elder_step h f]
theorem elder_put {e : Ev} (h : e ∈ cm) (s : SS) : putM (elderL L (cntN cm)) s e = putM L s e := by
  unfold putM
  simp only [elder_step F hc h, elder_fit F hc h]
theorem elder_fold : ∀ (es : List Ev) (s : SS), (∀ e ∈ es, e ∈ cm) → es.foldl (fun s e => (putM (elderL L (cntN cm)) s e).1) s = es.foldl (fun s e => (putM L s e).1) s
  | [], _, _ => rfl
  | e :: es, s, h => by
    rw [List.foldl_cons, List.foldl_cons, elder_put F hc (h e List.mem_cons_self), elder_fold es _ fun x hx => h x (List.mem_cons_of_mem _ hx)]
theorem elder_told : ∀ (es : List Ev) (s : SS), (∀ e ∈ es, e ∈ cm) → toldF (elderL L (cntN cm)) s es = toldF L s es
  | [], _, _ => rfl
  | e :: es, s, h => by
    unfold toldF
    rw [elder_put F hc (h e List.mem_cons_self), elder_told es _ fun x hx => h x (List.mem_cons_of_mem _ hx)]
omit F hc in
theorem mksOf_app (L : Lg) (a b : List Ev) : mksOf L (a ++ b) = mksOf L a ++ mksOf L b := List.filter_append _ _
theorem elder_stairs : stairsM (elderL L (cntN cm)) = (stairsM L).take (mksOf L cm).length ∧ (stairsM L).take (mksOf L cm).length = toldOf L (mksOf L cm) := by
  have e1 : comeK L = mksOf L cm ++ mksOf L rest := by
    rw [← mksOf_app, ← hc]
    rfl
  have e2 : (stairsM L).take (mksOf L cm).length = toldOf L (mksOf L cm) := by
    unfold stairsM toldOf
    rw [e1, toldF_app, List.take_append_of_le_length (by rw [toldF_len]; exact Nat.le_refl _), List.take_of_length_le (by rw [toldF_len]; exact Nat.le_refl _)]
  refine ⟨?_, e2⟩
  rw [e2]
  unfold stairsM toldOf
  rw [elder_comeK F hc]
  exact elder_told F hc _ _ fun e h => (List.mem_filter.mp h).1
def first3 (c : CT) : Ev × Int × Int := (c.1, c.2.1, c.2.2.1)
theorem elder_costF : ∀ (q p : List Ev), (∃ r, cm = p ++ q ++ r) → (costsF (elderL L (cntN cm)) p q).map first3 = (costsF L p q).map first3 := by
  intro q
  induction q with
  | nil => exact fun p _ => rfl
  | cons e q ihq =>
    intro p hex
    obtain ⟨r, hr⟩ := hex
    have he : e ∈ cm := by rw [hr]; simp
    have hp : ∀ x ∈ p ++ [e], x ∈ cm := fun x hx => by
      rw [hr]
      rcases List.mem_append.mp hx with z | z
      · simp [z]
      · rw [List.mem_singleton.mp z]; simp
    have ih := ihq (p ++ [e]) ⟨r, by rw [hr]; simp⟩
    unfold costsF
    rw [List.map_append, List.map_append, ih]
    congr 1
    by_cases hm : e ∈ mks L
    · rw [if_pos hm, if_pos ((elder_mem F hc he).mpr hm)]
      have hc2 : come L = (p ++ [e]) ++ (q ++ r ++ rest) := by rw [hc, hr]; simp
      have hsub := mksOf_sub hc2
      have hin : ∀ x ∈ mksOf L (p ++ [e]), x ∈ cm := fun x hx => hp x (List.mem_filter.mp hx).1
      have hst : stAfter (elderL L (cntN cm)) (mksOf L (p ++ [e])) = stAfter L (mksOf L (p ++ [e])) := elder_fold F hc _ _ hin
      have hw : widthM (ahead (elderL L (cntN cm))) (mksOf L (p ++ [e])) = widthM (ahead L) (mksOf L (p ++ [e])) :=
        widthM_same (Nat.le_trans (mksOf_few F hc2) (by decide)) (cm_sub hsub (cm_come F.w)).1 (fun a b c _ _ _ => trL a b c) fun a _ b hb => elder_ahead F hc (hin b hb)
      have f3 : ∀ M : Lg, [costAt M (p ++ [e]) e].map first3 = [(e, ((rowsM (stAfter M (mksOf M (p ++ [e])))).length : Int), widthM (ahead M) (mksOf M (p ++ [e])))] := fun M => rfl
      rw [f3, f3, elder_mksOf F hc hp, hst, hw]
    · rw [if_neg hm, if_neg fun z => hm ((elder_mem F hc he).mp z)]
theorem costs_take : (costsM L).take (mksOf L cm).length = costsF L [] cm := by
  unfold costsM
  rw [hc, costsF_app, List.take_append_of_le_length (by rw [costsF_len2]; exact Nat.le_refl _), List.take_of_length_le (by rw [costsF_len2]; exact Nat.le_refl _)]
theorem elder_costs : (costsM (elderL L (cntN cm))).map first3 = ((costsM L).take (mksOf L cm).length).map first3 := by
  rw [costs_take F hc]
  unfold costsM
  rw [elder_come F hc]
  exact elder_costF F hc cm [] ⟨[], by simp⟩
theorem LT_tail : ∀ (r p q : List Ev), come L = p ++ r ++ q → (∀ x ∈ r, x ∉ mks L) → LT L (p ++ r) = LT L p
  | [], p, q, _, _ => by rw [List.append_nil]
  | e :: r, p, q, h, hr => by
    have e1 : p ++ e :: r = (p ++ [e]) ++ r := by simp
    rw [e1, LT_tail r (p ++ [e]) q (by rw [h]; simp) fun x hx => hr x (List.mem_cons_of_mem _ hx)]
    exact (LT_skip F (p := p) (q := r ++ q) (by rw [h]; simp) (hr e List.mem_cons_self)).1
/-- what must be at the moment is what the last cost says -/
theorem moment_cost {cs : List CT} {c : CT} (h : (costsM L).take (mksOf L cm).length = cs ++ [c]) : c.2.2.2 = LT L cm := by
  rw [costs_take F hc, ← ZF_snd] at h
  have : ∃ zs z, ZF L [] cm = zs ++ [z] ∧ z.2 = c := by
    rcases List.eq_nil_or_concat (ZF L [] cm) with q | ⟨zs, z, q⟩
    · rw [q] at h
      simp at h
    · rw [List.concat_eq_append] at q
      refine ⟨zs, z, q, ?_⟩
      rw [q, List.map_append] at h
      have := congrArg List.getLast? h
      rw [List.getLast?_append, List.getLast?_append] at this
      exact Option.some.inj this
  obtain ⟨zs, z, q, hz⟩ := this
  obtain ⟨q1, e, q2, a1, a2, a3, a4, a5⟩ := ZF_split L _ _ _ _ _ q
  have hno := ZF_nil L _ _ a5.symm
  rw [← hz, a3, List.nil_append]
  show LT L (q1 ++ [e]) = LT L cm
  have e1 : cm = (q1 ++ [e]) ++ q2 := by rw [a1]; simp
  rw [e1]
  exact (LT_tail F hc q2 (q1 ++ [e]) rest (by rw [← e1]; exact hc) hno).symm
theorem moment_rows : rowsT ((stairsM L).take (mksOf L cm).length) = rowsAt L cm := by
  rw [(elder_stairs F hc).2]
  exact rowsT_rows F (mksOf_sub hc)
end
end Fs

/-! FsZ: the law's draws. -/
namespace Fs
open PySem L2
abbrev s_Lbox : Stmt := topS 25
abbrev s_Ltake : Stmt := topS 26
abbrev s_Lof : Stmt := topS 27
/-! ### the box of draws -/
/-- at b there is a box, at most n drawn so far -/
def BoxAt (b : Addr) (n : Nat) (H : Hp) : Prop := ∃ x s c : Int, H b = some (.lst [.int x, .int s, .int c]) ∧ 0 ≤ x ∧ 0 ≤ s ∧ s < 2147483563 ∧ 0 ≤ c ∧ c ≤ n
/-- the heap without the box -/
noncomputable def Hx (b : Addr) (H : Hp) : Hp := Hid H fun a => a = b
/-- all but the box stays -/
def Fr (b : Addr) (H H' : Hp) : Prop := (∀ a o, a ≠ b → H a = some o → H' a = some o) ∧ Tp H H'
section
variable {b : Addr} {n m : Nat} {H H1 H' H2 : Hp} {v : V} {ds : List PyData}
theorem hx_sm : Same (Hx b H) H := hid_same H _
theorem hx_b : Hx b H b = none := hid_off rfl
theorem hx_ne {a : Addr} (h : a ≠ b) : Hx b H a = H a := hid_on h
theorem hx_some {a : Addr} {o : HO} (h : Hx b H a = some o) : a ≠ b ∧ H a = some o := by
  have n : a ≠ b := fun z => by rw [z, hx_b] at h; cases h
  exact ⟨n, by rw [hx_ne n] at h; exact h⟩
theorem BoxAt.ex (B : BoxAt b n H) : ∃ xs, H b = some (.lst xs) := by
  obtain ⟨x, s, c, h, _⟩ := B
  exact ⟨_, h⟩
theorem BoxAt.on (B : BoxAt b n H) : H b ≠ none := fun z => by
  obtain ⟨xs, h⟩ := B.ex
  rw [z] at h
  cases h
theorem BoxAt.sm (B : BoxAt b n H) (e : Same H H1) : BoxAt b n H1 := by
  obtain ⟨x, s, c, h, r⟩ := B
  exact ⟨x, s, c, e _ _ h, r⟩
theorem BoxAt.up (B : BoxAt b n H) (h : n ≤ m) : BoxAt b m H := by
  obtain ⟨x, s, c, h1, h2, h3, h4, h5, h6⟩ := B
  exact ⟨x, s, c, h1, h2, h3, h4, h5, by omega⟩
theorem hx_tp (B : BoxAt b n H) : Tp H (Hx b H) := fun a xs h => by
  have : a ≠ b := fun z => by
    obtain ⟨ys, hy⟩ := B.ex
    rw [z, hy] at h
    cases h
  rw [hx_ne this]
  exact h
theorem hx_mono (e : Same H H1) : Same (Hx b H) (Hx b H1) := fun a o h => by
  obtain ⟨n, h2⟩ := hx_some h
  rw [hx_ne n]
  exact e _ _ h2
theorem Fr.refl (b : Addr) (H : Hp) : Fr b H H := ⟨fun _ _ _ h => h, Tp.refl _⟩
theorem Fr.of (e : Same H H1) : Fr b H H1 := ⟨fun a o _ h => e a o h, e.tp⟩
theorem Fr.trans (f : Fr b H H1) (g : Fr b H1 H2) : Fr b H H2 := ⟨fun a o n h => g.1 a o n (f.1 a o n h), f.2.trans g.2⟩
theorem Fr.hx (f : Fr b H H') : Same (Hx b H) (Hx b H') := fun a o h => by
  obtain ⟨n, h2⟩ := hx_some h
  rw [hx_ne n]
  exact f.1 _ _ n h2
theorem Fr.sm (f : Fr b H H') : Same (Hx b H) H' := f.hx.trans hx_sm
/-- what is new is not the box -/
theorem hx_lf (B : BoxAt b n H) (h : rLF H ds H1 v) (B1 : BoxAt b n H1) : rLF (Hx b H) ds (Hx b H1) v := by
  obtain ⟨l, xs, rfl, h1, h2, h3⟩ := h
  have nb : l ≠ b := fun z => B.on (z ▸ h1)
  exact ⟨l, xs, rfl, by rw [hx_ne nb]; exact h1, by rw [hx_ne nb]; exact h2, h3.up (hx_tp B1)⟩
theorem hx_im {d : PyData} (h : Im H d v) (B : BoxAt b n H) : Im (Hx b H) d v := h.up (hx_tp B)
end
/-- what a def that draws promises: t draws at most -/
def spB {ι : Type} (pre : ι → Prop) (as : ι → List Rs) (t : Nat) (T : ι → Hp → Rs) : Sp := fun vs H Q _ => ∃ i b n rest, vs = V.ref b :: rest ∧ pre i ∧ Args (as i) (Hx b H) rest ∧ BoxAt b n H ∧ n + t ≤ 100000 ∧ ∀ v H', Fr b H H' → BoxAt b (n + t) H' → T i (Hx b H) (Hx b H') v → Q v H'
section
variable {P : Program} {w : World} {K : PySem.W.Frag} {mg : Str → Option Value} {base : Heap}
theorem fn_spB {ι : Type} {pre : ι → Prop} {As : ι → List Rs} {t : Nat} {TT : ι → Hp → Rs} {x qual : Str} {st : Stmt} {f : Addr} {fd : FuncData} {N ps : List Str} {k : Nat} (F : Fun K x qual st f fd) (S : FnScope N ps (defScope st)) (hl : ∀ i, (As i).length + 1 = ps.length) (hm : ∀ i, ∀ R ∈ As i, Mn false R)
    (hbody : ∀ (cdv : Value) (A : Around) (outer : List Env) (s : Shared) (H0 : Hp) (E : XK), Room k (A.deeper (PyProof.Rows.envOfC qual (defScope st) s.heap.objs.size f cdv)) →
      ∃ tt, PSs (cxOf CX0 P w K mg base N qual (defScope st) f cdv A outer s H0 E).nox (defBody st) tt ∧ ∀ i, pre i → ∀ (b : Addr) (n : Nat) (σ : St) (H : Hp), Sat false (some (rX (.ref b)) :: (As i).map some ++ List.replicate (N.length - ((As i).length + 1)) none) σ (Hx b H) → BoxAt b n H → n + t ≤ 100000 →
        ∀ (Q : VK), (∀ v H', Fr b H H' → BoxAt b (n + t) H' → TT i (Hx b H) (Hx b H') v → Q v H') → tt { nx := fun _ H' => Q .non H', rt := Q } σ H) :
    FnOk P w K mg base CX0 (k + 1) f fd ps (spB pre As t TT) := by
  have al : ∀ {as : List Rs} {H : Hp} {vs : List V}, Args as H vs → vs.length = as.length := by
    intro as
    induction as with
    | nil => intro H vs h; cases h; rfl
    | cons R as ih =>
      rintro H vs ⟨x, xs, rfl, _, h⟩
      rw [List.length_cons, List.length_cons, ih h]
  refine F.ok S (fun vs H Q E h => ?_) (fun cdv A outer s H vs Q E hr h => ?_)
  · obtain ⟨i, b, n, rest, rfl, _, a, _⟩ := h
    rw [List.length_cons, al a, hl i]
  · obtain ⟨i, b, n, rest, rfl, hp, a, B, hn, q⟩ := h
    obtain ⟨tt, ht, hq⟩ := hbody cdv A outer s H E hr
    refine ⟨tt, ht, hq i hp b n _ H ?_ B hn Q q⟩
    have := sat_start (m := false) (N := N) (as := rX (.ref b) :: As i) (vs := V.ref b :: rest) (H := Hx b H) ⟨_, _, rfl, rfl, a⟩ (ml mnX (hm i))
    exact this
end
section
variable {K : PySem.W.Frag} {σ : St} {H H' : Hp} {ta tb tc te tx : TE} {R T : Rs} {ds : List PyData} {d : PyData} {D : Ends} {tz : TS} {E : XK} {ι : Type} {pre : ι → Prop} {As : ι → List Rs} {TT : ι → Hp → Rs} {t n : Nat} {b : Addr} {tr : TA} {as : List Rs} {Q : VK}
theorem b_call (i : ι) (hp : pre i) (hb : EvR ta σ H (rX (.ref b))) (ha : EvA tr σ H as) (hA : ∀ H1 xs, Same H H1 → BoxAt b n H1 → Args as H1 xs → Args (As i) (Hx b H1) xs) (B : BoxAt b n H) (ht : n + t ≤ 100000)
    (k : ∀ v H1 H', Same H H1 → Fr b H H' → BoxAt b (n + t) H' → TT i (Hx b H1) (Hx b H') v → Q v H') : tCall (spB pre As t TT) [] E (tCons ta tr) σ H Q := hb.go fun x H1 e1 hx => ha H1 e1 _ fun xs H2 e2 aa => by
  cases hx
  exact ⟨i, b, n, xs, by rw [List.append_nil], hp, hA H2 xs (e1.trans e2) (B.sm (e1.trans e2)) aa, B.sm (e1.trans e2), ht, fun v H' f B' r => k v H2 H' (e1.trans e2) ((Fr.of (e1.trans e2)).trans f) B' r⟩
theorem e_intI {i : Int} (h : EvR ta σ H (rI (.int i))) : EvR (tCB (fun xs H Q => (∃ i, xs = [.int i] ∧ Q (.int i) H) ∨ ∃ k, xs = [.bl k] ∧ Q (.int (if k then 1 else 0)) H) (tCons ta tNil)) σ H (rI (.int i)) := e_cb1 h fun x H1 e hx Q q => .inl ⟨i, by rw [show x = V.int i from hx], q _ H1 (Same.refl H1) rfl⟩
theorem e_intB {k : Bool} (h : EvR ta σ H (rI (.bool k))) : EvR (tCB (fun xs H Q => (∃ i, xs = [.int i] ∧ Q (.int i) H) ∨ ∃ k, xs = [.bl k] ∧ Q (.int (if k then 1 else 0)) H) (tCons ta tNil)) σ H (rI (.int (if k then 1 else 0))) := e_cb1 h fun x H1 e hx Q q => .inr ⟨k, by rw [show x = V.bl k from hx], q _ H1 (Same.refl H1) rfl⟩
theorem e_abs {i : Int} (h : EvR ta σ H (rI (.int i))) : EvR (tCB (fun xs H Q => ∃ i, xs = [.int i] ∧ Q (.int (if i < 0 then -i else i)) H) (tCons ta tNil)) σ H (rI (.int (if i < 0 then -i else i))) := e_cb1 h fun x H1 e hx Q q => ⟨i, by rw [show x = V.int i from hx], q _ H1 (Same.refl H1) rfl⟩
theorem e_mod {i j : Int} (ha : EvR ta σ H (rI (.int i))) (hb : EvR tb σ H (rI (.int j))) (hj : j ≠ 0) : EvR (tOp (L2.rI (fun _ j => j ≠ 0) fun i j => .int (i.fmod j)) ta tb) σ H (rI (.int (i.fmod j))) := e_iC ha hb hj fun _ => rfl
theorem e_pow {i j : Int} (ha : EvR ta σ H (rI (.int i))) (hb : EvR tb σ H (rI (.int j))) (hj : CPow i j) : EvR (tOp (L2.rI CPow fun i j => .int (i ^ j.toNat)) ta tb) σ H (rI (.int (i ^ j.toNat))) := e_iC ha hb hj fun _ => rfl
theorem fmod_in (i : Int) {j : Int} (h : 0 < j) : 0 ≤ i.fmod j ∧ i.fmod j < j := ⟨Int.fmod_nonneg_of_pos i h, Int.fmod_lt_of_pos i h⟩
end
section
variable {P : Program} {w : World} {K : PySem.W.Frag} {mg : Str → Option Value} {base : Heap}
def spTake : Sp := spB (fun j : Int => 1 ≤ j ∧ j ≤ 1000) (fun j => [rI (.int j)]) 1 (fun j _ _ v => ∃ r, v = .int r ∧ 0 ≤ r ∧ r < j)
theorem sc_Ltake : FnScope ["_law_box_here", "_law_below", "_law_found", "_law_once", "_law_odd"] ["_law_box_here", "_law_below"] (defScope s_Ltake) := ⟨rfl, rfl, rfl, by decide +kernel, rfl, by decide +kernel, by decide +kernel⟩
theorem ok_Ltake {f : Addr} {fd : FuncData} (X : TF K mg "_law_take" s_Ltake ["_law_box_here", "_law_below"] f fd) (T : TB mg) : FnOk P w K mg base CX0 1 f fd ["_law_box_here", "_law_below"] spTake := by
  have nd := sc_Ltake.nd
  refine fn_spB X.F sc_Ltake (fun _ => rfl) (fun i => mlI ml0) fun cdv A outer s H0 E hr => ?_
  have hu := hu_of hr
  refine ⟨_, (pss_cons (ps_if (pt_cmpR op_gt (pe_ix ix_list (pv 0) pe_int (fun _ _ => rfl)) pe_int (nomark _)) (pss_cons (ps_set (i := 2) nd rfl (by first | exact Or.inl rfl | exact Or.inr rfl) (pe_op op_modN (pe_callTy call_int1 rfl T.n_int (by decide +kernel) (pa_cons (pe_ix ix_list (pv 0) pe_int (fun _ _ => rfl)) pa_nil)) (pv 1)))
      (pss_cons (ps_asg (pe_op op_fdivN (pe_ix ix_list (pv 0) pe_int (fun _ _ => rfl)) (pv 1)) (pg_sub (pv 0) pe_int set_list))
      (pss_one (ps_ret (pv 2))))) pss_nil)
      (pss_cons (ps_asg (pe_op op_add (pe_ix ix_list (pv 0) pe_int (fun _ _ => rfl)) pe_int) (pg_sub (pv 0) pe_int set_list))
      (pss_cons (ps_set (i := 3) nd rfl (by first | exact Or.inl rfl | exact Or.inr rfl) (pe_op op_modN (pe_callTy call_int1 rfl T.n_int (by decide +kernel) (pa_cons (pe_op op_pow (pe_op op_add (pe_ix ix_list (pv 0) pe_int (fun _ _ => rfl)) (pe_op op_mul pe_int (pe_ix ix_list (pv 0) pe_int (fun _ _ => rfl)))) pe_int) pa_nil)) pe_int))
      (pss_cons (ps_set (i := 4) nd rfl (by first | exact Or.inl rfl | exact Or.inr rfl) (pe_op op_add (pe_op op_modN (pe_callTy call_int1 rfl T.n_int (by decide +kernel) (pa_cons (pv 3) pa_nil)) pe_int) pe_int))
      (pss_one (ps_ret (pe_op op_modN (pe_callTy call_int1 rfl T.n_int (by decide +kernel) (pa_cons (pe_op op_fdivN (pe_op op_modN (pe_callTy call_int1 rfl T.n_int (by decide +kernel) (pa_cons (pe_op op_add (pe_op op_mul (pv 3) (pv 4)) (pe_op op_mul (pe_ix ix_list (pv 0) pe_int (fun _ _ => rfl)) pe_int)) pa_nil)) pe_int) pe_int) pa_nil)) (pv 1)))))))), ?_⟩
  rintro j ⟨j1, j2⟩ b n σ H S B hn Q k
  replace S : Sat true [some (rX (.ref b)), some (rI (.int j)), none, none, none] σ H := Sat.tp (Sat.sm S hx_sm) (mlX (mlI ml0))
  obtain ⟨x, sd, c, hb, x0, s0, s1, c0, c1⟩ := B
  have at0 : ∀ {H1 : Hp} {o : List V} {σ' : St} {Γ : Gam} {i : Int} {ti : TE} (_ : Sat true (some (rX (.ref b)) :: Γ) σ' H1) (v : Int), H1 b = some (.lst o) → EvR ti σ' H1 (rI (.int i)) → atI o i = some (.int v) → EvR (tOp (rIxL K) (tVar 0) ti) σ' H1 (rI (.int v)) := fun S' v h hi h2 => e_ixV (ev (i := 0) S' rfl) h hi h2
  refine q_ifN (b := decide (0 < x)) (b_test (e_gtI (at0 S x hb e_int (by rfl)) e_int)) (fun hx H1 e1 => ?_) fun hx H1 e1 => ?_
  · have hx := of_decide_eq_true hx
    have S1 := S.sm e1
    have hb1 := e1 _ _ hb
    refine g_setI S1 (e_mod (e_intI (at0 S1 x hb1 e_int (by rfl))) (ev (i := 1) S1 rfl) (by omega)) fun σ2 H2 e2 S2 => ?_
    have hb2 := e2 _ _ hb1
    refine q_setV (R := rI (.int (x.fdiv j))) (j := 0) (e_fdiv (at0 S2 x hb2 e_int (by rfl)) (ev (i := 1) S2 rfl) ⟨by omega, by omega⟩) (ev (i := 0) S2 rfl) e_int hb2 rfl mnI fun v H3 e3 hv => ?_
    cases (show v = V.int (x.fdiv j) from hv)
    have t3 : Tp H3 (upd H3 b (.lst [.int (x.fdiv j), .int sd, .int c])) := tp_lst (e3 _ _ hb2)
    have S3 : Sat true _ σ2 (upd H3 b (.lst [.int (x.fdiv j), .int sd, .int c])) := (S2.sm e3).up (m := true) t3
    refine s_ret (R := rI (.int (x.fmod j))) (ev (i := 2) S3 rfl) fun v H4 e4 hv => k v H4 ((Fr.of (e1.trans (e2.trans e3))).trans (Fr.trans ⟨fun a o na h => by rw [upd_ne na]; exact h, t3⟩ (Fr.of e4))) ⟨x.fdiv j, sd, c, e4 _ _ upd_same, Int.fdiv_nonneg x0 (by omega), s0, s1, c0, by omega⟩ ⟨_, hv, fmod_in x (by omega)⟩
  · have S1 := S.sm e1
    have hb1 := e1 _ _ hb
    refine q_setV (R := rI (.int (c + 1))) (j := 2) (e_add (at0 S1 c hb1 e_int (by rfl)) e_int) (ev (i := 0) S1 rfl) e_int hb1 rfl mnI fun v H3 e3 hv => ?_
    cases (show v = V.int (c + 1) from hv)
    have t3 : Tp H3 (upd H3 b (.lst ([V.int x, V.int sd, V.int c].set 2 (V.int (c + 1))))) := tp_lst (e3 _ _ hb1)
    have S3 : Sat true _ σ (upd H3 b (.lst ([V.int x, V.int sd, V.int c].set 2 (V.int (c + 1))))) := (S1.sm e3).up (m := true) t3
    have hb3 : (upd H3 b (.lst ([V.int x, V.int sd, V.int c].set 2 (V.int (c + 1))))) b = some (.lst [.int x, .int sd, .int (c + 1)]) := upd_same
    have fr3 : Fr b H (upd H3 b (.lst ([V.int x, V.int sd, V.int c].set 2 (V.int (c + 1))))) := (Fr.of (e1.trans e3)).trans ⟨fun a o na h => by rw [upd_ne na]; exact h, t3⟩
    revert S3 hb3 fr3
    generalize upd H3 b (.lst ([V.int x, V.int sd, V.int c].set 2 (V.int (c + 1)))) = H5
    intro S3 hb3 fr3
    refine g_setI S3 (e_mod (e_intI (e_pow (e_add (at0 S3 sd hb3 e_int (by rfl)) (e_mul e_int (at0 S3 (c + 1) hb3 e_int (by rfl)) (.inl ⟨by decide, by decide⟩))) e_int ⟨by decide, by decide, ?_⟩)) e_int (by decide)) fun σ6 H6 e6 S6 => ?_
    · have : sd + 52919 * (c + 1) < 2 ^ 64 := by omega
      have : 0 ≤ sd + 52919 * (c + 1) := by omega
      omega
    have ho := fmod_in ((sd + 52919 * (c + 1)) ^ (3 : Int).toNat) (j := 2147483549) (by decide)
    generalize ((sd + 52919 * (c + 1)) ^ (3 : Int).toNat).fmod 2147483549 = once at S6 ho
    refine g_setI S6 (e_add (e_mod (e_intI (ev (i := 3) S6 rfl)) e_int (by decide)) e_int) fun σ7 H7 e7 S7 => ?_
    have hd := fmod_in once (j := 30029) (by decide)
    generalize once.fmod 30029 = odd at S7 hd
    have hb7 := (e6.trans e7) _ _ hb3
    refine s_ret (R := rI (.int ((((once * (odd + 17) + (c + 1) * 7621).fmod 2147483629).fdiv 32).fmod j))) (e_mod (e_intI (e_fdiv (e_mod (e_intI (e_add (e_mul (ev (i := 3) S7 rfl) (ev (i := 4) S7 rfl) (.inl ⟨by omega, by omega⟩)) (e_mul (at0 S7 (c + 1) hb7 e_int (by rfl)) e_int (.inr ⟨by decide, by decide⟩)))) e_int (by decide)) e_int ⟨by decide, by decide⟩)) (ev (i := 1) S7 rfl) (by omega)) fun v H8 e8 hv => k v H8 (fr3.trans (Fr.of (e6.trans (e7.trans e8)))) ⟨x, sd, c + 1, e8 _ _ hb7, x0, s0, s1, by omega, by push_cast; omega⟩ ⟨_, hv, fmod_in _ (by omega)⟩
end
end Fs

/-! FsJ: the law's draws: one of some, a box, names. -/
namespace Fs
open PySem L2
abbrev s_Lnames : Stmt := topS 31
/-- a list that is not the box -/
def rN (b : Addr) (ds : List PyData) : Rs := fun H v => ∃ l xs, v = .ref l ∧ l ≠ b ∧ H l = some (.lst xs) ∧ ImL H ds xs
theorem rLF.old2 {H H1 H' : Hp} {ds : List PyData} {v : V} (e : Same H H1) (h : rLF H1 ds H' v) : rLF H ds H' v := h.old e
instance {b : Addr} {ds : List PyData} : Mo (rN b ds) := ⟨fun e ⟨l, xs, a, n, h, r⟩ => ⟨l, xs, a, n, e _ _ h, r.sm e⟩⟩
section
variable {b : Addr} {n : Nat} {H H1 H' : Hp} {v : V} {ds : List PyData}
theorem rN_hx (B : BoxAt b n H) (h : rN b ds H v) : rL ds (Hx b H) v := by
  obtain ⟨l, xs, rfl, nb, h1, h2⟩ := h
  exact ⟨l, xs, rfl, by rw [hx_ne nb]; exact h1, h2.up (hx_tp B)⟩
theorem rN_of (h : rL ds (Hx b H) v) : rN b ds H v := by
  obtain ⟨l, xs, rfl, h1, h2⟩ := h
  obtain ⟨nb, h3⟩ := hx_some h1
  exact ⟨l, xs, rfl, nb, h3, h2.sm hx_sm⟩
theorem rN_lf (B : BoxAt b n H) (h : rLF H ds H1 v) : rN b ds H1 v := by
  obtain ⟨l, xs, rfl, h1, h2, h3⟩ := h
  exact ⟨l, xs, rfl, fun z => B.on (z ▸ h1), h2, h3⟩
end
section
variable {K : PySem.W.Frag} {σ : St} {H H' : Hp} {ta tb tc te tx : TE} {R T : Rs} {ds : List PyData} {d : PyData} {D : Ends} {tz : TS} {E : XK} {n : Nat} {b : Addr} {tr : TA} {as : List Rs} {Q : VK}
theorem e_rN {l : Addr} {xs : List V} (h : EvR te σ H (rX (.ref l))) (nb : l ≠ b) (hl : H l = some (.lst xs)) (r : ImL H ds xs) : EvR te σ H (rN b ds) := h.imp fun H2 v e hv => ⟨l, xs, hv, nb, e _ _ hl, r.sm e⟩
theorem e_rNF (B : BoxAt b n H) (h : EvR te σ H (rLF H ds)) : EvR te σ H (rN b ds) := h.imp fun H2 v e hv => rN_lf B hv
theorem r_go2 {r : R2} (h : EvR ta σ H R) (k : ∀ x H1, Same H H1 → R H1 x → tb σ H1 fun y H2 => r x y H2 D.rt) : tRet (tOp r ta tb) D σ H := h.go k
theorem t_bm {r : V → List V → Hp → VK → Prop} {l : Addr} {zs : List V} (ho : EvR ta σ H (rX (.ref l))) (hl : H l = some (.lst zs)) (k : ∀ H1, Same H H1 → tr σ H1 fun xs H2 => r (.ref l) xs H2 Q) : tBM K "list" r ta tr σ H Q := ho.go fun x H1 e1 hx => by
  cases hx
  exact ⟨.inl ⟨rfl, zs, SqL.of (e1 _ _ hl)⟩, k H1 e1⟩
theorem d_bm {r : V → List V → Hp → VK → Prop} {l : Addr} {zs : List V} (ho : EvR ta σ H (rX (.ref l))) (hl : H l = some (.lst zs)) (k : ∀ H1, Same H H1 → tr σ H1 fun xs H2 => r (.ref l) xs H2 fun _ H' => D.nx σ H') : tDrop (tBM K "list" r ta tr) D σ H := t_bm ho hl k
/-- one draw -/
theorem t_take {j : Int} (hb : EvR ta σ H (rX (.ref b))) (he : EvR te σ H (rI (.int j))) (hj : 1 ≤ j ∧ j ≤ 1000) (B : BoxAt b n H) (ht : n + 1 ≤ 100000) (k : ∀ (r : Int) H', 0 ≤ r → r < j → Fr b H H' → BoxAt b (n + 1) H' → Q (.int r) H') : tCall spTake [] E (tCons ta (tCons te tNil)) σ H Q :=
  b_call (as := [rI (.int j)]) j hj hb (aI he aa_nil) (fun H1 xs e B1 aa => by
    obtain ⟨x, ys, rfl, hx, hy⟩ := aa
    exact ⟨x, ys, rfl, hx_im hx B1, hy⟩) B ht fun v H1 H' e f B' ⟨r, hv, h1, h2⟩ => by
      cases hv
      exact k r H' h1 h2 f B'
end
section
variable {P : Program} {w : World} {K : PySem.W.Frag} {mg : Str → Option Value} {base : Heap}
def spOf : Sp := spB (fun ds : List PyData => ds ≠ [] ∧ ds.length ≤ 1000) (fun ds => [rL ds]) 1 (fun ds _ H' v => ∃ d ∈ ds, Im H' d v)
theorem sc_Lof : FnScope ["_law_box_here", "_law_some"] ["_law_box_here", "_law_some"] (defScope s_Lof) := ⟨rfl, rfl, rfl, by decide +kernel, rfl, by decide +kernel, by decide +kernel⟩
theorem atI_mem {α : Type} {l : List α} {r : Int} (h0 : 0 ≤ r) (h1 : r < l.length) : ∃ x, atI l r = some x ∧ l[r.toNat]? = some x := by
  have hi : r.toNat < l.length := by omega
  refine ⟨l[r.toNat], ?_, List.getElem?_eq_getElem hi⟩
  have := atI_nat (xs := l) (i := r.toNat) (List.getElem?_eq_getElem hi)
  rwa [Int.toNat_of_nonneg h0] at this
theorem ok_Lof {f f1 : Addr} {fd fd1 : FuncData} (X : TF K mg "_law_of" s_Lof ["_law_box_here", "_law_some"] f fd) (T : TB mg) (G__law_take : GF P w K mg base 1 "_law_take" f1 fd1 ["_law_box_here", "_law_below"] spTake) : FnOk P w K mg base CX0 2 f fd ["_law_box_here", "_law_some"] spOf := by
  have nd := sc_Lof.nd
  refine fn_spB X.F sc_Lof (fun _ => rfl) (fun i => ml mnMo ml0) fun cdv A outer s H0 E hr => ?_
  have hu := hu_of hr
  refine ⟨_, (pss_one (ps_ret (pe_ix ix_list (pv 1) (pe_call G__law_take.F (hr.mono (by first | decide | omega)) rfl G__law_take.g G__law_take.kp G__law_take.b .nil pass0 (pa_cons (pv 0) (pa_cons (pe_callB call_len_seq rfl T.n_len PySem.boot_len (pa_cons (pv 1) pa_nil)) pa_nil))) (fun _ _ => rfl)))), ?_⟩
  rintro ds ⟨hne, hlen⟩ b n σ H S B hn Q k
  replace S : Sat false [some (rX (.ref b)), some (rL ds)] σ (Hx b H) := S
  obtain ⟨v0, ⟨l, zs, rfl, hl, rl⟩, S0⟩ := S.pin 1 rfl
  obtain ⟨nb, hl2⟩ := hx_some hl
  have S1 := S0.sm hx_sm
  have rl2 := rl.sm hx_sm
  have hpos : 0 < ds.length := List.length_pos_iff.mpr hne
  refine r_go2 (ev (i := 1) S1 rfl) fun x H1 e1 hx => ?_
  have S2 := S1.sm e1
  refine t_take (ev (i := 0) S2 rfl) (e_lenL (ds := ds) (e_at (ev (i := 1) S2 rfl) (e1 _ _ hl2) (rl2.sm e1))) ⟨by omega, by omega⟩ (B.sm e1) hn fun r H' r0 r1 f B' => ?_
  have fr := (Fr.of e1).trans f
  obtain ⟨y, hy1, hy2⟩ := atI_mem (l := zs) r0 (by rw [rl.len]; exact r1)
  obtain ⟨d, hd1, hd2⟩ := rl2.got hy2
  exact ⟨l, zs, r, y, hx, rfl, SqL.of (fr.1 _ _ nb hl2), hy1, k y H' fr B' ⟨d, List.mem_of_getElem? hd1, hx_im (hd2.up fr.2) B'⟩⟩
end
section
variable {K : PySem.W.Frag} {σ : St} {H H' : Hp} {ta tb tc te tx : TE} {ds : List PyData} {E : XK} {n : Nat} {b : Addr} {Q : VK}
/-- one of some -/
theorem t_of (hb : EvR ta σ H (rX (.ref b))) (he : EvR te σ H (rN b ds)) (hne : ds ≠ []) (hl : ds.length ≤ 1000) (B : BoxAt b n H) (ht : n + 1 ≤ 100000) (k : ∀ v d H', d ∈ ds → Im H' d v → Fr b H H' → BoxAt b (n + 1) H' → Q v H') : tCall spOf [] E (tCons ta (tCons te tNil)) σ H Q :=
  b_call (as := [rN b ds]) ds ⟨hne, hl⟩ hb (aa_cons mnMo he aa_nil) (fun H1 xs e B1 aa => by
    obtain ⟨x, ys, rfl, hx, hy⟩ := aa
    exact ⟨x, ys, rfl, rN_hx B1 hx, hy⟩) B ht fun v H1 H' e f B' ⟨d, h1, h2⟩ => k v d H' h1 (h2.sm hx_sm) f B'
end
section
variable {P : Program} {w : World} {K : PySem.W.Frag} {mg : Str → Option Value} {base : Heap}
/-- a list, frozen or not -/
def rS (K : PySem.W.Frag) (ds : List PyData) : Rs := fun H v => ∃ a xs, v = V.ref a ∧ SqL K H a xs ∧ ImL H ds xs
instance {K : PySem.W.Frag} {ds : List PyData} : Mo (rS K ds) := ⟨fun e ⟨a, xs, h1, h2, h3⟩ => ⟨a, xs, h1, e.seq h2, h3.sm e⟩⟩
theorem e_lenS {K : PySem.W.Frag} {σ : St} {H : Hp} {ta : TE} {ds : List PyData} (ha : EvR ta σ H (rS K ds)) : EvR (tCB (rLenS K) (tCons ta tNil)) σ H (rI (.int (ds.length : Int))) := e_cb1 ha fun x H1 _ hx Q q => by
  obtain ⟨a, xs, rfl, ho, r⟩ := hx
  exact ⟨a, xs, rfl, .inl ho, q _ H1 (Same.refl H1) (by rw [r.len]; rfl)⟩
theorem e_ixS {K : PySem.W.Frag} {σ : St} {H : Hp} {ta tb : TE} {ds : List PyData} {d : PyData} {i : Int} (ha : EvR ta σ H (rS K ds)) (hb : EvR tb σ H (rI (.int i))) (h : atI ds i = some d) : EvR (tOp (rIxL K) ta tb) σ H (rI d) :=
  e_op ha hb fun x y H1 _ hx hy Q q => by
    obtain ⟨a, xs, rfl, ho, r⟩ := hx
    obtain ⟨z, hz, hd⟩ := imL_at r h
    exact ⟨a, xs, i, z, rfl, hy, ho, hz, q z H1 (Same.refl H1) hd⟩
def spLbox (K : PySem.W.Frag) : Sp := spS (fun i : List Int × Nat => i.1.length ≤ 100000 ∧ i.2 ≤ 1000) (fun i => [rS K (i.1.map PyData.int), rI (.int i.2)]) (fun _ H0 H' v => ∃ b, v = .ref b ∧ H0 b = none ∧ BoxAt b 0 H')
theorem sc_Lbox : FnScope ["_law_script", "_law_k", "_law_cell", "_law_seed"] ["_law_script", "_law_k"] (defScope s_Lbox) := ⟨rfl, rfl, rfl, by decide +kernel, rfl, by decide +kernel, by decide +kernel⟩
theorem ok_Lbox {f : Addr} {fd : FuncData} (X : TF K mg "_law_box" s_Lbox ["_law_script", "_law_k"] f fd) (T : TB mg) : FnOk P w K mg base CX0 1 f fd ["_law_script", "_law_k"] (spLbox K) := by
  have nd := sc_Lbox.nd
  refine fn_spS (m := false) X.F sc_Lbox (fun _ => rfl) (fun i => ml mnMo (mlI ml0)) fun cdv A outer s H0 E hr => ?_
  have hu := hu_of hr
  refine ⟨_, (pss_cons (ps_set (i := 2) nd rfl (by first | exact Or.inl rfl | exact Or.inr rfl) (pe_ifExp (pt_cmpR op_lt (pv 1) (pe_callB call_len_seq rfl T.n_len PySem.boot_len (pa_cons (pv 0) pa_nil)) (nomark _)) (pe_ix ix_list (pv 0) (pv 1) (fun _ _ => rfl)) pe_int))
      (pss_cons (ps_set (i := 3) nd rfl (by first | exact Or.inl rfl | exact Or.inr rfl) (pe_op op_modN (pe_callTy call_int1 rfl T.n_int (by decide +kernel) (pa_cons (pe_op op_mul (pe_op op_add (pe_op op_add (pe_op op_modN (pe_callTy call_int1 rfl T.n_int (by decide +kernel) (pa_cons (pv 2) pa_nil)) pe_int) (pe_op op_mul pe_int (pv 1))) pe_int) pe_int) pa_nil)) pe_int))
      (pss_one (ps_ret (pe_lst (pa_cons (pe_op op_mul (pe_callB call_abs rfl T.n_abs (by decide +kernel) (pa_cons (pv 2) pa_nil)) (pe_callTy call_int1 rfl T.n_int (by decide +kernel) (pa_cons (pe_cmpR op_ge (pe_callB call_abs rfl T.n_abs (by decide +kernel) (pa_cons (pv 2) pa_nil)) (pe_op op_pow pe_int pe_int) (nomark _)) pa_nil))) (pa_cons (pv 3) (pa_cons pe_int pa_nil)))))))), ?_⟩
  rintro ⟨sc, i⟩ ⟨h1, h2⟩ σ H S Q k
  replace h2 : i ≤ 1000 := h2
  replace S : Sat false [some (rS K (sc.map PyData.int)), some (rI (.int (i : Int))), none, none] σ H := S
  refine g_setI (d := .int (sc.getD i 0)) S (e_if (b_test (e_ltI (ev (i := 1) S rfl) (e_lenS (ev (i := 0) S rfl)))) (fun h => ?_) fun h => ?_) fun σ1 H1 e1 S1 => ?_
  · have h := of_decide_eq_true h
    rw [List.length_map] at h
    have hi : i < sc.length := by omega
    refine e_ixS (ev (i := 0) S rfl) (ev (i := 1) S rfl) (atI_nat ?_)
    rw [List.getElem?_map, List.getD_eq_getElem?_getD, List.getElem?_eq_getElem hi]
    rfl
  · have h := of_decide_eq_false h
    rw [List.length_map] at h
    have hi : sc.length ≤ i := by omega
    have : sc.getD i 0 = 0 := by
      rw [List.getD_eq_getElem?_getD, List.getElem?_eq_none hi]
      rfl
    rw [this]
    exact e_int
  generalize sc.getD i 0 = cell at S1
  refine g_setI S1 (e_mod (e_intI (e_mul (e_add (e_add (e_mod (e_intI (ev (i := 2) S1 rfl)) e_int (by decide)) (e_mul e_int (ev (i := 1) S1 rfl) (.inl ⟨by decide, by decide⟩))) e_int) e_int (.inr ⟨by decide, by decide⟩))) e_int (by decide)) fun σ2 H2 e2 S2 => ?_
  have hs := fmod_in ((cell.fmod 2305843009213693921 + 44021 * (i : Int) + 83) * 40009) (j := 2147483563) (by decide)
  generalize ((cell.fmod 2305843009213693921 + 44021 * (i : Int) + 83) * 40009).fmod 2147483563 = seed at S2 hs
  refine s_ret (R := rLF H2 [.int ((if cell < 0 then -cell else cell) * (if decide ((10 : Int) ^ (18 : Int).toNat ≤ (if cell < 0 then -cell else cell)) = true then 1 else 0)), .int seed, .int 0]) (e_lstF (a_cons (e_mul (e_abs (ev (i := 2) S2 rfl)) (e_intB (e_geI (e_abs (ev (i := 2) S2 rfl)) (e_pow e_int e_int ⟨by decide, by decide, by decide⟩))) (.inr ⟨by (repeat' split) <;> decide, by (repeat' split) <;> decide⟩)) (a_cons (ev (i := 3) S2 rfl) (a_cons e_int a_nil))) (by show 3 ≤ 100000; decide)) fun v H3 e3 hv => ?_
  obtain ⟨l, xs, rfl, q1, q2, q3⟩ := hv
  obtain ⟨x1, r1, rfl, y1, q3⟩ := q3
  obtain ⟨x2, r2, rfl, y2, q3⟩ := q3
  obtain ⟨x3, r3, rfl, y3, q3⟩ := q3
  cases q3
  rw [show x1 = V.int _ from y1, show x2 = V.int _ from y2, show x3 = V.int _ from y3] at q2
  refine k _ H3 (e1.trans (e2.trans e3)) ⟨l, rfl, (e1.trans e2).free q1, _, _, _, q2, ?_, hs.1, hs.2, by decide, by decide⟩
  refine Int.mul_nonneg (by split <;> omega) (by (repeat' split) <;> decide)
/-! ### names -/
def nmD (n : Nm) : PyData := .str n.1
def poolN : List Nm := [⟨"a", by decide +kernel⟩, ⟨"b", by decide +kernel⟩, ⟨"c", by decide +kernel⟩, ⟨"ab", by decide +kernel⟩, ⟨"z", by decide +kernel⟩, ⟨"m", by decide +kernel⟩, ⟨"zz", by decide +kernel⟩]
structure NamesOk (ns : List Nm) (k : Nat) : Prop where
  nd : ns.Nodup
  len : ns.length = k
  pool : ∀ n ∈ ns, n ∈ poolN
  asc : ns.Pairwise fun a b => a.1.cps.toList ≤ b.1.cps.toList
theorem eraseIdx_perm {α : Type} : ∀ {l : List α} {i : Nat} {x : α}, l[i]? = some x → l.Perm (x :: l.eraseIdx i)
  | [], i, x, h => by simp at h
  | y :: l, 0, x, h => by
    have : y = x := by simpa using h
    rw [this]
    exact List.Perm.refl _
  | y :: l, i + 1, x, h => by
    have h : l[i]? = some x := by simpa using h
    exact ((eraseIdx_perm h).cons y).trans (List.Perm.swap x y _)
theorem map_eraseIdx {α β : Type} (f : α → β) : ∀ (l : List α) (i : Nat), (l.eraseIdx i).map f = (l.map f).eraseIdx i
  | [], i => by simp
  | x :: l, 0 => rfl
  | x :: l, i + 1 => by
    show f x :: (l.eraseIdx i).map f = f x :: (l.map f).eraseIdx i
    rw [map_eraseIdx f l i]
theorem seqIx {n : Nat} {r : Int} (h0 : 0 ≤ r) (h1 : r < n) : seqIndex? r n = some r.toNat := by
  have h2 : ¬ r < 0 := by omega
  unfold seqIndex?
  simp [h0, h1, h2]
def spNames : Sp := spB (fun k : Nat => k ≤ 5) (fun k => [rI (.int (k : Int))]) 5 (fun k H0 H' v => ∃ ns, NamesOk ns k ∧ rLF H0 (ns.map nmD) H' v)
theorem sc_Lnames : FnScope ["_law_box_here", "_law_folk", "_law_pool", "_law_found", "_law_turn"] ["_law_box_here", "_law_folk"] (defScope s_Lnames) := ⟨rfl, rfl, rfl, by decide +kernel, rfl, by decide +kernel, by decide +kernel⟩
theorem names_alike (ns : List Nm) : PySem.W.AllAlike (ns.map nmD) := PySem.W.AllAlike.of fun _ _ => rfl
theorem names_sortable (ns : List Nm) : PySem.W.Sortable (ns.map nmD) := PySem.W.Sortable.others fun _ => ⟨by simp [nmD], fun _ z => by cases z⟩
theorem ok_Lnames {f f1 : Addr} {fd fd1 : FuncData} (X : TF K mg "_law_names" s_Lnames ["_law_box_here", "_law_folk"] f fd) (T : TB mg) (G__law_take : GF P w K mg base 1 "_law_take" f1 fd1 ["_law_box_here", "_law_below"] spTake) : FnOk P w K mg base CX0 2 f fd ["_law_box_here", "_law_folk"] spNames := by
  have nd := sc_Lnames.nd
  refine fn_spB X.F sc_Lnames (fun _ => rfl) (fun i => mlI ml0) fun cdv A outer s H0 E hr => ?_
  have hu := hu_of hr
  refine ⟨_, (pss_cons (ps_par (i := 2) (j := 3) (by rfl) nd rfl rfl (by decide) rfl rfl (pa_cons (pe_lst (pa_cons pe_str (pa_cons pe_str (pa_cons pe_str (pa_cons pe_str (pa_cons pe_str (pa_cons pe_str (pa_cons pe_str pa_nil)))))))) (pa_cons (pe_lst pa_nil) pa_nil)) (by rfl))
      (pss_cons (ps_for PassesOwn.never rfl (pi_range1 rfl T.n_range (pa_cons (pv 1) pa_nil)) (pg_name (i := 4) nd rfl (by first | exact Or.inl rfl | exact Or.inr rfl)) (pss_one (ps_expr (pe_bm PySem.F.plainAttrs_list PySem.F.slot_list_append PySem.F.type_list_append mt_append (pv 3) (pa_cons (pe_bm PySem.F.plainAttrs_list PySem.F.slot_list_pop PySem.F.type_list_pop mt_popAt (pv 2) (pa_cons (pe_call G__law_take.F (hr.mono (by first | decide | omega)) rfl G__law_take.g G__law_take.kp G__law_take.b .nil pass0 (pa_cons (pv 0) (pa_cons (pe_callB call_len_seq rfl T.n_len PySem.boot_len (pa_cons (pv 2) pa_nil)) pa_nil))) pa_nil)) pa_nil)))))
      (pss_one (ps_ret (pe_callB (cr_sortD rfl hr.units) rfl T.n_sorted (by decide +kernel) (pa_cons (pv 3) pa_nil)))))), ?_⟩
  intro kk hk b n σ H S B hn Q k
  replace hk : kk ≤ 5 := hk
  replace S : Sat true [some (rX (.ref b)), some (rI (.int (kk : Int))), none, none, none] σ H := Sat.tp (Sat.sm S hx_sm) (mlX (mlI ml0))
  refine q_par (R := rLF H (poolN.map nmD)) (T := fun He => rLF He []) S (e_lstF (a_cons e_str (a_cons e_str (a_cons e_str (a_cons e_str (a_cons e_str (a_cons e_str (a_cons e_str a_nil))))))) (by decide)) (fun He e => e_lstF (ds := []) a_nil (by decide)) fun v u σ1 He H1 e1 hv e2 hu S1 => ?_
  obtain ⟨lp, zp, rfl, p1, p2, p3⟩ := hv
  obtain ⟨lf, zf, rfl, f1, f2, f3⟩ := hu
  have npf : lp ≠ lf := fun z => by rw [z, f1] at p2; cases p2
  have nlf : H lf = none := e1.free f1
  have hbn := B.on
  have npb : lp ≠ b := fun z => hbn (z ▸ p1)
  have nfb : lf ≠ b := fun z => hbn (z ▸ nlf)
  have hz : kk ≤ 100000 := by omega
  refine q_for (m := true) (enc := PyData.int) (xs := upTo kk) (by have := i_rng (m := true) (ev (i := 1) S1 rfl) ⟨by omega, by omega⟩; exact this) fun H2 e3 => ⟨fun pre σ' H' => Sat true [some (rX (.ref b)), some (rI (.int (kk : Int))), some (rX (.ref lp)), some (rX (.ref lf)), none] σ' H' ∧ Tp H2 H' ∧ Fr b H H' ∧ BoxAt b (n + pre.length) H' ∧ ∃ ps fs xs ys, H' lp = some (.lst xs) ∧ ImL H' (ps.map nmD) xs ∧ H' lf = some (.lst ys) ∧ ImL H' (fs.map nmD) ys ∧ (fs ++ ps).Perm poolN ∧ fs.length = pre.length,
      ⟨S1.sm e3, Tp.refl _, Fr.of (e1.trans (e2.trans e3)), B.sm (e1.trans (e2.trans e3)), poolN, [], zp, zf, (e2.trans e3) _ _ p2, p3.sm (e2.trans e3), e3 _ _ f2, f3.sm e3, List.Perm.refl _, rfl⟩, fun pre σ' H' h => h.2.1, fun pre i post σ' H' H'' v esp hI sm hv => ?_, fun σ' H' hI => ?_⟩
  · obtain ⟨S', tp', fr', B', ps, fs, xs, ys, g1, g2, g3, g4, g5, g6⟩ := hI
    have S2 := (S'.sm sm).set 4 mnI hv
    have hpl : pre.length + 1 ≤ kk := by
      have := congrArg List.length esp
      rw [upTo_length, List.length_append, List.length_cons] at this
      omega
    have hps : ps.length = 7 - fs.length := by
      have := g5.length_eq
      rw [List.length_append] at this
      have e7 : poolN.length = 7 := rfl
      omega
    have B'' := B'.sm sm
    refine d_bm (l := lf) (ev (i := 3) S2 rfl) (sm _ _ g3) fun H3 e4 => ?_
    have S3 := S2.sm e4
    refine t_bm (l := lp) (ev (i := 2) S3 rfl) ((sm.trans e4) _ _ g1) fun H4 e5 => ?_
    have s4 := sm.trans (e4.trans e5)
    have S4 := S3.sm e5
    refine t_take (ev (i := 0) S4 rfl) (e_lenL (ds := ps.map nmD) (e_at (ev (i := 2) S4 rfl) (s4 _ _ g1) (g2.sm s4))) ⟨by rw [List.length_map]; omega, by rw [List.length_map]; omega⟩ (B'.sm s4) (by omega) fun r H5 r0 r1 f5 B5 => ?_
    rw [List.length_map] at r1
    have hp5 : H5 lp = some (.lst xs) := f5.1 _ _ npb (s4 _ _ g1)
    have hf5 : H5 lf = some (.lst ys) := f5.1 _ _ nfb (s4 _ _ g3)
    have g25 := (g2.sm s4).up f5.2
    have g45 := (g4.sm s4).up f5.2
    have hrn : r.toNat < ps.length := by omega
    obtain ⟨y, hy1, hy2⟩ := g25.get (i := r.toNat) (d := nmD ps[r.toNat]) (by rw [List.getElem?_map, List.getElem?_eq_getElem hrn]; rfl)
    refine ⟨lp, xs, r, r.toNat, y, rfl, rfl, hp5, by omega, by omega, seqIx r0 (by rw [g25.len, List.length_map]; exact r1), hy1, ?_⟩
    have t6 : Tp H5 (upd H5 lp (.lst (xs.eraseIdx r.toNat))) := tp_lst hp5
    generalize hH6 : upd H5 lp (.lst (xs.eraseIdx r.toNat)) = H6 at t6
    have hf6 : H6 lf = some (.lst ys) := by rw [← hH6, upd_ne npf.symm]; exact hf5
    have hp6 : H6 lp = some (.lst (xs.eraseIdx r.toNat)) := by rw [← hH6]; exact upd_same
    refine ⟨lf, ys, y, rfl, rfl, hf6, len_lt (by rw [g4.len, List.length_map]; omega), ?_⟩
    have t7 : Tp H6 (upd H6 lf (.lst (ys ++ [y]))) := tp_lst hf6
    generalize hH7 : upd H6 lf (.lst (ys ++ [y])) = H7 at t7
    have hf7 : H7 lf = some (.lst (ys ++ [y])) := by rw [← hH7]; exact upd_same
    have hp7 : H7 lp = some (.lst (xs.eraseIdx r.toNat)) := by rw [← hH7, upd_ne npf]; exact hp6
    have t57 := t6.trans t7
    refine ⟨((S4.up (m := true) (f5.2.trans t57)).fgt 4 : Sat true _ _ _), tp'.trans (s4.tp.trans (f5.2.trans t57)), ⟨fun a o na ho => ?_, fr'.2.trans (s4.tp.trans (f5.2.trans t57))⟩, ?_, ps.eraseIdx r.toNat, fs ++ [ps[r.toNat]], _, _, hp7, ?_, hf7, ?_, ?_, ?_⟩
    · have n1 : a ≠ lp := fun z => by rw [z, p1] at ho; cases ho
      have n2 : a ≠ lf := fun z => by rw [z, nlf] at ho; cases ho
      rw [← hH7, upd_ne n2, ← hH6, upd_ne n1]
      exact f5.1 _ _ na (s4 _ _ (fr'.1 _ _ na ho))
    · obtain ⟨c1, c2, c3, h, r⟩ := B5
      refine ⟨c1, c2, c3, ?_, by rw [List.length_append, List.length_singleton]; exact r⟩
      rw [← hH7, upd_ne nfb.symm, ← hH6, upd_ne npb.symm]
      exact h
    · rw [map_eraseIdx]
      exact (g25.up t57).eraseIdx _
    · rw [List.map_append]
      exact (g45.up t57).snoc (hy2.up t57)
    · have pm := eraseIdx_perm (List.getElem?_eq_getElem hrn)
      rw [List.append_assoc]
      exact (List.Perm.append_left fs pm.symm).trans g5
    · rw [List.length_append, List.length_append, g6]
      rfl
  · obtain ⟨S', tp', fr', B', ps, fs, xs, ys, g1, g2, g3, g4, g5, g6⟩ := hI
    rw [upTo_length] at g6 B'
    have hnd : (fs ++ ps).Nodup := g5.nodup_iff.mpr (by decide)
    refine s_ret (e_sort (enc := nmD) (xs := fs) (e_at (ev (i := 3) S' rfl) g3 g4) (names_alike fs) (names_sortable fs) (by omega) fun _ _ => by show 0 ≤ 50; decide) fun v H3 e4 hv => ?_
    obtain ⟨ns, m1, m2, m3⟩ := hv
    have m4 := hx_lf B' m3 (B'.sm e4)
    refine k v H3 (fr'.trans (Fr.of e4)) ((B'.sm e4).up (by omega)) ⟨ns, ⟨m1.nodup_iff.mpr (List.nodup_append.mp hnd).1, by rw [m1.length_eq]; exact g6, fun x hx => g5.mem_iff.mp (List.mem_append_left _ (m1.mem_iff.mp hx)), m2.imp fun {a c} h => ?_⟩, rLF.old2 fr'.hx m4⟩
    have := congrFun (congrFun (PySem.W.dataLe_str (fun n : Nm => n.1)) a) c
    exact of_decide_eq_true (this.symm.trans h)
end
end Fs

/-! Fs1: a drawn log is well (plain). -/
namespace Fs
open PySem L2
/-! ### sorted events -/
def EvLe (a b : Ev) : Prop := if a.1 = b.1 then a.2 ≤ b.2 else a.1.1.cps.toList ≤ b.1.1.cps.toList
theorem str_eqv (a b : Nm) : PyData.eqv (.str a.1) (.str b.1) = decide (a = b) := by
  show (a.1 == b.1) = _
  rw [Bool.eq_iff_iff, beq_iff_eq, decide_eq_true_eq]
  exact ⟨Subtype.ext, fun h => congrArg Subtype.val h⟩
theorem evle_iff (a b : Ev) : PySem.W.dataLe false id (evD a) (evD b) = true ↔ EvLe a b := by
  rw [PySem.W.dataLe_eq]
  show (!PySem.W.dataLt (evD b) (evD a)) = true ↔ _
  unfold evD
  rw [PySem.W.dataLt_pair rfl rfl, str_eqv, PySem.W.dataLt_int, PySem.W.dataLt_str]
  have h2 : PyData.eqv (.int b.2) (.int a.2) = decide (b.2 = a.2) := by
    show (b.2 == a.2) = _
    rw [Bool.eq_iff_iff]; simp
  rw [h2]
  unfold EvLe
  by_cases h : a.1 = b.1
  · rw [if_pos h, if_pos (decide_eq_true h.symm)]
    by_cases h3 : b.2 = a.2
    · rw [if_pos (decide_eq_true h3)]
      simp
      omega
    · rw [if_neg (by simpa using h3)]
      simp
  · rw [if_neg h, if_neg (by simpa using fun z => h z.symm)]
    rw [Bool.not_eq_true', decide_eq_false_iff_not, List.not_lt]
theorem nm_ext {a b : Nm} (h : a.1.cps.toList = b.1.cps.toList) : a = b := by
  obtain ⟨⟨x⟩, _⟩ := a
  obtain ⟨⟨y⟩, _⟩ := b
  have : x = y := Array.toList_inj.mp h
  subst this
  rfl
theorem evle_anti {a b : Ev} (h1 : EvLe a b) (h2 : EvLe b a) : a = b := by
  unfold EvLe at h1 h2
  by_cases h : a.1 = b.1
  · rw [if_pos h] at h1
    rw [if_pos h.symm] at h2
    exact Prod.ext h (by omega)
  · rw [if_neg h] at h1
    rw [if_neg fun z => h z.symm] at h2
    exact absurd (nm_ext (List.le_antisymm h1 h2)) h
theorem evs_unique {xs ys : List Ev} (p : xs.Perm ys) (h1 : xs.Pairwise EvLe) (h2 : ys.Pairwise EvLe) : xs = ys := List.Perm.eq_of_pairwise (le := EvLe) (fun _ _ _ _ a b => evle_anti a b) h1 h2 p
def sortE (es : List Ev) : List Ev := es.mergeSort (PySem.W.dataLe false evD)
theorem sortE_perm (es : List Ev) : (sortE es).Perm es := List.mergeSort_perm es _
theorem sortE_asc (es : List Ev) : (sortE es).Pairwise EvLe := (PySem.W.sort_pairwise (PySem.W.sortLe_total (PyProof.Rows.listOrd PyProof.Rows.itemOrd) false (fun b : Ev => PySem.W.keyToks (evD b))) es).imp fun {a b} h => (evle_iff a b).mp h
theorem e_sortEv {K : PySem.W.Frag} {σ : St} {H : Hp} {te : TE} {es : List Ev} (h : EvR te σ H (rL (es.map evD))) (hl : es.length ≤ 100000) : EvR (tCB (rSortD K) (tCons te tNil)) σ H (rLF H ((sortE es).map evD)) := (e_sort (enc := evD) (xs := es) h (evs_alike es) (evs_sortable es) hl fun _ _ => by show 1 ≤ 50; decide).imp fun H2 v _ r => by
  obtain ⟨ys, m1, m2, m3⟩ := r
  have : ys = sortE es := evs_unique (m1.trans (sortE_perm es).symm) (m2.imp fun {a b} h => (evle_iff a b).mp h) (sortE_asc es)
  rw [← this]
  exact m3

/-! ### what a drawn log keeps -/
structure LogI (ns : List Nm) (told marks : List Ev) (lets : List Mg) (f : Nm → Int) : Prop where
  tnd : told.Nodup
  tmem : ∀ n i, (n, i) ∈ told ↔ n ∈ ns ∧ 0 ≤ i ∧ i < f n
  f0 : ∀ n, 0 ≤ f n
  line : told.Pairwise fun x y => x.1 = y.1 → x.2 < y.2
  mnd : marks.Nodup
  msub : ∀ e ∈ marks, e ∈ told
  mlen : marks.length ≤ 12
  lord : ∀ m ∈ lets, ∃ i j : Nat, i < j ∧ told[i]? = some m.1 ∧ told[j]? = some m.2
theorem LogI.start (ns : List Nm) : LogI ns [] [] [] fun _ => 0 := ⟨List.nodup_nil, fun n i => ⟨fun h => (by cases h), fun h => by omega⟩, fun _ => Int.le_refl _, List.Pairwise.nil, List.nodup_nil, fun e h => (by cases h), by decide, fun m h => (by cases h)⟩
/-- a turn of the drawing -/
theorem LogI.turn {ns : List Nm} {told marks : List Ev} {lets new : List Mg} {f : Nm → Int} (I : LogI ns told marks lets f) {n : Nm} (hn : n ∈ ns) (hnew : ∀ m ∈ new, m.1 ∈ told ∧ m.2 = (n, f n)) (b : Bool) (hb : b = true → marks.length < 12) :
    LogI ns (told ++ [(n, f n)]) (if b then marks ++ [(n, f n)] else marks) (lets ++ new) (fun z => if z = n then f n + 1 else f z) := by
  have hnot : (n, f n) ∉ told := fun h => by
    have := ((I.tmem n (f n)).mp h).2.2
    omega
  refine ⟨?_, fun m i => ?_, fun m => ?_, ?_, ?_, fun e he => ?_, ?_, fun m hm => ?_⟩
  · exact List.nodup_append.mpr ⟨I.tnd, List.nodup_cons.mpr ⟨List.not_mem_nil, List.nodup_nil⟩, fun a ha c hc e => hnot (by rw [← List.mem_singleton.mp hc, ← e]; exact ha)⟩
  · rw [List.mem_append, I.tmem, List.mem_singleton]
    by_cases h : m = n
    · subst h
      rw [if_pos rfl]
      have := I.f0 m
      constructor
      · rintro (⟨a, b, c⟩ | a)
        · exact ⟨a, b, by omega⟩
        · have : i = f m := congrArg Prod.snd a
          exact ⟨hn, by omega, by omega⟩
      · rintro ⟨a, b, c⟩
        by_cases q : i = f m
        · right; rw [q]
        · left; exact ⟨a, b, by omega⟩
    · rw [if_neg h]
      constructor
      · rintro (a | a)
        · exact a
        · exact absurd (congrArg Prod.fst a) h
      · exact fun a => .inl a
  · have := I.f0 m
    have := I.f0 n
    show 0 ≤ if m = n then f n + 1 else f m
    split <;> omega
  · refine List.pairwise_append.mpr ⟨I.line, List.pairwise_singleton _ _, fun x hx y hy e => ?_⟩
    rw [List.mem_singleton.mp hy] at e ⊢
    obtain ⟨xn, xi⟩ := x
    have e : xn = n := e
    subst e
    exact ((I.tmem xn xi).mp hx).2.2
  · cases b
    · exact I.mnd
    · exact List.nodup_append.mpr ⟨I.mnd, List.nodup_cons.mpr ⟨List.not_mem_nil, List.nodup_nil⟩, fun a ha c hc e => hnot (by rw [← List.mem_singleton.mp hc, ← e]; exact I.msub a ha)⟩
  · cases b
    · exact List.mem_append_left _ (I.msub e he)
    · rcases List.mem_append.mp (show e ∈ marks ++ [(n, f n)] from he) with z | z
      · exact List.mem_append_left _ (I.msub e z)
      · exact List.mem_append_right _ z
  · cases b
    · exact I.mlen
    · have := hb rfl
      show (marks ++ [_]).length ≤ 12
      rw [List.length_append, List.length_singleton]
      omega
  · rcases List.mem_append.mp hm with z | z
    · obtain ⟨i, j, h1, h2, h3⟩ := I.lord m z
      exact ⟨i, j, h1, by rw [List.getElem?_append_left (List.getElem?_eq_some_iff.mp h2).1]; exact h2, by rw [List.getElem?_append_left (List.getElem?_eq_some_iff.mp h3).1]; exact h3⟩
    · obtain ⟨h1, h2⟩ := hnew m z
      obtain ⟨i, hi, e⟩ := List.getElem_of_mem h1
      exact ⟨i, told.length, hi, by rw [List.getElem?_append_left hi, List.getElem?_eq_getElem hi, e], by rw [h2]; simp⟩
/-- the log as it is told -/
def mkL (ns : List Nm) (marks : List Ev) (f : Nm → Int) (lt : List Mg) : Lg := (ns.map fun n => (n, f n, ((sortE marks).filter fun e => decide (e.1 = n)).map (·.2)), lt)
def Asc (L : Lg) : Prop := (mks L).Pairwise EvLe
structure GoodL (L : Lg) : Prop where
  ex : ∃ ns k told marks f lets, NamesOk ns k ∧ k ≤ 5 ∧ told.length ≤ 16 ∧ LogI ns told marks lets f ∧ L = mkL ns marks f L.2 ∧ L.2.length ≤ 100 ∧ ∀ m ∈ L.2, m ∈ lets
theorem GoodL.sub {L : Lg} (G : GoodL L) {lt : List Mg} (h : lt.length ≤ 100) (hs : ∀ m ∈ lt, m ∈ L.2) : GoodL (L.1, lt) := by
  obtain ⟨ns, k, told, marks, f, lets, a, b, c, d, e, g, i⟩ := G.ex
  refine ⟨ns, k, told, marks, f, lets, a, b, c, d, ?_, h, fun m hm => i m (hs m hm)⟩
  rw [e]
  rfl
def posE : List Ev → Ev → Nat
  | [], _ => 0
  | x :: l, e => if x = e then 0 else posE l e + 1
theorem posE_at : ∀ {l : List Ev}, l.Nodup → ∀ {i : Nat} {e : Ev}, l[i]? = some e → posE l e = i
  | [], _, i, e, h => by simp at h
  | x :: l, nd, 0, e, h => by
    have : x = e := by simpa using h
    unfold posE
    rw [if_pos this]
  | x :: l, nd, i + 1, e, h => by
    have h : l[i]? = some e := by simpa using h
    obtain ⟨n1, n2⟩ := List.nodup_cons.mp nd
    unfold posE
    rw [if_neg fun z : x = e => n1 (z ▸ List.mem_of_getElem? h), posE_at n2 h]
theorem mks_mkL (ns : List Nm) (marks : List Ev) (f : Nm → Int) (lt : List Mg) : mks (mkL ns marks f lt) = ns.flatMap fun n => (sortE marks).filter fun e => decide (e.1 = n) := by
  unfold mks mkL
  rw [List.flatMap_map]
  congr 1
  funext n
  show ((((sortE marks).filter fun e => decide (e.1 = n)).map (·.2)).map fun i => ((n, i) : Ev)) = _
  rw [List.map_map]
  conv => rhs; rw [← List.map_id ((sortE marks).filter fun e => decide (e.1 = n))]
  refine List.map_congr_left fun e he => ?_
  have := of_decide_eq_true (List.mem_filter.mp he).2
  show (n, e.2) = e
  rw [← this]
theorem evs_mkL (ns : List Nm) (marks : List Ev) (f : Nm → Int) (lt : List Mg) : evs (mkL ns marks f lt) = ns.flatMap fun n => (upTo (f n).toNat).map fun i => (n, i) := by
  unfold evs mkL
  rw [List.flatMap_map]
theorem flat_len {α β : Type} (g : α → List β) (c : Nat) : ∀ l : List α, (∀ x ∈ l, (g x).length ≤ c) → (l.flatMap g).length ≤ l.length * c
  | [], _ => by simp
  | x :: l, h => by
    have h1 := h x List.mem_cons_self
    have h2 := flat_len g c l fun y hy => h y (List.mem_cons_of_mem _ hy)
    rw [List.flatMap_cons, List.length_append, List.length_cons, Nat.add_mul, Nat.one_mul]
    omega
theorem GoodL.well {L : Lg} (G : GoodL L) : Few L ∧ Asc L := by
  obtain ⟨ns, k, told, marks, f, lets, N, hk, ht, I, e, hl, hsub⟩ := G.ex
  generalize hlt : L.2 = lt at e hl hsub
  subst e
  have hev : ∀ n i, (n, i) ∈ evs (mkL ns marks f lt) ↔ (n, i) ∈ told := fun n i => by
    rw [I.tmem, evs_mkL, List.mem_flatMap]
    constructor
    · rintro ⟨m, hm, h⟩
      obtain ⟨j, hj, q⟩ := List.mem_map.mp h
      have q1 : m = n := congrArg Prod.fst q
      have q2 : j = i := congrArg Prod.snd q
      have := mem_upTo.mp hj
      have := I.f0 n
      subst q1 q2
      exact ⟨hm, by omega, by omega⟩
    · rintro ⟨a, b, c⟩
      exact ⟨n, a, List.mem_map.mpr ⟨i, mem_upTo.mpr ⟨b, by omega⟩, rfl⟩⟩
  have hmk : ∀ x, x ∈ mks (mkL ns marks f lt) → x ∈ marks := fun x hx => by
    rw [mks_mkL] at hx
    obtain ⟨n, _, h⟩ := List.mem_flatMap.mp hx
    exact (sortE_perm marks).mem_iff.mp (List.mem_filter.mp h).1
  have hsnd : (sortE marks).Nodup := (sortE_perm marks).nodup_iff.mpr I.mnd
  have hmnd : (mks (mkL ns marks f lt)).Nodup := by
    rw [mks_mkL]
    exact nodup_flat (key := fun e : Ev => e.1) N.nd (fun n _ => List.Nodup.sublist List.filter_sublist hsnd) fun n _ e he => of_decide_eq_true (List.mem_filter.mp he).2
  have hf : ∀ n ∈ ns, (f n).toNat ≤ 16 := fun n hn => by
    refine Nat.le_trans ?_ ht
    have := nodup_sub_len (A := (upTo (f n).toNat).map fun i => ((n, i) : Ev)) (B := told) (List.pairwise_map.mpr (List.Pairwise.imp (fun {a b} h q => h (congrArg Prod.snd q)) (upTo_nodup _))) fun x hx => by
      obtain ⟨i, hi, rfl⟩ := List.mem_map.mp hx
      have := mem_upTo.mp hi
      exact (I.tmem n i).mpr ⟨hn, this.1, by omega⟩
    rwa [List.length_map, upTo_length] at this
  have hns : ns.length ≤ 5 := by rw [N.len]; exact hk
  have W : Well (mkL ns marks f lt) := {
    names := by
      have : (mkL ns marks f lt).1.map (·.1) = ns := by
        unfold mkL
        rw [List.map_map]
        exact List.map_id ns
      rw [this]
      exact N.nd
    size := fun m hm => by
      obtain ⟨n, hn, rfl⟩ := List.mem_map.mp hm
      have := hf n hn
      have := I.f0 n
      exact ⟨by show 0 ≤ f n; omega, by show f n ≤ 100; omega⟩
    many := by
      rw [evs_mkL]
      have := flat_len (fun n => (upTo (f n).toNat).map fun i => ((n, i) : Ev)) 16 ns fun n hn => by rw [List.length_map, upTo_length]; exact hf n hn
      omega
    marks := fun m hm => by
      obtain ⟨n, hn, rfl⟩ := List.mem_map.mp hm
      show (List.map _ (List.filter _ _)).length ≤ 100
      rw [List.length_map]
      have h1 : ((sortE marks).filter fun e => decide (e.1 = n)).length ≤ (sortE marks).length := List.length_filter_le _ _
      rw [(sortE_perm marks).length_eq] at h1
      have := I.mlen
      omega
    few := ⟨by show (ns.map _).length ≤ 10; rw [List.length_map]; omega, hl⟩
    lets := fun m hm => by
      obtain ⟨i, j, h1, h2, h3⟩ := I.lord m (hsub m hm)
      exact ⟨(hev _ _).mpr (List.mem_of_getElem? h2), (hev _ _).mpr (List.mem_of_getElem? h3)⟩
    mark := fun x hx => (hev x.1 x.2).mpr (I.msub x (hmk x hx))
    mknd := hmnd
    bare := fun m hm => by
      obtain ⟨n, hn, rfl⟩ := List.mem_map.mp hm
      have : ∀ n ∈ poolN, n.1 ≠ "" := by decide +kernel
      exact this n (N.pool n hn)
    rank := by
      refine ⟨posE told, fun a b ha hb => ?_⟩
      have hat := (hev a.1 a.2).mp ha
      unfold nxt at hb
      rcases List.mem_append.mp hb with z | z
      · split at z
        · rename_i q
          rw [List.mem_singleton.mp z]
          have hbt := (hev _ _).mp q
          obtain ⟨i, hi, ei⟩ := List.getElem_of_mem hat
          obtain ⟨j, hj, ej⟩ := List.getElem_of_mem hbt
          rw [posE_at I.tnd (show told[j]? = some (a.1, a.2 + 1) by rw [List.getElem?_eq_getElem hj, ej]), posE_at I.tnd (show told[i]? = some a by rw [List.getElem?_eq_getElem hi, ei])]
          have hp := List.pairwise_iff_getElem.mp I.line
          rcases Nat.lt_trichotomy i j with y | y | y
          · exact y
          · subst y
            rw [ei] at ej
            have : a.2 = a.2 + 1 := congrArg Prod.snd ej
            omega
          · have := hp j i hj hi y (by rw [ei, ej])
            rw [ei, ej] at this
            have : a.2 + 1 < a.2 := this
            omega
        · cases z
      · obtain ⟨m, hm, rfl⟩ := List.mem_map.mp z
        obtain ⟨m1, m2⟩ := List.mem_filter.mp hm
        obtain ⟨i, j, h1, h2, h3⟩ := I.lord m (hsub m m1)
        have := of_decide_eq_true m2
        rw [← this, posE_at I.tnd h2, posE_at I.tnd h3]
        exact h1 }
  refine ⟨⟨W, by show (ns.map _).length ≤ 5; rw [List.length_map]; exact hns, ?_, ?_⟩, ?_⟩
  · exact Nat.le_trans (nodup_sub_len (evs_nodup W) fun x hx => (hev x.1 x.2).mp hx) ht
  · exact Nat.le_trans (nodup_sub_len hmnd hmk) I.mlen
  · unfold Asc
    rw [mks_mkL]
    refine List.pairwise_flatMap.mpr ⟨fun n _ => List.Pairwise.sublist List.filter_sublist (sortE_asc marks), ?_⟩
    refine List.Pairwise.imp_of_mem (fun {a b} ha hb hab x hx y hy => ?_) (List.Pairwise.and N.nd N.asc)
    have e1 := of_decide_eq_true (List.mem_filter.mp hx).2
    have e2 := of_decide_eq_true (List.mem_filter.mp hy).2
    unfold EvLe
    rw [e1, e2, if_neg hab.1]
    exact hab.2
end Fs

/-! Fs2: the law's drawing of a log. -/
namespace Fs
open PySem L2
abbrev s_Llog : Stmt := topS 32
theorem valV_nm {f : Nm → Int} {n : Nm} : ∀ {ns : List Nm}, ns.Nodup → n ∈ ns → valV (ns.map fun n => (kN n, V.int (f n))) (kN n) = some (.int (f n))
  | m :: ns, nd, hn => by
    rw [List.map_cons]
    by_cases z : m = n
    · subst z
      exact valV_pos (p := (kN m, V.int (f m))) rfl
    · rw [valV_neg (p := (kN m, V.int (f m))) fun q => z (kN_inj _ _ q)]
      exact valV_nm (List.nodup_cons.mp nd).2 ((List.mem_cons.mp hn).resolve_left fun q => z q.symm)
section
variable {K : PySem.W.Frag} {σ : St} {H H' : Hp} {ta tb tc te tx : TE} {t2 : TT} {R T : Rs} {ds : List PyData} {d : PyData} {D : Ends} {tu tz : TS} {E : XK} {n : Nat} {b : Addr} {tr : TA} {as : List Rs} {Q : VK} {g : TG} {w : World}
theorem q_setC {i : Nat} (h : te σ H fun v H1 => tz D (σ.set i (some v)) H1) : tSeq (tAsg te (gName i)) tz D σ H := h
theorem q_tup1 (h : ta σ H fun x H1 => tr σ H1 fun xs H2 => (x :: xs).length ≤ sizeLine ∧ ∀ p, H2 p = none → g (.ref p) σ (upd H2 p (.tup (x :: xs))) (tz D)) : tSeq (tAsg (tTup (tCons ta tr)) g) tz D σ H := h
theorem t_tupC (h : ta σ H fun x H1 => tr σ H1 fun xs H2 => (x :: xs).length ≤ sizeLine ∧ ∀ p, H2 p = none → Q (.ref p) (upd H2 p (.tup (x :: xs)))) : tTup (tCons ta tr) σ H Q := h
theorem t_cons {Q : List V → Hp → Prop} (h : EvR ta σ H R) (k : ∀ x H1, Same H H1 → R H1 x → tr σ H1 fun xs H2 => Q (x :: xs) H2) : tCons ta tr σ H Q := h.go k
theorem t_cons0 {Q : List V → Hp → Prop} (h : te σ H fun x H1 => Q [x] H1) : tCons te tNil σ H Q := h
theorem t_nil {Q : List V → Hp → Prop} (h : Q [] H) : tNil σ H Q := h
theorem q_forC {sp : Sp} {tb : TS} (h : tCall sp [] E tr σ H fun v H1 => tSeq (tFor (iRng1 (tCons (tC v) tNil)) g tb) tz D σ H1) : tSeq (tFor (iRng1 (tCons (tCall sp [] E tr) tNil)) g tb) tz D σ H := h
theorem e_slLF {tl th : TO} {lo hi : Option Int} (h : EvR te σ H (rL ds)) (h1 : EvO tl σ H lo) (h2 : EvO th σ H hi) : EvR (L2.tSl (rSlL K) te tl th) σ H (rLF H (cutD ds lo hi)) := fun H1 e _ q =>
  h H1 e _ fun x H2 e2 hx => h1 H2 (e.trans e2) _ fun H3 e3 => h2 H3 ((e.trans e2).trans e3) _ fun H4 e4 => by
    obtain ⟨a, xs, rfl, ho, r⟩ := hx
    have e24 := e3.trans e4
    exact ⟨a, xs, rfl, SqL.of (e24 _ _ ho), fun p hp => q _ _ ((e2.trans e24).trans (same_new hp)) ⟨p, _, rfl, (e.trans (e2.trans e24)).free hp, upd_same, imL_cut (r.sm (e24.trans (same_new hp))) _ _⟩⟩
/-- dict(pairs), the keys names -/
theorem e_dictP {ns : List Nm} {f : Nm → Int} (nd : ns.Nodup) (h : EvR te σ H (rL (ns.map fun n => .tuple [nmD n, .int (f n)]))) : EvR (tCB (fun xs H Q => ∃ (a : Addr) (ps : List Addr) (kvs : List (Key × V)), xs = [.ref a] ∧ SqL K H a (ps.map V.ref) ∧ Paired (fun p kv => SqT K H p [kV kv.1, kv.2]) ps kvs ∧ ∀ p, H p = none → Q (.ref p) (upd H p (.dK (mergeK [] kvs)))) (tCons te tNil)) σ H (fun H' v => ∃ d, v = .ref d ∧ H d = none ∧ DV kN .dK H' d ns (fun n => .int (f n))) := fun H1 e Q q => h H1 e _ fun x H2 e2 hx => by
  obtain ⟨l, zs, rfl, hl, r⟩ := hx
  have key : ∀ (ns : List Nm) (zs : List V), ImL H2 (ns.map fun n => .tuple [nmD n, .int (f n)]) zs → ∃ ps : List Addr, zs = ps.map V.ref ∧ Paired (fun p kv => SqT K H2 p [kV kv.1, kv.2]) ps (ns.map fun n => (kN n, V.int (f n))) := by
    intro ns
    induction ns with
    | nil => intro zs r; cases r; exact ⟨[], rfl, .nil⟩
    | cons n ns ih =>
      rintro zs ⟨x, xs, rfl, hx, hr⟩
      obtain ⟨ps, rfl, pp⟩ := ih xs hr
      obtain ⟨a, ys, rfl, ha, y1, r1, rfl, h1, y2, r2, rfl, h2, h3⟩ := hx
      cases h3
      cases (show y1 = V.str n.1 from h1)
      cases (show y2 = V.int (f n) from h2)
      exact ⟨a :: ps, rfl, .cons (SqT.of ha) pp⟩
  obtain ⟨ps, rfl, pp⟩ := key ns zs r
  refine ⟨l, ps, _, rfl, SqL.of hl, pp, fun p hp => q _ _ (e2.trans (same_new hp)) ⟨p, rfl, (e.trans e2).free hp, ns.map fun n => (kN n, V.int (f n)), ?_, ?_, fun n hn => ⟨.int (f n), ?_, rfl⟩⟩⟩
  · rw [upd_same, mergeK_new _ [] (by
      rw [List.nil_append, List.map_map]
      exact List.pairwise_map.mpr (nd.imp fun {a b} h q => h (kN_inj _ _ q))), List.nil_append]
  · rw [List.map_map]
    rfl
  · exact valV_nm nd hn
/-- sorted(set(letters)) -/
theorem e_sortSet {lets : List Mg} (h : EvR te σ H (rL (lets.map mgD))) (hl : lets.length < 64) : EvR (tCB (rSortSet w) (tCons (tCB (rSetN w K) (tCons te tNil)) tNil)) σ H (fun H' v => ∃ lt : List Mg, (lt.length ≤ 63 ∧ ∀ m ∈ lt, m ∈ lets) ∧ rL (lt.map mgD) H' v) := fun H1 e Q q => h H1 e _ fun x H2 e2 hx => by
  obtain ⟨l, zs, rfl, hl2, r⟩ := hx
  have key : ∀ (ms : List Mg) (zs : List V), ImL H2 (ms.map mgD) zs → ∃ ks : List (Addr × Mg), zs = ks.map (fun p => V.ref p.1) ∧ ks.map (·.2) = ms ∧ ∀ p ∈ ks, Im H2 (mgD p.2) (.ref p.1) := by
    intro ms
    induction ms with
    | nil => intro zs r; cases r; exact ⟨[], rfl, rfl, fun p h => (by cases h)⟩
    | cons m ms ih =>
      rintro zs ⟨x, xs, rfl, hx, hr⟩
      obtain ⟨ks, rfl, ek, hk⟩ := ih xs hr
      have hx0 := hx
      obtain ⟨a, ys, rfl, _⟩ := hx
      refine ⟨(a, m) :: ks, rfl, by rw [List.map_cons, ek], fun p hp => ?_⟩
      rcases List.mem_cons.mp hp with z | z
      · rw [z]; exact hx0
      · exact hk p z
  obtain ⟨ks, rfl, ek, hk⟩ := key lets zs r
  have hkl : ks.length = lets.length := by rw [← ek, List.length_map]
  refine ⟨l, ks, rfl, SqL.of hl2, hk, by omega, fun a L ha h1 h2 => ?_⟩
  have s3 : Same H2 (upd H2 a (SetNO w a (L.map kOf))) := same_new ha
  refine ⟨a, L, rfl, upd_same, fun p hp => (hk p (h1 p hp)).sm s3, fun L' p pm nd pw hp => ?_⟩
  have s4 : Same _ (upd (upd H2 a (SetNO w a (L.map kOf))) p (.lst (L'.map fun q => V.ref q.1))) := same_new hp
  have hin : ∀ r ∈ L', r ∈ ks := fun r hr => h1 r (pm.mem_iff.mp hr)
  refine q _ _ ((e2.trans s3).trans s4) ⟨L'.map (·.2), ⟨?_, fun m hm => ?_⟩, p, _, rfl, upd_same, ?_⟩
  · have := nodup_sub_len (B := lets) nd fun m hm => by
      obtain ⟨r, hr, rfl⟩ := List.mem_map.mp hm
      rw [← ek]
      exact List.mem_map.mpr ⟨r, hin r hr, rfl⟩
    omega
  · obtain ⟨r, hr, rfl⟩ := List.mem_map.mp hm
    rw [← ek]
    exact List.mem_map.mpr ⟨r, hin r hr, rfl⟩
  · rw [List.map_map]
    have : ∀ M : List (Addr × Mg), (∀ r ∈ M, r ∈ ks) → ImL (upd (upd H2 a (SetNO w a (L.map kOf))) p (.lst (L'.map fun q => V.ref q.1))) (M.map (mgD ∘ (·.2))) (M.map fun q => V.ref q.1) := by
      intro M
      induction M with
      | nil => exact fun _ => rfl
      | cons r M ih => exact fun hM => ⟨_, _, rfl, (hk r (hM r List.mem_cons_self)).sm (s3.trans s4), ih fun x hx => hM x (List.mem_cons_of_mem _ hx)⟩
    exact this L' hin
theorem e_tupLX {α : Type} {P : α → Prop} {g : α → List PyData} (h : EvR te σ H (fun H' v => ∃ x, P x ∧ rL (g x) H' v)) : EvR (tCB (rTupS K) (tCons te tNil)) σ H (fun H' v => ∃ x, P x ∧ Im H' (.tuple (g x)) v) := e_cb1 h fun x H1 _ hx Q q => by
  obtain ⟨y, hy, r⟩ := hx
  exact (e_tupL (K := K) (ta := tC x) (σ := σ) (H := H1) (fun H2 e Q q => q x H2 (Same.refl H2) (Mo.mo e r))).go fun v H2 e2 r2 => q v H2 e2 ⟨y, hy, r2⟩
theorem e_tup2X {α : Type} {P : α → Prop} {g : α → PyData} (ha : EvR ta σ H (rI d)) (hb : EvR tb σ H (fun H' v => ∃ x, P x ∧ Im H' (g x) v)) : EvR (tTup (tCons ta (tCons tb tNil))) σ H (fun H' v => ∃ x, P x ∧ Im H' (.tuple [d, g x]) v) := fun H1 e Q q => ha H1 e _ fun x H2 e2 hx => hb H2 (e.trans e2) _ fun y H3 e3 hy => by
  obtain ⟨z, hz, r⟩ := hy
  refine ⟨by show 2 ≤ sizeLine; decide, fun p hp => ?_⟩
  have s4 : Same H3 (upd H3 p (.tup [x, y])) := same_new hp
  exact q _ _ (e2.trans (e3.trans s4)) ⟨z, hz, p, _, rfl, upd_same, x, _, rfl, Im.sm hx (e3.trans s4), y, _, rfl, r.sm s4, rfl⟩
/-- a mark, if drawn and not too many -/
def MarkSt (lM : Addr) (ds : List PyData) (bm : Bool) (H H' : Hp) : Prop := if bm then ∃ H8 ws, H' = upd H8 lM (.lst ws) ∧ Same H H8 ∧ ImL (upd H8 lM (.lst ws)) ds ws ∧ Tp H8 (upd H8 lM (.lst ws)) else Same H H'
theorem q_markIf {tm tev : TE} {j th : Int} (hb : EvR ta σ H (rX (.ref b))) (he : EvR te σ H (rI (.int j))) (hj : 1 ≤ j ∧ j ≤ 1000) (B : BoxAt b n H) (ht : n + 1 ≤ 100000)
    (k : ∀ H', Fr b H H' → BoxAt b (n + 1) H' → EvR tb σ H' (rI (.int th)) ∧ ∃ c2 lM zM, EvB t2 σ H' c2 ∧ EvR tm σ H' (rX (.ref lM)) ∧ H' lM = some (.lst zM) ∧ ImL H' ds zM ∧ EvR tev σ H' (rI d) ∧ ds.length < 100000 ∧ ∀ (bm : Bool) H9, (bm = true → c2 = true) → MarkSt lM (ds ++ [d]) bm H' H9 → tz D σ H9) :
    tSeq (tIfS (tAnd (tTest (tOp (rI0 fun i j => .bl (decide (i < j))) (tCall spTake [] E (tCons ta (tCons te tNil))) tb)) t2) (tDrop (tBM K "list" rAppend tm (tCons tev tNil))) tNext) tz D σ H := by
  refine t_take (Q := fun x H1 => tb σ H1 fun y H2 => rI0 (fun i j => .bl (decide (i < j))) x y H2 fun z H3 => ∃ k, z = V.bl k ∧ (if k = true then t2 σ H3 (fun c H4 => if c = true then tDrop (tBM K "list" rAppend tm (tCons tev tNil)) { D with nx := tz D } σ H4 else tNext { D with nx := tz D } σ H4) else (if false = true then tDrop (tBM K "list" rAppend tm (tCons tev tNil)) { D with nx := tz D } σ H3 else tNext { D with nx := tz D } σ H3))) hb he hj B ht fun r H' r0 r1 f B' => ?_
  obtain ⟨k1, c2, lM, zM, k2, k3, k4, k5, k6, k7, k8⟩ := k H' f B'
  refine k1.go fun y H2 e2 hy => ⟨r, th, rfl, hy, decide (r < th), rfl, ?_⟩
  by_cases c : r < th
  · rw [if_pos (decide_eq_true c)]
    refine k2 H2 e2 _ fun H4 e4 => ?_
    by_cases c3 : c2 = true
    · rw [if_pos c3]
      have s4 := e2.trans e4
      refine s_appI (D := { D with nx := tz D }) (fun H1 e => k3 H1 (s4.trans e)) (s4 _ _ k4) (k5.sm s4) (fun H1 e => k6 H1 (s4.trans e)) k7 fun H8 ws e8 rw8 t8 => ?_
      exact k8 true _ (fun _ => c3) ⟨H8, ws, rfl, s4.trans e8, rw8, t8⟩
    · rw [if_neg c3]
      exact k8 false H4 (fun z => by cases z) (e2.trans e4)
  · rw [if_neg (by simpa using c), if_neg Bool.false_ne_true]
    exact k8 false H2 (fun z => by cases z) e2
end
theorem cut_last {α : Type} {enc : α → PyData} {xs : List α} (h : xs ≠ []) : cutD (xs.map enc) (some (-5)) none ≠ [] ∧ (cutD (xs.map enc) (some (-5)) none).length ≤ xs.length ∧ ∀ d ∈ cutD (xs.map enc) (some (-5)) none, ∃ x ∈ xs, d = enc x := by
  have hp := List.length_pos_iff.mpr h
  unfold cutD
  have e1 : HT.sIx (xs.map enc).length 0 (some (-5)) = ((-5 : Int) + (xs.length : Int)).toNat := by
    have : HT.sIx (xs.map enc).length 0 (some (-5)) = ((-5 : Int) + ((xs.map enc).length : Int)).toNat := by
      unfold HT.sIx
      exact if_pos (by decide)
    rw [this, List.length_map]
  have e2 : HT.sIx (xs.map enc).length (xs.map enc).length none = xs.length := by
    rw [HT.sIx_none, List.length_map]
  rw [e1, e2]
  refine ⟨fun z => ?_, ?_, fun d hd => ?_⟩
  · have := congrArg List.length z
    rw [List.length_take, List.length_drop, List.length_map, List.length_nil] at this
    omega
  · rw [List.length_take, List.length_drop, List.length_map]
    omega
  · obtain ⟨x, hx, rfl⟩ := List.mem_map.mp (List.mem_of_mem_drop (List.mem_of_mem_take hd))
    exact ⟨x, hx, rfl⟩

/-! ### what lies in the heap while a log is drawn -/
structure LA (b lN lM lL lT dZ : Addr) : Prop where
  bN : lN ≠ b
  bM : lM ≠ b
  bL : lL ≠ b
  bT : lT ≠ b
  bZ : dZ ≠ b
  NM : lN ≠ lM
  NL : lN ≠ lL
  NT : lN ≠ lT
  NZ : lN ≠ dZ
  ML : lM ≠ lL
  MT : lM ≠ lT
  MZ : lM ≠ dZ
  LT : lL ≠ lT
  LZ : lL ≠ dZ
  TZ : lT ≠ dZ
structure LH (lN lM lL lT dZ : Addr) (ns : List Nm) (told marks : List Ev) (lets : List Mg) (f : Nm → Int) (H : Hp) : Prop where
  N : ∃ z, H lN = some (.lst z) ∧ ImL H (ns.map nmD) z
  M : ∃ z, H lM = some (.lst z) ∧ ImL H (marks.map evD) z
  L : ∃ z, H lL = some (.lst z) ∧ ImL H (lets.map mgD) z
  T : ∃ z, H lT = some (.lst z) ∧ ImL H (told.map evD) z
  Z : DV kN .dK H dZ ns (fun n => .int (f n))
section
variable {b lN lM lL lT dZ : Addr} {ns : List Nm} {told told' marks marks' : List Ev} {lets lets' : List Mg} {f f' : Nm → Int} {H H' H1 : Hp}
theorem lst_fr {l : Addr} {ds : List PyData} (fr : Fr b H H') (n : l ≠ b) (h : ∃ z, H l = some (.lst z) ∧ ImL H ds z) : ∃ z, H' l = some (.lst z) ∧ ImL H' ds z := by
  obtain ⟨z, a, r⟩ := h
  exact ⟨z, fr.1 _ _ n a, r.up fr.2⟩
theorem lst_upd {l l2 : Addr} {o : HO} {ds : List PyData} (t : Tp H (upd H l o)) (n : l2 ≠ l) (h : ∃ z, H l2 = some (.lst z) ∧ ImL H ds z) : ∃ z, (upd H l o) l2 = some (.lst z) ∧ ImL (upd H l o) ds z := by
  obtain ⟨z, a, r⟩ := h
  exact ⟨z, by rw [upd_ne n]; exact a, r.up t⟩
theorem LH.fr (h : LH lN lM lL lT dZ ns told marks lets f H) (A : LA b lN lM lL lT dZ) (fr : Fr b H H') : LH lN lM lL lT dZ ns told marks lets f H' :=
  ⟨lst_fr fr A.bN h.N, lst_fr fr A.bM h.M, lst_fr fr A.bL h.L, lst_fr fr A.bT h.T, h.Z.up (fun o e => fr.1 _ _ A.bZ e) fr.2⟩
theorem LH.sm (h : LH lN lM lL lT dZ ns told marks lets f H) (A : LA b lN lM lL lT dZ) (e : Same H H') : LH lN lM lL lT dZ ns told marks lets f H' := h.fr A (Fr.of e)
theorem LH.putM (h : LH lN lM lL lT dZ ns told marks lets f H) (A : LA b lN lM lL lT dZ) {ws : List V} (t : Tp H (upd H lM (.lst ws))) (r : ImL (upd H lM (.lst ws)) (marks'.map evD) ws) : LH lN lM lL lT dZ ns told marks' lets f (upd H lM (.lst ws)) :=
  ⟨lst_upd t A.NM h.N, ⟨ws, upd_same, r⟩, lst_upd t A.ML.symm h.L, lst_upd t A.MT.symm h.T, h.Z.up (fun o e => by rw [upd_ne A.MZ.symm]; exact e) t⟩
theorem LH.putL (h : LH lN lM lL lT dZ ns told marks lets f H) (A : LA b lN lM lL lT dZ) {ws : List V} (t : Tp H (upd H lL (.lst ws))) (r : ImL (upd H lL (.lst ws)) (lets'.map mgD) ws) : LH lN lM lL lT dZ ns told marks lets' f (upd H lL (.lst ws)) :=
  ⟨lst_upd t A.NL h.N, lst_upd t A.ML h.M, ⟨ws, upd_same, r⟩, lst_upd t A.LT.symm h.T, h.Z.up (fun o e => by rw [upd_ne A.LZ.symm]; exact e) t⟩
theorem LH.putT (h : LH lN lM lL lT dZ ns told marks lets f H) (A : LA b lN lM lL lT dZ) {ws : List V} (t : Tp H (upd H lT (.lst ws))) (r : ImL (upd H lT (.lst ws)) (told'.map evD) ws) : LH lN lM lL lT dZ ns told' marks lets f (upd H lT (.lst ws)) :=
  ⟨lst_upd t A.NT h.N, lst_upd t A.MT h.M, lst_upd t A.LT h.L, ⟨ws, upd_same, r⟩, h.Z.up (fun o e => by rw [upd_ne A.TZ.symm]; exact e) t⟩
theorem LH.putZ (h : LH lN lM lL lT dZ ns told marks lets f H) (A : LA b lN lM lL lT dZ) {o : HO} (t : Tp H (upd H dZ o)) (r : DV kN .dK (upd H dZ o) dZ ns (fun n => .int (f' n))) : LH lN lM lL lT dZ ns told marks lets f' (upd H dZ o) :=
  ⟨lst_upd t A.NZ h.N, lst_upd t A.MZ h.M, lst_upd t A.LZ h.L, lst_upd t A.TZ h.T, r⟩
theorem Fr.upd (fr : Fr b H H') {l : Addr} {o : HO} (hl : H l = none) (t : Tp H' (upd H' l o)) : Fr b H (upd H' l o) := ⟨fun a u na h => by
  rw [upd_ne fun z : a = l => by rw [z, hl] at h; cases h]
  exact fr.1 _ _ na h, fr.2.trans t⟩
theorem BoxAt.upd {n : Nat} (B : BoxAt b n H) {l : Addr} {o : HO} (nb : l ≠ b) : BoxAt b n (upd H l o) := by
  obtain ⟨x, s, c, h, r⟩ := B
  exact ⟨x, s, c, by rw [upd_ne nb.symm]; exact h, r⟩
end
end Fs

/-! Fs3: the law's drawing of a log: the walk. -/
namespace Fs
open PySem L2
section
variable {P : Program} {w : World} {K : PySem.W.Frag} {mg : Str → Option Value} {base : Heap}
def spLog : Sp := spB (fun i : Nat × Nat × Int => i.1 ≤ 5 ∧ 1 ≤ i.1 ∧ i.2.1 ≤ 16) (fun i => [rI (.int (i.1 : Int)), rI (.int (i.2.1 : Int)), rI (.int i.2.2), rI (.int 12)]) 100 (fun _ _ H' v => ∃ L, GoodL L ∧ Im H' (lgD L) v)
theorem sc_Llog : FnScope ["_law_box_here", "_law_folk", "_law_size_so", "_law_thick", "_law_most", "_law_names_here", "_law_marks", "_law_letters", "_law_told", "_law_sizes", "_law_name", "_law_turn", "_law_event_so", "_law_others", "_law_own", "_law_lap", "_law_machines"] ["_law_box_here", "_law_folk", "_law_size_so", "_law_thick", "_law_most"] (defScope s_Llog) := ⟨rfl, rfl, rfl, by decide +kernel, rfl, by decide +kernel, by decide +kernel⟩
abbrev lgG (b lN lM lL lT : Addr) (k s : Nat) (th : Int) (r : Gam) : Gam := some (rX (.ref b)) :: some (rI (.int (k : Int))) :: some (rI (.int (s : Int))) :: some (rI (.int th)) :: some (rI (.int 12)) :: some (rX (.ref lN)) :: some (rX (.ref lM)) :: some (rX (.ref lL)) :: some (rX (.ref lT)) :: r
theorem e_neN {σ : St} {H : Hp} {ta tb : TE} {a b : Nm} (ha : EvR ta σ H (rI (nmD a))) (hb : EvR tb σ H (rI (nmD b))) : EvR (tOp rNe ta tb) σ H (rI (.bool (!decide (a = b)))) := (e_neS (i := a.1) (j := b.1) ha hb).isI (by
  congr 2
  rw [decide_eq_decide]
  exact ⟨Subtype.ext, congrArg Subtype.val⟩)
theorem e_eqN {σ : St} {H : Hp} {ta tb : TE} {a b : Nm} (ha : EvR ta σ H (rI (nmD a))) (hb : EvR tb σ H (rI (nmD b))) : EvR (tOp rEq ta tb) σ H (rI (.bool (decide (a = b)))) := (e_eqS (i := a.1) (j := b.1) ha hb).isI (by
  congr 1
  rw [decide_eq_decide]
  exact ⟨Subtype.ext, congrArg Subtype.val⟩)
theorem ok_Llog {f f1 f2 f3 : Addr} {fd fd1 fd2 fd3 : FuncData} (X : TF K mg "_law_log" s_Llog ["_law_box_here", "_law_folk", "_law_size_so", "_law_thick", "_law_most"] f fd) (T : TB mg) (G__law_take : GF P w K mg base 1 "_law_take" f1 fd1 ["_law_box_here", "_law_below"] spTake) (G__law_of : GF P w K mg base 2 "_law_of" f2 fd2 ["_law_box_here", "_law_some"] spOf) (G__law_names : GF P w K mg base 2 "_law_names" f3 fd3 ["_law_box_here", "_law_folk"] spNames) :
    FnOk P w K mg base CX0 3 f fd ["_law_box_here", "_law_folk", "_law_size_so", "_law_thick", "_law_most"] spLog := by
  have nd := sc_Llog.nd
  refine fn_spB X.F sc_Llog (fun _ => rfl) (fun i => mlI (mlI (mlI (mlI ml0)))) fun cdv A outer s H0 E hr => ?_
  have hu := hu_of hr
  refine ⟨_, (pss_cons (ps_asg (pe_tup (pa_cons (pe_call G__law_names.F (hr.mono (by first | decide | omega)) rfl G__law_names.g G__law_names.kp G__law_names.b .nil pass0 (pa_cons (pv 0) (pa_cons (pv 1) pa_nil))) (pa_cons (pe_lst pa_nil) (pa_cons (pe_lst pa_nil) (pa_cons (pe_lst pa_nil) pa_nil))))) (pg_tup (by rfl) (pgs_cons (pg_name (i := 5) nd rfl (by first | exact Or.inl rfl | exact Or.inr rfl)) (pgs_cons (pg_name (i := 6) nd rfl (by first | exact Or.inl rfl | exact Or.inr rfl)) (pgs_cons (pg_name (i := 7) nd rfl (by first | exact Or.inl rfl | exact Or.inr rfl)) (pgs_cons (pg_name (i := 8) nd rfl (by first | exact Or.inl rfl | exact Or.inr rfl)) pgs_nil))))))
      (pss_cons (ps_set (i := 9) nd rfl (by first | exact Or.inl rfl | exact Or.inr rfl) (pe_callTy (call_dictP rfl) rfl T.n_dict (by decide +kernel) (pa_cons (pe_lc (own := [("_law_name", 10)]) rfl nd (pi_list (pv 5)) (blkOk_by (by kernel_rfl)) (fun _ _ _ _ _ => (pg_name (i := 10) nd rfl (by first | exact Or.inl rfl | exact Or.inr rfl))) (fun _ _ _ _ _ => pts_nil) (fun _ _ _ _ _ => (pe_tup (pa_cons (pv 10) (pa_cons pe_int pa_nil))))) pa_nil)))
      (pss_cons (ps_for PassesOwn.never rfl (pi_range1 rfl T.n_range (pa_cons (pv 2) pa_nil)) (pg_name (i := 11) nd rfl (by first | exact Or.inl rfl | exact Or.inr rfl)) (pss_cons (ps_set (i := 10) nd rfl (by first | exact Or.inl rfl | exact Or.inr rfl) (pe_call G__law_of.F (hr.mono (by first | decide | omega)) rfl G__law_of.g G__law_of.kp G__law_of.b .nil pass0 (pa_cons (pv 0) (pa_cons (pv 5) pa_nil))))
      (pss_cons (ps_set (i := 12) nd rfl (by first | exact Or.inl rfl | exact Or.inr rfl) (pe_tup (pa_cons (pv 10) (pa_cons (pe_dget hu (pv 9) (pv 10) (fun _ _ => rfl)) pa_nil))))
      (pss_cons (ps_setLc (i := 13) (own := [("_law_own", 14)]) (tt := (tTest (tOp _ (tOp (rIxT K) _ _) _))) rfl nd rfl rfl (sw_true rfl rfl rfl (by decide +kernel)) (pi_list (pv 8)) (blkOk_by (by kernel_rfl)) (fun _ _ _ _ _ => (pg_name (i := 14) nd rfl (by first | exact Or.inl rfl | exact Or.inr rfl))) (fun _ _ _ _ _ => (pts_one (pt_cmpR op_ne (pe_ix ix_tup (pv 14) pe_int (fun _ _ => rfl)) (pv 10) (nomark _)))) (fun _ _ _ _ _ => (pv 14)))
      (pss_cons (ps_for PassesOwn.never rfl (pi_range1 rfl T.n_range (pa_cons (pe_call G__law_of.F (hr.mono (by first | decide | omega)) rfl G__law_of.g G__law_of.kp G__law_of.b .nil pass0 (pa_cons (pv 0) (pa_cons (pe_lst (pa_cons pe_int (pa_cons pe_int (pa_cons pe_int (pa_cons pe_int (pa_cons pe_int (pa_cons pe_int pa_nil))))))) pa_nil))) pa_nil)) (pg_name (i := 15) nd rfl (by first | exact Or.inl rfl | exact Or.inr rfl)) (pss_one (ps_if (pt_cmpR (op_neD hr.units) (pv 13) (pe_lst pa_nil) (nomark _)) (pss_one (ps_expr (pe_bm PySem.F.plainAttrs_list PySem.F.slot_list_append PySem.F.type_list_append mt_append (pv 7) (pa_cons (pe_tup (pa_cons (pe_call G__law_of.F (hr.mono (by first | decide | omega)) rfl G__law_of.g G__law_of.kp G__law_of.b .nil pass0 (pa_cons (pv 0) (pa_cons (pe_slice sl_list (pv 13) (po_some (pe_un un_neg pe_int)) po_none) pa_nil))) (pa_cons (pv 12) pa_nil))) pa_nil)))) pss_nil)))
      (pss_cons (ps_if (PW.pt (pw_and (pt_cmpR op_lt (pe_call G__law_take.F (hr.mono (by first | decide | omega)) rfl G__law_take.g G__law_take.kp G__law_take.b .nil pass0 (pa_cons (pv 0) (pa_cons pe_int pa_nil))) (pv 3) (nomark _)) (pw_and1 (pt_cmpR op_lt (pe_callB call_len_seq rfl T.n_len PySem.boot_len (pa_cons (pv 6) pa_nil)) (pv 4) (nomark _))))) (pss_one (ps_expr (pe_bm PySem.F.plainAttrs_list PySem.F.slot_list_append PySem.F.type_list_append mt_append (pv 6) (pa_cons (pv 12) pa_nil)))) pss_nil)
      (pss_cons (ps_expr (pe_bm PySem.F.plainAttrs_list PySem.F.slot_list_append PySem.F.type_list_append mt_append (pv 8) (pa_cons (pv 12) pa_nil)))
      (pss_one (ps_dput hu (pv 9) (pv 10) (pe_op op_add (pe_dget hu (pv 9) (pv 10) (fun _ _ => rfl)) pe_int) rfl)))))))))
      (pss_cons (ps_setLc (i := 16) (own := [("_law_name", 10)]) (te := (tTup (tCons _ (tCons _ (tCons (tCB (rTupS K) (tCons (tLc (iList K (tCB (rSortD K) _)) _ (tTest (tOp _ (tOp (rIxT K) _ _) _)) (tOp (rIxT K) _ _) _) tNil)) tNil))))) rfl nd rfl rfl (sw_true rfl rfl rfl (by decide +kernel)) (pi_list (pv 5)) (blkOk_by (by kernel_rfl)) (fun _ _ _ _ _ => (pg_name (i := 10) nd rfl (by first | exact Or.inl rfl | exact Or.inr rfl))) (fun _ _ _ _ _ => pts_nil) (fun _ _ _ _ _ => (pe_tup (pa_cons (pv 10) (pa_cons (pe_dget hu (pv 9) (pv 10) (fun _ _ => rfl)) (pa_cons (pe_callTy call_tuple_of rfl T.n_tuple (by decide +kernel) (pa_cons (pe_lc (own := [("_law_own", 14)]) (tt := (tTest (tOp _ (tOp (rIxT K) _ _) _))) (te := (tOp (rIxT K) _ _)) rfl nd (pi_list (pe_callB (cr_sortD rfl hr.units) rfl T.n_sorted (by decide +kernel) (pa_cons (pv 6) pa_nil))) (blkOk_by (by kernel_rfl)) (fun _ _ _ _ _ => (pg_name (i := 14) nd rfl (by first | exact Or.inl rfl | exact Or.inr rfl))) (fun _ _ _ _ _ => (pts_one (pt_cmpR op_eq (pe_ix ix_tup (pv 14) pe_int (fun _ _ => rfl)) (pv 10) (nomark _)))) (fun _ _ _ _ _ => (pe_ix ix_tup (pv 14) pe_int (fun _ _ => rfl)))) pa_nil)) pa_nil))))))
      (pss_one (ps_ret (pe_tup (pa_cons (pe_callTy call_tuple_of rfl T.n_tuple (by decide +kernel) (pa_cons (pv 16) pa_nil)) (pa_cons (pe_callTy call_tuple_of rfl T.n_tuple (by decide +kernel) (pa_cons (pe_callB (cr_sortSet rfl hr.units) rfl T.n_sorted (by decide +kernel) (pa_cons (pe_callTy (cr_setN rfl hr.units) rfl T.n_set (by decide +kernel) (pa_cons (pe_slice sl_list (pv 7) po_none (po_some pe_int)) pa_nil)) pa_nil)) pa_nil)) pa_nil))))))))), ?_⟩
  rintro ⟨kk, sz, th⟩ ⟨hk, hk1, hsz⟩ b n σ H S B hn Q k
  replace hk : kk ≤ 5 := hk
  replace hk1 : 1 ≤ kk := hk1
  replace hsz : sz ≤ 16 := hsz
  replace S : Sat true [some (rX (.ref b)), some (rI (.int (kk : Int))), some (rI (.int (sz : Int))), some (rI (.int th)), some (rI (.int 12)), none, none, none, none, none, none, none, none, none, none, none, none] σ H := Sat.tp (Sat.sm S hx_sm) (mlX (mlI (mlI (mlI (mlI ml0)))))
  refine q_tup1 (b_call (i := kk) (as := [rI (.int (kk : Int))]) hk (ev (i := 0) S rfl) (aI (ev (i := 1) S rfl) aa_nil) (fun H1 xs e B1 aa => by
    obtain ⟨x, ys, rfl, hx, hy⟩ := aa
    exact ⟨x, ys, rfl, hx_im hx B1, hy⟩) B (by omega) fun v H1 H2 e1 f2 B2 hv => ?_)
  obtain ⟨ns, NO, lN, zN, rfl, nn1, nn2, nn3⟩ := hv
  obtain ⟨nNb, nn2⟩ := hx_some nn2
  have nn3 := nn3.sm hx_sm
  have hnN : H lN = none := e1.free (by rw [hx_ne nNb] at nn1; exact nn1)
  refine t_cons (R := rLF H2 []) (e_lstF (ds := []) a_nil (by decide)) fun v H3 e3 hv => ?_
  obtain ⟨lM, zM, rfl, m1, m2, m3⟩ := hv
  refine t_cons (R := rLF H3 []) (e_lstF (ds := []) a_nil (by decide)) fun v H4 e4 hv => ?_
  obtain ⟨lL, zL, rfl, l1, l2, l3⟩ := hv
  refine t_cons (R := rLF H4 []) (e_lstF (ds := []) a_nil (by decide)) fun v H5 e5 hv => ?_
  obtain ⟨lT, zT, rfl, t1, t2, t3⟩ := hv
  refine t_nil ⟨by show 4 ≤ sizeLine; decide, fun p hp => ⟨p, _, rfl, SqT.of upd_same, rfl, _, _, rfl, _, _, rfl, _, _, rfl, _, _, rfl, rfl, ?_⟩⟩
  have e6 : Same H5 (upd H5 p (.tup [.ref lN, .ref lM, .ref lL, .ref lT])) := same_new hp
  generalize upd H5 p (.tup [V.ref lN, V.ref lM, V.ref lL, V.ref lT]) = H6 at e6
  have e26 := e3.trans (e4.trans (e5.trans e6))
  have hbn2 := B2.on
  have S6 : Sat true (lgG b lN lM lL lT kk sz th [none, none, none, none, none, none, none, none]) _ H6 := (((((S.up (m := true) f2.2).sm e26).set 5 (mnX (v := .ref lN)) rfl).set 6 (mnX (v := .ref lM)) rfl).set 7 (mnX (v := .ref lL)) rfl).set 8 (mnX (v := .ref lT)) rfl
  have hN6 : H6 lN = some (.lst zN) := e26 _ _ nn2
  have nn6 := nn3.sm e26
  refine q_set (e_dictP (K := K) (f := fun _ => 0) NO.nd (EvR.isL (EvR.l (e_lc (enc := nmD) (xs := ns) (F := fun x Γ => Γ.set 10 (some (rI (nmD x)))) (fun _ => true) (fun x => .tuple [nmD x, .int 0]) S6 (i_list (e_at (ev (i := 5) S6 rfl) hN6 nn6)) (by rw [NO.len]; omega) (fun x _ => tg_i) (by decide) fun x hx σ9 H9 e9 S9 => ⟨b_yes, fun _ => e_tup (a_cons (ev (i := 10) S9 rfl) (a_cons e_int a_nil)) (by show 2 ≤ 100000; decide)⟩)) (by rw [fT]))) fun v H7 e7 hv => ?_
  obtain ⟨dZ, rfl, z1, z2⟩ := hv
  have e27 := e26.trans e7
  have nz : ∀ {l : Addr} {o : HO}, H6 l = some o → l ≠ dZ := fun h => ne_of_none h z1
  have hM6 : H6 lM = some (.lst zM) := (e4.trans (e5.trans e6)) _ _ m2
  have hL6 : H6 lL = some (.lst zL) := (e5.trans e6) _ _ l2
  have hT6 : H6 lT = some (.lst zT) := e6 _ _ t2
  have AD : LA b lN lM lL lT dZ := {
    bN := nNb, bM := fun z => hbn2 (z ▸ m1), bL := fun z => hbn2 (z ▸ e3.free l1), bT := fun z => hbn2 (z ▸ (e3.trans e4).free t1)
    bZ := fun z => hbn2 (z ▸ e26.free z1)
    NM := ne_of_none nn2 m1, NL := ne_of_none (e3 _ _ nn2) l1, NT := ne_of_none ((e3.trans e4) _ _ nn2) t1, NZ := nz hN6
    ML := ne_of_none m2 l1, MT := ne_of_none (e4 _ _ m2) t1, MZ := nz hM6, LT := ne_of_none l2 t1, LZ := nz hL6, TZ := nz hT6 }
  have hf0 : ∀ {l : Addr}, H2 l = none → H l = none := fun {l} h => by
    cases q : H l with
    | none => rfl
    | some o =>
      by_cases c : l = b
      · rw [c] at h; exact absurd h hbn2
      · rw [f2.1 _ _ c q] at h; cases h
  have hnM : H lM = none := hf0 m1
  have hnL : H lL = none := hf0 (e3.free l1)
  have hnT : H lT = none := hf0 ((e3.trans e4).free t1)
  have hnZ : H dZ = none := hf0 (e26.free z1)
  have h7 : LH lN lM lL lT dZ ns [] [] [] (fun _ => 0) H7 := ⟨⟨zN, e7 _ _ hN6, nn6.sm e7⟩, ⟨zM, e7 _ _ hM6, m3.sm (e4.trans (e5.trans (e6.trans e7)))⟩, ⟨zL, e7 _ _ hL6, l3.sm (e5.trans (e6.trans e7))⟩, ⟨zT, e7 _ _ hT6, t3.sm (e6.trans e7)⟩, z2⟩
  have S7 : Sat true (lgG b lN lM lL lT kk sz th [some (rX (.ref dZ)), none, none, none, none, none, none, none]) _ H7 := (S6.sm e7).set 9 (mnX (v := .ref dZ)) rfl
  have fr7 : Fr b H H7 := f2.trans (Fr.of e27)
  have B7 : BoxAt b (n + 5) H7 := B2.sm e27
  have hnslen : ns.length ≤ 5 := by rw [NO.len]; exact hk
  have hnsne : ns ≠ [] := fun z => by have := NO.len; rw [z] at this; simp at this; omega
  refine q_for (m := true) (enc := PyData.int) (xs := upTo sz) (by have := i_rng (m := true) (ev (i := 2) S7 rfl) ⟨by omega, by omega⟩; exact this) fun H8 e8 => ⟨fun pre σ' H' => ∃ told marks lets f, Sat true (lgG b lN lM lL lT kk sz th [some (rX (.ref dZ)), none, none, none, none, none, none, none]) σ' H' ∧ Tp H8 H' ∧ Fr b H H' ∧ BoxAt b (n + 5 + 5 * pre.length) H' ∧ LH lN lM lL lT dZ ns told marks lets f H' ∧ LogI ns told marks lets f ∧ told.length = pre.length ∧ lets.length ≤ 2 * pre.length,
      ⟨[], [], [], fun _ => 0, S7.sm e8, Tp.refl _, fr7.trans (Fr.of e8), B7.sm e8, h7.sm AD e8, LogI.start ns, rfl, Nat.le_refl _⟩, fun pre σ' H' h => (by obtain ⟨_, _, _, _, _, t, _⟩ := h; exact t), fun pre i post σ' H' H'' v esp hI sm hv => ?_, fun σ' H' hI => ?_⟩
  · obtain ⟨told, marks, lets, f, S', tp', fr', B', h', I, htl, hll⟩ := hI
    have hpl : pre.length + 1 ≤ sz := by
      have := congrArg List.length esp
      rw [upTo_length, List.length_append, List.length_cons] at this
      omega
    have S10 : Sat true (lgG b lN lM lL lT kk sz th [some (rX (.ref dZ)), none, some (rI (.int i)), none, none, none, none, none]) (σ'.set 11 (some v)) H'' := (S'.sm sm).set 11 mnI hv
    have h10 := h'.sm AD sm
    obtain ⟨yN, a1, a2⟩ := h10.N
    refine q_setC (t_of (ds := ns.map nmD) (ev (i := 0) S10 rfl) (e_rN (ev (i := 5) S10 rfl) AD.bN a1 a2) (by simpa using hnsne) (by rw [List.length_map]; omega) (B'.sm sm) (by omega) fun v2 d2 H11 hd2 him f11 B11 => ?_)
    obtain ⟨nm, hnm, rfl⟩ := List.mem_map.mp hd2
    have h11 := h10.fr AD f11
    have fr11 := (fr'.trans (Fr.of sm)).trans f11
    have S11 : Sat true (lgG b lN lM lL lT kk sz th [some (rX (.ref dZ)), some (rI (nmD nm)), some (rI (.int i)), none, none, none, none, none]) _ H11 := (S10.up (m := true) f11.2).set 10 mnI him
    refine g_setI (d := evD (nm, f nm)) S11 (e_tup (ds := [nmD nm, .int (f nm)]) (a_cons (ev (i := 10) S11 rfl) (a_cons (e_dgetK (key := kN) (f := fun n => .int (f n)) (e := nm) (ev (i := 9) S11 rfl) (EvR.xs (ev (R := rI (nmD nm)) (i := 10) S11 rfl)) h11.Z hnm) a_nil)) (by show 2 ≤ 100000; decide)) fun σ12 H12 e12 S12 => ?_
    have h12 := h11.sm AD e12
    obtain ⟨yT, b1, b2⟩ := h12.T
    refine q_set (R := rLF H12 ((told.filter fun e => !decide (e.1 = nm)).map evD)) (e_lc (enc := evD) (xs := told) (F := fun e Γ => Γ.set 14 (some (rI (evD e)))) (fun e => !decide (e.1 = nm)) evD S12 (i_list (e_at (ev (i := 8) S12 rfl) b1 b2)) (by omega) (fun _ _ => tg_i) (by decide) fun e he σ9 H9 e9 S9 => ⟨b_test (e_neN (a := e.1) (e_ixT (d := nmD e.1) (ev (R := rI (evD e)) (i := 14) S9 rfl) e_int rfl) (ev (i := 10) S9 rfl)), fun _ => ev (i := 14) S9 rfl⟩) fun v3 H13 e13 hO => ?_
    obtain ⟨lO, zO, rfl, o1, o2, o3⟩ := hO
    have ho : ∀ x ∈ told.filter fun e => !decide (e.1 = nm), x ∈ told := fun x hx => (List.mem_filter.mp hx).1
    have hok : (told.filter fun e => !decide (e.1 = nm)).length ≤ 16 := by
      have : (told.filter fun e => !decide (e.1 = nm)).length ≤ told.length := List.length_filter_le _ _
      omega
    generalize (told.filter fun e => !decide (e.1 = nm)) = others at o3 ho hok
    have h13 := h12.sm AD e13
    have fr13 := fr11.trans (Fr.of (e12.trans e13))
    have B13 := B11.sm (e12.trans e13)
    have nOb : lO ≠ b := fun z => (B11.sm e12).on (z ▸ o1)
    obtain ⟨yL, c1, c2⟩ := h12.L
    have nOL : lO ≠ lL := (ne_of_none c1 o1).symm
    have S13 : Sat true (lgG b lN lM lL lT kk sz th [some (rX (.ref dZ)), some (rI (nmD nm)), some (rI (.int i)), some (rI (evD (nm, f nm))), some (rX (.ref lO)), none, none, none]) _ H13 := (S12.sm e13).set 13 (mnX (v := .ref lO)) rfl
    refine q_forC (t_of (ds := [.int 0, .int 0, .int 1, .int 1, .int 1, .int 2]) (ev (i := 0) S13 rfl) (e_rNF B13 (e_lstF (a_cons e_int (a_cons e_int (a_cons e_int (a_cons e_int (a_cons e_int (a_cons e_int a_nil)))))) (by decide))) (by simp) (by show 6 ≤ 1000; decide) B13 (by omega) fun v4 d4 H14 hd4 him4 f14 B14 => ?_)
    obtain ⟨j, rfl, hj⟩ : ∃ j : Int, d4 = .int j ∧ 0 ≤ j ∧ j ≤ 2 := by
      rcases List.mem_cons.mp hd4 with z | hd4
      · exact ⟨0, z, by decide⟩
      rcases List.mem_cons.mp hd4 with z | hd4
      · exact ⟨0, z, by decide⟩
      rcases List.mem_cons.mp hd4 with z | hd4
      · exact ⟨1, z, by decide⟩
      rcases List.mem_cons.mp hd4 with z | hd4
      · exact ⟨1, z, by decide⟩
      rcases List.mem_cons.mp hd4 with z | hd4
      · exact ⟨1, z, by decide⟩
      rcases List.mem_cons.mp hd4 with z | hd4
      · exact ⟨2, z, by decide⟩
      · cases hd4
    cases (show v4 = V.int j from him4)
    have S14 := S13.up (m := true) f14.2
    have h14 := h13.fr AD f14
    have fr14 := fr13.trans f14
    have o14 : H14 lO = some (.lst zO) := f14.1 _ _ nOb o2
    have o14r := o3.up f14.2
    refine q_for (m := true) (enc := PyData.int) (xs := upTo j.toNat) (i_rng e_int ⟨hj.1, by omega⟩) fun H15 e15 => ⟨fun pre2 σ9 H9 => ∃ new : List Mg, Sat true (lgG b lN lM lL lT kk sz th [some (rX (.ref dZ)), some (rI (nmD nm)), some (rI (.int i)), some (rI (evD (nm, f nm))), some (rX (.ref lO)), none, none, none]) σ9 H9 ∧ Tp H15 H9 ∧ Fr b H H9 ∧ BoxAt b (n + 5 + 5 * pre.length + 2 + pre2.length) H9 ∧ LH lN lM lL lT dZ ns told marks (lets ++ new) f H9 ∧ (H9 lO = some (.lst zO) ∧ ImL H9 (others.map evD) zO) ∧ (∀ m ∈ new, m.1 ∈ told ∧ m.2 = (nm, f nm)) ∧ new.length ≤ pre2.length,
        ⟨[], S14.sm e15, Tp.refl _, fr14.trans (Fr.of e15), B14.sm e15, by rw [List.append_nil]; exact h14.sm AD e15, ⟨e15 _ _ o14, o14r.sm e15⟩, fun m h => (by cases h), Nat.le_refl _⟩, fun pre2 σ9 H9 h => (by obtain ⟨_, _, t, _⟩ := h; exact t), fun pre2 i2 post2 σ9 H9 H9b v5 esp2 hI2 sm2 hv5 => ?_, fun σ9 H9 hI2 => ?_⟩
    · obtain ⟨new, S9, tp9, fr9, B9, h9, ⟨p1, p2⟩, hnew, hnl⟩ := hI2
      have hpl2 : pre2.length + 1 ≤ 2 := by
        have := congrArg List.length esp2
        rw [upTo_length, List.length_append, List.length_cons] at this
        omega
      have S16 := (S9.sm sm2).set 15 (mnI (d := .int i2)) hv5
      have h16 := h9.sm AD sm2
      have fr16 := fr9.trans (Fr.of sm2)
      refine s_ifN (b := !others.isEmpty) (b_test (e_neNil (e_at (ev (i := 13) S16 rfl) (sm2 _ _ p1) (p2.sm sm2)) (e_lst (ds := []) a_nil (by decide)))) (fun hne H17 e17 => ?_) fun _ H17 e17 => ?_
      · have hone : others ≠ [] := fun z => by rw [z] at hne; cases hne
        obtain ⟨w1, w2, w3⟩ := cut_last (enc := evD) hone
        have S17 := S16.sm e17
        have h17 := h16.sm AD e17
        have s17 := sm2.trans e17
        obtain ⟨yL2, g1, g2⟩ := h17.L
        refine d_bm (l := lL) (ev (i := 7) S17 rfl) g1 fun H18 e18 => ?_
        have S18 := S17.sm e18
        have B18 := (B9.sm s17).sm e18
        refine t_cons0 (t_tupC (t_of (ds := cutD (others.map evD) (some (-5)) none) (ev (i := 0) S18 rfl) (e_rNF B18 (e_slLF (e_at (ev (i := 13) S18 rfl) ((s17.trans e18) _ _ p1) (p2.sm (s17.trans e18))) (o_some (e_neg e_int)) o_none)) w1 (by omega) B18 (by omega) fun v6 d6 H19 hd6 him6 f19 B19 => ?_))
        obtain ⟨x, hx, rfl⟩ := w3 d6 hd6
        have S19 := S18.up (m := true) f19.2
        refine t_cons (R := rI (evD (nm, f nm))) (ev (i := 12) S19 rfl) fun v7 H20 e20 hv7 => t_nil ⟨by show 2 ≤ sizeLine; decide, fun p hp => ?_⟩
        have s21 : Same H20 (upd H20 p (.tup [v6, v7])) := same_new hp
        have him : Im (upd H20 p (.tup [v6, v7])) (mgD (x, (nm, f nm))) (.ref p) := ⟨p, _, rfl, upd_same, v6, _, rfl, him6.sm (e20.trans s21), v7, _, rfl, Im.sm hv7 s21, rfl⟩
        generalize upd H20 p (.tup [v6, v7]) = H21 at s21 him
        have h21 := ((h17.sm AD e18).fr AD f19).sm AD (e20.trans s21)
        obtain ⟨yL3, g3, g4⟩ := h21.L
        have gl : yL3 = yL2 := by
          have := (e20.trans s21) _ _ (f19.1 _ _ AD.bL (e18 _ _ g1))
          rw [g3] at this
          injection this with this
          injection this
        have hlen : yL2.length < 100000 := by
          rw [← gl, g4.len, List.length_map, List.length_append]
          omega
        refine ⟨lL, yL2, .ref p, rfl, rfl, by rw [← gl]; exact g3, len_lt hlen, ?_⟩
        rw [← gl]
        have t22 : Tp H21 (upd H21 lL (.lst (yL3 ++ [V.ref p]))) := tp_lst g3
        have r22 : ImL (upd H21 lL (.lst (yL3 ++ [V.ref p]))) ((lets ++ new ++ [(x, (nm, f nm))]).map mgD) (yL3 ++ [V.ref p]) := by
          rw [List.map_append]
          exact (g4.up t22).snoc (him.up t22)
        have t1821 := f19.2.trans (e20.trans s21).tp
        refine ⟨new ++ [(x, (nm, f nm))], ?_, ?_, ?_, ?_, ?_, ⟨?_, ?_⟩, fun m hm => ?_, ?_⟩
        · exact ((S18.up (m := true) (t1821.trans t22)).fgt 15 : Sat true _ _ _)
        · exact tp9.trans ((s17.trans e18).tp.trans (t1821.trans t22))
        · exact Fr.upd (((fr9.trans (Fr.of (s17.trans e18))).trans f19).trans (Fr.of (e20.trans s21))) hnL t22
        · rw [List.length_append, List.length_singleton]
          exact ((B19.sm (e20.trans s21)).upd AD.bL)
        · have := h21.putL (lets' := lets ++ new ++ [(x, (nm, f nm))]) AD t22 r22
          rwa [List.append_assoc] at this
        · rw [upd_ne nOL]
          exact (e20.trans s21) _ _ (f19.1 _ _ nOb ((s17.trans e18) _ _ p1))
        · exact ((p2.sm (s17.trans e18)).up t1821).up t22
        · rcases List.mem_append.mp hm with z | z
          · exact hnew m z
          · rw [List.mem_singleton.mp z]
            exact ⟨ho x hx, rfl⟩
        · rw [List.length_append, List.length_append, List.length_singleton, List.length_singleton]
          omega
      · have s17 := sm2.trans e17
        exact ⟨new, ((S16.sm e17).fgt 15 : Sat true _ _ _), tp9.trans s17.tp, fr9.trans (Fr.of s17), (B9.sm s17).up (by rw [List.length_append, List.length_singleton]; omega), h9.sm AD s17, ⟨s17 _ _ p1, p2.sm s17⟩, hnew, by rw [List.length_append, List.length_singleton]; omega⟩
    · obtain ⟨new, S9, tp9, fr9, B9, h9, ⟨p1, p2⟩, hnew, hnl⟩ := hI2
      rw [upTo_length] at B9 hnl
      have hj2 : j.toNat ≤ 2 := by omega
      have B9' : BoxAt b (n + 5 + 5 * pre.length + 4) H9 := B9.up (by omega)
      refine q_markIf (ds := marks.map evD) (d := evD (nm, f nm)) (th := th) (ev (i := 0) S9 rfl) e_int ⟨by decide, by decide⟩ B9' (by omega) fun H16 f16 B16 => ?_
      have S16 := S9.up (m := true) f16.2
      have h16 := h9.fr AD f16
      have fr16 := fr9.trans f16
      obtain ⟨yM, g1, g2⟩ := h16.M
      refine ⟨ev (i := 3) S16 rfl, decide ((marks.length : Int) < 12), lM, yM, b_test (e_ltI ((e_lenL (ds := marks.map evD) (e_at (ev (i := 6) S16 rfl) g1 g2)).isI (by rw [List.length_map])) (ev (i := 4) S16 rfl)), ev (i := 6) S16 rfl, g1, g2, ev (i := 12) S16 rfl, by rw [List.length_map]; have := I.mlen; omega, fun bm H17 hbm hst => ?_⟩
      have I' := I.turn hnm hnew bm fun z => by have := of_decide_eq_true (hbm z); omega
      -- after the mark
      have st : (Tp H16 H17 ∧ Fr b H H17 ∧ BoxAt b (n + 5 + 5 * pre.length + 5) H17) ∧ LH lN lM lL lT dZ ns told (if bm then marks ++ [(nm, f nm)] else marks) (lets ++ new) f H17 := by
        cases bm with
        | false =>
          have hst : Same H16 H17 := hst
          exact ⟨⟨hst.tp, fr16.trans (Fr.of hst), B16.sm hst⟩, h16.sm AD hst⟩
        | true =>
          obtain ⟨H8b, ws, rfl, s8, r8, t8⟩ := hst
          refine ⟨⟨s8.tp.trans t8, Fr.upd (fr16.trans (Fr.of s8)) hnM t8, (B16.sm s8).upd AD.bM⟩, (h16.sm AD s8).putM AD t8 ?_⟩
          show ImL _ ((marks ++ [(nm, f nm)]).map evD) ws
          rw [List.map_append]
          exact r8
      obtain ⟨⟨t17, fr17, B17⟩, h17⟩ := st
      have S17 := S16.up (m := true) t17
      obtain ⟨yT2, q1, q2⟩ := h17.T
      refine q_appI (ev (i := 8) S17 rfl) q1 q2 (ev (i := 12) S17 rfl) (by rw [List.length_map]; omega) fun H18 ws e18 r18 t18 => ?_
      have h18 := (h17.sm AD e18).putT (told' := told ++ [(nm, f nm)]) AD (ws := ws) (by
        have : Tp H18 (upd H18 lT (.lst ws)) := tp_lst (e18 _ _ q1)
        exact this) (by rw [List.map_append]; exact r18)
      have S18 := (S17.sm e18).up (m := true) t18
      have fr18 : Fr b H (upd H18 lT (.lst ws)) := Fr.upd (fr17.trans (Fr.of e18)) hnT (tp_lst (e18 _ _ q1))
      have B18 : BoxAt b (n + 5 + 5 * pre.length + 5) (upd H18 lT (.lst ws)) := (B17.sm e18).upd AD.bT
      generalize upd H18 lT (.lst ws) = H19 at h18 S18 fr18 B18 t18
      refine s_dputK kN_inj (e := nm) (gd := .int (f nm + 1)) (e_add (e_dgetK (key := kN) (f := fun n => .int (f n)) (e := nm) (ev (i := 9) S18 rfl) (EvR.xs (ev (R := rI (nmD nm)) (i := 10) S18 rfl)) h18.Z hnm) e_int) (ev (i := 9) S18 rfl) (EvR.xs (ev (R := rI (nmD nm)) (i := 10) S18 rfl)) h18.Z (by omega) fun H20 wz e20 DZ t20 => ?_
      rw [if_pos hnm] at DZ
      have ef : (fun z => if z = nm then PyData.int (f nm + 1) else .int (f z)) = fun z => .int ((fun z => if z = nm then f nm + 1 else f z) z) := by
        funext z
        show _ = PyData.int (if z = nm then _ else _)
        split <;> rfl
      rw [ef] at DZ
      have hZ20 := (h18.Z.sm e20)
      have t20b : Tp H20 (upd H20 dZ (.dK wz)) := by
        obtain ⟨kvs, z1, _⟩ := hZ20
        exact tp_dK z1
      refine ⟨told ++ [(nm, f nm)], _, lets ++ new, _, ?_, ?_, ?_, ?_, (h18.sm AD e20).putZ AD t20b DZ, I', ?_, ?_⟩
      · exact (((((S18.up (m := true) t20).fgt 10).fgt 11).fgt 12).fgt 13 : Sat true _ _ _)
      · exact tp'.trans (sm.tp.trans (f11.2.trans (e12.tp.trans (e13.tp.trans (f14.2.trans (e15.tp.trans (tp9.trans (f16.2.trans (t17.trans (e18.tp.trans (t18.trans t20)))))))))))
      · exact Fr.upd (fr18.trans (Fr.of e20)) hnZ t20b
      · rw [List.length_append, List.length_singleton]
        exact ((B18.sm e20).upd AD.bZ).up (by omega)
      · rw [List.length_append, List.length_append, htl]
        rfl
      · rw [List.length_append, List.length_append, List.length_singleton]
        omega
  · obtain ⟨told, marks, lets, f, S', tp', fr', B', h', I, htl, hll⟩ := hI
    rw [upTo_length] at htl hll B'
    obtain ⟨yN, a1, a2⟩ := h'.N
    obtain ⟨yM, g1, g2⟩ := h'.M
    have hml := I.mlen
    refine q_set (R := rLF H' ((mkL ns marks f []).1.map mcD)) (EvR.imp (e_lc (enc := nmD) (xs := ns) (F := fun x Γ => Γ.set 10 (some (rI (nmD x)))) (fun _ => true) (fun x => mcD (x, f x, ((sortE marks).filter fun e => decide (e.1 = x)).map (·.2))) S' (i_list (e_at (ev (i := 5) S' rfl) a1 a2)) (by omega) (fun _ _ => tg_i) (by decide) fun x hx σ9 H9 e9 S9 => ⟨b_yes, fun _ => e_tup (ds := [nmD x, .int (f x), .tuple (((sortE marks).filter fun e => decide (e.1 = x)).map fun e => PyData.int e.2)]) (a_cons (ev (i := 10) S9 rfl) (a_cons (e_dgetK (key := kN) (f := fun n => .int (f n)) (e := x) (ev (i := 9) S9 rfl) (EvR.xs (ev (R := rI (nmD x)) (i := 10) S9 rfl)) (h'.Z.sm e9) hx) (a_cons (e_tupL (EvR.l (e_lc (enc := evD) (xs := sortE marks) (F := fun e Γ => Γ.set 14 (some (rI (evD e)))) (fun e => decide (e.1 = x)) (fun e => .int e.2) S9 (i_list (EvR.l (e_sortEv (e_at (ev (i := 6) S9 rfl) (e9 _ _ g1) (g2.sm e9)) (by omega)))) (by rw [(sortE_perm marks).length_eq]; omega) (fun _ _ => tg_i) (by decide) fun e he σ10 H10 e10 S10 => ⟨b_test (e_eqN (a := e.1) (e_ixT (d := nmD e.1) (ev (R := rI (evD e)) (i := 14) S10 rfl) e_int rfl) (ev (i := 10) S10 rfl)), fun _ => e_ixT (d := .int e.2) (ev (R := rI (evD e)) (i := 14) S10 rfl) e_int rfl⟩))) a_nil))) (by show 3 ≤ 100000; decide) |>.isI (by unfold mcD; rw [List.map_map]; rfl)⟩) fun H9 v9 _ r9 => by
      rw [fT] at r9
      have : (mkL ns marks f []).1.map mcD = ns.map fun x => mcD (x, f x, ((sortE marks).filter fun e => decide (e.1 = x)).map (·.2)) := by
        unfold mkL
        rw [List.map_map]
        rfl
      rw [this]
      exact r9) fun v9 H9 e9 hv9 => ?_
    obtain ⟨lC, zC, rfl, c1, c2, c3⟩ := hv9
    have S9 : Sat true (lgG b lN lM lL lT kk sz th [some (rX (.ref dZ)), none, none, none, none, none, none, some (rX (.ref lC))]) _ H9 := (S'.sm e9).set 16 (mnX (v := .ref lC)) rfl
    obtain ⟨yL, l1b, l2b⟩ := (h'.sm AD e9).L
    refine s_ret (R := fun H5 v => ∃ lt : List Mg, (lt.length ≤ 63 ∧ ∀ m ∈ lt, m ∈ lets.take 16) ∧ Im H5 (.tuple [.tuple ((mkL ns marks f []).1.map mcD), .tuple (lt.map mgD)]) v) (e_tup2X (e_tupL (e_at (ev (i := 16) S9 rfl) c2 c3)) (e_tupLX (g := fun lt : List Mg => lt.map mgD) (e_sortSet (lets := lets.take 16) (EvR.isL (e_slL (e_at (ev (i := 7) S9 rfl) l1b l2b) o_none (o_some e_int)) (by rw [show (16 : Int) = ((16 : Nat) : Int) from rfl, cutD_take, List.map_take])) (by rw [List.length_take]; omega)))) fun v H10 e10 hv => ?_
    obtain ⟨lt, ⟨lt1, lt2⟩, him⟩ := hv
    refine k v H10 (fr'.trans (Fr.of (e9.trans e10))) ((B'.sm (e9.trans e10)).up (by omega)) ⟨mkL ns marks f lt, ⟨ns, kk, told, marks, f, lets, NO, hk, by omega, I, rfl, by show lt.length ≤ 100; omega, fun m hm => List.mem_of_mem_take (lt2 m hm)⟩, hx_im him (B'.sm (e9.trans e10))⟩
end
end Fs

/-! Fs4: the order as the law tells it. -/
namespace Fs
open PySem L2
abbrev s_Lorder : Stmt := topS 33
/-! ### plain -/
def bFirst (e : Ev) : List Ev := if 0 < e.2 then [(e.1, e.2 - 1)] else []
def bPre (pre : List Mg) (e : Ev) : List Ev := bFirst e ++ (pre.filter fun m => decide (m.2 = e)).map (·.1)
theorem bPre_snoc (pre : List Mg) (m : Mg) : bPre (pre ++ [m]) = fun z => if z = m.2 then bPre pre m.2 ++ [m.1] else bPre pre z := by
  funext z
  unfold bPre
  rw [List.filter_append, List.map_append]
  by_cases h : z = m.2
  · subst h
    simp
  · have h' : ¬ m.2 = z := fun q => h q.symm
    simp [h, h']
theorem bs_iff {L : Lg} (W : Well L) {e o : Ev} (he : e ∈ evs L) : o ∈ bPre L.2 e ↔ o ∈ evs L ∧ e ∈ nxt L o := by
  unfold bPre bFirst
  rw [List.mem_append]
  constructor
  · rintro (h | h)
    · split at h
      · rename_i hp
        rw [List.mem_singleton.mp h]
        have h1 : (e.1, e.2 - 1) ∈ evs L := evs_down W (j := e.2) he (by omega) (by omega)
        refine ⟨h1, ?_⟩
        unfold nxt
        refine List.mem_append_left _ ?_
        have : (e.1, e.2 - 1 + 1) = e := by rw [Int.sub_add_cancel]
        show e ∈ (if (e.1, e.2 - 1 + 1) ∈ evs L then [(e.1, e.2 - 1 + 1)] else [])
        rw [this, if_pos he]
        exact List.mem_cons_self
      · cases h
    · obtain ⟨m, hm, rfl⟩ := List.mem_map.mp h
      obtain ⟨m1, m2⟩ := List.mem_filter.mp hm
      refine ⟨(W.lets m m1).1, ?_⟩
      unfold nxt
      exact List.mem_append_right _ (List.mem_map.mpr ⟨m, List.mem_filter.mpr ⟨m1, decide_eq_true rfl⟩, of_decide_eq_true m2⟩)
  · rintro ⟨ho, h⟩
    unfold nxt at h
    rcases List.mem_append.mp h with z | z
    · split at z
      · left
        have q := List.mem_singleton.mp z
        have h0 := evs_pos W ho
        have e2 : e.2 = o.2 + 1 := by rw [q]
        have e1 : e.1 = o.1 := by rw [q]
        rw [if_pos (by omega)]
        refine List.mem_singleton.mpr (Prod.ext e1.symm ?_)
        show o.2 = e.2 - 1
        omega
      · cases z
    · right
      obtain ⟨m, hm, q⟩ := List.mem_map.mp z
      obtain ⟨m1, m2⟩ := List.mem_filter.mp hm
      exact List.mem_map.mpr ⟨m, List.mem_filter.mpr ⟨m1, decide_eq_true q⟩, of_decide_eq_true m2⟩
theorem ahead_pred {L : Lg} (W : Well L) {o e : Ev} : Ahead L o e ↔ ∃ p, (p ∈ evs L ∧ e ∈ nxt L p) ∧ (o = p ∨ Ahead L o p) := by
  constructor
  · intro h
    cases h with
    | one h1 h2 => exact ⟨o, ⟨h1, h2⟩, .inl rfl⟩
    | more h1 h2 =>
      rename_i b
      have : b ∈ evs L := by
        cases h1 with
        | one _ h => exact nxt_evs W h
        | more _ h => exact nxt_evs W h
      exact ⟨b, ⟨this, h2⟩, .inr h1⟩
  · rintro ⟨p, ⟨h1, h2⟩, h3⟩
    rcases h3 with z | z
    · rw [z]; exact .one h1 h2
    · exact .more z h2
structure FI (L : Lg) (fs ls : List Ev) (os : Ev → List Ev) : Prop where
  cov : ∀ x ∈ evs L, x ∈ fs ∨ x ∈ ls
  lsub : ∀ x ∈ ls, x ∈ evs L
  lnd : ls.Nodup
  dis : ∀ x ∈ ls, x ∉ fs
  fsub : ∀ x ∈ fs, x ∈ evs L
  fnd : fs.Nodup
  rt : ∀ e ∈ fs, (os e).Nodup ∧ ∀ o, o ∈ os e ↔ Ahead L o e

/-! ### two dicts that change -/
def pD (dF dB : Addr) : Addr → Prop := fun a => a = dF ∨ a = dB
structure DD (dF dB : Addr) (H : Hp) : Prop where
  f : ∃ k, H dF = some (.dT k)
  b : ∃ k, H dB = some (.dT k)
noncomputable abbrev H2 (dF dB : Addr) (H : Hp) : Hp := Hid H (pD dF dB)
section
variable {dF dB l : Addr} {H H' H1 H0 : Hp} {ds : List PyData} {xs : List Ev} {os : Ev → List Ev}
theorem hid_mono {p : Addr → Prop} (e : Same H H1) : Same (Hid H p) (Hid H1 p) := fun a o h => by
  have n : ¬ p a := fun z => by rw [hid_off z] at h; cases h
  rw [hid_on n] at h ⊢
  exact e _ _ h
theorem hid_upd {p : Addr → Prop} {a : Addr} {o : HO} (h : p a) : Hid (upd H a o) p = Hid H p := by
  funext c
  by_cases q : p c
  · rw [hid_off q, hid_off q]
  · rw [hid_on q, hid_on q, upd_ne fun z : c = a => q (z ▸ h)]
theorem DD.at (D : DD dF dB H) {a : Addr} (h : pD dF dB a) : ∃ k, H a = some (.dT k) := by
  rcases h with z | z
  · rw [z]; exact D.f
  · rw [z]; exact D.b
theorem DD.sm (D : DD dF dB H) (e : Same H H1) : DD dF dB H1 := by
  obtain ⟨⟨k, h⟩, j, g⟩ := D
  exact ⟨⟨k, e _ _ h⟩, j, e _ _ g⟩
theorem DD.put (D : DD dF dB H) {a : Addr} {k : List (List Key × V)} (h : pD dF dB a) : DD dF dB (upd H a (.dT k)) := by
  refine ⟨?_, ?_⟩
  · by_cases z : dF = a
    · exact ⟨k, by rw [z, upd_same]⟩
    · obtain ⟨j, g⟩ := D.f
      exact ⟨j, by rw [upd_ne z]; exact g⟩
  · by_cases z : dB = a
    · exact ⟨k, by rw [z, upd_same]⟩
    · obtain ⟨j, g⟩ := D.b
      exact ⟨j, by rw [upd_ne z]; exact g⟩
theorem DD.tp (D : DD dF dB H) : Tp H (H2 dF dB H) := fun a xs h => by
  show Hid H (pD dF dB) a = _
  rw [hid_on fun z => ?_]
  · exact h
  · obtain ⟨k, g⟩ := D.at z
    rw [g] at h
    cases h
/-- a list that is none of the dicts -/
def LS (dF dB : Addr) (H : Hp) (l : Addr) (ds : List PyData) : Prop := ∃ zs, H2 dF dB H l = some (.lst zs) ∧ ImL (H2 dF dB H) ds zs
theorem LS.sm (h : LS dF dB H l ds) (e : Same (H2 dF dB H) (H2 dF dB H')) : LS dF dB H' l ds := by
  obtain ⟨zs, a, r⟩ := h
  exact ⟨zs, e _ _ a, r.sm e⟩
theorem LS.at (h : LS dF dB H l ds) {σ : St} {te : TE} (ht : EvR te σ H (rX (.ref l))) : EvR te σ H (rL ds) := by
  obtain ⟨zs, a, r⟩ := h
  exact e_at ht (hid_same _ _ _ _ a) (r.sm (hid_same _ _))
theorem LS.lf {v : V} (D : DD dF dB H) (D1 : DD dF dB H1) (h : rLF H ds H1 v) : ∃ l, v = .ref l ∧ H l = none ∧ LS dF dB H1 l ds := by
  obtain ⟨l, xs, rfl, h1, h2, h3⟩ := h
  refine ⟨l, rfl, h1, xs, ?_, h3.up D1.tp⟩
  show Hid H1 (pD dF dB) l = _
  rw [hid_on fun z => ?_]
  · exact h2
  · obtain ⟨k, g⟩ := D.at z
    rw [h1] at g
    cases g
/-- a dict of lists -/
def OD (dF dB : Addr) (H0 H : Hp) (d : Addr) (xs : List Ev) (os : Ev → List Ev) : Prop := ∃ adr : Ev → Addr, H d = some (.dT (xs.map fun x => (kE x, V.ref (adr x)))) ∧ ∀ e ∈ xs, H0 (adr e) = none ∧ LS dF dB H (adr e) ((os e).map evD)
theorem OD.sm {d : Addr} (h : OD dF dB H0 H d xs os) (e : Same (H2 dF dB H) (H2 dF dB H')) (ed : H' d = H d) : OD dF dB H0 H' d xs os := by
  obtain ⟨adr, a, k⟩ := h
  exact ⟨adr, by rw [ed]; exact a, fun x hx => ⟨(k x hx).1, (k x hx).2.sm e⟩⟩
theorem OD.same {d : Addr} (h : OD dF dB H0 H d xs os) (e : Same H H') : OD dF dB H0 H' d xs os := by
  obtain ⟨adr, a, k⟩ := h
  exact ⟨adr, e _ _ a, fun x hx => ⟨(k x hx).1, (k x hx).2.sm (hid_mono e)⟩⟩
theorem put_objs {adr : Ev → Addr} {xs : List Ev} {e : Ev} {l : Addr} : putK (xs.map fun x => (kE x, V.ref (adr x))) (kE e) (.ref l) = (if e ∈ xs then xs else xs ++ [e]).map fun x => (kE x, V.ref (if x = e then l else adr x)) := by
  by_cases h : e ∈ xs
  · rw [if_pos h]
    unfold putK
    rw [if_pos, List.map_map]
    · refine List.map_congr_left fun x hx => ?_
      show (if kE x = kE e then (kE x, V.ref l) else (kE x, V.ref (adr x))) = _
      by_cases q : x = e
      · rw [if_pos q, if_pos (by rw [q])]
      · rw [if_neg q, if_neg fun z => q (kE_inj _ _ z)]
    · rw [List.any_eq_true]
      exact ⟨_, List.mem_map.mpr ⟨e, h, rfl⟩, decide_eq_true rfl⟩
  · rw [if_neg h, Fs.putK_new, List.map_append]
    · refine congr (congrArg _ ?_) ?_
      · refine List.map_congr_left fun x hx => ?_
        rw [if_neg fun z : x = e => h (z ▸ hx)]
      · rw [List.map_cons, List.map_nil, if_pos rfl]
    · rw [List.map_map]
      intro z
      obtain ⟨x, hx, q⟩ := List.mem_map.mp z
      exact h (kE_inj _ _ q ▸ hx)
section
variable {K : PySem.W.Frag} {σ : St} {ta tb tc te tx : TE} {R T : Rs} {d : PyData} {D : Ends} {tz : TS} {Q : VK}
/-- d[k] = a list -/
theorem s_dputO {o : Addr} {adr : Ev → Addr} {e : Ev} (hv : EvR tc σ H R) (hd : EvR ta σ H (rX (.ref o))) (hk : EvR tb σ H (rI (evD e))) (h : H o = some (.dT (xs.map fun x => (kE x, V.ref (adr x))))) (hz : xs.length < 100000) (hm : Mn false R)
    (k : ∀ v H1, Same H H1 → R H1 v → ∃ l, v = .ref l ∧ D.nx σ (upd H1 o (.dT ((if e ∈ xs then xs else xs ++ [e]).map fun x => (kE x, V.ref (if x = e then l else adr x)))))) : sDPut ta tb tc D σ H := hv.go fun v H1 e1 rv => hd H1 e1 _ fun x H2 e2 hx => hk H2 (e1.trans e2) _ fun y H3 e3 hy => by
  have e13 := e1.trans (e2.trans e3)
  obtain ⟨b, rfl, hb⟩ := ev_at hy
  obtain ⟨l, rfl, q⟩ := k v H3 e13 (hm _ _ _ (e2.trans e3) rv)
  refine ⟨o, _, hx, DPut.t (e13 _ _ h) hb (len_lt (by rw [List.length_map]; exact hz)), ?_⟩
  rw [put_objs]
  exact q
theorem q_dputO {o : Addr} {adr : Ev → Addr} {e : Ev} (hv : EvR tc σ H R) (hd : EvR ta σ H (rX (.ref o))) (hk : EvR tb σ H (rI (evD e))) (h : H o = some (.dT (xs.map fun x => (kE x, V.ref (adr x))))) (hz : xs.length < 100000) (hm : Mn false R)
    (k : ∀ v H1, Same H H1 → R H1 v → ∃ l, v = .ref l ∧ tz D σ (upd H1 o (.dT ((if e ∈ xs then xs else xs ++ [e]).map fun x => (kE x, V.ref (if x = e then l else adr x)))))) : tSeq (sDPut ta tb tc) tz D σ H := s_dputO (D := { D with nx := tz D }) hv hd hk h hz hm k
theorem e_rep {i : Int} (ha : EvR ta σ H (rL ds)) (hb : EvR tb σ H (rI (.int i))) (h : 0 ≤ i ∧ i ≤ 1) (hl : ds.length ≤ 1000) : EvR (tOp rRep ta tb) σ H (rLF H (List.replicate i.toNat ds).flatten) := fun H1 e Q q => ha H1 e _ fun x H2 e2 hx => hb H2 (e.trans e2) _ fun y H3 e3 hy => by
  obtain ⟨l, xs, rfl, h1, r⟩ := hx
  have r3 := r.sm e3
  refine ⟨l, i, xs, rfl, hy, e3 _ _ h1, by omega, by omega, ?_, fun p hp => q _ _ ((e2.trans e3).trans (same_new hp)) ⟨p, _, rfl, (e.trans (e2.trans e3)).free hp, upd_same, ?_⟩⟩
  · rw [r3.len]
    have : i.toNat ≤ 1 := by omega
    have h2 : ds.length * i.toNat ≤ 1000 * 1 := Nat.mul_le_mul hl this
    exact len_ok (by omega)
  · have hi : i = 0 ∨ i = 1 := by omega
    rcases hi with z | z
    · subst z; exact rfl
    · subst z
      have := r3.sm (same_new (o := .lst (List.replicate (1 : Int).toNat xs).flatten) hp)
      simpa using this
end
end
end Fs

/-! Fs5: the order as the law tells it: the walk. -/
namespace Fs
open PySem L2
/-- a pair (event, list of its first one ahead); the list new since H0 and not at Dl -/
def PA (Dl : Option Addr) (H0 H : Hp) (y : V) (e : Ev) : Prop := ∃ p q tl zs, y = V.ref p ∧ H p = some (.tup [.ref q, .ref tl]) ∧ H q = some (.tup ((kE e).map kV)) ∧ H tl = some (.lst zs) ∧ ImL H ((bFirst e).map evD) zs ∧ H0 tl = none ∧ some tl ≠ Dl
theorem PA.fr {Dl : Addr} {H0 H H' : Hp} {y : V} {e : Ev} (h : PA (some Dl) H0 H y e) (f : ∀ a o, a ≠ Dl → H a = some o → H' a = some o) (t : Tp H H') : PA (some Dl) H0 H' y e := by
  obtain ⟨p, q, tl, zs, a, b, c, d, r, g, n⟩ := h
  exact ⟨p, q, tl, zs, a, t _ _ b, t _ _ c, f _ _ (fun z => n (by rw [z])) d, r.up t, g, n⟩
theorem paired_imp {α β : Type} {F G : α → β → Prop} (h : ∀ a b, F a b → G a b) : ∀ {xs : List α} {ys : List β}, Paired F xs ys → Paired G xs ys
  | _, _, .nil => .nil
  | _, _, .cons a t => .cons (h _ _ a) (paired_imp h t)
/-- the order told, all of it new since H0 -/
def OrdF (L : Lg) (H0 : Hp) : Rs := fun H v => ∃ (d : Addr) (xs : List Ev) (adr : Ev → Addr), v = .ref d ∧ H0 d = none ∧ H d = some (.dT (xs.map fun x => (kE x, V.ref (adr x)))) ∧ (∀ e, e ∈ xs ↔ e ∈ evs L) ∧ ∀ e ∈ evs L, H0 (adr e) = none ∧ ∃ (zs : List V) (os : List Ev), H (adr e) = some (.lst zs) ∧ ImL H (os.map evD) zs ∧ os.length ≤ 100 ∧ ∀ o, o ∈ os ↔ Ahead L o e
section
variable {K : PySem.W.Frag} {σ : St} {H : Hp} {Γ : Gam} {te tl : TE} {Q : VK}
theorem e_pairR {ta tb : TE} {R T U : Rs} (ha : EvR ta σ H R) (hb : EvR tb σ H T) (hm : Mn false R) (k : ∀ x y H1 p, Same H H1 → R H1 x → T H1 y → H1 p = none → U (upd H1 p (.tup [x, y])) (.ref p)) : EvR (tTup (tCons ta (tCons tb tNil))) σ H U := fun H1 e Q q => ha H1 e _ fun x H2 e2 hx => hb H2 (e.trans e2) _ fun y H3 e3 hy => ⟨by show 2 ≤ sizeLine; decide, fun p hp => q _ _ ((e2.trans e3).trans (same_new hp)) (k x y H3 p (e.trans (e2.trans e3)) (hm _ _ _ e3 hx) hy hp)⟩
/-- the list of pairs -/
theorem e_pairs {l : Addr} {zs : List V} {es : List Ev} (S : Sat true Γ σ H) (hl : H l = some (.lst zs)) (rl : ImL H (es.map evD) zs) (ht : EvR tl σ H (rX (.ref l))) (hz : es.length ≤ 1000)
    (turn : ∀ e ∈ es, ∀ σ2 H2, Sat true ((wipeG Γ [4]).set 4 (some (rI (evD e)))) σ2 H2 → EvR te σ2 H2 (fun H' v => PA none H2 H' v e)) :
    EvR (tLc (iList K tl) (gName 4) tYes te [4]) σ H (fun H' v => ∃ d acc, v = .ref d ∧ H' d = some (.lst acc) ∧ acc.length = es.length ∧ Paired (PA none H H') acc es) := fun H1 e1 Q q => by
  refine t_lcM (M := At l) (enc := evD) (xs := es) (i_listA ht hl rl) e1 fun H2 Dl e2 hD => ⟨fun pre H' => (∀ a o, a ≠ Dl → H2 a = some o → H' a = some o) ∧ Tp H2 H' ∧ ∃ acc, H' Dl = some (.lst acc) ∧ acc.length = pre.length ∧ Paired (PA (some Dl) H H') acc pre, ⟨fun a o n h => by rw [upd_ne n]; exact h, (same_new hD).tp, [], upd_same, rfl, .nil⟩, fun pre H' h => ?_, fun pre x post H' H'' v esp hI sm hv => ?_, fun H' hI => ?_⟩
  · have h2 := e2 _ _ (e1 _ _ hl)
    have nl : l ≠ Dl := ne_of_none h2 hD
    have e3 : Tp H2 H' := h.2.1
    refine ⟨(h.1 _ _ nl h2).trans h2.symm, h.2.1⟩
  · obtain ⟨fr, tp, acc, ha, hal, hp⟩ := hI
    have hx : x ∈ es := by rw [esp]; simp
    show wipe ((wipe σ [4]).set 4 (some v)) [4] = wipe σ [4] ∧ _
    refine ⟨by rw [wipe_set List.mem_cons_self, wipe_twice], (b_yes (σ := _) (H := H'')).go fun H3 e3 => ?_⟩
    rw [if_pos rfl]
    have t13 : Tp H H3 := e1.tp.trans (e2.tp.trans (tp.trans (sm.tp.trans e3.tp)))
    have S3 : Sat true ((wipeG Γ [4]).set 4 (some (rI (evD x)))) ((wipe σ [4]).set 4 (some v)) H3 := ((S.up (m := true) t13).wipe [4]).set 4 mnI (Im.sm hv e3)
    refine (turn x hx _ H3 S3).go fun y H4 e4 hy => ?_
    have s4 := sm.trans (e3.trans e4)
    have ha4 := s4 _ _ ha
    refine ⟨acc, ha4, len_lt (by rw [hal]; have := congrArg List.length esp; rw [List.length_append, List.length_cons] at this; omega), fun a o n h => by rw [upd_ne n]; exact s4 _ _ (fr a o n h), tp.trans (s4.tp.trans (tp_lst ha4)), acc ++ [y], upd_same, by rw [List.length_append, List.length_append, hal]; rfl, ?_⟩
    have fr5 : ∀ a o, a ≠ Dl → H4 a = some o → (upd H4 Dl (.lst (acc ++ [y]))) a = some o := fun a o n h => by rw [upd_ne n]; exact h
    have t5 : Tp H4 (upd H4 Dl (.lst (acc ++ [y]))) := tp_lst ha4
    refine Paired.snoc (paired_imp (fun a b h => h.fr (fun a o n h => fr5 a o n (s4 _ _ h)) (s4.tp.trans t5)) hp) ?_
    obtain ⟨p, q', tl', zs', b1, b2, b3, b4, b5, b6, b7⟩ := hy
    have n1 : tl' ≠ Dl := fun z => by
      rw [z] at b6
      have := (sm.trans e3) _ _ ha
      rw [b6] at this
      cases this
    refine ⟨p, q', tl', zs', b1, t5 _ _ b2, t5 _ _ b3, fr5 _ _ n1 b4, b5.up t5, ?_, fun z => n1 (Option.some.inj z)⟩
    cases g : H tl' with
    | none => rfl
    | some o =>
      have := (sm.trans e3) _ _ (fr tl' o n1 ((e1.trans e2) _ _ g))
      rw [b6] at this
      cases this
  · obtain ⟨fr, tp, acc, ha, hal, hp⟩ := hI
    refine q _ _ (fun a o h => fr a o (fun z => ?_) (e2 _ _ h)) ⟨Dl, acc, rfl, ha, hal, paired_imp (fun a b h => ?_) hp⟩
    · have := e2.free hD
      rw [z, this] at h
      cases h
    · obtain ⟨p, q', tl', zs', b1, b2, b3, b4, b5, b6, b7⟩ := h
      exact ⟨p, q', tl', zs', b1, b2, b3, b4, b5, b6, by simp⟩
/-- dict(pairs), the keys events, the values lists -/
theorem e_dictPT {es : List Ev} (nd : es.Nodup) (hz : es.length ≤ 1000) (h : EvR te σ H (fun H' v => ∃ d acc, v = .ref d ∧ H' d = some (.lst acc) ∧ acc.length = es.length ∧ Paired (PA none H H') acc es)) :
    EvR (tCB (rDictPT K) (tCons te tNil)) σ H (fun H' v => ∃ (d : Addr) (adr : Ev → Addr), v = .ref d ∧ H d = none ∧ H' d = some (.dT (es.map fun x => (kE x, V.ref (adr x)))) ∧ ∀ e ∈ es, H (adr e) = none ∧ ∃ zs, H' (adr e) = some (.lst zs) ∧ ImL H' ((bFirst e).map evD) zs) := fun H1 e1 Q q => h H1 e1 _ fun x H2 e2 hx => by
  obtain ⟨d, acc, rfl, hd, hal, hp⟩ := hx
  have key : ∀ (es : List Ev) (acc : List V), es.Nodup → Paired (PA none H H2) acc es → ∃ (ps : List Addr) (qs adr : Ev → Addr), acc = ps.map V.ref ∧ Paired (fun p kv => SqT K H2 p [.ref kv.2.1, kv.2.2] ∧ H2 kv.2.1 = some (.tup (kv.1.map kV))) ps (es.map fun x => (kE x, qs x, V.ref (adr x))) ∧ ∀ e ∈ es, H (adr e) = none ∧ ∃ zs, H2 (adr e) = some (.lst zs) ∧ ImL H2 ((bFirst e).map evD) zs := by
    intro es
    induction es with
    | nil => intro acc _ hp; cases hp; exact ⟨[], fun _ => 0, fun _ => 0, rfl, .nil, fun e h => (by cases h)⟩
    | cons e es ih =>
      intro acc nd hp
      obtain ⟨n1, n2⟩ := List.nodup_cons.mp nd
      cases hp with
      | cons a t =>
        obtain ⟨ps, qs, adr, rfl, pp, hr⟩ := ih _ n2 t
        obtain ⟨p, q', tl', zs', rfl, b2, b3, b4, b5, b6, _⟩ := a
        refine ⟨p :: ps, fun z => if z = e then q' else qs z, fun z => if z = e then tl' else adr z, rfl, ?_, fun x hx => ?_⟩
        · have e3 : (es.map fun x => (kE x, (if x = e then q' else qs x), V.ref (if x = e then tl' else adr x))) = es.map fun x => (kE x, qs x, V.ref (adr x)) := List.map_congr_left fun x hx => by
            have : x ≠ e := fun z => n1 (z ▸ hx)
            rw [if_neg this, if_neg this]
          rw [List.map_cons, e3]
          refine .cons ?_ pp
          show SqT K H2 p [V.ref (if e = e then q' else qs e), V.ref (if e = e then tl' else adr e)] ∧ H2 (if e = e then q' else qs e) = some (.tup ((kE e).map kV))
          rw [if_pos rfl, if_pos rfl]
          exact ⟨SqT.of b2, b3⟩
        · show H (if x = e then tl' else adr x) = none ∧ ∃ zs, H2 (if x = e then tl' else adr x) = some (.lst zs) ∧ ImL H2 ((bFirst x).map evD) zs
          rcases List.mem_cons.mp hx with z | z
          · rw [z, if_pos rfl]
            exact ⟨b6, zs', b4, b5⟩
          · rw [if_neg fun y : x = e => n1 (y ▸ z)]
            exact hr x z
  obtain ⟨ps, qs, adr, rfl, pp, hr⟩ := key es acc nd hp
  refine ⟨d, ps, _, rfl, SqL.of hd, by rw [List.length_map] at hal; omega, pp, ?_, fun p hp2 => ?_⟩
  · rw [List.map_map]
    exact List.pairwise_map.mpr (nd.imp fun {a b} hab z => hab (kE_inj _ _ z))
  · have s3 : Same H2 (upd H2 p (.dT ((es.map fun x => (kE x, qs x, V.ref (adr x))).map fun kv => (kv.1, kv.2.2)))) := same_new hp2
    refine q _ _ (e2.trans s3) ⟨p, adr, rfl, (e1.trans e2).free hp2, ?_, fun e he => ?_⟩
    · rw [upd_same, List.map_map]
      rfl
    · obtain ⟨a, zs, b, r⟩ := hr e he
      exact ⟨a, zs, s3 _ _ b, r.sm s3⟩
end
section
variable {P : Program} {w : World} {K : PySem.W.Frag} {mg : Str → Option Value} {base : Heap}
def spLorder : Sp := spS (fun L : Lg => Well L) (fun L => [rI (lgD L)]) (fun L H0 => OrdF L H0)
theorem sc_Lorder : FnScope ["_law_log_so", "_law_left", "_law_found", "_law_before", "_law_event_so", "_law_sent", "_law_come", "_law_here", "_law_own", "_law_some", "_law_far"] ["_law_log_so"] (defScope s_Lorder) := ⟨rfl, rfl, rfl, by decide +kernel, rfl, by decide +kernel, by decide +kernel⟩
abbrev orG (L : Lg) (ll dF dB : Addr) (r : Gam) : Gam := some (rI (lgD L)) :: some (rX (.ref ll)) :: some (rX (.ref dF)) :: some (rX (.ref dB)) :: r
theorem ok_Lorder {f f1 : Addr} {fd fd1 : FuncData} (X : TF K mg "_law_order" s_Lorder ["_law_log_so"] f fd) (T : TB mg) (G__law_events : GF P w K mg base 1 "_law_events" f1 fd1 ["_law_log_so"] spLevents) : FnOk P w K mg base CX0 2 f fd ["_law_log_so"] spLorder := by
  have nd := sc_Lorder.nd
  refine fn_spS (m := true) X.F sc_Lorder (fun _ => rfl) (fun i => mlI ml0) fun cdv A outer s H0 E hr => ?_
  have hu := hu_of hr
  refine ⟨_, (pss_cons (ps_asg (pe_tup (pa_cons (pe_call G__law_events.F (hr.mono (by first | decide | omega)) rfl G__law_events.g G__law_events.kp G__law_events.b .nil pass0 (pa_cons (pv 0) pa_nil)) (pa_cons pe_dnewT pa_nil))) (pg_tup (by rfl) (pgs_cons (pg_name (i := 1) nd rfl (by first | exact Or.inl rfl | exact Or.inr rfl)) (pgs_cons (pg_name (i := 2) nd rfl (by first | exact Or.inl rfl | exact Or.inr rfl)) pgs_nil))))
      (pss_cons (ps_set (i := 3) nd rfl (by first | exact Or.inl rfl | exact Or.inr rfl) (pe_callTy (call_dictPT rfl hr.units) rfl T.n_dict (by decide +kernel) (pa_cons (pe_lc (own := [("_law_event_so", 4)]) (te := (tTup (tCons _ (tCons (tOp _ (tLst (tCons (tTup (tCons (tOp (rIxT K) _ _) (tCons (tOp _ (tOp (rIxT K) _ _) _) tNil))) tNil)) (tCB _ (tCons (tOp _ (tOp (rIxT K) _ _) _) tNil))) tNil)))) rfl nd (pi_list (pv 1)) (blkOk_by (by kernel_rfl)) (fun _ _ _ _ _ => (pg_name (i := 4) nd rfl (by first | exact Or.inl rfl | exact Or.inr rfl))) (fun _ _ _ _ _ => pts_nil) (fun _ _ _ _ _ => (pe_tup (pa_cons (pv 4) (pa_cons (pe_op op_rep (pe_lst (pa_cons (pe_tup (pa_cons (pe_ix ix_tup (pv 4) pe_int (fun _ _ => rfl)) (pa_cons (pe_op op_sub (pe_ix ix_tup (pv 4) pe_int (fun _ _ => rfl)) pe_int) pa_nil))) pa_nil)) (pe_callTy call_int1 rfl T.n_int (by decide +kernel) (pa_cons (pe_cmpR op_gt (pe_ix ix_tup (pv 4) pe_int (fun _ _ => rfl)) pe_int (nomark _)) pa_nil))) pa_nil))))) pa_nil)))
      (pss_cons (ps_for PassesOwn.never rfl (pi_tup (pe_ix ix_tup (pv 0) pe_int (fun _ _ => rfl))) (pg_tup (by rfl) (pgs_cons (pg_name (i := 5) nd rfl (by first | exact Or.inl rfl | exact Or.inr rfl)) (pgs_cons (pg_name (i := 6) nd rfl (by first | exact Or.inl rfl | exact Or.inr rfl)) pgs_nil))) (pss_one (ps_dput hu (pv 3) (pv 6) (pe_op op_cat (pe_dget hu (pv 3) (pv 6) (fun _ _ => rfl)) (pe_lst (pa_cons (pv 5) pa_nil))) rfl)))
      (pss_cons (ps_while PassesOwn.never (pt_cmpR (op_neD hr.units) (pv 1) (pe_lst pa_nil) (nomark _)) (pss_cons (ps_set (i := 7) nd rfl (by first | exact Or.inl rfl | exact Or.inr rfl) (pe_ix ix_list (pe_lc (own := [("_law_event_so", 4)]) (tt := (tB (tCB (rAll K) (tCons (tLc (iList K _) _ _ _ _) tNil)))) rfl nd (pi_list (pv 1)) (blkOk_by (by kernel_rfl)) (fun _ _ _ _ _ => (pg_name (i := 4) nd rfl (by first | exact Or.inl rfl | exact Or.inr rfl))) (fun _ _ _ _ _ => (pts_one (pt_val (pe_callB (cr_all rfl) rfl T.n_all (by decide +kernel) (pa_cons (pe_lc (own := [("_law_own", 8)]) rfl nd (pi_list (pe_dget hu (pv 3) (pv 4) (fun _ _ => rfl))) (blkOk_by (by kernel_rfl)) (fun _ _ _ _ _ => (pg_name (i := 8) nd rfl (by first | exact Or.inl rfl | exact Or.inr rfl))) (fun _ _ _ _ _ => pts_nil) (fun _ _ _ _ _ => (pe_cmp (pc_din hu (pv 8) (pv 2)) rfl))) pa_nil))))) (fun _ _ _ _ _ => (pv 4))) pe_int (fun _ _ => rfl)))
      (pss_cons (ps_set (i := 9) nd rfl (by first | exact Or.inl rfl | exact Or.inr rfl) (pe_lst pa_nil))
      (pss_cons (ps_for PassesOwn.never rfl (pi_list (pe_dget hu (pv 3) (pv 7) (fun _ _ => rfl))) (pg_name (i := 8) nd rfl (by first | exact Or.inl rfl | exact Or.inr rfl)) (pss_one (ps_set (i := 9) nd rfl (by first | exact Or.inl rfl | exact Or.inr rfl) (pe_op op_cat (pv 9) (pe_lc (own := [("_law_far", 10)]) (tt := (tTest (tOp (rNotInD K) _ _))) rfl nd (pi_list (pe_op op_cat (pe_dget hu (pv 2) (pv 8) (fun _ _ => rfl)) (pe_lst (pa_cons (pv 8) pa_nil)))) (blkOk_by (by kernel_rfl)) (fun _ _ _ _ _ => (pg_name (i := 10) nd rfl (by first | exact Or.inl rfl | exact Or.inr rfl))) (fun _ _ _ _ _ => (pts_one (pt_cmpR (op_notInD hr.u65) (pv 10) (pv 9) (by rfl)))) (fun _ _ _ _ _ => (pv 10)))))))
      (pss_cons (ps_dput hu (pv 2) (pv 7) (pv 9) rfl)
      (pss_one (ps_setLc (i := 1) (own := [("_law_event_so", 4)]) (tt := (tTest (tOp (rNeD K) _ _))) rfl nd rfl rfl (sw_true rfl rfl rfl (by decide +kernel)) (pi_list (pv 1)) (blkOk_by (by kernel_rfl)) (fun _ _ _ _ _ => (pg_name (i := 4) nd rfl (by first | exact Or.inl rfl | exact Or.inr rfl))) (fun _ _ _ _ _ => (pts_one (pt_cmpR (op_neD hr.units) (pv 4) (pv 7) (nomark _)))) (fun _ _ _ _ _ => (pv 4)))))))))
      (pss_one (ps_ret (pv 2))))))), ?_⟩
  rintro L W σ H S Q k
  replace S : Sat true [some (rI (lgD L)), none, none, none, none, none, none, none, none, none, none] σ H := S
  have hmany := W.many
  refine q_two (R := rLF H ((evs L).map evD)) (T := fun He H' v => ∃ d, v = .ref d ∧ He d = none ∧ H' d = some (.dT [])) S (e_callT L W (aI (ev (i := 0) S rfl) aa_nil) fun H0' H' v e0 r => rLF.old r e0) (fun He _ => e_newT) (fun He => newT_mn) fun vl u σ1 He H1 e1 hL e2 hF S1 => ?_
  obtain ⟨ll, zl, rfl, hln, hl1, rl1⟩ := hL
  obtain ⟨dF, rfl, hFn, hF1⟩ := hF
  replace S1 : Sat true [some (rI (lgD L)), some (rX (.ref ll)), some (rX (.ref dF)), none, none, none, none, none, none, none, none] σ1 H1 := S1
  have hl2 := e2 _ _ hl1
  have rl2 := rl1.sm e2
  refine q_set (e_dictPT (K := K) (es := evs L) (evs_nodup W) (by omega) (e_pairs S1 hl2 rl2 (ev (i := 1) S1 rfl) (by omega) fun e he σ2 H3 S3 => ?_)) fun v H2a e3 hB => ?_
  · replace S3 : Sat true [some (rI (lgD L)), some (rX (.ref ll)), some (rX (.ref dF)), none, some (rI (evD e)), none, none, none, none, none, none] σ2 H3 := S3
    have h0 := evs_pos W he
    refine e_pairR (ev (R := rI (evD e)) (i := 4) S3 rfl) (e_rep (ds := [evD (e.1, e.2 - 1)]) (i := if 0 < e.2 then 1 else 0) (e_lst (a_cons (e_tup (ds := [.str e.1.1, .int (e.2 - 1)]) (a_cons (e_ixT (d := .str e.1.1) (ev (R := rI (evD e)) (i := 4) S3 rfl) e_int rfl) (a_cons (e_sub (e_ixT (d := .int e.2) (ev (R := rI (evD e)) (i := 4) S3 rfl) e_int rfl) e_int) a_nil)) (by show 2 ≤ 100000; decide)) a_nil) (by show 1 ≤ 100000; decide)) ((e_intB (e_gtI (e_ixT (d := .int e.2) (ev (R := rI (evD e)) (i := 4) S3 rfl) e_int rfl) e_int)).isI (by by_cases c : 0 < e.2 <;> simp [c])) (by split <;> decide) (by show 1 ≤ 1000; decide)) mnI fun x y H6 p e6 hx hy hp => ?_
    obtain ⟨tl', zs', rfl, y1, y2, y3⟩ := hy
    obtain ⟨q', rfl, hq⟩ := ev_at hx
    have s7 : Same H6 (upd H6 p (.tup [.ref q', .ref tl'])) := same_new hp
    refine ⟨p, q', tl', zs', rfl, upd_same, s7 _ _ hq, s7 _ _ y2, ?_, y1, by simp⟩
    have eb : (List.replicate (if 0 < e.2 then 1 else 0 : Int).toNat [evD (e.1, e.2 - 1)]).flatten = (bFirst e).map evD := by
      unfold bFirst
      by_cases c : 0 < e.2 <;> simp [c]
    rw [← eb]
    exact y3.sm s7
  obtain ⟨dB, bdr, rfl, hBn, hB1, hB2⟩ := hB
  have hF2 := e3 _ _ hF1
  have nFB : dF ≠ dB := ne_of_none hF1 hBn
  have hFH : H dF = none := e1.free hFn
  have hBH : H dB = none := (e1.trans e2).free hBn
  have D2 : DD dF dB H2a := ⟨⟨_, hF2⟩, _, hB1⟩
  have sH2 : Same H (H2 dF dB H2a) := fun a o h => by
    show Hid H2a (pD dF dB) a = _
    rw [hid_on fun z => by rcases z with z | z <;> rw [z] at h <;> simp_all]
    exact (e1.trans (e2.trans e3)) _ _ h
  have off : ∀ {a : Addr} {o : HO}, H1 a = some o → a ≠ dF → ¬ pD dF dB a := fun {a o} h n z => by
    rcases z with z | z
    · exact n z
    · rw [z, hBn] at h; cases h
  have S2 : Sat true (orG L ll dF dB [none, none, none, none, none, none, none]) _ H2a := (S1.sm e3).set 3 (mnX (v := .ref dB)) rfl
  have LL2 : LS dF dB H2a ll ((evs L).map evD) := by
    refine ⟨zl, ?_, (rl2.sm e3).up D2.tp⟩
    show Hid H2a (pD dF dB) ll = _
    rw [hid_on (off hl2 (ne_of_none hl1 hFn))]
    exact e3 _ _ hl2
  have ODB : OD dF dB H H2a dB (evs L) (bPre []) := ⟨bdr, hB1, fun e he => by
    obtain ⟨a, zs, b, r⟩ := hB2 e he
    refine ⟨(e1.trans e2).free a, zs, ?_, ?_⟩
    · show Hid H2a (pD dF dB) (bdr e) = _
      rw [hid_on fun z => ?_]
      · exact b
      · rcases z with z | z
        · rw [z, hF1] at a; cases a
        · rw [z, hB1] at b; cases b
    · have : bPre [] e = bFirst e := by unfold bPre; simp
      rw [this]
      exact r.up D2.tp⟩
  -- the letters
  refine q_for (m := true) (enc := mgD) (xs := L.2) (i_tup (e_ixT (d := .tuple (L.2.map mgD)) (ev (R := rI (lgD L)) (i := 0) S2 rfl) e_int rfl)) fun H3 e4 => ⟨fun pre σ' H' => Sat true (orG L ll dF dB [none, none, none, none, none, none, none]) σ' H' ∧ Tp H3 H' ∧ DD dF dB H' ∧ Same H (H2 dF dB H') ∧ LS dF dB H' ll ((evs L).map evD) ∧ H' dF = some (.dT []) ∧ OD dF dB H H' dB (evs L) (bPre pre),
      ⟨S2.sm e4, Tp.refl _, D2.sm e4, sH2.trans (hid_mono e4), LL2.sm (hid_mono e4), e4 _ _ hF2, ODB.same e4⟩, fun pre σ' H' h => h.2.1, fun pre m post σ' H' H'' v esp hI sm hv => ?_, fun σ' H' hI => ?_⟩
  · obtain ⟨S', tp', D', sH', LL', hF', OB'⟩ := hI
    have hm : m ∈ L.2 := by rw [esp]; simp
    obtain ⟨m1, m2⟩ := W.lets m hm
    obtain ⟨σ3, a3, S3, _⟩ := (tg_tup (K := K) (n := 2) (tg_cons (tg_i (i := 5)) (tg_cons (tg_i (i := 6)) tg_nil)) rfl : Tg _ (rI (mgD m)) _ _) true _ v σ' H'' (S'.sm sm) hv
    refine a3 _ ?_
    replace S3 : Sat true (orG L ll dF dB [none, some (rI (evD m.1)), some (rI (evD m.2)), none, none, none, none]) σ3 H'' := S3
    have D'' := D'.sm sm
    obtain ⟨adr, o1, o2⟩ := OB'.same sm
    have hlen : (bPre pre m.2).length ≤ 200 := by
      unfold bPre bFirst
      rw [List.length_append, List.length_map]
      have h1 : (pre.filter fun x => decide (x.2 = m.2)).length ≤ pre.length := List.length_filter_le _ _
      have h2 := congrArg List.length esp
      rw [List.length_append] at h2
      have h3 := W.few.2
      split <;> simp <;> omega
    refine s_dputO (adr := adr) (e := m.2) (R := rLF H'' ((bPre pre m.2).map evD ++ [evD m.1])) (e_catF ((o2 m.2 m2).2.at (e_dgetO (ev (i := 3) S3 rfl) (ev (i := 6) S3 rfl) o1 m2)) (e_lst (a_cons (ev (i := 5) S3 rfl) a_nil) (by show 1 ≤ 100000; decide)) (by rw [List.length_map, List.length_singleton]; omega)) (ev (i := 3) S3 rfl) (ev (i := 6) S3 rfl) o1 (by omega) mnMo fun v4 H4 e5 hv4 => ?_
    have D4 := D''.sm e5
    obtain ⟨l4, rfl, hl4n, LS4⟩ := LS.lf D'' D4 hv4
    refine ⟨l4, rfl, ?_⟩
    rw [if_pos m2]
    have hpB : pD dF dB dB := .inr rfl
    generalize hnew : HO.dT ((evs L).map fun x => (kE x, V.ref (if x = m.2 then l4 else adr x))) = ob
    have ehid : H2 dF dB (upd H4 dB ob) = H2 dF dB H4 := hid_upd hpB
    have ss : Same (H2 dF dB H'') (H2 dF dB (upd H4 dB ob)) := by rw [ehid]; exact hid_mono e5
    have t5 : Tp H4 (upd H4 dB ob) := by
      obtain ⟨k5, h5⟩ := D4.b
      exact tp_dT h5
    refine ⟨((S3.sm e5).up (m := true) t5).fgt 5 |>.fgt 6, tp'.trans (sm.tp.trans (e5.tp.trans t5)), by rw [← hnew]; exact D4.put hpB, sH'.trans ((hid_mono sm).trans ss), LL'.sm ((hid_mono sm).trans ss), by rw [upd_ne nFB]; exact (sm.trans e5) _ _ hF', ⟨fun x => if x = m.2 then l4 else adr x, by rw [upd_same, ← hnew], fun x hx => ?_⟩⟩
    rw [bPre_snoc]
    by_cases c : x = m.2
    · show H (if x = m.2 then l4 else adr x) = none ∧ LS dF dB (upd H4 dB ob) (if x = m.2 then l4 else adr x) ((if x = m.2 then bPre pre m.2 ++ [m.1] else bPre pre x).map evD)
      rw [if_pos c, if_pos c]
      refine ⟨?_, ?_⟩
      · cases q : H l4 with
        | none => rfl
        | some o =>
          have := hid_same _ _ _ _ ((sH'.trans (hid_mono sm)) _ _ q)
          rw [hl4n] at this
          cases this
      · rw [List.map_append]
        exact LS4.sm (by rw [ehid]; exact Same.refl _)
    · show H (if x = m.2 then l4 else adr x) = none ∧ LS dF dB (upd H4 dB ob) (if x = m.2 then l4 else adr x) ((if x = m.2 then bPre pre m.2 ++ [m.1] else bPre pre x).map evD)
      rw [if_neg c, if_neg c]
      exact ⟨(o2 x hx).1, (o2 x hx).2.sm ss⟩
  · obtain ⟨S', tp', D', sH', LL', hF', OB'⟩ := hI
    refine q_while (fun n σ4 H4 => ∃ ls fs os ll, Sat true (orG L ll dF dB [none, none, none, none, none, none, none]) σ4 H4 ∧ DD dF dB H4 ∧ Same H (H2 dF dB H4) ∧ LS dF dB H4 ll (ls.map evD) ∧ OD dF dB H H4 dF fs os ∧ OD dF dB H H4 dB (evs L) (bPre L.2) ∧ FI L fs ls os ∧ n = ls.length)
      ⟨evs L, [], fun _ => [], ll, S', D', sH', LL', ⟨fun _ => 0, by rw [hF']; rfl, fun e h => (by cases h)⟩, OB', ⟨fun x h => .inr h, fun x h => h, evs_nodup W, fun x h => List.not_mem_nil, fun x h => (by cases h), List.nodup_nil, fun e h => (by cases h)⟩, rfl⟩ ?_
    rintro n σ4 H4 ⟨ls, fs, os, ll, S4, D4, sH4, LL4, OF4, OB4, I, rfl⟩
    refine ⟨_, b_test (e_neNil (LL4.at (ev (i := 1) S4 rfl)) (e_lst (ds := []) a_nil (by decide))), fun H5 e5 => ⟨fun hb => ?_, fun hb => ?_⟩⟩
    · have hne : ls ≠ [] := fun z => by rw [z] at hb; cases hb
      have S5 := S4.sm e5
      have D5 := D4.sm e5
      have sH5 := sH4.trans (hid_mono e5)
      have LL5 := LL4.sm (hid_mono e5)
      have hlsl : ls.length ≤ 100 := Nat.le_trans (nodup_sub_len I.lnd I.lsub) hmany
      have hfsl : fs.length ≤ 100 := Nat.le_trans (nodup_sub_len I.fnd I.fsub) hmany
      obtain ⟨fdr, p1, p2⟩ := OF4.same e5
      obtain ⟨bdr2, r1, r2⟩ := OB4.same e5
      -- the choice
      have hcand : (ls.filter fun x => (bPre L.2 x).all fun o => decide (o ∈ fs)) ≠ [] := by
        obtain ⟨e, r, hfo, hel⟩ := firstOf_some W hne I.lsub fun a x h => nxt_evs W h
        have hmin : e ∈ firstOf L ls := by rw [hfo]; exact List.mem_cons_self
        have hno := (List.mem_filter.mp hmin).2
        refine List.ne_nil_of_mem (List.mem_filter.mpr ⟨hel, List.all_eq_true.mpr fun o ho => ?_⟩)
        obtain ⟨o1, o2⟩ := (bs_iff W (I.lsub e hel)).mp ho
        rcases I.cov o o1 with z | z
        · exact decide_eq_true z
        · have : (ls.any fun y => ahead L y e) = true := List.any_eq_true.mpr ⟨o, z, ahead_iff.mpr (.one o1 o2)⟩
          rw [this] at hno
          cases hno
      obtain ⟨e, r, hcr⟩ : ∃ e r, (ls.filter fun x => (bPre L.2 x).all fun o => decide (o ∈ fs)) = e :: r := by
        cases q : (ls.filter fun x => (bPre L.2 x).all fun o => decide (o ∈ fs)) with
        | nil => exact absurd q hcand
        | cons e r => exact ⟨e, r, rfl⟩
      have hec : e ∈ ls ∧ (bPre L.2 e).all (fun o => decide (o ∈ fs)) = true := List.mem_filter.mp (by rw [hcr]; exact List.mem_cons_self)
      have hee := I.lsub e hec.1
      have hpre : ∀ o ∈ bPre L.2 e, o ∈ fs := fun o ho => of_decide_eq_true (List.all_eq_true.mp hec.2 o ho)
      have bl : ∀ x, (bPre L.2 x).length ≤ 200 := fun x => by
        unfold bPre bFirst
        rw [List.length_append, List.length_map]
        have h1 : (L.2.filter fun y => decide (y.2 = x)).length ≤ L.2.length := List.length_filter_le _ _
        have h3 := W.few.2
        split <;> simp <;> omega
      refine g_setI (d := evD e) S5 (e_ixL (ds := (ls.filter fun x => (bPre L.2 x).all fun o => decide (o ∈ fs)).map evD) (EvR.l (e_lc (enc := evD) (xs := ls) (F := fun x Γ => Γ.set 4 (some (rI (evD x)))) (fun x => (bPre L.2 x).all fun o => decide (o ∈ fs)) evD S5 (i_list (LL5.at (ev (i := 1) S5 rfl))) (by omega) (fun _ _ => tg_i) (by decide) fun x hx σ6 H6 e6 S6 => ⟨b_B ?_, fun _ => ev (i := 4) S6 rfl⟩)) e_int (by rw [hcr]; exact atI_zero)) fun σ7 H7 e7 S7 => ?_
      · have hxe := I.lsub x hx
        refine EvR.isI (e_all (bs := (bPre L.2 x).map fun o => decide (o ∈ fs)) ((EvR.l (e_lc (enc := evD) (xs := bPre L.2 x) (F := fun y Γ => Γ.set 8 (some (rI (evD y)))) (fun _ => true) (fun o => .bool (decide (o ∈ fs))) S6 (i_list (((r2 x hxe).2.sm (hid_mono e6)).at (e_dgetO (ev (i := 3) S6 rfl) (ev (i := 4) S6 rfl) (e6 _ _ r1) hxe))) (by have := bl x; omega) (fun _ _ => tg_i) (by decide) fun y hy σ8 H8 e8 S8 =>
          ⟨b_yes, fun _ => e_dinO (ev (i := 8) S8 rfl) (ev (i := 2) S8 rfl) ((e6.trans e8) _ _ p1)⟩)).isL (by rw [fT, List.map_map]; rfl))) ?_
        simp [List.all_map]
      · replace S7 : Sat true (orG L ll dF dB [none, none, none, some (rI (evD e)), none, none, none]) σ7 H7 := S7
        have D7 := D5.sm e7
        refine q_set (R := rLF H7 []) (e_lstF (ds := []) a_nil (by decide)) fun v8 H8 e8 hv8 => ?_
        have D8 := D7.sm e8
        obtain ⟨l8, rfl, l8n, LS8⟩ := LS.lf D7 D8 hv8
        have S8 : Sat true (orG L ll dF dB [none, none, none, some (rI (evD e)), none, some (rX (.ref l8)), none]) _ H8 := (S7.sm e8).set 9 (mnX (v := .ref l8)) rfl
        have s58 := e7.trans e8
        refine q_for (m := false) (enc := evD) (xs := bPre L.2 e) (i_list (((r2 e hee).2.sm (hid_mono s58)).at (e_dgetO (ev (i := 3) S8 rfl) (ev (i := 7) S8 rfl) (s58 _ _ r1) hee))) fun H9 e9 => ⟨fun pre σ' H' => ∃ lS sl, Sat true (orG L ll dF dB [none, none, none, some (rI (evD e)), none, some (rX (.ref lS)), none]) σ' H' ∧ Same H9 H' ∧ LS dF dB H' lS (sl.map evD) ∧ sl.Nodup ∧ H lS = none ∧ ∀ o, o ∈ sl ↔ ∃ p ∈ pre, o = p ∨ Ahead L o p,
            ⟨l8, [], S8.sm e9, Same.refl _, LS8.sm (hid_mono e9), List.nodup_nil, ?_, fun o => ⟨fun h => (by cases h), fun ⟨p, hp, _⟩ => (by cases hp)⟩⟩, fun pre σ' H' h => (by obtain ⟨_, _, _, t, _⟩ := h; exact t), fun pre y post σ' H' H'' v esp hI sm hv => ?_, fun σ' H' hI => ?_⟩
        · cases q : H l8 with
          | none => rfl
          | some o =>
            have := hid_same _ _ _ _ ((sH5.trans (hid_mono e7)) _ _ q)
            rw [l8n] at this
            cases this
        · obtain ⟨lS, sl, S9, t9, LS9, snd, hSn, hsl⟩ := hI
          have hy : y ∈ fs := hpre y (by rw [esp]; simp)
          have hye := I.fsub y hy
          obtain ⟨ynd, yos⟩ := I.rt y hy
          have S10 : Sat true (orG L ll dF dB [none, none, none, some (rI (evD e)), some (rI (evD y)), some (rX (.ref lS)), none]) _ H'' := (S9.sm sm).set 8 mnI hv
          have s510 := s58.trans (e9.trans (t9.trans sm))
          have LS10 := LS9.sm (hid_mono sm)
          have sle : ∀ o ∈ sl, o ∈ evs L := fun o ho => by
            obtain ⟨p, hp, z⟩ := (hsl o).mp ho
            rcases z with z | z
            · rw [z]; exact I.fsub p (hpre p (by rw [esp]; simp [hp]))
            · exact ahead_in z
          have ose : ∀ o ∈ os y, o ∈ evs L := fun o ho => ahead_in ((yos o).mp ho)
          have hsll : sl.length ≤ 100 := Nat.le_trans (nodup_sub_len snd sle) hmany
          have hosl : (os y).length ≤ 100 := Nat.le_trans (nodup_sub_len ynd ose) hmany
          have hfl : ((os y ++ [y]).filter fun x => !decide (x ∈ sl)).length ≤ 101 := by
            have : ((os y ++ [y]).filter fun x => !decide (x ∈ sl)).length ≤ (os y ++ [y]).length := List.length_filter_le _ _
            rw [List.length_append, List.length_singleton] at this
            omega
          refine s_set (R := rLF H'' (sl.map evD ++ ((os y ++ [y]).filter fun x => !decide (x ∈ sl)).map evD)) (e_catF (LS10.at (ev (i := 9) S10 rfl)) (EvR.l (e_lc (enc := evD) (xs := os y ++ [y]) (F := fun x Γ => Γ.set 10 (some (rI (evD x)))) (fun x => !decide (x ∈ sl)) evD S10 (i_list ((e_cat (((p2 y hy).2.sm (hid_mono s510)).at (e_dgetO (ev (i := 2) S10 rfl) (ev (i := 8) S10 rfl) (s510 _ _ p1) hy)) (e_lst (ds := [evD y]) (a_cons (ev (i := 8) S10 rfl) a_nil) (by show 1 ≤ 100000; decide)) (by rw [List.length_map, List.length_singleton]; omega)).isL (by rw [List.map_append]; rfl))) (by rw [List.length_append, List.length_singleton]; omega) (fun _ _ => tg_i) (by decide) fun x hx σ11 H11 e11 S11 => ⟨b_test (e_ninE (ev (i := 10) S11 rfl) ((LS10.sm (hid_mono e11)).at (ev (i := 9) S11 rfl))), fun _ => ev (i := 10) S11 rfl⟩)) (by rw [List.length_map, List.length_map]; omega)) fun v12 H12 e12 hv12 => ?_
          have D10 := D8.sm (e9.trans (t9.trans sm))
          obtain ⟨l12, rfl, l12n, LS12⟩ := LS.lf D10 (D10.sm e12) hv12
          rw [← List.map_append] at LS12
          refine ⟨l12, sl ++ (os y ++ [y]).filter fun x => !decide (x ∈ sl), ((S10.sm e12).set 9 (mnX (v := .ref l12)) rfl).fgt 8, t9.trans (sm.trans e12), LS12, ?_, ?_, fun o => ?_⟩
          · refine List.nodup_append.mpr ⟨snd, List.Nodup.sublist List.filter_sublist (List.nodup_append.mpr ⟨ynd, List.nodup_cons.mpr ⟨List.not_mem_nil, List.nodup_nil⟩, fun a ha b hb z => ?_⟩), fun a ha b hb z => ?_⟩
            · rw [List.mem_singleton.mp hb] at z
              rw [z] at ha
              have := irrL W y
              rw [ahead_iff.mpr ((yos y).mp ha)] at this
              cases this
            · have := (List.mem_filter.mp hb).2
              rw [← z] at this
              simp [ha] at this
          · cases q : H l12 with
            | none => rfl
            | some o =>
              have := hid_same _ _ _ _ ((sH5.trans (hid_mono s510)) _ _ q)
              rw [l12n] at this
              cases this
          · rw [List.mem_append, hsl o, List.mem_filter, List.mem_append, List.mem_singleton, yos o]
            constructor
            · rintro (⟨p, hp, z⟩ | ⟨z, _⟩)
              · exact ⟨p, List.mem_append_left _ hp, z⟩
              · exact ⟨y, by simp, z.symm⟩
            · rintro ⟨p, hp, z⟩
              by_cases c : o ∈ sl
              · exact .inl ((hsl o).mp c)
              · right
                rcases List.mem_append.mp hp with g | g
                · exact absurd ((hsl o).mpr ⟨p, g, z⟩) c
                · rw [List.mem_singleton.mp g] at z
                  exact ⟨z.symm, by simp [c]⟩
        · obtain ⟨lS, sl, S9, t9, LS9, snd, hSn, hsl⟩ := hI
          have s59 := s58.trans (e9.trans t9)
          have D9 := D5.sm s59
          refine q_dputO (adr := fdr) (e := e) (R := rX (.ref lS)) (ev (i := 9) S9 rfl) (ev (i := 2) S9 rfl) (ev (i := 7) S9 rfl) (s59 _ _ p1) (by omega) mnX fun v10 H10 e10 hv10 => ⟨lS, hv10, ?_⟩
          have hnf : e ∉ fs := I.dis e hec.1
          rw [if_neg hnf]
          have D10 := D9.sm e10
          have hpF : pD dF dB dF := .inl rfl
          generalize hnew : HO.dT ((fs ++ [e]).map fun x => (kE x, V.ref (if x = e then lS else fdr x))) = ob
          have ehid : H2 dF dB (upd H10 dF ob) = H2 dF dB H10 := hid_upd hpF
          have ss : Same (H2 dF dB H5) (H2 dF dB (upd H10 dF ob)) := by rw [ehid]; exact hid_mono (s59.trans e10)
          have ssS : Same (H2 dF dB H') (H2 dF dB (upd H10 dF ob)) := by rw [ehid]; exact hid_mono e10
          have t10 : Tp H10 (upd H10 dF ob) := by
            obtain ⟨k5, h5⟩ := D10.f
            exact tp_dT h5
          have D11 : DD dF dB (upd H10 dF ob) := by rw [← hnew]; exact D10.put hpF
          have OF11 : OD dF dB H (upd H10 dF ob) dF (fs ++ [e]) (fun z => if z = e then sl else os z) := ⟨fun x => if x = e then lS else fdr x, by rw [upd_same, ← hnew], fun x hx => by
            show H (if x = e then lS else fdr x) = none ∧ LS dF dB (upd H10 dF ob) (if x = e then lS else fdr x) ((if x = e then sl else os x).map evD)
            by_cases c : x = e
            · rw [if_pos c, if_pos c]
              exact ⟨hSn, LS9.sm ssS⟩
            · rw [if_neg c, if_neg c]
              have hxf : x ∈ fs := by
                rcases List.mem_append.mp hx with z | z
                · exact z
                · exact absurd (List.mem_singleton.mp z) c
              exact ⟨(p2 x hxf).1, (p2 x hxf).2.sm ss⟩⟩
          have OB11 : OD dF dB H (upd H10 dF ob) dB (evs L) (bPre L.2) := ⟨bdr2, by rw [upd_ne nFB.symm]; exact (s59.trans e10) _ _ r1, fun x hx => ⟨(r2 x hx).1, (r2 x hx).2.sm ss⟩⟩
          have LL11 := LL5.sm ss
          have S11 : Sat true (orG L ll dF dB [none, none, none, some (rI (evD e)), none, some (rX (.ref lS)), none]) _ (upd H10 dF ob) := (S9.sm e10).up (m := true) t10
          have sH11 := sH5.trans ss
          generalize upd H10 dF ob = H11 at D11 OF11 OB11 LL11 S11 sH11
          have ee : ls.erase e = ls.filter fun x => !decide (x = e) := by
            rw [I.lnd.erase_eq_filter]
            refine List.filter_congr fun x _ => ?_
            rw [Bool.eq_iff_iff]
            simp
          refine s_set (R := rLF H11 ((ls.erase e).map evD)) ?_ fun v12 H12 e12 hv12 => ?_
          · rw [ee]
            exact e_lc (enc := evD) (xs := ls) (F := fun x Γ => Γ.set 4 (some (rI (evD x)))) (fun x => !decide (x = e)) evD S11 (i_list (LL11.at (ev (i := 1) S11 rfl))) (by omega) (fun _ _ => tg_i) (by decide) fun x hx σ5 H5 e5 S5 => ⟨b_test (e_neE (ev (i := 4) S5 rfl) (ev (i := 7) S5 rfl)), fun _ => ev (i := 4) S5 rfl⟩
          · have D12 := D11.sm e12
            obtain ⟨l12, rfl, _, LS12⟩ := LS.lf D11 D12 hv12
            have hle := List.length_erase_of_mem hec.1
            have hlp := List.length_pos_of_mem hec.1
            refine ⟨(ls.erase e).length, by omega, ls.erase e, fs ++ [e], _, l12, ((((S11.sm e12).set 1 (mnX (v := .ref l12)) rfl).fgt 7).fgt 9 : Sat true _ _ _), D12, sH11.trans (hid_mono e12), LS12, OF11.same e12, OB11.same e12, ⟨fun x hx => ?_, fun x hx => I.lsub x (List.mem_of_mem_erase hx), I.lnd.erase e, fun x hx z => ?_, fun x hx => ?_, ?_, fun x hx => ?_⟩, rfl⟩
            · by_cases c : x = e
              · left; rw [c]; simp
              · rcases I.cov x hx with z | z
                · exact .inl (List.mem_append_left _ z)
                · exact .inr ((List.mem_erase_of_ne c).mpr z)
            · rcases List.mem_append.mp z with y | y
              · exact I.dis x (List.mem_of_mem_erase hx) y
              · rw [List.mem_singleton.mp y] at hx
                exact I.lnd.not_mem_erase hx
            · rcases List.mem_append.mp hx with z | z
              · exact I.fsub x z
              · rw [List.mem_singleton.mp z]; exact hee
            · exact List.nodup_append.mpr ⟨I.fnd, List.nodup_cons.mpr ⟨List.not_mem_nil, List.nodup_nil⟩, fun a ha b hb z => hnf (by rw [← List.mem_singleton.mp hb, ← z]; exact ha)⟩
            · show (if x = e then sl else os x).Nodup ∧ ∀ o, o ∈ (if x = e then sl else os x) ↔ _
              by_cases c : x = e
              · rw [if_pos c, c]
                refine ⟨snd, fun o => ?_⟩
                rw [hsl o, ahead_pred W]
                constructor
                · rintro ⟨p, hp, z⟩
                  exact ⟨p, (bs_iff W hee).mp hp, z⟩
                · rintro ⟨p, hp, z⟩
                  exact ⟨p, (bs_iff W hee).mpr hp, z⟩
              · rw [if_neg c]
                refine I.rt x ?_
                rcases List.mem_append.mp hx with z | z
                · exact z
                · exact absurd (List.mem_singleton.mp z) c
    · have hz : ls = [] := by cases ls with | nil => rfl | cons _ _ => cases hb
      subst hz
      obtain ⟨fdr, p1, p2⟩ := OF4.same e5
      refine s_ret (R := rX (.ref dF)) (ev (i := 2) (S4.sm e5) rfl) fun v H6 e6 hv => k v H6 ((sH4.trans (hid_same _ _)).trans (e5.trans e6)) ?_
      refine ⟨dF, fs, fdr, hv, hFH, e6 _ _ p1, fun e => ⟨I.fsub e, fun h => (I.cov e h).resolve_right List.not_mem_nil⟩, fun e he => ?_⟩
      have hef := (I.cov e he).resolve_right List.not_mem_nil
      obtain ⟨q1, zs, q2, q3⟩ := p2 e hef
      obtain ⟨g1, g2⟩ := I.rt e hef
      exact ⟨q1, zs, os e, e6 _ _ (hid_same _ _ _ _ q2), (q3.sm (hid_same _ _)).sm e6, Nat.le_trans (nodup_sub_len g1 fun o ho => ahead_in ((g2 o).mp ho)) hmany, g2⟩
end
end Fs

/-! Fs6: a drawn moment. -/
namespace Fs
open PySem L2
abbrev s_Lmoment : Stmt := topS 37
theorem td_can (t : T3) : (tdD t).canLay0 = true ∧ (tdD t).depth ≤ 60 := by
  refine ⟨?_, ?_⟩
  · show (PyData.canLay0 (evD t.1) && (PyData.canLay0 (.int t.2.1) && (PyData.canLay0 (.int (t.2.2 : Int)) && true))) = true
    rw [can_ev]
    rfl
  · show 2 ≤ 60
    decide
def f3D (t : Ev × Int × Int) : PyData := .tuple [evD t.1, .int t.2.1, .int t.2.2]
theorem f3_can (t : Ev × Int × Int) : (f3D t).canLay0 = true ∧ (f3D t).depth ≤ 60 := by
  refine ⟨?_, ?_⟩
  · show (PyData.canLay0 (evD t.1) && (PyData.canLay0 (.int t.2.1) && (PyData.canLay0 (.int t.2.2) && true))) = true
    rw [can_ev]
    rfl
  · show 2 ≤ 60
    decide
theorem ev_can (e : Ev) : (evD e).canLay0 = true ∧ (evD e).depth ≤ 60 := ⟨can_ev e, by show 1 ≤ 60; decide⟩
theorem list_can {ds : List PyData} (h : ∀ d ∈ ds, d.canLay0 = true ∧ d.depth ≤ 60) : PyData.canLay0 (.list ds) = true := by
  have h1 : PyData.canLayAll0 ds = true := by
    induction ds with
    | nil => rfl
    | cons d ds ih =>
      show (PyData.canLay0 d && PyData.canLayAll0 ds) = true
      rw [(h d List.mem_cons_self).1, ih fun x hx => h x (List.mem_cons_of_mem _ hx)]
      rfl
  exact h1
section
variable {K : PySem.W.Frag} {σ : St} {H H' : Hp} {ta tb tc te ts : TE} {ds es : List PyData} {d : PyData} {D : Ends} {tz : TS} {E : XK} {n : Nat} {b : Addr} {Q : VK} {Γ : Gam}
theorem e_neSame {α : Type} {enc : α → PyData} {xs ys : List α} (ha : EvR ta σ H (rL (xs.map enc))) (hb : EvR tb σ H (rL (ys.map enc))) (e : xs = ys) (h : ∀ x, (enc x).canLay0 = true ∧ (enc x).depth ≤ 60) : EvR (tOp (rNeD K) ta tb) σ H (rI (.bool false)) := by
  subst e
  have hc : ∀ d ∈ xs.map enc, d.canLay0 = true ∧ d.depth ≤ 60 := fun d hd => by
    obtain ⟨x, _, rfl⟩ := List.mem_map.mp hd
    exact h x
  exact (e_neD ha hb (sh_list hc) (sh_list hc)).isI (by rw [SeqAt.eqv_refl _ (list_can hc)]; rfl)
/-- xs[:a draw] -/
theorem t_slTake {j : Int} {l : Addr} {zs : List V} (hs : EvR ts σ H (rX (.ref l))) (nb : l ≠ b) (hl : H l = some (.lst zs)) (r : ImL H ds zs) (hb : EvR ta σ H (rX (.ref b))) (he : EvR te σ H (rI (.int j))) (hj : 1 ≤ j ∧ j ≤ 1000) (B : BoxAt b n H) (ht : n + 1 ≤ 100000)
    (k : ∀ (r : Int) v H', 0 ≤ r → r < j → Fr b H H' → BoxAt b (n + 1) H' → rL (cutD ds none (some r)) (Hx b H') v → Q v H') : L2.tSl (rSlL K) ts tNoPart (tPart (tCall spTake [] E (tCons ta (tCons te tNil)))) σ H Q := hs.go fun x H1 e1 hx => by
  refine t_take (Q := fun y H3 => ∃ i, y = V.int i ∧ rSlL K x none (some i) H3 Q) (fun H2 e2 => hb H2 (e1.trans e2)) (fun H2 e2 => he H2 (e1.trans e2)) hj (B.sm e1) ht fun i H2 i0 i1 f B2 => ⟨i, rfl, ?_⟩
  have h2 := f.1 _ _ nb (e1 _ _ hl)
  refine ⟨l, zs, hx, SqL.of h2, fun p hp => ?_⟩
  have s3 : Same H2 (upd H2 p (.lst (cutV zs none (some i)))) := same_new hp
  have B3 := B2.sm s3
  refine k i _ _ i0 i1 ((Fr.of e1).trans (f.trans (Fr.of s3))) B3 ⟨p, cutV zs none (some i), rfl, ?_, ?_⟩
  · rw [hx_ne fun z : p = b => B2.on (z ▸ hp)]
    exact upd_same
  · exact ((imL_cut ((r.sm e1).up f.2) none (some i)).sm s3).up (hx_tp B3)
/-- x = a value, the box left out of sight -/
theorem x_setI {i : Nat} (S : Sat false Γ σ (Hx b H)) (B : BoxAt b n H) (h : EvR te σ H (rI d)) (k : ∀ σ' H', Same H H' → Sat false (Γ.set i (some (rI d))) σ' (Hx b H') → BoxAt b n H' → tz D σ' H') : tSeq (tAsg te (gName i)) tz D σ H := q_set h fun v H1 e r => k _ _ e ((S.sm (hx_mono e)).set i mnI (hx_im r (B.sm e))) (B.sm e)
theorem x_setL {i : Nat} (S : Sat false Γ σ (Hx b H)) (B : BoxAt b n H) (h : EvR te σ H (rLF H ds)) (k : ∀ σ' H', Same H H' → Sat false (Γ.set i (some (rL ds))) σ' (Hx b H') → BoxAt b n H' → tz D σ' H') : tSeq (tAsg te (gName i)) tz D σ H := q_set h fun v H1 e r => k _ _ e ((S.sm (hx_mono e)).set i mnMo (rLF.l (hx_lf B r (B.sm e)))) (B.sm e)
end
section
variable {P : Program} {w : World} {K : PySem.W.Frag} {mg : Str → Option Value} {base : Heap}
def spLmoment : Sp := spB (fun L : Lg => GoodL L) (fun L => [rI (lgD L), OrdD L, rL ((stairsM L).map tdD), rL ((costsM L).map csD)]) 1 (fun _ _ _ v => v = V.bl true)
theorem sc_Lmoment : FnScope ["_law_box_here", "_law_log_so", "_law_order_so", "_law_told", "_law_costs_so", "_law_some", "_law_come", "_law_stand_so", "_law_own", "_law_machine", "_law_elder_so", "_law_size_so", "_law_rows_so"] ["_law_box_here", "_law_log_so", "_law_order_so", "_law_told", "_law_costs_so"] (defScope s_Lmoment) := ⟨rfl, rfl, rfl, by decide +kernel, rfl, by decide +kernel, by decide +kernel⟩
theorem ok_Lmoment {f f1 f2 f3 f4 f5 f6 f7 f8 : Addr} {fd fd1 fd2 fd3 fd4 fd5 fd6 fd7 fd8 : FuncData} (X : TF K mg "_law_moment_right" s_Lmoment ["_law_box_here", "_law_log_so", "_law_order_so", "_law_told", "_law_costs_so"] f fd) (T : TB mg)
    (G__law_as_come : GF P w K mg base 2 "_law_as_come" f1 fd1 ["_law_log_so", "_law_order_so"] spLas_come) (G__law_take : GF P w K mg base 1 "_law_take" f2 fd2 ["_law_box_here", "_law_below"] spTake) (G_elder_log : GF P w K mg base 7 "elder_log" f3 fd3 ["log", "stand"] spElder) (G__law_marked : GF P w K mg base 1 "_law_marked" f4 fd4 ["_law_log_so"] spLmarked)
    (G_stairs : GF P w K mg base 10 "stairs" f5 fd5 ["log"] spStairs) (G_stair_costs : GF P w K mg base 38 "stair_costs" f6 fd6 ["log"] spCosts) (G__law_rows : GF P w K mg base 1 "_law_rows" f7 fd7 ["_law_told"] spLrows) (G_fewest_on : GF P w K mg base 37 "fewest_on" f8 fd8 ["log", "stand", "counters"] spFewest) :
    FnOk P w K mg base CX0 39 f fd ["_law_box_here", "_law_log_so", "_law_order_so", "_law_told", "_law_costs_so"] spLmoment := by
  have nd := sc_Lmoment.nd
  refine fn_spB X.F sc_Lmoment (fun _ => rfl) (fun i => mlI (ml ordD_mn (ml mnMo (ml mnMo ml0)))) fun cdv A outer s H0 E hr => ?_
  have hu := hu_of hr
  refine ⟨_, (pss_cons (ps_set (i := 5) nd rfl (by first | exact Or.inl rfl | exact Or.inr rfl) (pe_call G__law_as_come.F (hr.mono (by first | decide | omega)) rfl G__law_as_come.g G__law_as_come.kp G__law_as_come.b .nil pass0 (pa_cons (pv 1) (pa_cons (pv 2) pa_nil))))
      (pss_cons (ps_set (i := 6) nd rfl (by first | exact Or.inl rfl | exact Or.inr rfl) (pe_slice sl_list (pv 5) po_none (po_some (pe_call G__law_take.F (hr.mono (by first | decide | omega)) rfl G__law_take.g G__law_take.kp G__law_take.b .nil pass0 (pa_cons (pv 0) (pa_cons (pe_op op_add (pe_callB call_len_seq rfl T.n_len PySem.boot_len (pa_cons (pv 5) pa_nil)) pe_int) pa_nil))))))
      (pss_cons (ps_set (i := 7) nd rfl (by first | exact Or.inl rfl | exact Or.inr rfl) (pe_callTy call_tuple_of rfl T.n_tuple (by decide +kernel) (pa_cons (pe_lc (own := [("_law_machine", 9)]) (te := (tCB (rLenS K) (tCons (tLc (iList K _) _ (tTest (tOp _ (tOp (rIxT K) _ _) (tOp (rIxT K) _ _))) _ _) tNil))) rfl nd (pi_tup (pe_ix ix_tup (pv 1) pe_int (fun _ _ => rfl))) (blkOk_by (by kernel_rfl)) (fun _ _ _ _ _ => (pg_name (i := 9) nd rfl (by first | exact Or.inl rfl | exact Or.inr rfl))) (fun _ _ _ _ _ => pts_nil) (fun _ _ _ _ _ => (pe_callB call_len_seq rfl T.n_len PySem.boot_len (pa_cons (pe_lc (own := [("_law_own", 8)]) (tt := (tTest (tOp _ (tOp (rIxT K) _ _) (tOp (rIxT K) _ _)))) rfl nd (pi_list (pv 6)) (blkOk_by (by kernel_rfl)) (fun _ _ _ _ _ => (pg_name (i := 8) nd rfl (by first | exact Or.inl rfl | exact Or.inr rfl))) (fun _ _ _ _ _ => (pts_one (pt_cmpR op_eq (pe_ix ix_tup (pv 8) pe_int (fun _ _ => rfl)) (pe_ix ix_tup (pv 9) pe_int (fun _ _ => rfl)) (nomark _)))) (fun _ _ _ _ _ => (pv 8))) pa_nil)))) pa_nil)))
      (pss_cons (ps_set (i := 10) nd rfl (by first | exact Or.inl rfl | exact Or.inr rfl) (pe_call G_elder_log.F (hr.mono (by first | decide | omega)) rfl G_elder_log.g G_elder_log.kp G_elder_log.b .nil pass0 (pa_cons (pv 1) (pa_cons (pv 7) pa_nil))))
      (pss_cons (ps_set (i := 11) nd rfl (by first | exact Or.inl rfl | exact Or.inr rfl) (pe_callB call_len_seq rfl T.n_len PySem.boot_len (pa_cons (pe_lc (own := [("_law_own", 8)]) (tt := (tTest (tOp (rInD K) _ _))) rfl nd (pi_list (pv 6)) (blkOk_by (by kernel_rfl)) (fun _ _ _ _ _ => (pg_name (i := 8) nd rfl (by first | exact Or.inl rfl | exact Or.inr rfl))) (fun _ _ _ _ _ => (pts_one (pt_cmpR (op_inD hr.u65) (pv 8) (pe_call G__law_marked.F (hr.mono (by first | decide | omega)) rfl G__law_marked.g G__law_marked.kp G__law_marked.b .nil pass0 (pa_cons (pv 1) pa_nil)) (by rfl)))) (fun _ _ _ _ _ => (pv 8))) pa_nil)))
      (pss_cons (ps_if (pt_cmpR (op_neD hr.units) (pe_call G_stairs.F (hr.mono (by first | decide | omega)) rfl G_stairs.g G_stairs.kp G_stairs.b .nil pass0 (pa_cons (pv 10) pa_nil)) (pe_slice sl_list (pv 3) po_none (po_some (pv 11))) (nomark _)) (pss_one (ps_ret pe_bl)) pss_nil)
      (pss_cons (ps_if (pt_cmpR (op_neD hr.units) (pe_lc (own := [("_law_own", 8)]) (te := (L2.tSl (rSlA K) _ tNoPart (tPart _))) rfl nd (pi_list (pe_call G_stair_costs.F (hr.mono (by first | decide | omega)) rfl G_stair_costs.g G_stair_costs.kp G_stair_costs.b .nil pass0 (pa_cons (pv 10) pa_nil))) (blkOk_by (by kernel_rfl)) (fun _ _ _ _ _ => (pg_name (i := 8) nd rfl (by first | exact Or.inl rfl | exact Or.inr rfl))) (fun _ _ _ _ _ => pts_nil) (fun _ _ _ _ _ => (pe_slice sl_tupA (pv 8) po_none (po_some pe_int)))) (pe_lc (own := [("_law_own", 8)]) (te := (L2.tSl (rSlA K) _ tNoPart (tPart _))) rfl nd (pi_list (pe_slice sl_list (pv 4) po_none (po_some (pv 11)))) (blkOk_by (by kernel_rfl)) (fun _ _ _ _ _ => (pg_name (i := 8) nd rfl (by first | exact Or.inl rfl | exact Or.inr rfl))) (fun _ _ _ _ _ => pts_nil) (fun _ _ _ _ _ => (pe_slice sl_tupA (pv 8) po_none (po_some pe_int)))) (nomark _)) (pss_one (ps_ret pe_bl)) pss_nil)
      (pss_cons (ps_if (pt_cmpR op_eq (pv 11) pe_int (nomark _)) (pss_one (ps_ret pe_bl)) pss_nil)
      (pss_cons (ps_set (i := 12) nd rfl (by first | exact Or.inl rfl | exact Or.inr rfl) (pe_call G__law_rows.F (hr.mono (by first | decide | omega)) rfl G__law_rows.g G__law_rows.kp G__law_rows.b .nil pass0 (pa_cons (pe_slice sl_list (pv 3) po_none (po_some (pv 11))) pa_nil)))
      (pss_one (ps_ret (pe_cmpR op_eq (pe_op op_add (pe_callB call_len_seq rfl T.n_len PySem.boot_len (pa_cons (pv 12) pa_nil)) (pe_call G_fewest_on.F (hr.mono (by first | decide | omega)) rfl G_fewest_on.g G_fewest_on.kp G_fewest_on.b .nil pass0 (pa_cons (pv 1) (pa_cons (pv 7) (pa_cons (pv 12) pa_nil))))) (pe_ix ix_tup (pe_ix ix_list (pv 4) (pe_op op_sub (pv 11) pe_int) (fun _ _ => rfl)) pe_int (fun _ _ => rfl)) (nomark _))))))))))))), ?_⟩
  intro L G b n σ H S B hn Q k
  replace S : Sat false [some (rX (.ref b)), some (rI (lgD L)), some (OrdD L), some (rL ((stairsM L).map tdD)), some (rL ((costsM L).map csD)), none, none, none, none, none, none, none, none] σ (Hx b H) := S
  obtain ⟨F, _⟩ := GoodL.well G
  have W := F.w
  have hcl : (come L).length ≤ 16 := by rw [(come_perm W).length_eq]; exact F.ev
  have hsl : (stairsM L).length ≤ 12 := by
    have : (stairsM L).length = (comeK L).length := by rw [← told_fst, List.length_map]
    rw [this, (comeK_perm W).length_eq]
    exact F.mkd
  have S0 := S.sm hx_sm
  refine x_setL S B (ds := (come L).map evD) (e_callT L W (aI (ev (i := 1) S0 rfl) (aa_cons ordD_mn (ev (i := 2) S0 rfl) aa_nil)) fun _ _ _ e0 r => rLF.old r e0) fun σ1 H1 e1 S1 B1 => ?_
  obtain ⟨v5, ⟨lc, zc, rfl, hc, rc⟩, S1p⟩ := S1.pin 5 rfl
  obtain ⟨ncb, hc1⟩ := hx_some hc
  have S1f := S1p.sm hx_sm
  refine q_setC (t_slTake (ev (i := 5) S1f rfl) ncb hc1 (rc.sm hx_sm) (ev (i := 0) S1f rfl) (e_add ((e_lenL (ds := (come L).map evD) (e_at (ev (i := 5) S1f rfl) hc1 (rc.sm hx_sm))).isI (by rw [List.length_map])) e_int) ⟨by omega, by omega⟩ B1 hn fun r v6 H2 r0 r1 f2 B2 hv6 => ?_)
  have er : cutD ((come L).map evD) none (some r) = ((come L).take r.toNat).map evD := by
    have : r = ((r.toNat : Nat) : Int) := by omega
    rw [this, cutD_take, Int.toNat_natCast, List.map_take]
  rw [er] at hv6
  have S2 : Sat false [some (rX (.ref b)), some (rI (lgD L)), some (OrdD L), some (rL ((stairsM L).map tdD)), some (rL ((costsM L).map csD)), none, some (rL (((come L).take r.toNat).map evD)), none, none, none, none, none, none] (σ1.set 6 (some v6)) (Hx b H2) := ((S1.fgt 5).sm f2.hx).set 6 mnMo hv6
  have hsplit : come L = (come L).take r.toNat ++ (come L).drop r.toNat := (List.take_append_drop _ _).symm
  generalize (come L).take r.toNat = cm at S2 hsplit
  generalize (come L).drop r.toNat = rest at hsplit
  have fr2 := (Fr.of (b := b) e1).trans f2
  have hcml : cm.length ≤ 16 := by
    have := congrArg List.length hsplit
    rw [List.length_append] at this
    omega
  have FE := elder_few F hsplit
  have hmk := mksOf_few F hsplit
  obtain ⟨es1, es2⟩ := elder_stairs F hsplit
  have ec := elder_costs F hsplit
  have erow := moment_rows F hsplit
  have hmc : (mksOf L cm).length ≤ (costsM L).length := by
    have := congrArg List.length (costs_take F hsplit)
    rw [List.length_take, costsF_len2] at this
    omega
  have RN := rowsN_at F hsplit
  have hrf := rows_few L (mksOf L cm)
  -- the stand
  have S2f := S2.sm hx_sm
  refine x_setI S2 B2 (d := standD L (cntN cm)) (EvR.isI (e_tupL (EvR.l (e_lc (enc := mcD) (xs := L.1) (F := fun m Γ => Γ.set 9 (some (rI (mcD m)))) (fun _ => true) (fun m => .int (cntN cm m.1)) S2f (i_tup (e_ixT (d := .tuple (L.1.map mcD)) (ev (R := rI (lgD L)) (i := 1) S2f rfl) e_int rfl)) (by have := F.five; omega) (fun _ _ => tg_i) (by decide) fun m hm σ9 H9 e9 S9 => ⟨b_yes, fun _ =>
      (e_lenL (EvR.l (e_lc (enc := evD) (xs := cm) (F := fun e Γ => Γ.set 8 (some (rI (evD e)))) (fun e => decide (e.1 = m.1)) evD S9 (i_list (ev (i := 6) S9 rfl)) (by omega) (fun _ _ => tg_i) (by decide) fun e he σ10 H10 e10 S10 => ⟨b_test (e_eqN (a := e.1) (b := m.1) (e_ixT (d := nmD e.1) (ev (R := rI (evD e)) (i := 8) S10 rfl) e_int rfl) (e_ixT (d := nmD m.1) (ev (R := rI (mcD m)) (i := 9) S10 rfl) e_int rfl)), fun _ => ev (i := 8) S10 rfl⟩))).isI (by rw [List.length_map]; rfl)⟩))) (by rw [fT]; rfl)) fun σ3 H3 e3 S3 B3 => ?_
  have S3f := S3.sm hx_sm
  refine x_setI S3 B3 (d := lgD (elderL L (cntN cm))) (e_callT (L, cntN cm) W (aI (ev (i := 1) S3f rfl) (aI (ev (i := 7) S3f rfl) aa_nil)) fun _ _ _ _ r => r) fun σ4 H4 e4 S4 B4 => ?_
  have S4f := S4.sm hx_sm
  refine x_setI S4 B4 (d := .int ((mksOf L cm).length : Nat)) (EvR.isI (e_lenL (EvR.l (e_lc (enc := evD) (xs := cm) (F := fun e Γ => Γ.set 8 (some (rI (evD e)))) (fun e => decide (e ∈ mks L)) evD S4f (i_list (ev (i := 6) S4f rfl)) (by omega) (fun _ _ => tg_i) (by decide) fun e he σ9 H9 e9 S9 => ⟨b_test (e_inE (ev (i := 8) S9 rfl) (e_callT L W (aI (ev (i := 1) S9 rfl) aa_nil) fun _ _ _ _ r => rLF.l r)), fun _ => ev (i := 8) S9 rfl⟩))) (by rw [List.length_map]; rfl)) fun σ5 H5 e5 S5 B5 => ?_
  have S5f := S5.sm hx_sm
  have cutT : ∀ {H6 : Hp} {σ6 : St} {th : TO} {te : TE} {α : Type} {enc : α → PyData} {xs : List α}, EvR te σ6 H6 (rL (xs.map enc)) → EvO th σ6 H6 (some (((mksOf L cm).length : Nat) : Int)) → EvR (L2.tSl (rSlL K) te tNoPart th) σ6 H6 (rL ((xs.take (mksOf L cm).length).map enc)) := fun h h2 => (e_slL h o_none h2).isL (by rw [cutD_take, List.map_take])
  refine q_ifN (b := false) (b_test (e_neSame (enc := tdD) (e_callT (elderL L (cntN cm)) ⟨FE.w, stOk_of FE⟩ (aI (ev (i := 10) S5f rfl) aa_nil) fun _ _ _ _ r => rLF.l r) (cutT (ev (i := 3) S5f rfl) (o_some (ev (i := 11) S5f rfl))) es1 td_can)) (fun z => by cases z) fun _ H6 e6 => ?_
  have S6 := S5f.sm e6
  have cut3 : ∀ {H7 : Hp} {σ7 : St} {te : TE} {c : CT}, EvR te σ7 H7 (rI (csD c)) → EvR (L2.tSl (rSlA K) te tNoPart (tPart (tC (.int 3)))) σ7 H7 (rI (f3D (first3 c))) := fun h => (e_slT h o_none (o_some e_int)).isI (by rw [show (3 : Int) = ((3 : Nat) : Int) from rfl, cutD_take]; rfl)
  have hEl : (costsM (elderL L (cntN cm))).length ≤ 16 := by
    have h1 := costsF_len (elderL L (cntN cm)) (come (elderL L (cntN cm))) []
    rw [elder_come F hsplit] at h1
    unfold costsM
    rw [elder_come F hsplit]
    omega
  have hcs : (costsM L).length ≤ 16 := Nat.le_trans (costsF_len L (come L) []) hcl
  refine q_ifN (b := false) (b_test (e_neSame (enc := f3D) (xs := (costsM (elderL L (cntN cm))).map first3) (ys := ((costsM L).take (mksOf L cm).length).map first3)
      ((EvR.l (e_lc (enc := csD) (xs := costsM (elderL L (cntN cm))) (F := fun c Γ => Γ.set 8 (some (rI (csD c)))) (fun _ => true) (fun c => f3D (first3 c)) S6 (i_list (e_callT (elderL L (cntN cm)) ⟨FE.w, stOk_of FE, FE.ev, FE.mkd⟩ (aI (ev (i := 10) S6 rfl) aa_nil) fun _ _ _ _ r => rLF.l r)) (by omega) (fun _ _ => tg_i) (by decide) fun c _ σ7 H7 e7 S7 => ⟨b_yes, fun _ => cut3 (ev (i := 8) S7 rfl)⟩)).isL (by rw [fT, List.map_map]; rfl))
      ((EvR.l (e_lc (enc := csD) (xs := (costsM L).take (mksOf L cm).length) (F := fun c Γ => Γ.set 8 (some (rI (csD c)))) (fun _ => true) (fun c => f3D (first3 c)) S6 (i_list (cutT (ev (i := 4) S6 rfl) (o_some (ev (i := 11) S6 rfl)))) (by rw [List.length_take]; omega) (fun _ _ => tg_i) (by decide) fun c _ σ7 H7 e7 S7 => ⟨b_yes, fun _ => cut3 (ev (i := 8) S7 rfl)⟩)).isL (by rw [fT, List.map_map]; rfl)) ec f3_can)) (fun z => by cases z) fun _ H7 e7 => ?_
  have e57 := e6.trans e7
  have S7 := S5.sm (hx_mono e57)
  have B7 := B5.sm e57
  have S7f := S7.sm hx_sm
  have fr7 : Fr b H H7 := fr2.trans (Fr.of (e3.trans (e4.trans (e5.trans e57))))
  refine q_ifN (b := decide (((mksOf L cm).length : Nat) = (0 : Int))) (b_test (e_eqI (ev (i := 11) S7f rfl) e_int)) (fun _ H8 e8 => s_ret (R := rI (.bool true)) e_bl fun v H9 e9 hv => k v H9 (fr7.trans (Fr.of (e8.trans e9))) ((B7.sm e8).sm e9) hv) fun hz H8 e8 => ?_
  have hz := of_decide_eq_false hz
  have hpos : 0 < (mksOf L cm).length := by omega
  have S8 := S7.sm (hx_mono e8)
  have B8 := B7.sm e8
  have S8f := S8.sm hx_sm
  refine x_setI S8 B8 (d := rowsD (rowsAt L cm)) (EvR.isI (e_callT ((stairsM L).take (mksOf L cm).length) (show ((stairsM L).take (mksOf L cm).length).length ≤ 60 by rw [List.length_take]; omega) (aa_cons mnMo (cutT (ev (i := 3) S8f rfl) (o_some (ev (i := 11) S8f rfl))) aa_nil) fun _ _ _ _ r => r) (by rw [erow])) fun σ9 H9 e9 S9 B9 => ?_
  have S9f := S9.sm hx_sm
  have hGOk : GOk (L, cntN cm, rowsAt L cm) := ⟨W, by show (rowsM _).length ≤ 200; omega, by show (rowsM _).flatten.length ≤ 200; omega⟩
  have hct : ((costsM L).take (mksOf L cm).length).length = (mksOf L cm).length := by rw [List.length_take]; omega
  obtain ⟨cs, c, hcc⟩ : ∃ cs c, (costsM L).take (mksOf L cm).length = cs ++ [c] := by
    rcases List.eq_nil_or_concat ((costsM L).take (mksOf L cm).length) with q | ⟨cs, c, q⟩
    · rw [q] at hct; simp at hct; omega
    · exact ⟨cs, c, by rw [q, List.concat_eq_append]⟩
  have hmo := moment_cost F hsplit hcc
  have hat : (costsM L)[(mksOf L cm).length - 1]? = some c := by
    have h1 : ((costsM L).take (mksOf L cm).length)[(mksOf L cm).length - 1]? = some c := by
      have hl2 := hct
      rw [hcc, List.length_append, List.length_singleton] at hl2
      rw [hcc, List.getElem?_append_right (by omega), show (mksOf L cm).length - 1 - cs.length = 0 by omega]
      rfl
    rw [List.getElem?_take] at h1
    rw [if_pos (by omega)] at h1
    exact h1
  refine s_ret (R := rI (.bool true)) (EvR.isI (e_eqI (i := ((rowsAt L cm).length : Int) + (widthM (gah L (rowsAt L cm)) (elderE (rowsAt L cm) ++ newE L (cntN cm)) - ((rowsAt L cm).length : Int))) (j := c.2.2.2) (e_add ((e_lenT (ds := (rowsAt L cm).map fun r => .tuple (r.map evD)) (ev (R := rI (rowsD (rowsAt L cm))) (i := 12) S9f rfl)).isI (by rw [List.length_map])) (e_callT (L, cntN cm, rowsAt L cm) ⟨hGOk, pn_len RN⟩ (aI (ev (i := 1) S9f rfl) (aI (ev (i := 7) S9f rfl) (aI (ev (i := 12) S9f rfl) aa_nil))) fun _ _ _ _ r => r)) (e_ixT (d := .int c.2.2.2) (e_ixL (d := csD c) (ev (i := 4) S9f rfl) (e_sub (ev (i := 11) S9f rfl) e_int) ?_) e_int rfl)) ?_) fun v H10 e10 hv => k v H10 (fr7.trans (Fr.of (e8.trans (e9.trans e10)))) (B9.sm e10) hv
  · rw [show (((mksOf L cm).length : Nat) : Int) - 1 = (((mksOf L cm).length - 1 : Nat) : Int) by omega]
    refine atI_nat ?_
    rw [List.getElem?_map, hat]
    rfl
  · rw [hmo, show ((rowsAt L cm).length : Int) + (widthM (gah L (rowsAt L cm)) (elderE (rowsAt L cm) ++ newE L (cntN cm)) - ((rowsAt L cm).length : Int)) = LT L cm from rfl]
    simp
end
end Fs

/-! Fs7: all is right; the law. -/
namespace Fs
open PySem L2
abbrev s_Lright : Stmt := topS 38
abbrev s_law : Stmt := topS 39
theorem chain_of {L : Lg} : ∀ {l : List Ev}, l.Pairwise (fun x y => ahead L x y = true) → chainB L l = true
  | [], _ => rfl
  | [x], _ => rfl
  | x :: y :: l, h => by
    obtain ⟨h1, h2⟩ := List.pairwise_cons.mp h
    have ih := chain_of h2
    unfold chainB at ih ⊢
    show (ahead L x y && ((y :: l).zip l).all fun p => ahead L p.1 p.2) = true
    rw [h1 y List.mem_cons_self]
    exact ih
theorem rows_ok {L : Lg} (F : Few L) : Rows L (rowsM (stAfter L (comeK L))) := by
  have I := si_of F (comeK_sub L)
  have hr := rows_few L (comeK L)
  have hl : (comeK L).length ≤ 12 := by rw [(comeK_perm F.w).length_eq]; exact F.mkd
  have ef : (rowsM (stAfter L (comeK L))).flatten = (stAfter L (comeK L)).2.flatten := flat_rows _
  refine ⟨by omega, by omega, ?_, fun x hx => ?_, fun r hr => chain_of (I.I.chain r (mem_rowsM.mp hr).1)⟩
  · rw [ef]
    exact I.I.part.nodup_iff.mpr (cm_comeK F.w).1
  · rw [ef] at hx
    exact (comeK_perm F.w).mem_iff.mp (I.I.part.mem_iff.mp hx)
theorem rows_perm {L : Lg} (F : Few L) : (rowsM (stAfter L (comeK L))).flatten.Perm (mks L) := by
  have ef : (rowsM (stAfter L (comeK L))).flatten = (stAfter L (comeK L)).2.flatten := flat_rows _
  rw [ef]
  exact (si_of F (comeK_sub L)).I.part.trans (comeK_perm F.w)
theorem ordF_hx {L : Lg} {b : Addr} {n m : Nat} {H H' : Hp} {v : V} (B : BoxAt b n H) (B' : BoxAt b m H') (h : OrdF L H H' v) : OrdD L (Hx b H') v := by
  obtain ⟨d, xs, adr, rfl, h1, h2, h3, h4⟩ := h
  have nb : ∀ {a : Addr}, H a = none → a ≠ b := fun h z => B.on (z ▸ h)
  refine ⟨d, xs, adr, rfl, by rw [hx_ne (nb h1)]; exact h2, h3, fun e he => ?_⟩
  obtain ⟨g1, zs, os, g2, g3, g4⟩ := h4 e he
  exact ⟨zs, os, by rw [hx_ne (nb g1)]; exact g2, g3.up (hx_tp B'), g4⟩
theorem ordF_mn {L : Lg} {H0 : Hp} : Mn false (OrdF L H0) := fun H H' v e ⟨d, xs, adr, a, a2, b, c, k⟩ => ⟨d, xs, adr, a, a2, e _ _ b, c, fun x hx => by
  obtain ⟨g, zs, os, z1, z2, z3⟩ := k x hx
  exact ⟨g, zs, os, e _ _ z1, z2.sm e, z3⟩⟩
section
variable {K : PySem.W.Frag} {σ : St} {H H' : Hp} {ta tb tc te ts : TE} {R T U : Rs} {ds es : List PyData} {d : PyData} {D : Ends} {tu tw tz : TS} {E : XK} {n : Nat} {b : Addr} {Q : VK} {Γ : Gam} {tr : TA} {sp : Sp}
theorem t_callR (h : tr σ H fun vs H1 => sp (vs ++ []) H1 Q E) : tCall sp [] E tr σ H Q := h
theorem t_consAddTake {c j : Int} {Q : List V → Hp → Prop} (hb : EvR ta σ H (rX (.ref b))) (hj : 1 ≤ j ∧ j ≤ 1000) (B : BoxAt b n H) (ht : n + 1 ≤ 100000) (k : ∀ (r : Int) H', 0 ≤ r → r < j → Fr b H H' → BoxAt b (n + 1) H' → tr σ H' fun xs H2 => Q (.int (c + r) :: xs) H2) :
    tCons (tOp (rI0 fun i j => .int (i + j)) (tC (.int c)) (tCall spTake [] E (tCons ta (tCons (tC (.int j)) tNil)))) tr σ H Q :=
  t_take (Q := fun y H2 => rI0 (fun i j => .int (i + j)) (.int c) y H2 fun z H3 => tr σ H3 fun xs H4 => Q (z :: xs) H4) hb e_int hj B ht fun r H' r0 r1 f B' => ⟨c, r, rfl, rfl, k r H' r0 r1 f B'⟩
/-- is a draw 0? -/
theorem t_testTake {j : Int} {Q : Bool → Hp → Prop} (hb : EvR ta σ H (rX (.ref b))) (hj : 1 ≤ j ∧ j ≤ 1000) (B : BoxAt b n H) (ht : n + 1 ≤ 100000) (k : ∀ (c : Bool) H', Fr b H H' → BoxAt b (n + 1) H' → Q c H') :
    tTest (tOp rEq (tCall spTake [] E (tCons ta (tCons (tC (.int j)) tNil))) (tC (.int 0))) σ H Q :=
  t_take (Q := fun y H2 => rEq y (.int 0) H2 fun z H3 => ∃ c, z = V.bl c ∧ Q c H3) hb e_int hj B ht fun r H' r0 r1 f B' => by
    have := (e_eqI (i := r) (j := 0) (ta := tC (.int r)) (tb := tC (.int 0)) (σ := σ) (H := H') e_int e_int).go (Q := fun z H3 => ∃ c, z = V.bl c ∧ Q c H3) fun v H2 e2 hv => ⟨decide (r = 0), hv, k _ H2 (f.trans (Fr.of e2)) (B'.sm e2)⟩
    exact this
theorem q_par3 {i j l : Nat} (ha : EvR ta σ H R) (hb : EvR tb σ H T) (hc : EvR tc σ H U) (mR : Mn false R) (mT : Mn false T) (k : ∀ v u x H', Same H H' → R H' v → T H' u → U H' x → tz D (((σ.set i (some v)).set j (some u)).set l (some x)) H') : tSeq (tPar3 i j l (tCons ta (tCons tb (tCons tc tNil)))) tz D σ H := ha.go fun v H1 e1 r1 => hb H1 e1 _ fun u H2 e2 r2 => hc H2 (e1.trans e2) _ fun x H3 e3 r3 => ⟨v, u, x, rfl, k v u x H3 (e1.trans (e2.trans e3)) (mR _ _ _ (e2.trans e3) r1) (mT _ _ _ e3 r2) r3⟩
theorem s_ifNotC (h : tCall sp [] E tr σ H fun x H' => ∃ k, x = V.bl k ∧ (if (!k) = true then tu D σ H' else tw D σ H')) : tIfS (tNot (tB (tCall sp [] E tr))) tu tw D σ H := h
theorem q_ifT {t : TT} (h : t σ H fun b H1 => if b = true then tu { D with nx := tz D } σ H1 else tz D σ H1) : tSeq (tIfS t tu tNext) tz D σ H := h
theorem s_asgC {g : TG} (h : te σ H fun x H1 => g x σ H1 D.nx) : tAsg te g D σ H := h
theorem t_cb1C {r : List V → Hp → VK → Prop} (h : te σ H fun x H1 => r [x] H1 Q) : tCB r (tCons te tNil) σ H Q := h
theorem e_min2 {i j : Int} (ha : EvR ta σ H (rI (.int i))) (hb : EvR tb σ H (rI (.int j))) : EvR (tCB (fun xs H Q => ∃ i j, xs = [.int i, .int j] ∧ Q (.int (if j < i then j else i)) H) (tCons ta (tCons tb tNil))) σ H (rI (.int (if j < i then j else i))) := fun H1 e Q q =>
  ha H1 e _ fun x H2 e2 hx => hb H2 (e.trans e2) _ fun y H3 e3 hy => ⟨i, j, by rw [show x = V.int i from hx, show y = V.int j from hy], q _ _ (e2.trans e3) rfl⟩
/-- the letters, some left out -/
theorem t_some {lt : List Mg} {tl : TE} (hb : ∀ v H1, EvR (tVar 0) ((wipe σ [3]).set 3 (some v)) H1 (rX (.ref b))) (hit : IterD true (iTup K tl) σ H (lt.map mgD)) (B : BoxAt b n H) (ht : n + lt.length + 1 ≤ 100000) (h3 : 3 < σ.length) (hlt : lt.length ≤ 1000)
    (k : ∀ v H' (lt' : List Mg), Fr b H H' → BoxAt b (n + lt.length) H' → (∀ m ∈ lt', m ∈ lt) → lt'.length ≤ lt.length → rL (lt'.map mgD) H' v → Q v H') :
    tLc (iTup K tl) (gName 3) (tTest (tOp rEq (tCall spTake [] E (tCons (tVar 0) (tCons (tC (.int 3)) tNil))) (tC (.int 0)))) (tVar 3) [3] σ H Q := by
  refine t_lcM (M := Tp) (enc := mgD) (xs := lt) hit (Same.refl H) fun H1 Dl e1 hD => ⟨fun pre H' => Tp H1 H' ∧ (∀ a o, a ≠ b → a ≠ Dl → H1 a = some o → H' a = some o) ∧ BoxAt b (n + pre.length) H' ∧ ∃ acc, ∃ lt' : List Mg, H' Dl = some (.lst acc) ∧ ImL H' (lt'.map mgD) acc ∧ (∀ m ∈ lt', m ∈ lt) ∧ lt'.length ≤ pre.length, ⟨(same_new hD).tp, fun a o _ n h => by rw [upd_ne n]; exact h, (B.sm e1).sm (same_new hD), [], [], upd_same, rfl, fun m h => (by cases h), Nat.le_refl _⟩, fun pre H' h => h.1, fun pre x post H' H'' v esp hI sm hv => ?_, fun H' hI => ?_⟩
  · obtain ⟨tp, fr, B', acc, lt', ha, hr, hs, hl⟩ := hI
    have hb1 := (B.sm e1).on
    have nDb : Dl ≠ b := fun z => hb1 (z ▸ hD)
    show wipe ((wipe σ [3]).set 3 (some v)) [3] = wipe σ [3] ∧ _
    refine ⟨by rw [wipe_set List.mem_cons_self, wipe_twice], ?_⟩
    have hpl : pre.length + 1 ≤ lt.length := by
      have := congrArg List.length esp
      rw [List.length_append, List.length_cons] at this
      omega
    refine t_testTake (hb v H'') ⟨by decide, by decide⟩ (B'.sm sm) (by omega) fun c H3 f3 B3 => ?_
    have ha3 := f3.1 _ _ nDb (sm _ _ ha)
    have hr3 := (hr.sm sm).up f3.2
    have t3 : Tp H1 H3 := tp.trans (sm.tp.trans f3.2)
    have fr3 : ∀ a o, a ≠ b → a ≠ Dl → H1 a = some o → H3 a = some o := fun a o n1 n2 h => f3.1 _ _ n1 (sm _ _ (fr a o n1 n2 h))
    cases c with
    | false =>
      rw [if_neg Bool.false_ne_true]
      exact ⟨t3, fr3, by rw [List.length_append, List.length_singleton]; exact B3, acc, lt', ha3, hr3, hs, by rw [List.length_append, List.length_singleton]; omega⟩
    | true =>
      rw [if_pos rfl]
      refine ⟨v, ?_, ?_⟩
      · rw [List.getElem?_set_self (by
          have : ∀ (vs : List Nat) (s : St), (wipe s vs).length = s.length := by
            intro vs
            induction vs with
            | nil => exact fun s => rfl
            | cons a vs ih => exact fun s => by unfold wipe; rw [List.length_set, ih]
          rw [this]
          exact h3)]
      · have t4 : Tp H3 (upd H3 Dl (.lst (acc ++ [v]))) := tp_lst ha3
        refine ⟨acc, ha3, len_lt (by rw [hr.len, List.length_map]; omega), t3.trans t4, fun a o n1 n2 h => by rw [upd_ne n2]; exact fr3 a o n1 n2 h, ?_, acc ++ [v], lt' ++ [x], upd_same, ?_, fun m hm => ?_, by rw [List.length_append, List.length_append, List.length_singleton]; exact Nat.succ_le_succ hl⟩
        · rw [List.length_append, List.length_singleton]
          exact B3.upd nDb
        · rw [List.map_append]
          exact (hr3.up t4).snoc ((hv.up f3.2).up t4)
        · rcases List.mem_append.mp hm with z | z
          · exact hs m z
          · rw [List.mem_singleton.mp z, esp]
            simp
  · obtain ⟨tp, fr, B', acc, lt', ha, hr, hs, hl⟩ := hI
    refine k _ H' lt' ⟨fun a o n1 h => fr a o n1 (fun z => ?_) (e1 _ _ h), e1.tp.trans tp⟩ B' hs hl ⟨Dl, acc, rfl, ha, hr⟩
    have := e1.free hD
    rw [z, this] at h
    cases h
end
/-! ### what is read without the box -/
def RH (b : Addr) (R : Rs) : Rs := fun H v => R (Hx b H) v
theorem rh_mn {b : Addr} {R : Rs} (h : Mn false R) : Mn false (RH b R) := fun H H' v e r => h _ _ v (hx_mono (e : Same H H')) r
theorem evH {σ : St} {H : Hp} {Γ : Gam} {b : Addr} {i : Nat} {R : Rs} (S : Sat false Γ σ (Hx b H)) (h : Γ[i]? = some (some R)) : EvR (tVar i) σ H (RH b R) := fun H1 e Q q => by
  obtain ⟨a, v, hv, r⟩ := S.2 i R h
  exact ⟨v, hv, q v H1 (Same.refl H1) (a _ _ _ (hx_mono e) r)⟩
theorem args_hx {b : Addr} {H : Hp} : ∀ {as : List Rs} {xs : List V}, Args (as.map (RH b)) H xs → Args as (Hx b H) xs
  | [], xs, h => h
  | R :: as, xs, h => by
    obtain ⟨x, ys, rfl, h1, h2⟩ := h
    exact ⟨x, ys, rfl, h1, args_hx h2⟩
theorem ordF_old {L : Lg} {H H0 H' : Hp} {v : V} (e : Same H H0) (h : OrdF L H0 H' v) : OrdF L H H' v := by
  obtain ⟨d, xs, adr, a, a2, b, c, k⟩ := h
  exact ⟨d, xs, adr, a, e.free a2, b, c, fun x hx => ⟨e.free (k x hx).1, (k x hx).2⟩⟩
section
variable {K : PySem.W.Frag} {σ : St} {H : Hp} {D : Ends} {tz : TS} {E E2 : XK} {n : Nat} {b : Addr} {i : Int} {Q : VK} {ds : List PyData}
theorem t_tupOf {v : V} (h : rL ds H v) (k : ∀ y H', Same H H' → Im H' (.tuple ds) y → Q y H') : rTupS K [v] H Q :=
  (e_tupL (K := K) (ta := tC v) (σ := []) (H := H) (fun H2 e Q q => q v H2 (Same.refl H2) (Mo.mo e h))).go k
theorem q_ifTake {L : Lg} (S : Sat true [some (rX (.ref b)), some (rI (.int i)), some (rI (lgD L)), none, none, none, none, none] σ H) (G : GoodL L) (B : BoxAt b n H) (ht : n + 110 ≤ 100000)
    (k : ∀ L' σ9 H9, GoodL L' → Fr b H H9 → BoxAt b (n + 110) H9 → Sat true [some (rX (.ref b)), some (rI (.int i)), some (rI (lgD L')), none, none, none, none, none] σ9 H9 → tz D σ9 H9) :
    tSeq (tIfS (tTest (tOp rEq (tCall spTake [] E (tCons (tVar 0) (tCons (tC (.int 3)) tNil))) (tC (.int 0)))) (tAsg (tTup (tCons (tOp (rIxT K) (tVar 2) (tC (.int 0))) (tCons (tCB (rTupS K) (tCons (tLc (iTup K (tOp (rIxT K) (tVar 2) (tC (.int 1)))) (gName 3) (tTest (tOp rEq (tCall spTake [] E2 (tCons (tVar 0) (tCons (tC (.int 3)) tNil))) (tC (.int 0)))) (tVar 3) [3]) tNil)) tNil))) (gName 2)) tNext) tz D σ H := by
  refine q_ifT (t_testTake (ev (i := 0) S rfl) ⟨by decide, by decide⟩ B (by omega) fun c H3 f3 B3 => ?_)
  cases c with
  | false =>
    rw [if_neg Bool.false_ne_true]
    exact k L σ H3 G f3 (B3.up (by omega)) (S.up (m := true) f3.2)
  | true =>
    rw [if_pos rfl]
    have S3 := S.up (m := true) f3.2
    obtain ⟨F, _⟩ := GoodL.well G
    have h100 := F.w.few.2
    refine s_asgC (t_tupC ((e_ixT (K := K) (d := .tuple (L.1.map mcD)) (ev (R := rI (lgD L)) (i := 2) S3 rfl) (e_int (i := 0)) rfl).go fun x H4 e4 hx => t_cons0 (t_cb1C (t_some (b := b) (n := n + 1) (lt := L.2) (fun v H1 => ?_) (i_tup (e_ixT (d := .tuple (L.2.map mgD)) (ev (R := rI (lgD L)) (i := 2) (S3.sm e4) rfl) (e_int (i := 1)) rfl)) (B3.sm e4) (by omega) (by rw [← S.1]; show 3 < 8; decide) (by omega) fun v H5 lt' f5 B5 hs hl hv => t_tupOf hv fun y H6 e6 hy => ⟨by show 2 ≤ sizeLine; decide, fun p hp => ?_⟩))))
    · obtain ⟨v0, h0, hv0⟩ := S.get (i := 0) rfl
      cases hv0
      exact fun H2 e Q q => ⟨_, by
        show (((wipe σ []).set 3 none).set 3 (some v))[0]? = _
        rw [List.getElem?_set_ne (by decide), List.getElem?_set_ne (by decide)]
        exact h0, q _ H2 (Same.refl H2) rfl⟩
    · have s7 : Same H6 (upd H6 p (.tup [x, y])) := same_new hp
      have B7 := (B5.sm e6).sm s7
      have f7 := (f3.trans (Fr.of e4)).trans (f5.trans (Fr.of (e6.trans s7)))
      refine k (L.1, lt') _ _ (G.sub (by omega) hs) f7 (B7.up (by omega)) (((S3.sm e4).up (m := true) (f5.2.trans (e6.trans s7).tp)).set 2 mnI ?_)
      exact ⟨p, _, rfl, upd_same, x, _, rfl, (Im.up hx (f5.2.trans (e6.trans s7).tp)), y, _, rfl, hy.sm s7, rfl⟩
end
section
variable {P : Program} {w : World} {K : PySem.W.Frag} {mg : Str → Option Value} {base : Heap}
def spLright : Sp := spB (fun _ : Unit => True) (fun _ => []) 1000 (fun _ _ _ v => v = V.bl true)
theorem sc_Lright : FnScope ["_law_box_here", "_law_lap", "_law_log_so", "_law_own", "_law_order_so", "_law_told", "_law_costs_so", "_law_rows_so"] ["_law_box_here"] (defScope s_Lright) := ⟨rfl, rfl, rfl, by decide +kernel, rfl, by decide +kernel, by decide +kernel⟩
theorem ok_Lright {f f1 f2 f3 f4 f5 f6 f7 f8 f9 f10 f11 f12 : Addr} {fd fd1 fd2 fd3 fd4 fd5 fd6 fd7 fd8 fd9 fd10 fd11 fd12 : FuncData} (X : TF K mg "_law_right" s_Lright ["_law_box_here"] f fd) (T : TB mg)
    (G__law_log : GF P w K mg base 3 "_law_log" f1 fd1 ["_law_box_here", "_law_folk", "_law_size_so", "_law_thick", "_law_most"] spLog) (G__law_take : GF P w K mg base 1 "_law_take" f2 fd2 ["_law_box_here", "_law_below"] spTake) (G__law_order : GF P w K mg base 2 "_law_order" f3 fd3 ["_law_log_so"] spLorder) (G_stairs : GF P w K mg base 10 "stairs" f4 fd4 ["log"] spStairs)
    (G_stair_costs : GF P w K mg base 38 "stair_costs" f5 fd5 ["log"] spCosts) (G__law_rows : GF P w K mg base 1 "_law_rows" f6 fd6 ["_law_told"] spLrows) (G__law_marked_come : GF P w K mg base 3 "_law_marked_come" f7 fd7 ["_law_log_so", "_law_order_so"] spLmarked_come) (G_are_counters : GF P w K mg base 9 "are_counters" f8 fd8 ["log", "thing"] spCounters)
    (G_counted : GF P w K mg base 7 "counted" f9 fd9 ["counters"] spCounted) (G__law_marked : GF P w K mg base 1 "_law_marked" f10 fd10 ["_law_log_so"] spLmarked) (G__law_bounds_right : GF P w K mg base 36 "_law_bounds_right" f11 fd11 ["_law_log_so", "_law_told", "_law_costs_so"] spLbounds) (G__law_moment_right : GF P w K mg base 39 "_law_moment_right" f12 fd12 ["_law_box_here", "_law_log_so", "_law_order_so", "_law_told", "_law_costs_so"] spLmoment) :
    FnOk P w K mg base CX0 40 f fd ["_law_box_here"] spLright := by
  have nd := sc_Lright.nd
  refine fn_spB X.F sc_Lright (fun _ => rfl) (fun i => ml0) fun cdv A outer s H0 E hr => ?_
  have hu := hu_of hr
  refine ⟨_, (pss_cons (ps_for PassesOwn.never rfl (pi_range1 rfl T.n_range (pa_cons pe_int pa_nil)) (pg_name (i := 1) nd rfl (by first | exact Or.inl rfl | exact Or.inr rfl)) (pss_cons (ps_set (i := 2) nd rfl (by first | exact Or.inl rfl | exact Or.inr rfl) (pe_call G__law_log.F (hr.mono (by first | decide | omega)) rfl G__law_log.g G__law_log.kp G__law_log.b .nil pass0 (pa_cons (pv 0) (pa_cons (pe_op op_add pe_int (pe_call G__law_take.F (hr.mono (by first | decide | omega)) rfl G__law_take.g G__law_take.kp G__law_take.b .nil pass0 (pa_cons (pv 0) (pa_cons pe_int pa_nil)))) (pa_cons (pe_op op_add pe_int (pe_call G__law_take.F (hr.mono (by first | decide | omega)) rfl G__law_take.g G__law_take.kp G__law_take.b .nil pass0 (pa_cons (pv 0) (pa_cons pe_int pa_nil)))) (pa_cons (pe_op op_add pe_int (pe_call G__law_take.F (hr.mono (by first | decide | omega)) rfl G__law_take.g G__law_take.kp G__law_take.b .nil pass0 (pa_cons (pv 0) (pa_cons pe_int pa_nil)))) (pa_cons pe_int pa_nil)))))))
      (pss_cons (ps_if (pt_cmpR op_eq (pe_call G__law_take.F (hr.mono (by first | decide | omega)) rfl G__law_take.g G__law_take.kp G__law_take.b .nil pass0 (pa_cons (pv 0) (pa_cons pe_int pa_nil))) pe_int (nomark _)) (pss_one (ps_set (i := 2) nd rfl (by first | exact Or.inl rfl | exact Or.inr rfl) (pe_tup (pa_cons (pe_ix ix_tup (pv 2) pe_int (fun _ _ => rfl)) (pa_cons (pe_callTy call_tuple_of rfl T.n_tuple (by decide +kernel) (pa_cons (pe_lc (own := [("_law_own", 3)]) rfl nd (pi_tup (pe_ix ix_tup (pv 2) pe_int (fun _ _ => rfl))) (blkOk_by (by kernel_rfl)) (fun _ _ _ _ _ => (pg_name (i := 3) nd rfl (by first | exact Or.inl rfl | exact Or.inr rfl))) (fun _ _ _ _ _ => (pts_one (pt_cmpR op_eq (pe_call G__law_take.F (hr.mono (by first | decide | omega)) rfl G__law_take.g G__law_take.kp G__law_take.b .nil pass0 (pa_cons (pv 0) (pa_cons pe_int pa_nil))) pe_int (nomark _)))) (fun _ _ _ _ _ => (pv 3))) pa_nil)) pa_nil))))) pss_nil)
      (pss_cons (ps_par3 (i := 4) (j := 5) (l := 6) (by rfl) nd rfl rfl rfl (by decide) (by decide) (by decide) rfl rfl rfl (pa_cons (pe_call G__law_order.F (hr.mono (by first | decide | omega)) rfl G__law_order.g G__law_order.kp G__law_order.b .nil pass0 (pa_cons (pv 2) pa_nil)) (pa_cons (pe_call G_stairs.F (hr.mono (by first | decide | omega)) rfl G_stairs.g G_stairs.kp G_stairs.b .nil pass0 (pa_cons (pv 2) pa_nil)) (pa_cons (pe_call G_stair_costs.F (hr.mono (by first | decide | omega)) rfl G_stair_costs.g G_stair_costs.kp G_stair_costs.b .nil pass0 (pa_cons (pv 2) pa_nil)) pa_nil))) (by rfl))
      (pss_cons (ps_set (i := 7) nd rfl (by first | exact Or.inl rfl | exact Or.inr rfl) (pe_call G__law_rows.F (hr.mono (by first | decide | omega)) rfl G__law_rows.g G__law_rows.kp G__law_rows.b .nil pass0 (pa_cons (pv 5) pa_nil)))
      (pss_cons (ps_if (PW.pt (pw_or (pt_cmpR op_ne (pe_callB call_len_seq rfl T.n_len PySem.boot_len (pa_cons (pv 5) pa_nil)) (pe_callB call_len_seq rfl T.n_len PySem.boot_len (pa_cons (pv 6) pa_nil)) (nomark _)) (pw_or1 (pt_cmpR (op_neD hr.units) (pe_lc (own := [("_law_own", 3)]) (te := (tOp (rIxT K) _ _)) rfl nd (pi_list (pv 5)) (blkOk_by (by kernel_rfl)) (fun _ _ _ _ _ => (pg_name (i := 3) nd rfl (by first | exact Or.inl rfl | exact Or.inr rfl))) (fun _ _ _ _ _ => pts_nil) (fun _ _ _ _ _ => (pe_ix ix_tup (pv 3) pe_int (fun _ _ => rfl)))) (pe_call G__law_marked_come.F (hr.mono (by first | decide | omega)) rfl G__law_marked_come.g G__law_marked_come.kp G__law_marked_come.b .nil pass0 (pa_cons (pv 2) (pa_cons (pv 4) pa_nil))) (nomark _))))) (pss_one (ps_ret pe_bl)) pss_nil)
      (pss_cons (ps_if (PW.pt (pw_or (pt_not (pt_val (pe_call G_are_counters.F (hr.mono (by first | decide | omega)) rfl G_are_counters.g G_are_counters.kp G_are_counters.b .nil pass0 (pa_cons (pv 2) (pa_cons (pv 7) pa_nil))))) (pw_or1 (pt_cmpR (op_neD hr.units) (pe_call G_counted.F (hr.mono (by first | decide | omega)) rfl G_counted.g G_counted.kp G_counted.b .nil pass0 (pa_cons (pv 7) pa_nil)) (pe_call G__law_marked.F (hr.mono (by first | decide | omega)) rfl G__law_marked.g G__law_marked.kp G__law_marked.b .nil pass0 (pa_cons (pv 2) pa_nil)) (nomark _))))) (pss_one (ps_ret pe_bl)) pss_nil)
      (pss_cons (ps_if (pt_not (pt_val (pe_call G__law_bounds_right.F (hr.mono (by first | decide | omega)) rfl G__law_bounds_right.g G__law_bounds_right.kp G__law_bounds_right.b .nil pass0 (pa_cons (pv 2) (pa_cons (pv 5) (pa_cons (pv 6) pa_nil)))))) (pss_one (ps_ret pe_bl)) pss_nil)
      (pss_one (ps_if (pt_not (pt_val (pe_call G__law_moment_right.F (hr.mono (by first | decide | omega)) rfl G__law_moment_right.g G__law_moment_right.kp G__law_moment_right.b .nil pass0 (pa_cons (pv 0) (pa_cons (pv 2) (pa_cons (pv 4) (pa_cons (pv 5) (pa_cons (pv 6) pa_nil)))))))) (pss_one (ps_ret pe_bl)) pss_nil))))))))))
      (pss_one (ps_ret pe_bl))), ?_⟩
  intro _ _ b n σ H S B hn Q k
  replace S : Sat true [some (rX (.ref b)), none, none, none, none, none, none, none] σ H := Sat.tp (Sat.sm S hx_sm) (mlX ml0)
  refine q_for (m := true) (enc := PyData.int) (xs := upTo 2) (i_rng e_int ⟨by decide, by decide⟩) fun H1 e1 => ⟨fun pre σ' H' => Sat true [some (rX (.ref b)), none, none, none, none, none, none, none] σ' H' ∧ Tp H1 H' ∧ Fr b H H' ∧ BoxAt b (n + 300 * pre.length) H', ⟨S.sm e1, Tp.refl _, Fr.of e1, B.sm e1⟩, fun pre σ' H' h => h.2.1, fun pre i post σ' H' H'' v esp hI sm hv => ?_, fun σ' H' hI => ?_⟩
  · obtain ⟨S', tp', fr', B'⟩ := hI
    have hpl : pre.length + 1 ≤ 2 := by
      have := congrArg List.length esp
      rw [upTo_length, List.length_append, List.length_cons] at this
      omega
    have S2 := (S'.sm sm).set 1 (mnI (d := .int i)) hv
    have B2 := B'.sm sm
    generalize hN : n + 300 * pre.length = N at B2
    have hNn : N + 300 ≤ 100000 := by omega
    refine q_setC (t_callR (t_cons (R := rX (.ref b)) (ev (i := 0) S2 rfl) fun x H3 e3 hx => ?_))
    cases hx
    have S3 := S2.sm e3
    refine t_consAddTake (ev (i := 0) S3 rfl) ⟨by decide, by decide⟩ (B2.sm e3) (by omega) fun r1 H4 a0 a1 f4 B4 => ?_
    have S4 := S3.up (m := true) f4.2
    refine t_consAddTake (ev (i := 0) S4 rfl) ⟨by decide, by decide⟩ B4 (by omega) fun r2 H5 b0 b1 f5 B5 => ?_
    have S5 := S4.up (m := true) f5.2
    refine t_consAddTake (ev (i := 0) S5 rfl) ⟨by decide, by decide⟩ B5 (by omega) fun r3 H6 c0 c1 f6 B6 => ?_
    have S6 := S5.up (m := true) f6.2
    refine t_cons (R := rI (.int 12)) e_int fun x H7 e7 hx => t_nil ?_
    cases (show x = V.int 12 from hx)
    have B7 := B6.sm e7
    have S7 := S6.sm e7
    have tn : ∀ {z : Int}, 0 ≤ z → V.int z = V.int (((z.toNat : Nat)) : Int) := fun h => by rw [Int.toNat_of_nonneg h]
    refine ⟨((1 + r1).toNat, (2 + r2).toNat, 6 + r3), b, N + 1 + 1 + 1, _, rfl, ⟨by show (1 + r1).toNat ≤ 5; omega, by show 1 ≤ (1 + r1).toNat; omega, by show (2 + r2).toNat ≤ 16; omega⟩, ⟨_, _, rfl, tn (by omega), _, _, rfl, tn (by omega), _, _, rfl, rfl, _, _, rfl, rfl, rfl⟩, B7, by omega, fun v8 H8 f8 B8 hL => ?_⟩
    obtain ⟨L, G, him⟩ := hL
    have fr8 : Fr b H H8 := ((fr'.trans (Fr.of (sm.trans e3))).trans (f4.trans (f5.trans f6))).trans ((Fr.of e7).trans f8)
    have tp8 : Tp H1 H8 := tp'.trans (sm.tp.trans (e3.tp.trans (f4.2.trans (f5.2.trans (f6.2.trans (e7.tp.trans f8.2))))))
    have S8 : Sat true [some (rX (.ref b)), some (rI (.int i)), some (rI (lgD L)), none, none, none, none, none] _ H8 := (S7.up (m := true) f8.2).set 2 mnI (him.sm hx_sm)
    generalize (List.set (σ'.set 1 (some v)) 2 (some v8)) = σ8 at S8
    refine q_ifTake (n := N + 1 + 1 + 1 + 100) S8 G B8 (by omega) fun L' σ9 H9 G' f9 B9 S9 => ?_
    clear S8 G him
    obtain ⟨F, hasc⟩ := GoodL.well G'
    have W := F.w
    have SO := stOk_of F
    have fr9 := fr8.trans f9
    have tp9 := tp8.trans f9.2
    have S9x : Sat false [some (rX (.ref b)), some (rI (.int i)), some (rI (lgD L')), none, none, none, none, none] σ9 (Hx b H9) := (S9.up (m := true) (hx_tp B9)).fls
    have hkl : (comeK L').length ≤ 12 := by rw [(comeK_perm W).length_eq]; exact F.mkd
    have hsl : (stairsM L').length ≤ 12 := by
      have : (stairsM L').length = (comeK L').length := by rw [← told_fst, List.length_map]
      omega
    refine q_par3 (R := OrdF L' H9) (T := rLF H9 ((stairsM L').map tdD)) (U := rLF H9 ((costsM L').map csD)) (e_callT L' W (aI (ev (i := 2) S9 rfl) aa_nil) fun _ _ _ e0 r => ordF_old e0 r) (e_callT L' ⟨W, SO⟩ (aI (ev (i := 2) S9 rfl) aa_nil) fun _ _ _ e0 r => rLF.old r e0) (e_callT L' ⟨W, SO, F.ev, F.mkd⟩ (aI (ev (i := 2) S9 rfl) aa_nil) fun _ _ _ e0 r => rLF.old r e0) ordF_mn mnMo fun v1 v2 v3 H10 e10 q1 q2 q3 => ?_
    have B10 := B9.sm e10
    have S10 : Sat false [some (rX (.ref b)), some (rI (.int i)), some (rI (lgD L')), none, some (OrdD L'), some (rL ((stairsM L').map tdD)), some (rL ((costsM L').map csD)), none] _ (Hx b H10) := (((S9x.sm (hx_mono e10)).set 4 ordD_mn (ordF_hx B9 B10 q1)).set 5 mnMo (rLF.l (hx_lf B9 q2 B10))).set 6 mnMo (rLF.l (hx_lf B9 q3 B10))
    have S10f := S10.sm hx_sm
    have erow : rowsT (stairsM L') = rowsM (stAfter L' (comeK L')) := rowsT_rows F (comeK_sub L')
    refine x_setI S10 B10 (d := rowsD (rowsM (stAfter L' (comeK L')))) (EvR.isI (e_callT (stairsM L') (show (stairsM L').length ≤ 60 by omega) (aa_cons mnMo (ev (i := 5) S10f rfl) aa_nil) fun _ _ _ _ r => r) (by rw [erow])) fun σ11 H11 e11 S11 B11 => ?_
    have S11f := S11.sm hx_sm
    refine q_ifN (b := false) (EvB.is (b_or (b_test (e_neI (i := ((stairsM L').length : Int)) (j := ((costsM L').length : Int)) ((e_lenL (ds := (stairsM L').map tdD) (ev (i := 5) S11f rfl)).isI (by rw [List.length_map])) ((e_lenL (ds := (costsM L').map csD) (ev (i := 6) S11f rfl)).isI (by rw [List.length_map])))) fun _ => b_test (e_neSame (enc := evD) (xs := (stairsM L').map (·.1)) (ys := comeK L') ((EvR.l (e_lc (enc := tdD) (xs := stairsM L') (F := fun t Γ => Γ.set 3 (some (rI (tdD t)))) (fun _ => true) (fun t => evD t.1) S11f (i_list (ev (i := 5) S11f rfl)) (by omega) (fun _ _ => tg_i) (by decide) fun t _ σ12 H12 e12 S12 => ⟨b_yes, fun _ => e_ixT (d := evD t.1) (ev (R := rI (tdD t)) (i := 3) S12 rfl) e_int rfl⟩)).isL (by rw [fT, List.map_map]; rfl)) (e_callT L' W (aI (ev (i := 2) S11f rfl) (aa_cons ordD_mn (ev (i := 4) S11f rfl) aa_nil)) fun _ _ _ _ r => rLF.l r) (told_fst L') ev_can)) (by rw [told_costs_len]; simp)) (fun z => by cases z) fun _ H12 e12 => ?_
    have S12 := S11f.sm e12
    have hRows := rows_ok F
    refine q_ifN (b := false) (EvB.is (b_or (b_not (b_B (b := true) (e_callT (L', rowsM (stAfter L' (comeK L'))) ⟨W, hRows⟩ (aI (ev (i := 2) S12 rfl) (aI (ev (i := 7) S12 rfl) aa_nil)) fun _ _ _ _ r => r))) fun _ => b_test (e_neSame (enc := evD) (xs := mks L') (ys := mks L') (e_callT (rowsM (stAfter L' (comeK L'))) ⟨hRows.few, hRows.len⟩ (aI (ev (i := 7) S12 rfl) aa_nil) fun H5 H6 v _ r => ?_) (e_callT L' W (aI (ev (i := 2) S12 rfl) aa_nil) fun _ _ _ _ r => rLF.l r) rfl ev_can)) rfl) (fun z => by cases z) fun _ H13 e13 => ?_
    · obtain ⟨ys, y1, y2, y3⟩ := r
      have : ys = mks L' := evs_unique (y1.trans (rows_perm F)) (y2.imp fun {a c} h => (evle_iff a c).mp h) hasc
      rw [← this]
      exact y3
    have S13 := S12.sm e13
    refine q_ifN (b := false) (EvB.is (b_not (b_B (b := true) (e_callT (L', stairsM L', costsM L') ⟨W, Nat.le_trans F.mkd (by decide), bok F⟩ (aI (ev (i := 2) S13 rfl) (aa_cons mnMo (ev (i := 5) S13 rfl) (aa_cons mnMo (ev (i := 6) S13 rfl) aa_nil))) fun _ _ _ _ r => r))) rfl) (fun z => by cases z) fun _ H14 e14 => ?_
    have e1114 := e12.trans (e13.trans e14)
    have S14 := S11.sm (hx_mono e1114)
    have S14f := S14.sm hx_sm
    have B14 := B11.sm e1114
    refine s_ifNotC (b_call (i := L') (as := [rI (lgD L'), OrdD L', rL ((stairsM L').map tdD), rL ((costsM L').map csD)].map (RH b)) G' (ev (i := 0) S14f rfl) (aa_cons (rh_mn mnI) (evH (i := 2) S14 rfl) (aa_cons (rh_mn ordD_mn) (evH (i := 4) S14 rfl) (aa_cons (rh_mn mnMo) (evH (i := 5) S14 rfl) (aa_cons (rh_mn mnMo) (evH (i := 6) S14 rfl) aa_nil)))) (fun H1 xs _ _ aa => args_hx aa) B14 (by omega) fun v15 H14b H15 e15 f15 B15 hv15 => ⟨true, hv15, ?_⟩)
    rw [if_neg (by decide)]
    have fr14 : Fr b H9 H14 := Fr.of (e10.trans (e11.trans e1114))
    have Sfin : Sat true [some (rX (.ref b)), none, none, none, none, none, none, none] _ H14 := Sat.tp (((((((S14f.fgt 1).fgt 2).fgt 3).fgt 4).fgt 5).fgt 6).fgt 7) (mlX ml0)
    exact ⟨Sfin.up (m := true) f15.2, tp9.trans (fr14.2.trans f15.2), (fr9.trans fr14).trans f15, B15.up (by rw [List.length_append, List.length_singleton]; omega)⟩
  · obtain ⟨S', tp', fr', B'⟩ := hI
    rw [upTo_length] at B'
    exact s_ret (R := rI (.bool true)) e_bl fun v H3 e3 hv => k v H3 (fr'.trans (Fr.of e3)) ((B'.sm e3).up (by omega)) hv
theorem e_right {σ : St} {H : Hp} {tb : TE} {E : XK} (hbox : ∀ H1, Same H H1 → EvR tb σ H1 (fun H' v => ∃ b, v = V.ref b ∧ H1 b = none ∧ BoxAt b 0 H')) : EvR (tCall spLright [] E (tCons tb tNil)) σ H (rI (.bool true)) := fun H1 e Q q => hbox H1 e H1 (Same.refl H1) _ fun x H2 e2 hx => by
  obtain ⟨b, rfl, hb, B⟩ := hx
  exact ⟨(), b, 0, [], rfl, trivial, rfl, B, by decide, fun v H' f B' hv => q v H' (fun a o h => f.1 a o (fun z => by rw [z, hb] at h; cases h) (e2 a o h)) hv⟩
/-- the law -/
def spLaw (K : PySem.W.Frag) : Sp := spS (fun sc : List Int => sc.length ≤ 1000) (fun sc => [rS K (sc.map PyData.int)]) (fun _ _ => rX (.bl true))
theorem sc_law : FnScope ["_law_script", "_law_k"] ["_law_script"] (defScope s_law) := ⟨rfl, rfl, rfl, by decide +kernel, rfl, by decide +kernel, by decide +kernel⟩
theorem ok_law {f f1 f2 : Addr} {fd fd1 fd2 : FuncData} (X : TF K mg "law" s_law ["_law_script"] f fd) (T : TB mg) (G__law_right : GF P w K mg base 40 "_law_right" f1 fd1 ["_law_box_here"] spLright) (G__law_box : GF P w K mg base 1 "_law_box" f2 fd2 ["_law_script", "_law_k"] (spLbox K)) : FnOk P w K mg base CX0 41 f fd ["_law_script"] (spLaw K) := by
  have nd := sc_law.nd
  refine fn_spS (m := false) X.F sc_law (fun _ => rfl) (fun i => ml mnMo ml0) fun cdv A outer s H0 E hr => ?_
  have hu := hu_of hr
  refine ⟨_, (pss_one (ps_ret (pe_callB (cr_all rfl) rfl T.n_all (by decide +kernel) (pa_cons (pe_lc (own := [("_law_k", 1)]) rfl nd (pi_range1 rfl T.n_range (pa_cons (pe_op op_add pe_int (pe_callB (call_min2 rfl) rfl T.n_min (by decide +kernel) (pa_cons pe_int (pa_cons (pe_callB call_len_seq rfl T.n_len PySem.boot_len (pa_cons (pv 0) pa_nil)) pa_nil)))) pa_nil)) (blkOk_by (by kernel_rfl)) (fun _ _ _ _ _ => (pg_name (i := 1) nd rfl (by first | exact Or.inl rfl | exact Or.inr rfl))) (fun _ _ _ _ _ => pts_nil) (fun _ _ _ _ _ => (pe_call G__law_right.F (hr.mono (by first | decide | omega)) rfl G__law_right.g G__law_right.kp G__law_right.b .nil pass0 (pa_cons (pe_call G__law_box.F (hr.mono (by first | decide | omega)) rfl G__law_box.g G__law_box.kp G__law_box.b .nil pass0 (pa_cons (pv 0) (pa_cons (pv 1) pa_nil))) pa_nil)))) pa_nil)))), ?_⟩
  intro sc hsc σ H S Q k
  replace hsc : sc.length ≤ 1000 := hsc
  replace S : Sat false [some (rS K (sc.map PyData.int)), none] σ H := S
  generalize hm : (1 + (if ((sc.length : Nat) : Int) < 1 then ((sc.length : Nat) : Int) else 1) : Int) = mm
  have hmm : 0 ≤ mm ∧ mm ≤ 2 := by
    rw [← hm]
    split <;> omega
  refine s_ret (R := rI (.bool true)) (EvR.isI (e_all (bs := (upTo mm.toNat).map fun _ => true) ((EvR.l (e_lc (enc := PyData.int) (xs := upTo mm.toNat) (F := fun i Γ => Γ.set 1 (some (rI (.int i)))) (fun _ => true) (fun _ => .bool true) S (i_rng ((e_add e_int (e_min2 (i := 1) (j := ((sc.length : Nat) : Int)) e_int ((e_lenS (ds := sc.map PyData.int) (ev (i := 0) S rfl)).isI (by rw [List.length_map])))).isI (by rw [hm])) ⟨hmm.1, by omega⟩) (by rw [upTo_length]; omega) (fun _ _ => tg_i) (by decide) fun i hi σ2 H2 e2 S2 => ⟨b_yes, fun _ => ?_⟩)).isL (by rw [fT, List.map_map]; rfl))) (by simp)) fun v H3 e3 hv => k v H3 e3 hv
  have hi2 := mem_upTo.mp hi
  refine e_right fun H4 e4 => e_callT (sc, i.toNat) ⟨by show sc.length ≤ 100000; omega, by show i.toNat ≤ 1000; omega⟩ (aa_cons mnMo (ev (i := 0) (S2.sm e4) rfl) (aI ((ev (i := 1) (S2.sm e4) rfl).isI (by show PyData.int i = .int (i.toNat : Int); rw [Int.toNat_of_nonneg hi2.1])) aa_nil)) fun H5 H6 v e0 ⟨b, h1, h2, h3⟩ => ⟨b, h1, e0.free h2, h3⟩
end
end Fs

/-! Fs8: the walks joined; what the top has written. -/
namespace Fs
open PySem L2
section
variable {P : Program} {w : World} {K : PySem.W.Frag} {mg : Str → Option Value} {base : Heap}
theorem mkGF {k : Nat} {n : Str} {st : Stmt} {ps : List Str} {f : Addr} {fd : FuncData} {sp : Sp} (X : TF K mg n st ps f fd) (F : FnOk P w K mg base CX0 k f fd ps sp) : GF P w K mg base k n f fd ps sp := ⟨F, X.g, X.F.kp, X.b⟩
theorem mkGM {k : Nat} {C : Addr} {n q cn : Str} {st : Stmt} {ps : List Str} {f : Addr} {fd : FuncData} {sp : Sp} (X : TM K C n q st ps f fd) (c : TC K mg cn C) (F : FnOk P w K mg base CX0 k f fd ps sp) : GM P w K mg base k n C f sp := ⟨fnR_of F X.b, c.cl, X.m⟩
theorem mkGC {k : Nat} {C : Addr} {q n : Str} {st : Stmt} {ps : List Str} {f : Addr} {fd : FuncData} {sp : Sp} (X : TM K C "__init__" q st ps f fd) (c : TC K mg n C) (F : FnOk P w K mg base CX0 k f fd ps sp) : GC P w K mg base k n C f sp := ⟨fnR_of F X.b, c.g, ⟨c.makes, X.m.at_, X.m.fn, c.kp⟩⟩
theorem join {cO cC cG cS f_tupled f_coming f_crowd_of f_width f_are_marked f_is_one_of f_is_row_of f_are_counters f_counted f_elder_log f_fewest_on f_stairs f_stair_costs f_box f_take f_of f_events f_as_come f_lmarked f_names f_log f_order f_marked_come f_rows f_bounds f_moment f_right f_law f_Oinit f_Oiter f_Olead f_Omarked f_Oahead f_Cinit f_Citer f_Cpull f_Cwidth f_Ginit f_Gelder f_Gopen f_Gahead f_Gcrowd f_Sinit f_Sbegin f_Sfit f_Sput f_Srows : Addr} {d_tupled d_coming d_crowd_of d_width d_are_marked d_is_one_of d_is_row_of d_are_counters d_counted d_elder_log d_fewest_on d_stairs d_stair_costs d_box d_take d_of d_events d_as_come d_lmarked d_names d_log d_order d_marked_come d_rows d_bounds d_moment d_right d_law d_Oinit d_Oiter d_Olead d_Omarked d_Oahead d_Cinit d_Citer d_Cpull d_Cwidth d_Ginit d_Gelder d_Gopen d_Gahead d_Gcrowd d_Sinit d_Sbegin d_Sfit d_Sput d_Srows : FuncData}
    (T : TB mg)
    (O : TOr K mg cO)
    (Cr : TCr K mg cC)
    (Gr : TGr K mg cG)
    (St : TSt K mg cS)
    (nlO : PySem.W.findIn K (.ref cO) "__len__" = some none)
    (nhO : PySem.W.findIn K (.ref cO) "__length_hint__" = some none)
    (nlC : PySem.W.findIn K (.ref cC) "__len__" = some none)
    (nhC : PySem.W.findIn K (.ref cC) "__length_hint__" = some none)
    (X_tupled : TF K mg "tupled" s_tupled ["thing"] f_tupled d_tupled)
    (X_coming : TF K mg "coming" s_coming ["log"] f_coming d_coming)
    (X_crowd_of : TF K mg "crowd_of" s_crowd_of ["log"] f_crowd_of d_crowd_of)
    (X_width : TF K mg "width" s_width ["log"] f_width d_width)
    (X_are_marked : TF K mg "are_marked" s_are_marked ["order", "thing"] f_are_marked d_are_marked)
    (X_is_one_of : TF K mg "is_one_of" s_is_one_of ["thing", "some"] f_is_one_of d_is_one_of)
    (X_is_row_of : TF K mg "is_row_of" s_is_row_of ["order", "thing"] f_is_row_of d_is_row_of)
    (X_are_counters : TF K mg "are_counters" s_are_counters ["log", "thing"] f_are_counters d_are_counters)
    (X_counted : TF K mg "counted" s_counted ["counters"] f_counted d_counted)
    (X_elder_log : TF K mg "elder_log" s_elder_log ["log", "stand"] f_elder_log d_elder_log)
    (X_fewest_on : TF K mg "fewest_on" s_fewest_on ["log", "stand", "counters"] f_fewest_on d_fewest_on)
    (X_stairs : TF K mg "stairs" s_stairs ["log"] f_stairs d_stairs)
    (X_stair_costs : TF K mg "stair_costs" s_stair_costs ["log"] f_stair_costs d_stair_costs)
    (X_box : TF K mg "_law_box" s_Lbox ["_law_script", "_law_k"] f_box d_box)
    (X_take : TF K mg "_law_take" s_Ltake ["_law_box_here", "_law_below"] f_take d_take)
    (X_of : TF K mg "_law_of" s_Lof ["_law_box_here", "_law_some"] f_of d_of)
    (X_events : TF K mg "_law_events" s_Levents ["_law_log_so"] f_events d_events)
    (X_as_come : TF K mg "_law_as_come" s_Las_come ["_law_log_so", "_law_order_so"] f_as_come d_as_come)
    (X_lmarked : TF K mg "_law_marked" s_Lmarked ["_law_log_so"] f_lmarked d_lmarked)
    (X_names : TF K mg "_law_names" s_Lnames ["_law_box_here", "_law_folk"] f_names d_names)
    (X_log : TF K mg "_law_log" s_Llog ["_law_box_here", "_law_folk", "_law_size_so", "_law_thick", "_law_most"] f_log d_log)
    (X_order : TF K mg "_law_order" s_Lorder ["_law_log_so"] f_order d_order)
    (X_marked_come : TF K mg "_law_marked_come" s_Lmarked_come ["_law_log_so", "_law_order_so"] f_marked_come d_marked_come)
    (X_rows : TF K mg "_law_rows" s_Lrows ["_law_told"] f_rows d_rows)
    (X_bounds : TF K mg "_law_bounds_right" s_Lbounds ["_law_log_so", "_law_told", "_law_costs_so"] f_bounds d_bounds)
    (X_moment : TF K mg "_law_moment_right" s_Lmoment ["_law_box_here", "_law_log_so", "_law_order_so", "_law_told", "_law_costs_so"] f_moment d_moment)
    (X_right : TF K mg "_law_right" s_Lright ["_law_box_here"] f_right d_right)
    (X_law : TF K mg "law" s_law ["_law_script"] f_law d_law)
    (X_Oinit : TM K cO "__init__" "Order.__init__" s_Oinit ["self", "log"] f_Oinit d_Oinit)
    (X_Oiter : TM K cO "__iter__" "Order.__iter__" s_Oiter ["self"] f_Oiter d_Oiter)
    (X_Olead : TM K cO "lead" "Order.lead" s_Olead ["self", "event"] f_Olead d_Olead)
    (X_Omarked : TM K cO "marked" "Order.marked" s_Omarked ["self"] f_Omarked d_Omarked)
    (X_Oahead : TM K cO "is_ahead" "Order.is_ahead" s_Oahead ["self", "one", "other"] f_Oahead d_Oahead)
    (X_Cinit : TM K cC "__init__" "Crowd.__init__" s_Cinit ["self", "order", "some"] f_Cinit d_Cinit)
    (X_Citer : TM K cC "__iter__" "Crowd.__iter__" s_Citer ["self"] f_Citer d_Citer)
    (X_Cpull : TM K cC "pull" "Crowd.pull" s_Cpull ["self", "event", "taken", "seen"] f_Cpull d_Cpull)
    (X_Cwidth : TM K cC "width" "Crowd.width" s_Cwidth ["self"] f_Cwidth d_Cwidth)
    (X_Ginit : TM K cG "__init__" "Growth.__init__" s_Ginit ["self", "log", "stand", "counters"] f_Ginit d_Ginit)
    (X_Gelder : TM K cG "elder" "Growth.elder" s_Gelder ["self"] f_Gelder d_Gelder)
    (X_Gopen : TM K cG "is_open" "Growth.is_open" s_Gopen ["self", "number", "event"] f_Gopen d_Gopen)
    (X_Gahead : TM K cG "is_ahead" "Growth.is_ahead" s_Gahead ["self", "one", "other"] f_Gahead d_Gahead)
    (X_Gcrowd : TM K cG "crowd" "Growth.crowd" s_Gcrowd ["self"] f_Gcrowd d_Gcrowd)
    (X_Sinit : TM K cS "__init__" "Stairs.__init__" s_Sinit ["self", "order"] f_Sinit d_Sinit)
    (X_Sbegin : TM K cS "begin_step" "Stairs.begin_step" s_Sbegin ["self"] f_Sbegin d_Sbegin)
    (X_Sfit : TM K cS "fitting" "Stairs.fitting" s_Sfit ["self", "step", "event"] f_Sfit d_Sfit)
    (X_Sput : TM K cS "put" "Stairs.put" s_Sput ["self", "event"] f_Sput d_Sput)
    (X_Srows : TM K cS "rows" "Stairs.rows" s_Srows ["self"] f_Srows d_Srows) :
    FnOk P w K mg base CX0 41 f_law d_law ["_law_script"] (spLaw K) := by
  have G_tupled : GF P w K mg base 6 "tupled" f_tupled d_tupled ["thing"] (spTupled 6) := ok_tupled X_tupled T 6
  have M_lead : GM P w K mg base 1 "lead" cO f_Olead (spLead cO) := mkGM X_Olead O.c (ok_lead X_Olead T O)
  have G_Order : GC P w K mg base 7 "Order" cO f_Oinit (spOinit cO) := mkGC X_Oinit O.c (ok_Oinit X_Oinit T O G_tupled M_lead)
  have M_Oahead : GM P w K mg base 1 "is_ahead" cO f_Oahead (spOahead cO) := mkGM X_Oahead O.c (ok_Oahead X_Oahead O)
  have M_Omarked : GM P w K mg base 1 "marked" cO f_Omarked (spOmarked cO) := mkGM X_Omarked O.c (ok_Omarked X_Omarked T O)
  have I_Order : Itb P w K mg base 1 cO f_Oiter 0 := ok_Oiter X_Oiter T O nlO nhO
  have G_coming : GF P w K mg base 9 "coming" f_coming d_coming ["log"] spComing := mkGF X_coming (ok_coming X_coming T G_Order M_Oahead I_Order)
  have G_Crowd : GC P w K mg base 1 "Crowd" cC f_Cinit (spCinit cC) := mkGC X_Cinit Cr.c (ok_Cinit X_Cinit T Cr)
  have I_Crowd : Itb P w K mg base 1 cC f_Citer 0 := ok_Citer X_Citer T Cr nlC nhC
  have M_ask : GM P w K mg base 1 "is_ahead" cO f_Oahead (spAsk (fun L e => e ∈ evs L) (OrdAt cO) ahead) := ⟨M_Oahead.F.imp fun vs H Q E h => by
    obtain ⟨i, h1, a, k⟩ := h
    exact ⟨i, h1.2, a, k⟩, M_Oahead.c, M_Oahead.m⟩
  have M_pull : GM P w K mg base (31 + 1 + 1) "pull" cC f_Cpull (spPull cC (fun L e => e ∈ evs L) (OrdAt cO) ahead 31) := mkGM X_Cpull Cr.c (ok_Cpull (dom := fun L e => e ∈ evs L) (R := OrdAt cO) (ah := ahead) (fun i H v h => ordAt_slt h) (fun i => mnMo) X_Cpull T Cr M_ask I_Crowd 31)
  have M_Cwidth : GM P w K mg base 34 "width" cC f_Cwidth (spCwidth cC (fun L e => e ∈ evs L) (OrdAt cO) ahead) := mkGM X_Cwidth Cr.c (ok_Cwidth (dom := fun L e => e ∈ evs L) (R := OrdAt cO) (ah := ahead) (fun i => mnMo) X_Cwidth T Cr M_pull I_Crowd)
  have G_crowd_of : GF P w K mg base 9 "crowd_of" f_crowd_of d_crowd_of ["log"] (spCrowd_of cO cC) := mkGF X_crowd_of (ok_crowd_of X_crowd_of G_Order G_Crowd M_Omarked)
  have G_width : GF P w K mg base 35 "width" f_width d_width ["log"] spWidth := mkGF X_width (ok_width (fC := f_Cinit) X_width G_crowd_of M_Cwidth)
  have G_is_one_of : GF P w K mg base 1 "is_one_of" f_is_one_of d_is_one_of ["thing", "some"] spOne := mkGF X_is_one_of (ok_is_one_of X_is_one_of T)
  have G_are_marked : GF P w K mg base 2 "are_marked" f_are_marked d_are_marked ["order", "thing"] (spMarkd cO) := mkGF X_are_marked (ok_are_marked X_are_marked T G_is_one_of M_Omarked)
  have G_is_row_of : GF P w K mg base 3 "is_row_of" f_is_row_of d_is_row_of ["order", "thing"] (spRowOf cO) := mkGF X_is_row_of (ok_is_row_of X_is_row_of T G_are_marked M_Oahead)
  have G_are_counters : GF P w K mg base 9 "are_counters" f_are_counters d_are_counters ["log", "thing"] spCounters := mkGF X_are_counters (ok_are_counters X_are_counters T G_Order G_is_row_of)
  have G_counted : GF P w K mg base 7 "counted" f_counted d_counted ["counters"] spCounted := mkGF X_counted (ok_counted X_counted T G_tupled)
  have G_Growth : GC P w K mg base 9 "Growth" cG f_Ginit (spGinit cO cG) := mkGC X_Ginit Gr.c (ok_Ginit X_Ginit T Gr G_tupled G_Order M_Omarked M_Omarked)
  have M_Gelder : GM P w K mg base 1 "elder" cG f_Gelder (spGelder cO cG) := mkGM X_Gelder Gr.c (ok_Gelder X_Gelder T Gr)
  have M_Gopen : GM P w K mg base 2 "is_open" cG f_Gopen (spGopen cO cG) := mkGM X_Gopen Gr.c (ok_Gopen X_Gopen T Gr M_Oahead)
  have M_Gahead : GM P w K mg base 3 "is_ahead" cG f_Gahead (spAsk gdom (GrowthAt cO cG) fun i => gah i.1 i.2.2) := mkGM X_Gahead Gr.c (ok_Gahead X_Gahead T Gr M_Oahead M_Gopen)
  have M_Gcrowd : GM P w K mg base 3 "crowd" cG f_Gcrowd (spGcrowd cO cC cG) := mkGM X_Gcrowd Gr.c (ok_Gcrowd X_Gcrowd T Gr G_Crowd M_Gelder)
  have M_pullG : GM P w K mg base (31 + 3 + 1) "pull" cC f_Cpull (spPull cC gdom (GrowthAt cO cG) (fun i => gah i.1 i.2.2) 31) := mkGM X_Cpull Cr.c (ok_Cpull (dom := gdom) (R := GrowthAt cO cG) (ah := fun i => gah i.1 i.2.2) (fun i H v h => growth_slt h) (fun i => mnMo) X_Cpull T Cr M_Gahead I_Crowd 31)
  have M_CwidthG : GM P w K mg base 36 "width" cC f_Cwidth (spCwidth cC gdom (GrowthAt cO cG) fun i => gah i.1 i.2.2) := mkGM X_Cwidth Cr.c (ok_Cwidth (dom := gdom) (R := GrowthAt cO cG) (ah := fun i => gah i.1 i.2.2) (fun i => mnMo) X_Cwidth T Cr M_pullG I_Crowd)
  have G_fewest_on : GF P w K mg base 37 "fewest_on" f_fewest_on d_fewest_on ["log", "stand", "counters"] spFewest := mkGF X_fewest_on (ok_fewest_on X_fewest_on T G_Growth M_Gcrowd M_Gelder M_CwidthG)
  have G_elder_log : GF P w K mg base 7 "elder_log" f_elder_log d_elder_log ["log", "stand"] spElder := mkGF X_elder_log (ok_elder_log X_elder_log T G_tupled)
  have M_Sbegin : GM P w K mg base 1 "begin_step" cS f_Sbegin (spBegin cO cS) := mkGM X_Sbegin St.c (ok_Sbegin X_Sbegin T St)
  have M_Sfit : GM P w K mg base 2 "fitting" cS f_Sfit (spFit cO cS) := mkGM X_Sfit St.c (ok_Sfit X_Sfit T St M_Sbegin M_Oahead)
  have M_Sput : GM P w K mg base 3 "put" cS f_Sput (spPut cO cS) := mkGM X_Sput St.c (ok_Sput X_Sput T St M_Sfit)
  have M_Srows : GM P w K mg base 1 "rows" cS f_Srows (spSrows cO cS) := mkGM X_Srows St.c (ok_Srows X_Srows T St)
  have G_Stairs : GC P w K mg base 1 "Stairs" cS f_Sinit (spSinit cS) := mkGC X_Sinit St.c (ok_Sinit X_Sinit T St)
  have G_stairs : GF P w K mg base 10 "stairs" f_stairs d_stairs ["log"] spStairs := mkGF X_stairs (ok_stairs X_stairs T G_coming G_Order M_Omarked G_Stairs M_Sput)
  have G_costs : GF P w K mg base 38 "stair_costs" f_stair_costs d_stair_costs ["log"] spCosts := mkGF X_stair_costs (ok_stair_costs X_stair_costs T G_tupled G_coming G_Order M_Omarked G_Stairs M_Sput M_Srows G_fewest_on G_Crowd M_Cwidth)
  have G_box := mkGF (P := P) (w := w) (base := base) X_box (ok_Lbox X_box T)
  have G_take := mkGF (P := P) (w := w) (base := base) X_take (ok_Ltake X_take T)
  have G_of := mkGF (P := P) (w := w) (base := base) X_of (ok_Lof X_of T G_take)
  have G_events := mkGF (P := P) (w := w) (base := base) X_events (ok_Levents X_events T)
  have G_as_come := mkGF (P := P) (w := w) (base := base) X_as_come (ok_Las_come X_as_come T G_events)
  have G_lmarked := mkGF (P := P) (w := w) (base := base) X_lmarked (ok_Lmarked X_lmarked T)
  have G_names := mkGF (P := P) (w := w) (base := base) X_names (ok_Lnames X_names T G_take)
  have G_log := mkGF (P := P) (w := w) (base := base) X_log (ok_Llog X_log T G_take G_of G_names)
  have G_order := mkGF (P := P) (w := w) (base := base) X_order (ok_Lorder X_order T G_events)
  have G_marked_come := mkGF (P := P) (w := w) (base := base) X_marked_come (ok_Lmarked_come X_marked_come T G_as_come G_lmarked)
  have G_rows := mkGF (P := P) (w := w) (base := base) X_rows (ok_Lrows X_rows T)
  have G_bounds := mkGF (P := P) (w := w) (base := base) X_bounds (ok_Lbounds X_bounds T G_width)
  have G_moment := mkGF (P := P) (w := w) (base := base) X_moment (ok_Lmoment X_moment T G_as_come G_take G_elder_log G_lmarked G_stairs G_costs G_rows G_fewest_on)
  have G_right := mkGF (P := P) (w := w) (base := base) X_right (ok_Lright X_right T G_log G_take G_order G_stairs G_costs G_rows G_marked_come G_are_counters G_counted G_lmarked G_bounds G_moment)
  exact ok_law X_law T G_right G_box
end
theorem all_mk {l : PySem.W.OpenLaw} {w : World} {K : PySem.W.Frag} {h : Heap} {mg : Str → Option Value} {fa cO cC cG cS : Addr}
    {pO0 : Addr}
    {pO1 : Addr}
    {pO2 : Addr}
    {pO3 : Addr}
    {pC0 : Addr}
    {pC1 : Addr}
    {pG0 : Addr}
    {pG1 : Addr}
    {pG2 : Addr}
    {pS0 : Addr}
    {pS1 : Addr}
    {pS2 : Addr}
    {f_tupled : Addr} {od_tupled an_tupled : Option Addr} {sl_tupled : Array (Option Value)} {oc_tupled kV_tupled dc_tupled pm_tupled cd_tupled ct_tupled : Value}
    {f_coming : Addr} {od_coming an_coming : Option Addr} {sl_coming : Array (Option Value)} {oc_coming kV_coming dc_coming pm_coming cd_coming ct_coming : Value}
    {f_crowd_of : Addr} {od_crowd_of an_crowd_of : Option Addr} {sl_crowd_of : Array (Option Value)} {oc_crowd_of kV_crowd_of dc_crowd_of pm_crowd_of cd_crowd_of ct_crowd_of : Value}
    {f_width : Addr} {od_width an_width : Option Addr} {sl_width : Array (Option Value)} {oc_width kV_width dc_width pm_width cd_width ct_width : Value}
    {f_are_marked : Addr} {od_are_marked an_are_marked : Option Addr} {sl_are_marked : Array (Option Value)} {oc_are_marked kV_are_marked dc_are_marked pm_are_marked cd_are_marked ct_are_marked : Value}
    {f_is_one_of : Addr} {od_is_one_of an_is_one_of : Option Addr} {sl_is_one_of : Array (Option Value)} {oc_is_one_of kV_is_one_of dc_is_one_of pm_is_one_of cd_is_one_of ct_is_one_of : Value}
    {f_is_row_of : Addr} {od_is_row_of an_is_row_of : Option Addr} {sl_is_row_of : Array (Option Value)} {oc_is_row_of kV_is_row_of dc_is_row_of pm_is_row_of cd_is_row_of ct_is_row_of : Value}
    {f_are_counters : Addr} {od_are_counters an_are_counters : Option Addr} {sl_are_counters : Array (Option Value)} {oc_are_counters kV_are_counters dc_are_counters pm_are_counters cd_are_counters ct_are_counters : Value}
    {f_counted : Addr} {od_counted an_counted : Option Addr} {sl_counted : Array (Option Value)} {oc_counted kV_counted dc_counted pm_counted cd_counted ct_counted : Value}
    {f_elder_log : Addr} {od_elder_log an_elder_log : Option Addr} {sl_elder_log : Array (Option Value)} {oc_elder_log kV_elder_log dc_elder_log pm_elder_log cd_elder_log ct_elder_log : Value}
    {f_fewest_on : Addr} {od_fewest_on an_fewest_on : Option Addr} {sl_fewest_on : Array (Option Value)} {oc_fewest_on kV_fewest_on dc_fewest_on pm_fewest_on cd_fewest_on ct_fewest_on : Value}
    {f_stairs : Addr} {od_stairs an_stairs : Option Addr} {sl_stairs : Array (Option Value)} {oc_stairs kV_stairs dc_stairs pm_stairs cd_stairs ct_stairs : Value}
    {f_stair_costs : Addr} {od_stair_costs an_stair_costs : Option Addr} {sl_stair_costs : Array (Option Value)} {oc_stair_costs kV_stair_costs dc_stair_costs pm_stair_costs cd_stair_costs ct_stair_costs : Value}
    {f_box : Addr} {od_box an_box : Option Addr} {sl_box : Array (Option Value)} {oc_box kV_box dc_box pm_box cd_box ct_box : Value}
    {f_take : Addr} {od_take an_take : Option Addr} {sl_take : Array (Option Value)} {oc_take kV_take dc_take pm_take cd_take ct_take : Value}
    {f_of : Addr} {od_of an_of : Option Addr} {sl_of : Array (Option Value)} {oc_of kV_of dc_of pm_of cd_of ct_of : Value}
    {f_events : Addr} {od_events an_events : Option Addr} {sl_events : Array (Option Value)} {oc_events kV_events dc_events pm_events cd_events ct_events : Value}
    {f_as_come : Addr} {od_as_come an_as_come : Option Addr} {sl_as_come : Array (Option Value)} {oc_as_come kV_as_come dc_as_come pm_as_come cd_as_come ct_as_come : Value}
    {f_lmarked : Addr} {od_lmarked an_lmarked : Option Addr} {sl_lmarked : Array (Option Value)} {oc_lmarked kV_lmarked dc_lmarked pm_lmarked cd_lmarked ct_lmarked : Value}
    {f_names : Addr} {od_names an_names : Option Addr} {sl_names : Array (Option Value)} {oc_names kV_names dc_names pm_names cd_names ct_names : Value}
    {f_log : Addr} {od_log an_log : Option Addr} {sl_log : Array (Option Value)} {oc_log kV_log dc_log pm_log cd_log ct_log : Value}
    {f_order : Addr} {od_order an_order : Option Addr} {sl_order : Array (Option Value)} {oc_order kV_order dc_order pm_order cd_order ct_order : Value}
    {f_marked_come : Addr} {od_marked_come an_marked_come : Option Addr} {sl_marked_come : Array (Option Value)} {oc_marked_come kV_marked_come dc_marked_come pm_marked_come cd_marked_come ct_marked_come : Value}
    {f_rows : Addr} {od_rows an_rows : Option Addr} {sl_rows : Array (Option Value)} {oc_rows kV_rows dc_rows pm_rows cd_rows ct_rows : Value}
    {f_bounds : Addr} {od_bounds an_bounds : Option Addr} {sl_bounds : Array (Option Value)} {oc_bounds kV_bounds dc_bounds pm_bounds cd_bounds ct_bounds : Value}
    {f_moment : Addr} {od_moment an_moment : Option Addr} {sl_moment : Array (Option Value)} {oc_moment kV_moment dc_moment pm_moment cd_moment ct_moment : Value}
    {f_right : Addr} {od_right an_right : Option Addr} {sl_right : Array (Option Value)} {oc_right kV_right dc_right pm_right cd_right ct_right : Value}
    {f_law : Addr} {od_law an_law : Option Addr} {sl_law : Array (Option Value)} {oc_law kV_law dc_law pm_law cd_law ct_law : Value}
    {f_Oinit : Addr} {od_Oinit an_Oinit : Option Addr} {sl_Oinit : Array (Option Value)} {oc_Oinit kV_Oinit dc_Oinit pm_Oinit cd_Oinit ct_Oinit : Value}
    {f_Oiter : Addr} {od_Oiter an_Oiter : Option Addr} {sl_Oiter : Array (Option Value)} {oc_Oiter kV_Oiter dc_Oiter pm_Oiter cd_Oiter ct_Oiter : Value}
    {f_Olead : Addr} {od_Olead an_Olead : Option Addr} {sl_Olead : Array (Option Value)} {oc_Olead kV_Olead dc_Olead pm_Olead cd_Olead ct_Olead : Value}
    {f_Omarked : Addr} {od_Omarked an_Omarked : Option Addr} {sl_Omarked : Array (Option Value)} {oc_Omarked kV_Omarked dc_Omarked pm_Omarked cd_Omarked ct_Omarked : Value}
    {f_Oahead : Addr} {od_Oahead an_Oahead : Option Addr} {sl_Oahead : Array (Option Value)} {oc_Oahead kV_Oahead dc_Oahead pm_Oahead cd_Oahead ct_Oahead : Value}
    {f_Cinit : Addr} {od_Cinit an_Cinit : Option Addr} {sl_Cinit : Array (Option Value)} {oc_Cinit kV_Cinit dc_Cinit pm_Cinit cd_Cinit ct_Cinit : Value}
    {f_Citer : Addr} {od_Citer an_Citer : Option Addr} {sl_Citer : Array (Option Value)} {oc_Citer kV_Citer dc_Citer pm_Citer cd_Citer ct_Citer : Value}
    {f_Cpull : Addr} {od_Cpull an_Cpull : Option Addr} {sl_Cpull : Array (Option Value)} {oc_Cpull kV_Cpull dc_Cpull pm_Cpull cd_Cpull ct_Cpull : Value}
    {f_Cwidth : Addr} {od_Cwidth an_Cwidth : Option Addr} {sl_Cwidth : Array (Option Value)} {oc_Cwidth kV_Cwidth dc_Cwidth pm_Cwidth cd_Cwidth ct_Cwidth : Value}
    {f_Ginit : Addr} {od_Ginit an_Ginit : Option Addr} {sl_Ginit : Array (Option Value)} {oc_Ginit kV_Ginit dc_Ginit pm_Ginit cd_Ginit ct_Ginit : Value}
    {f_Gelder : Addr} {od_Gelder an_Gelder : Option Addr} {sl_Gelder : Array (Option Value)} {oc_Gelder kV_Gelder dc_Gelder pm_Gelder cd_Gelder ct_Gelder : Value}
    {f_Gopen : Addr} {od_Gopen an_Gopen : Option Addr} {sl_Gopen : Array (Option Value)} {oc_Gopen kV_Gopen dc_Gopen pm_Gopen cd_Gopen ct_Gopen : Value}
    {f_Gahead : Addr} {od_Gahead an_Gahead : Option Addr} {sl_Gahead : Array (Option Value)} {oc_Gahead kV_Gahead dc_Gahead pm_Gahead cd_Gahead ct_Gahead : Value}
    {f_Gcrowd : Addr} {od_Gcrowd an_Gcrowd : Option Addr} {sl_Gcrowd : Array (Option Value)} {oc_Gcrowd kV_Gcrowd dc_Gcrowd pm_Gcrowd cd_Gcrowd ct_Gcrowd : Value}
    {f_Sinit : Addr} {od_Sinit an_Sinit : Option Addr} {sl_Sinit : Array (Option Value)} {oc_Sinit kV_Sinit dc_Sinit pm_Sinit cd_Sinit ct_Sinit : Value}
    {f_Sbegin : Addr} {od_Sbegin an_Sbegin : Option Addr} {sl_Sbegin : Array (Option Value)} {oc_Sbegin kV_Sbegin dc_Sbegin pm_Sbegin cd_Sbegin ct_Sbegin : Value}
    {f_Sfit : Addr} {od_Sfit an_Sfit : Option Addr} {sl_Sfit : Array (Option Value)} {oc_Sfit kV_Sfit dc_Sfit pm_Sfit cd_Sfit ct_Sfit : Value}
    {f_Sput : Addr} {od_Sput an_Sput : Option Addr} {sl_Sput : Array (Option Value)} {oc_Sput kV_Sput dc_Sput pm_Sput cd_Sput ct_Sput : Value}
    {f_Srows : Addr} {od_Srows an_Srows : Option Addr} {sl_Srows : Array (Option Value)} {oc_Srows kV_Srows dc_Srows pm_Srows cd_Srows ct_Srows : Value}
    {tB : Tok}
    (X : K.In h) (G : h.Ns mainGlobals mg) (hfa : mg "law" = some (.ref fa))
    (aCO : PySem.W.nsIn K mainGlobals "Order" = some (some (.ref cO)))
    (pgO : PySem.W.plainGet K cO Str.empty = true)
    (icO : PySem.W.isClsIn K cO = true)
    (poO : PySem.W.plainOver K cO = true)
    (saO : PySem.W.findIn K (.ref cO) "__setattr__" = some (some (.builtin "object.__setattr__")))
    (mkO : PySem.W.makesIn K cO = true)
    (kcO : PySem.W.keepIn K (.ref cO) = true)
    (tO0a : PySem.W.findIn K (.ref cO) "own_events" = some (some (.ref pO0)))
    (tO0g : PySem.W.specialIn K (.ref pO0) "__get__" = some (some (.builtin "member_descriptor.__get__")))
    (tO0t : PySem.W.takesIn K (.ref pO0) = some true)
    (tO0y : PySem.W.typeIn K (.ref pO0) = some (.type "member_descriptor"))
    (tO0x : PySem.W.slotIn K pO0 cO = some 0)
    (tO1a : PySem.W.findIn K (.ref cO) "own_marked" = some (some (.ref pO1)))
    (tO1g : PySem.W.specialIn K (.ref pO1) "__get__" = some (some (.builtin "member_descriptor.__get__")))
    (tO1t : PySem.W.takesIn K (.ref pO1) = some true)
    (tO1y : PySem.W.typeIn K (.ref pO1) = some (.type "member_descriptor"))
    (tO1x : PySem.W.slotIn K pO1 cO = some 1)
    (tO2a : PySem.W.findIn K (.ref cO) "own_nexts" = some (some (.ref pO2)))
    (tO2g : PySem.W.specialIn K (.ref pO2) "__get__" = some (some (.builtin "member_descriptor.__get__")))
    (tO2t : PySem.W.takesIn K (.ref pO2) = some true)
    (tO2y : PySem.W.typeIn K (.ref pO2) = some (.type "member_descriptor"))
    (tO2x : PySem.W.slotIn K pO2 cO = some 2)
    (tO3a : PySem.W.findIn K (.ref cO) "own_past" = some (some (.ref pO3)))
    (tO3g : PySem.W.specialIn K (.ref pO3) "__get__" = some (some (.builtin "member_descriptor.__get__")))
    (tO3t : PySem.W.takesIn K (.ref pO3) = some true)
    (tO3y : PySem.W.typeIn K (.ref pO3) = some (.type "member_descriptor"))
    (tO3x : PySem.W.slotIn K pO3 cO = some 3)
    (aCC : PySem.W.nsIn K mainGlobals "Crowd" = some (some (.ref cC)))
    (pgC : PySem.W.plainGet K cC Str.empty = true)
    (icC : PySem.W.isClsIn K cC = true)
    (poC : PySem.W.plainOver K cC = true)
    (saC : PySem.W.findIn K (.ref cC) "__setattr__" = some (some (.builtin "object.__setattr__")))
    (mkC : PySem.W.makesIn K cC = true)
    (kcC : PySem.W.keepIn K (.ref cC) = true)
    (tC0a : PySem.W.findIn K (.ref cC) "own_order" = some (some (.ref pC0)))
    (tC0g : PySem.W.specialIn K (.ref pC0) "__get__" = some (some (.builtin "member_descriptor.__get__")))
    (tC0t : PySem.W.takesIn K (.ref pC0) = some true)
    (tC0y : PySem.W.typeIn K (.ref pC0) = some (.type "member_descriptor"))
    (tC0x : PySem.W.slotIn K pC0 cC = some 1)
    (tC1a : PySem.W.findIn K (.ref cC) "own_events" = some (some (.ref pC1)))
    (tC1g : PySem.W.specialIn K (.ref pC1) "__get__" = some (some (.builtin "member_descriptor.__get__")))
    (tC1t : PySem.W.takesIn K (.ref pC1) = some true)
    (tC1y : PySem.W.typeIn K (.ref pC1) = some (.type "member_descriptor"))
    (tC1x : PySem.W.slotIn K pC1 cC = some 0)
    (aCG : PySem.W.nsIn K mainGlobals "Growth" = some (some (.ref cG)))
    (pgG : PySem.W.plainGet K cG Str.empty = true)
    (icG : PySem.W.isClsIn K cG = true)
    (poG : PySem.W.plainOver K cG = true)
    (saG : PySem.W.findIn K (.ref cG) "__setattr__" = some (some (.builtin "object.__setattr__")))
    (mkG : PySem.W.makesIn K cG = true)
    (kcG : PySem.W.keepIn K (.ref cG) = true)
    (tG0a : PySem.W.findIn K (.ref cG) "own_order" = some (some (.ref pG0)))
    (tG0g : PySem.W.specialIn K (.ref pG0) "__get__" = some (some (.builtin "member_descriptor.__get__")))
    (tG0t : PySem.W.takesIn K (.ref pG0) = some true)
    (tG0y : PySem.W.typeIn K (.ref pG0) = some (.type "member_descriptor"))
    (tG0x : PySem.W.slotIn K pG0 cG = some 1)
    (tG1a : PySem.W.findIn K (.ref cG) "own_rows" = some (some (.ref pG1)))
    (tG1g : PySem.W.specialIn K (.ref pG1) "__get__" = some (some (.builtin "member_descriptor.__get__")))
    (tG1t : PySem.W.takesIn K (.ref pG1) = some true)
    (tG1y : PySem.W.typeIn K (.ref pG1) = some (.type "member_descriptor"))
    (tG1x : PySem.W.slotIn K pG1 cG = some 2)
    (tG2a : PySem.W.findIn K (.ref cG) "own_new" = some (some (.ref pG2)))
    (tG2g : PySem.W.specialIn K (.ref pG2) "__get__" = some (some (.builtin "member_descriptor.__get__")))
    (tG2t : PySem.W.takesIn K (.ref pG2) = some true)
    (tG2y : PySem.W.typeIn K (.ref pG2) = some (.type "member_descriptor"))
    (tG2x : PySem.W.slotIn K pG2 cG = some 0)
    (aCS : PySem.W.nsIn K mainGlobals "Stairs" = some (some (.ref cS)))
    (pgS : PySem.W.plainGet K cS Str.empty = true)
    (icS : PySem.W.isClsIn K cS = true)
    (poS : PySem.W.plainOver K cS = true)
    (saS : PySem.W.findIn K (.ref cS) "__setattr__" = some (some (.builtin "object.__setattr__")))
    (mkS : PySem.W.makesIn K cS = true)
    (kcS : PySem.W.keepIn K (.ref cS) = true)
    (tS0a : PySem.W.findIn K (.ref cS) "own_order" = some (some (.ref pS0)))
    (tS0g : PySem.W.specialIn K (.ref pS0) "__get__" = some (some (.builtin "member_descriptor.__get__")))
    (tS0t : PySem.W.takesIn K (.ref pS0) = some true)
    (tS0y : PySem.W.typeIn K (.ref pS0) = some (.type "member_descriptor"))
    (tS0x : PySem.W.slotIn K pS0 cS = some 0)
    (tS1a : PySem.W.findIn K (.ref cS) "own_steps" = some (some (.ref pS1)))
    (tS1g : PySem.W.specialIn K (.ref pS1) "__get__" = some (some (.builtin "member_descriptor.__get__")))
    (tS1t : PySem.W.takesIn K (.ref pS1) = some true)
    (tS1y : PySem.W.typeIn K (.ref pS1) = some (.type "member_descriptor"))
    (tS1x : PySem.W.slotIn K pS1 cS = some 2)
    (tS2a : PySem.W.findIn K (.ref cS) "own_rows" = some (some (.ref pS2)))
    (tS2g : PySem.W.specialIn K (.ref pS2) "__get__" = some (some (.builtin "member_descriptor.__get__")))
    (tS2t : PySem.W.takesIn K (.ref pS2) = some true)
    (tS2y : PySem.W.typeIn K (.ref pS2) = some (.type "member_descriptor"))
    (tS2x : PySem.W.slotIn K pS2 cS = some 1)
    (nlO : PySem.W.findIn K (.ref cO) "__len__" = some none)
    (nhO : PySem.W.findIn K (.ref cO) "__length_hint__" = some none)
    (nlC : PySem.W.findIn K (.ref cC) "__len__" = some none)
    (nhC : PySem.W.findIn K (.ref cC) "__length_hint__" = some none)
    (a_tupled : PySem.W.nsIn K mainGlobals "tupled" = some (some (.ref f_tupled)))
    (l_tupled : K.lookup f_tupled = some ⟨oc_tupled, od_tupled, .func (PySem.W.fnOf "tupled" "tupled" (defArgs s_tupled) (defBody s_tupled) (defScope s_tupled) .none kV_tupled dc_tupled pm_tupled an_tupled cd_tupled ct_tupled), sl_tupled⟩)
    (c_tupled : PySem.W.codeIn K cd_tupled "tupled" = true)
    (k_tupled : PySem.W.keepIn K (.ref f_tupled) = true)
    (a_coming : PySem.W.nsIn K mainGlobals "coming" = some (some (.ref f_coming)))
    (l_coming : K.lookup f_coming = some ⟨oc_coming, od_coming, .func (PySem.W.fnOf "coming" "coming" (defArgs s_coming) (defBody s_coming) (defScope s_coming) .none kV_coming dc_coming pm_coming an_coming cd_coming ct_coming), sl_coming⟩)
    (c_coming : PySem.W.codeIn K cd_coming "coming" = true)
    (k_coming : PySem.W.keepIn K (.ref f_coming) = true)
    (a_crowd_of : PySem.W.nsIn K mainGlobals "crowd_of" = some (some (.ref f_crowd_of)))
    (l_crowd_of : K.lookup f_crowd_of = some ⟨oc_crowd_of, od_crowd_of, .func (PySem.W.fnOf "crowd_of" "crowd_of" (defArgs s_crowd_of) (defBody s_crowd_of) (defScope s_crowd_of) .none kV_crowd_of dc_crowd_of pm_crowd_of an_crowd_of cd_crowd_of ct_crowd_of), sl_crowd_of⟩)
    (c_crowd_of : PySem.W.codeIn K cd_crowd_of "crowd_of" = true)
    (k_crowd_of : PySem.W.keepIn K (.ref f_crowd_of) = true)
    (a_width : PySem.W.nsIn K mainGlobals "width" = some (some (.ref f_width)))
    (l_width : K.lookup f_width = some ⟨oc_width, od_width, .func (PySem.W.fnOf "width" "width" (defArgs s_width) (defBody s_width) (defScope s_width) .none kV_width dc_width pm_width an_width cd_width ct_width), sl_width⟩)
    (c_width : PySem.W.codeIn K cd_width "width" = true)
    (k_width : PySem.W.keepIn K (.ref f_width) = true)
    (a_are_marked : PySem.W.nsIn K mainGlobals "are_marked" = some (some (.ref f_are_marked)))
    (l_are_marked : K.lookup f_are_marked = some ⟨oc_are_marked, od_are_marked, .func (PySem.W.fnOf "are_marked" "are_marked" (defArgs s_are_marked) (defBody s_are_marked) (defScope s_are_marked) .none kV_are_marked dc_are_marked pm_are_marked an_are_marked cd_are_marked ct_are_marked), sl_are_marked⟩)
    (c_are_marked : PySem.W.codeIn K cd_are_marked "are_marked" = true)
    (k_are_marked : PySem.W.keepIn K (.ref f_are_marked) = true)
    (a_is_one_of : PySem.W.nsIn K mainGlobals "is_one_of" = some (some (.ref f_is_one_of)))
    (l_is_one_of : K.lookup f_is_one_of = some ⟨oc_is_one_of, od_is_one_of, .func (PySem.W.fnOf "is_one_of" "is_one_of" (defArgs s_is_one_of) (defBody s_is_one_of) (defScope s_is_one_of) .none kV_is_one_of dc_is_one_of pm_is_one_of an_is_one_of cd_is_one_of ct_is_one_of), sl_is_one_of⟩)
    (c_is_one_of : PySem.W.codeIn K cd_is_one_of "is_one_of" = true)
    (k_is_one_of : PySem.W.keepIn K (.ref f_is_one_of) = true)
    (a_is_row_of : PySem.W.nsIn K mainGlobals "is_row_of" = some (some (.ref f_is_row_of)))
    (l_is_row_of : K.lookup f_is_row_of = some ⟨oc_is_row_of, od_is_row_of, .func (PySem.W.fnOf "is_row_of" "is_row_of" (defArgs s_is_row_of) (defBody s_is_row_of) (defScope s_is_row_of) .none kV_is_row_of dc_is_row_of pm_is_row_of an_is_row_of cd_is_row_of ct_is_row_of), sl_is_row_of⟩)
    (c_is_row_of : PySem.W.codeIn K cd_is_row_of "is_row_of" = true)
    (k_is_row_of : PySem.W.keepIn K (.ref f_is_row_of) = true)
    (a_are_counters : PySem.W.nsIn K mainGlobals "are_counters" = some (some (.ref f_are_counters)))
    (l_are_counters : K.lookup f_are_counters = some ⟨oc_are_counters, od_are_counters, .func (PySem.W.fnOf "are_counters" "are_counters" (defArgs s_are_counters) (defBody s_are_counters) (defScope s_are_counters) .none kV_are_counters dc_are_counters pm_are_counters an_are_counters cd_are_counters ct_are_counters), sl_are_counters⟩)
    (c_are_counters : PySem.W.codeIn K cd_are_counters "are_counters" = true)
    (k_are_counters : PySem.W.keepIn K (.ref f_are_counters) = true)
    (a_counted : PySem.W.nsIn K mainGlobals "counted" = some (some (.ref f_counted)))
    (l_counted : K.lookup f_counted = some ⟨oc_counted, od_counted, .func (PySem.W.fnOf "counted" "counted" (defArgs s_counted) (defBody s_counted) (defScope s_counted) .none kV_counted dc_counted pm_counted an_counted cd_counted ct_counted), sl_counted⟩)
    (c_counted : PySem.W.codeIn K cd_counted "counted" = true)
    (k_counted : PySem.W.keepIn K (.ref f_counted) = true)
    (a_elder_log : PySem.W.nsIn K mainGlobals "elder_log" = some (some (.ref f_elder_log)))
    (l_elder_log : K.lookup f_elder_log = some ⟨oc_elder_log, od_elder_log, .func (PySem.W.fnOf "elder_log" "elder_log" (defArgs s_elder_log) (defBody s_elder_log) (defScope s_elder_log) .none kV_elder_log dc_elder_log pm_elder_log an_elder_log cd_elder_log ct_elder_log), sl_elder_log⟩)
    (c_elder_log : PySem.W.codeIn K cd_elder_log "elder_log" = true)
    (k_elder_log : PySem.W.keepIn K (.ref f_elder_log) = true)
    (a_fewest_on : PySem.W.nsIn K mainGlobals "fewest_on" = some (some (.ref f_fewest_on)))
    (l_fewest_on : K.lookup f_fewest_on = some ⟨oc_fewest_on, od_fewest_on, .func (PySem.W.fnOf "fewest_on" "fewest_on" (defArgs s_fewest_on) (defBody s_fewest_on) (defScope s_fewest_on) .none kV_fewest_on dc_fewest_on pm_fewest_on an_fewest_on cd_fewest_on ct_fewest_on), sl_fewest_on⟩)
    (c_fewest_on : PySem.W.codeIn K cd_fewest_on "fewest_on" = true)
    (k_fewest_on : PySem.W.keepIn K (.ref f_fewest_on) = true)
    (a_stairs : PySem.W.nsIn K mainGlobals "stairs" = some (some (.ref f_stairs)))
    (l_stairs : K.lookup f_stairs = some ⟨oc_stairs, od_stairs, .func (PySem.W.fnOf "stairs" "stairs" (defArgs s_stairs) (defBody s_stairs) (defScope s_stairs) .none kV_stairs dc_stairs pm_stairs an_stairs cd_stairs ct_stairs), sl_stairs⟩)
    (c_stairs : PySem.W.codeIn K cd_stairs "stairs" = true)
    (k_stairs : PySem.W.keepIn K (.ref f_stairs) = true)
    (a_stair_costs : PySem.W.nsIn K mainGlobals "stair_costs" = some (some (.ref f_stair_costs)))
    (l_stair_costs : K.lookup f_stair_costs = some ⟨oc_stair_costs, od_stair_costs, .func (PySem.W.fnOf "stair_costs" "stair_costs" (defArgs s_stair_costs) (defBody s_stair_costs) (defScope s_stair_costs) .none kV_stair_costs dc_stair_costs pm_stair_costs an_stair_costs cd_stair_costs ct_stair_costs), sl_stair_costs⟩)
    (c_stair_costs : PySem.W.codeIn K cd_stair_costs "stair_costs" = true)
    (k_stair_costs : PySem.W.keepIn K (.ref f_stair_costs) = true)
    (a_box : PySem.W.nsIn K mainGlobals "_law_box" = some (some (.ref f_box)))
    (l_box : K.lookup f_box = some ⟨oc_box, od_box, .func (PySem.W.fnOf "_law_box" "_law_box" (defArgs s_Lbox) (defBody s_Lbox) (defScope s_Lbox) .none kV_box dc_box pm_box an_box cd_box ct_box), sl_box⟩)
    (c_box : PySem.W.codeIn K cd_box "_law_box" = true)
    (k_box : PySem.W.keepIn K (.ref f_box) = true)
    (a_take : PySem.W.nsIn K mainGlobals "_law_take" = some (some (.ref f_take)))
    (l_take : K.lookup f_take = some ⟨oc_take, od_take, .func (PySem.W.fnOf "_law_take" "_law_take" (defArgs s_Ltake) (defBody s_Ltake) (defScope s_Ltake) .none kV_take dc_take pm_take an_take cd_take ct_take), sl_take⟩)
    (c_take : PySem.W.codeIn K cd_take "_law_take" = true)
    (k_take : PySem.W.keepIn K (.ref f_take) = true)
    (a_of : PySem.W.nsIn K mainGlobals "_law_of" = some (some (.ref f_of)))
    (l_of : K.lookup f_of = some ⟨oc_of, od_of, .func (PySem.W.fnOf "_law_of" "_law_of" (defArgs s_Lof) (defBody s_Lof) (defScope s_Lof) .none kV_of dc_of pm_of an_of cd_of ct_of), sl_of⟩)
    (c_of : PySem.W.codeIn K cd_of "_law_of" = true)
    (k_of : PySem.W.keepIn K (.ref f_of) = true)
    (a_events : PySem.W.nsIn K mainGlobals "_law_events" = some (some (.ref f_events)))
    (l_events : K.lookup f_events = some ⟨oc_events, od_events, .func (PySem.W.fnOf "_law_events" "_law_events" (defArgs s_Levents) (defBody s_Levents) (defScope s_Levents) .none kV_events dc_events pm_events an_events cd_events ct_events), sl_events⟩)
    (c_events : PySem.W.codeIn K cd_events "_law_events" = true)
    (k_events : PySem.W.keepIn K (.ref f_events) = true)
    (a_as_come : PySem.W.nsIn K mainGlobals "_law_as_come" = some (some (.ref f_as_come)))
    (l_as_come : K.lookup f_as_come = some ⟨oc_as_come, od_as_come, .func (PySem.W.fnOf "_law_as_come" "_law_as_come" (defArgs s_Las_come) (defBody s_Las_come) (defScope s_Las_come) .none kV_as_come dc_as_come pm_as_come an_as_come cd_as_come ct_as_come), sl_as_come⟩)
    (c_as_come : PySem.W.codeIn K cd_as_come "_law_as_come" = true)
    (k_as_come : PySem.W.keepIn K (.ref f_as_come) = true)
    (a_lmarked : PySem.W.nsIn K mainGlobals "_law_marked" = some (some (.ref f_lmarked)))
    (l_lmarked : K.lookup f_lmarked = some ⟨oc_lmarked, od_lmarked, .func (PySem.W.fnOf "_law_marked" "_law_marked" (defArgs s_Lmarked) (defBody s_Lmarked) (defScope s_Lmarked) .none kV_lmarked dc_lmarked pm_lmarked an_lmarked cd_lmarked ct_lmarked), sl_lmarked⟩)
    (c_lmarked : PySem.W.codeIn K cd_lmarked "_law_marked" = true)
    (k_lmarked : PySem.W.keepIn K (.ref f_lmarked) = true)
    (a_names : PySem.W.nsIn K mainGlobals "_law_names" = some (some (.ref f_names)))
    (l_names : K.lookup f_names = some ⟨oc_names, od_names, .func (PySem.W.fnOf "_law_names" "_law_names" (defArgs s_Lnames) (defBody s_Lnames) (defScope s_Lnames) .none kV_names dc_names pm_names an_names cd_names ct_names), sl_names⟩)
    (c_names : PySem.W.codeIn K cd_names "_law_names" = true)
    (k_names : PySem.W.keepIn K (.ref f_names) = true)
    (a_log : PySem.W.nsIn K mainGlobals "_law_log" = some (some (.ref f_log)))
    (l_log : K.lookup f_log = some ⟨oc_log, od_log, .func (PySem.W.fnOf "_law_log" "_law_log" (defArgs s_Llog) (defBody s_Llog) (defScope s_Llog) .none kV_log dc_log pm_log an_log cd_log ct_log), sl_log⟩)
    (c_log : PySem.W.codeIn K cd_log "_law_log" = true)
    (k_log : PySem.W.keepIn K (.ref f_log) = true)
    (a_order : PySem.W.nsIn K mainGlobals "_law_order" = some (some (.ref f_order)))
    (l_order : K.lookup f_order = some ⟨oc_order, od_order, .func (PySem.W.fnOf "_law_order" "_law_order" (defArgs s_Lorder) (defBody s_Lorder) (defScope s_Lorder) .none kV_order dc_order pm_order an_order cd_order ct_order), sl_order⟩)
    (c_order : PySem.W.codeIn K cd_order "_law_order" = true)
    (k_order : PySem.W.keepIn K (.ref f_order) = true)
    (a_marked_come : PySem.W.nsIn K mainGlobals "_law_marked_come" = some (some (.ref f_marked_come)))
    (l_marked_come : K.lookup f_marked_come = some ⟨oc_marked_come, od_marked_come, .func (PySem.W.fnOf "_law_marked_come" "_law_marked_come" (defArgs s_Lmarked_come) (defBody s_Lmarked_come) (defScope s_Lmarked_come) .none kV_marked_come dc_marked_come pm_marked_come an_marked_come cd_marked_come ct_marked_come), sl_marked_come⟩)
    (c_marked_come : PySem.W.codeIn K cd_marked_come "_law_marked_come" = true)
    (k_marked_come : PySem.W.keepIn K (.ref f_marked_come) = true)
    (a_rows : PySem.W.nsIn K mainGlobals "_law_rows" = some (some (.ref f_rows)))
    (l_rows : K.lookup f_rows = some ⟨oc_rows, od_rows, .func (PySem.W.fnOf "_law_rows" "_law_rows" (defArgs s_Lrows) (defBody s_Lrows) (defScope s_Lrows) .none kV_rows dc_rows pm_rows an_rows cd_rows ct_rows), sl_rows⟩)
    (c_rows : PySem.W.codeIn K cd_rows "_law_rows" = true)
    (k_rows : PySem.W.keepIn K (.ref f_rows) = true)
    (a_bounds : PySem.W.nsIn K mainGlobals "_law_bounds_right" = some (some (.ref f_bounds)))
    (l_bounds : K.lookup f_bounds = some ⟨oc_bounds, od_bounds, .func (PySem.W.fnOf "_law_bounds_right" "_law_bounds_right" (defArgs s_Lbounds) (defBody s_Lbounds) (defScope s_Lbounds) .none kV_bounds dc_bounds pm_bounds an_bounds cd_bounds ct_bounds), sl_bounds⟩)
    (c_bounds : PySem.W.codeIn K cd_bounds "_law_bounds_right" = true)
    (k_bounds : PySem.W.keepIn K (.ref f_bounds) = true)
    (a_moment : PySem.W.nsIn K mainGlobals "_law_moment_right" = some (some (.ref f_moment)))
    (l_moment : K.lookup f_moment = some ⟨oc_moment, od_moment, .func (PySem.W.fnOf "_law_moment_right" "_law_moment_right" (defArgs s_Lmoment) (defBody s_Lmoment) (defScope s_Lmoment) .none kV_moment dc_moment pm_moment an_moment cd_moment ct_moment), sl_moment⟩)
    (c_moment : PySem.W.codeIn K cd_moment "_law_moment_right" = true)
    (k_moment : PySem.W.keepIn K (.ref f_moment) = true)
    (a_right : PySem.W.nsIn K mainGlobals "_law_right" = some (some (.ref f_right)))
    (l_right : K.lookup f_right = some ⟨oc_right, od_right, .func (PySem.W.fnOf "_law_right" "_law_right" (defArgs s_Lright) (defBody s_Lright) (defScope s_Lright) .none kV_right dc_right pm_right an_right cd_right ct_right), sl_right⟩)
    (c_right : PySem.W.codeIn K cd_right "_law_right" = true)
    (k_right : PySem.W.keepIn K (.ref f_right) = true)
    (a_law : PySem.W.nsIn K mainGlobals "law" = some (some (.ref f_law)))
    (l_law : K.lookup f_law = some ⟨oc_law, od_law, .func (PySem.W.fnOf "law" "law" (defArgs s_law) (defBody s_law) (defScope s_law) .none kV_law dc_law pm_law an_law cd_law ct_law), sl_law⟩)
    (c_law : PySem.W.codeIn K cd_law "law" = true)
    (k_law : PySem.W.keepIn K (.ref f_law) = true)
    (a_Oinit : PySem.W.findIn K (.ref cO) "__init__" = some (some (.ref f_Oinit)))
    (i_Oinit : PySem.W.isFn K (.ref f_Oinit) = true)
    (l_Oinit : K.lookup f_Oinit = some ⟨oc_Oinit, od_Oinit, .func (PySem.W.fnOf "__init__" "Order.__init__" (defArgs s_Oinit) (defBody s_Oinit) (defScope s_Oinit) .none kV_Oinit dc_Oinit pm_Oinit an_Oinit cd_Oinit ct_Oinit), sl_Oinit⟩)
    (c_Oinit : PySem.W.codeIn K cd_Oinit "Order.__init__" = true)
    (k_Oinit : PySem.W.keepIn K (.ref f_Oinit) = true)
    (a_Oiter : PySem.W.findIn K (.ref cO) "__iter__" = some (some (.ref f_Oiter)))
    (i_Oiter : PySem.W.isFn K (.ref f_Oiter) = true)
    (l_Oiter : K.lookup f_Oiter = some ⟨oc_Oiter, od_Oiter, .func (PySem.W.fnOf "__iter__" "Order.__iter__" (defArgs s_Oiter) (defBody s_Oiter) (defScope s_Oiter) .none kV_Oiter dc_Oiter pm_Oiter an_Oiter cd_Oiter ct_Oiter), sl_Oiter⟩)
    (c_Oiter : PySem.W.codeIn K cd_Oiter "Order.__iter__" = true)
    (k_Oiter : PySem.W.keepIn K (.ref f_Oiter) = true)
    (a_Olead : PySem.W.findIn K (.ref cO) "lead" = some (some (.ref f_Olead)))
    (i_Olead : PySem.W.isFn K (.ref f_Olead) = true)
    (l_Olead : K.lookup f_Olead = some ⟨oc_Olead, od_Olead, .func (PySem.W.fnOf "lead" "Order.lead" (defArgs s_Olead) (defBody s_Olead) (defScope s_Olead) .none kV_Olead dc_Olead pm_Olead an_Olead cd_Olead ct_Olead), sl_Olead⟩)
    (c_Olead : PySem.W.codeIn K cd_Olead "Order.lead" = true)
    (k_Olead : PySem.W.keepIn K (.ref f_Olead) = true)
    (a_Omarked : PySem.W.findIn K (.ref cO) "marked" = some (some (.ref f_Omarked)))
    (i_Omarked : PySem.W.isFn K (.ref f_Omarked) = true)
    (l_Omarked : K.lookup f_Omarked = some ⟨oc_Omarked, od_Omarked, .func (PySem.W.fnOf "marked" "Order.marked" (defArgs s_Omarked) (defBody s_Omarked) (defScope s_Omarked) .none kV_Omarked dc_Omarked pm_Omarked an_Omarked cd_Omarked ct_Omarked), sl_Omarked⟩)
    (c_Omarked : PySem.W.codeIn K cd_Omarked "Order.marked" = true)
    (k_Omarked : PySem.W.keepIn K (.ref f_Omarked) = true)
    (a_Oahead : PySem.W.findIn K (.ref cO) "is_ahead" = some (some (.ref f_Oahead)))
    (i_Oahead : PySem.W.isFn K (.ref f_Oahead) = true)
    (l_Oahead : K.lookup f_Oahead = some ⟨oc_Oahead, od_Oahead, .func (PySem.W.fnOf "is_ahead" "Order.is_ahead" (defArgs s_Oahead) (defBody s_Oahead) (defScope s_Oahead) .none kV_Oahead dc_Oahead pm_Oahead an_Oahead cd_Oahead ct_Oahead), sl_Oahead⟩)
    (c_Oahead : PySem.W.codeIn K cd_Oahead "Order.is_ahead" = true)
    (k_Oahead : PySem.W.keepIn K (.ref f_Oahead) = true)
    (a_Cinit : PySem.W.findIn K (.ref cC) "__init__" = some (some (.ref f_Cinit)))
    (i_Cinit : PySem.W.isFn K (.ref f_Cinit) = true)
    (l_Cinit : K.lookup f_Cinit = some ⟨oc_Cinit, od_Cinit, .func (PySem.W.fnOf "__init__" "Crowd.__init__" (defArgs s_Cinit) (defBody s_Cinit) (defScope s_Cinit) .none kV_Cinit dc_Cinit pm_Cinit an_Cinit cd_Cinit ct_Cinit), sl_Cinit⟩)
    (c_Cinit : PySem.W.codeIn K cd_Cinit "Crowd.__init__" = true)
    (k_Cinit : PySem.W.keepIn K (.ref f_Cinit) = true)
    (a_Citer : PySem.W.findIn K (.ref cC) "__iter__" = some (some (.ref f_Citer)))
    (i_Citer : PySem.W.isFn K (.ref f_Citer) = true)
    (l_Citer : K.lookup f_Citer = some ⟨oc_Citer, od_Citer, .func (PySem.W.fnOf "__iter__" "Crowd.__iter__" (defArgs s_Citer) (defBody s_Citer) (defScope s_Citer) .none kV_Citer dc_Citer pm_Citer an_Citer cd_Citer ct_Citer), sl_Citer⟩)
    (c_Citer : PySem.W.codeIn K cd_Citer "Crowd.__iter__" = true)
    (k_Citer : PySem.W.keepIn K (.ref f_Citer) = true)
    (a_Cpull : PySem.W.findIn K (.ref cC) "pull" = some (some (.ref f_Cpull)))
    (i_Cpull : PySem.W.isFn K (.ref f_Cpull) = true)
    (l_Cpull : K.lookup f_Cpull = some ⟨oc_Cpull, od_Cpull, .func (PySem.W.fnOf "pull" "Crowd.pull" (defArgs s_Cpull) (defBody s_Cpull) (defScope s_Cpull) .none kV_Cpull dc_Cpull pm_Cpull an_Cpull cd_Cpull ct_Cpull), sl_Cpull⟩)
    (c_Cpull : PySem.W.codeIn K cd_Cpull "Crowd.pull" = true)
    (k_Cpull : PySem.W.keepIn K (.ref f_Cpull) = true)
    (a_Cwidth : PySem.W.findIn K (.ref cC) "width" = some (some (.ref f_Cwidth)))
    (i_Cwidth : PySem.W.isFn K (.ref f_Cwidth) = true)
    (l_Cwidth : K.lookup f_Cwidth = some ⟨oc_Cwidth, od_Cwidth, .func (PySem.W.fnOf "width" "Crowd.width" (defArgs s_Cwidth) (defBody s_Cwidth) (defScope s_Cwidth) .none kV_Cwidth dc_Cwidth pm_Cwidth an_Cwidth cd_Cwidth ct_Cwidth), sl_Cwidth⟩)
    (c_Cwidth : PySem.W.codeIn K cd_Cwidth "Crowd.width" = true)
    (k_Cwidth : PySem.W.keepIn K (.ref f_Cwidth) = true)
    (a_Ginit : PySem.W.findIn K (.ref cG) "__init__" = some (some (.ref f_Ginit)))
    (i_Ginit : PySem.W.isFn K (.ref f_Ginit) = true)
    (l_Ginit : K.lookup f_Ginit = some ⟨oc_Ginit, od_Ginit, .func (PySem.W.fnOf "__init__" "Growth.__init__" (defArgs s_Ginit) (defBody s_Ginit) (defScope s_Ginit) .none kV_Ginit dc_Ginit pm_Ginit an_Ginit cd_Ginit ct_Ginit), sl_Ginit⟩)
    (c_Ginit : PySem.W.codeIn K cd_Ginit "Growth.__init__" = true)
    (k_Ginit : PySem.W.keepIn K (.ref f_Ginit) = true)
    (a_Gelder : PySem.W.findIn K (.ref cG) "elder" = some (some (.ref f_Gelder)))
    (i_Gelder : PySem.W.isFn K (.ref f_Gelder) = true)
    (l_Gelder : K.lookup f_Gelder = some ⟨oc_Gelder, od_Gelder, .func (PySem.W.fnOf "elder" "Growth.elder" (defArgs s_Gelder) (defBody s_Gelder) (defScope s_Gelder) .none kV_Gelder dc_Gelder pm_Gelder an_Gelder cd_Gelder ct_Gelder), sl_Gelder⟩)
    (c_Gelder : PySem.W.codeIn K cd_Gelder "Growth.elder" = true)
    (k_Gelder : PySem.W.keepIn K (.ref f_Gelder) = true)
    (a_Gopen : PySem.W.findIn K (.ref cG) "is_open" = some (some (.ref f_Gopen)))
    (i_Gopen : PySem.W.isFn K (.ref f_Gopen) = true)
    (l_Gopen : K.lookup f_Gopen = some ⟨oc_Gopen, od_Gopen, .func (PySem.W.fnOf "is_open" "Growth.is_open" (defArgs s_Gopen) (defBody s_Gopen) (defScope s_Gopen) .none kV_Gopen dc_Gopen pm_Gopen an_Gopen cd_Gopen ct_Gopen), sl_Gopen⟩)
    (c_Gopen : PySem.W.codeIn K cd_Gopen "Growth.is_open" = true)
    (k_Gopen : PySem.W.keepIn K (.ref f_Gopen) = true)
    (a_Gahead : PySem.W.findIn K (.ref cG) "is_ahead" = some (some (.ref f_Gahead)))
    (i_Gahead : PySem.W.isFn K (.ref f_Gahead) = true)
    (l_Gahead : K.lookup f_Gahead = some ⟨oc_Gahead, od_Gahead, .func (PySem.W.fnOf "is_ahead" "Growth.is_ahead" (defArgs s_Gahead) (defBody s_Gahead) (defScope s_Gahead) .none kV_Gahead dc_Gahead pm_Gahead an_Gahead cd_Gahead ct_Gahead), sl_Gahead⟩)
    (c_Gahead : PySem.W.codeIn K cd_Gahead "Growth.is_ahead" = true)
    (k_Gahead : PySem.W.keepIn K (.ref f_Gahead) = true)
    (a_Gcrowd : PySem.W.findIn K (.ref cG) "crowd" = some (some (.ref f_Gcrowd)))
    (i_Gcrowd : PySem.W.isFn K (.ref f_Gcrowd) = true)
    (l_Gcrowd : K.lookup f_Gcrowd = some ⟨oc_Gcrowd, od_Gcrowd, .func (PySem.W.fnOf "crowd" "Growth.crowd" (defArgs s_Gcrowd) (defBody s_Gcrowd) (defScope s_Gcrowd) .none kV_Gcrowd dc_Gcrowd pm_Gcrowd an_Gcrowd cd_Gcrowd ct_Gcrowd), sl_Gcrowd⟩)
    (c_Gcrowd : PySem.W.codeIn K cd_Gcrowd "Growth.crowd" = true)
    (k_Gcrowd : PySem.W.keepIn K (.ref f_Gcrowd) = true)
    (a_Sinit : PySem.W.findIn K (.ref cS) "__init__" = some (some (.ref f_Sinit)))
    (i_Sinit : PySem.W.isFn K (.ref f_Sinit) = true)
    (l_Sinit : K.lookup f_Sinit = some ⟨oc_Sinit, od_Sinit, .func (PySem.W.fnOf "__init__" "Stairs.__init__" (defArgs s_Sinit) (defBody s_Sinit) (defScope s_Sinit) .none kV_Sinit dc_Sinit pm_Sinit an_Sinit cd_Sinit ct_Sinit), sl_Sinit⟩)
    (c_Sinit : PySem.W.codeIn K cd_Sinit "Stairs.__init__" = true)
    (k_Sinit : PySem.W.keepIn K (.ref f_Sinit) = true)
    (a_Sbegin : PySem.W.findIn K (.ref cS) "begin_step" = some (some (.ref f_Sbegin)))
    (i_Sbegin : PySem.W.isFn K (.ref f_Sbegin) = true)
    (l_Sbegin : K.lookup f_Sbegin = some ⟨oc_Sbegin, od_Sbegin, .func (PySem.W.fnOf "begin_step" "Stairs.begin_step" (defArgs s_Sbegin) (defBody s_Sbegin) (defScope s_Sbegin) .none kV_Sbegin dc_Sbegin pm_Sbegin an_Sbegin cd_Sbegin ct_Sbegin), sl_Sbegin⟩)
    (c_Sbegin : PySem.W.codeIn K cd_Sbegin "Stairs.begin_step" = true)
    (k_Sbegin : PySem.W.keepIn K (.ref f_Sbegin) = true)
    (a_Sfit : PySem.W.findIn K (.ref cS) "fitting" = some (some (.ref f_Sfit)))
    (i_Sfit : PySem.W.isFn K (.ref f_Sfit) = true)
    (l_Sfit : K.lookup f_Sfit = some ⟨oc_Sfit, od_Sfit, .func (PySem.W.fnOf "fitting" "Stairs.fitting" (defArgs s_Sfit) (defBody s_Sfit) (defScope s_Sfit) .none kV_Sfit dc_Sfit pm_Sfit an_Sfit cd_Sfit ct_Sfit), sl_Sfit⟩)
    (c_Sfit : PySem.W.codeIn K cd_Sfit "Stairs.fitting" = true)
    (k_Sfit : PySem.W.keepIn K (.ref f_Sfit) = true)
    (a_Sput : PySem.W.findIn K (.ref cS) "put" = some (some (.ref f_Sput)))
    (i_Sput : PySem.W.isFn K (.ref f_Sput) = true)
    (l_Sput : K.lookup f_Sput = some ⟨oc_Sput, od_Sput, .func (PySem.W.fnOf "put" "Stairs.put" (defArgs s_Sput) (defBody s_Sput) (defScope s_Sput) .none kV_Sput dc_Sput pm_Sput an_Sput cd_Sput ct_Sput), sl_Sput⟩)
    (c_Sput : PySem.W.codeIn K cd_Sput "Stairs.put" = true)
    (k_Sput : PySem.W.keepIn K (.ref f_Sput) = true)
    (a_Srows : PySem.W.findIn K (.ref cS) "rows" = some (some (.ref f_Srows)))
    (i_Srows : PySem.W.isFn K (.ref f_Srows) = true)
    (l_Srows : K.lookup f_Srows = some ⟨oc_Srows, od_Srows, .func (PySem.W.fnOf "rows" "Stairs.rows" (defArgs s_Srows) (defBody s_Srows) (defScope s_Srows) .none kV_Srows dc_Srows pm_Srows an_Srows cd_Srows ct_Srows), sl_Srows⟩)
    (c_Srows : PySem.W.codeIn K cd_Srows "Stairs.rows" = true)
    (k_Srows : PySem.W.keepIn K (.ref f_Srows) = true)
    (z_isinstance : PySem.W.nsIn K mainGlobals "isinstance" = some none)
    (z_list : PySem.W.nsIn K mainGlobals "list" = some none)
    (z_tuple : PySem.W.nsIn K mainGlobals "tuple" = some none)
    (z_len : PySem.W.nsIn K mainGlobals "len" = some none)
    (z_range : PySem.W.nsIn K mainGlobals "range" = some none)
    (z_iter : PySem.W.nsIn K mainGlobals "iter" = some none)
    (z_all : PySem.W.nsIn K mainGlobals "all" = some none)
    (z_any : PySem.W.nsIn K mainGlobals "any" = some none)
    (z_zip : PySem.W.nsIn K mainGlobals "zip" = some none)
    (z_sum : PySem.W.nsIn K mainGlobals "sum" = some none)
    (z_sorted : PySem.W.nsIn K mainGlobals "sorted" = some none)
    (z_set : PySem.W.nsIn K mainGlobals "set" = some none)
    (z_dict : PySem.W.nsIn K mainGlobals "dict" = some none)
    (z_int : PySem.W.nsIn K mainGlobals "int" = some none)
    (z_abs : PySem.W.nsIn K mainGlobals "abs" = some none)
    (z_max : PySem.W.nsIn K mainGlobals "max" = some none)
    (z_min : PySem.W.nsIn K mainGlobals "min" = some none)
    (z_bool : PySem.W.nsIn K mainGlobals "bool" = some none)
    (z_BARE : PySem.W.nsIn K mainGlobals "BARE" = some (some (.str "" tB))) :
    ∃ fd : FuncData, (∀ (s : Shared) (v : Value), BindsTo s fd ⟨[v], []⟩ [("_law_script", v)]) ∧ ∀ base : Heap, K.In base → base.Ns mainGlobals mg → FnOk l.prog w K mg base CX0 41 fa fd ["_law_script"] (spLaw K) := by
  have e := hfa.symm.trans (PySem.W.mg_of X G a_law)
  cases e
  have T : TB mg := ⟨PySem.W.mg_none_of X G z_isinstance, PySem.W.mg_none_of X G z_list, PySem.W.mg_none_of X G z_tuple, PySem.W.mg_none_of X G z_len, PySem.W.mg_none_of X G z_range, PySem.W.mg_none_of X G z_iter, PySem.W.mg_none_of X G z_all, PySem.W.mg_none_of X G z_any, PySem.W.mg_none_of X G z_zip, PySem.W.mg_none_of X G z_sum, PySem.W.mg_none_of X G z_sorted, PySem.W.mg_none_of X G z_set, PySem.W.mg_none_of X G z_dict, PySem.W.mg_none_of X G z_int, PySem.W.mg_none_of X G z_abs, PySem.W.mg_none_of X G z_max, PySem.W.mg_none_of X G z_min, PySem.W.mg_none_of X G z_bool, ⟨_, PySem.W.mg_of X G z_BARE⟩⟩
  have KO : TC K mg "Order" cO := ⟨⟨pgO, icO, poO, saO⟩, mkO, kcO, PySem.W.mg_of X G aCO⟩
  have UO : TOr K mg cO := ⟨KO, ⟨_, ⟨tO0a, tO0g, tO0t, tO0y, tO0x, by decide⟩⟩, ⟨_, ⟨tO1a, tO1g, tO1t, tO1y, tO1x, by decide⟩⟩, ⟨_, ⟨tO2a, tO2g, tO2t, tO2y, tO2x, by decide⟩⟩, ⟨_, ⟨tO3a, tO3g, tO3t, tO3y, tO3x, by decide⟩⟩⟩
  have KC : TC K mg "Crowd" cC := ⟨⟨pgC, icC, poC, saC⟩, mkC, kcC, PySem.W.mg_of X G aCC⟩
  have UC : TCr K mg cC := ⟨KC, ⟨_, ⟨tC0a, tC0g, tC0t, tC0y, tC0x, by decide⟩⟩, ⟨_, ⟨tC1a, tC1g, tC1t, tC1y, tC1x, by decide⟩⟩⟩
  have KG : TC K mg "Growth" cG := ⟨⟨pgG, icG, poG, saG⟩, mkG, kcG, PySem.W.mg_of X G aCG⟩
  have UG : TGr K mg cG := ⟨KG, ⟨_, ⟨tG0a, tG0g, tG0t, tG0y, tG0x, by decide⟩⟩, ⟨_, ⟨tG1a, tG1g, tG1t, tG1y, tG1x, by decide⟩⟩, ⟨_, ⟨tG2a, tG2g, tG2t, tG2y, tG2x, by decide⟩⟩⟩
  have KS : TC K mg "Stairs" cS := ⟨⟨pgS, icS, poS, saS⟩, mkS, kcS, PySem.W.mg_of X G aCS⟩
  have US : TSt K mg cS := ⟨KS, ⟨_, ⟨tS0a, tS0g, tS0t, tS0y, tS0x, by decide⟩⟩, ⟨_, ⟨tS1a, tS1g, tS1t, tS1y, tS1x, by decide⟩⟩, ⟨_, ⟨tS2a, tS2g, tS2t, tS2y, tS2x, by decide⟩⟩⟩
  have F_tupled := fun_mk (st := s_tupled) l_tupled c_tupled k_tupled
  have b_tupled := F_tupled.binds (ps := ["thing"]) fun _ _ _ _ _ _ us hl => match us, hl with | [_], _ => rfl
  have F_coming := fun_mk (st := s_coming) l_coming c_coming k_coming
  have b_coming := F_coming.binds (ps := ["log"]) fun _ _ _ _ _ _ us hl => match us, hl with | [_], _ => rfl
  have F_crowd_of := fun_mk (st := s_crowd_of) l_crowd_of c_crowd_of k_crowd_of
  have b_crowd_of := F_crowd_of.binds (ps := ["log"]) fun _ _ _ _ _ _ us hl => match us, hl with | [_], _ => rfl
  have F_width := fun_mk (st := s_width) l_width c_width k_width
  have b_width := F_width.binds (ps := ["log"]) fun _ _ _ _ _ _ us hl => match us, hl with | [_], _ => rfl
  have F_are_marked := fun_mk (st := s_are_marked) l_are_marked c_are_marked k_are_marked
  have b_are_marked := F_are_marked.binds (ps := ["order", "thing"]) fun _ _ _ _ _ _ us hl => match us, hl with | [_, _], _ => rfl
  have F_is_one_of := fun_mk (st := s_is_one_of) l_is_one_of c_is_one_of k_is_one_of
  have b_is_one_of := F_is_one_of.binds (ps := ["thing", "some"]) fun _ _ _ _ _ _ us hl => match us, hl with | [_, _], _ => rfl
  have F_is_row_of := fun_mk (st := s_is_row_of) l_is_row_of c_is_row_of k_is_row_of
  have b_is_row_of := F_is_row_of.binds (ps := ["order", "thing"]) fun _ _ _ _ _ _ us hl => match us, hl with | [_, _], _ => rfl
  have F_are_counters := fun_mk (st := s_are_counters) l_are_counters c_are_counters k_are_counters
  have b_are_counters := F_are_counters.binds (ps := ["log", "thing"]) fun _ _ _ _ _ _ us hl => match us, hl with | [_, _], _ => rfl
  have F_counted := fun_mk (st := s_counted) l_counted c_counted k_counted
  have b_counted := F_counted.binds (ps := ["counters"]) fun _ _ _ _ _ _ us hl => match us, hl with | [_], _ => rfl
  have F_elder_log := fun_mk (st := s_elder_log) l_elder_log c_elder_log k_elder_log
  have b_elder_log := F_elder_log.binds (ps := ["log", "stand"]) fun _ _ _ _ _ _ us hl => match us, hl with | [_, _], _ => rfl
  have F_fewest_on := fun_mk (st := s_fewest_on) l_fewest_on c_fewest_on k_fewest_on
  have b_fewest_on := F_fewest_on.binds (ps := ["log", "stand", "counters"]) fun _ _ _ _ _ _ us hl => match us, hl with | [_, _, _], _ => rfl
  have F_stairs := fun_mk (st := s_stairs) l_stairs c_stairs k_stairs
  have b_stairs := F_stairs.binds (ps := ["log"]) fun _ _ _ _ _ _ us hl => match us, hl with | [_], _ => rfl
  have F_stair_costs := fun_mk (st := s_stair_costs) l_stair_costs c_stair_costs k_stair_costs
  have b_stair_costs := F_stair_costs.binds (ps := ["log"]) fun _ _ _ _ _ _ us hl => match us, hl with | [_], _ => rfl
  have F_box := fun_mk (st := s_Lbox) l_box c_box k_box
  have b_box := F_box.binds (ps := ["_law_script", "_law_k"]) fun _ _ _ _ _ _ us hl => match us, hl with | [_, _], _ => rfl
  have F_take := fun_mk (st := s_Ltake) l_take c_take k_take
  have b_take := F_take.binds (ps := ["_law_box_here", "_law_below"]) fun _ _ _ _ _ _ us hl => match us, hl with | [_, _], _ => rfl
  have F_of := fun_mk (st := s_Lof) l_of c_of k_of
  have b_of := F_of.binds (ps := ["_law_box_here", "_law_some"]) fun _ _ _ _ _ _ us hl => match us, hl with | [_, _], _ => rfl
  have F_events := fun_mk (st := s_Levents) l_events c_events k_events
  have b_events := F_events.binds (ps := ["_law_log_so"]) fun _ _ _ _ _ _ us hl => match us, hl with | [_], _ => rfl
  have F_as_come := fun_mk (st := s_Las_come) l_as_come c_as_come k_as_come
  have b_as_come := F_as_come.binds (ps := ["_law_log_so", "_law_order_so"]) fun _ _ _ _ _ _ us hl => match us, hl with | [_, _], _ => rfl
  have F_lmarked := fun_mk (st := s_Lmarked) l_lmarked c_lmarked k_lmarked
  have b_lmarked := F_lmarked.binds (ps := ["_law_log_so"]) fun _ _ _ _ _ _ us hl => match us, hl with | [_], _ => rfl
  have F_names := fun_mk (st := s_Lnames) l_names c_names k_names
  have b_names := F_names.binds (ps := ["_law_box_here", "_law_folk"]) fun _ _ _ _ _ _ us hl => match us, hl with | [_, _], _ => rfl
  have F_log := fun_mk (st := s_Llog) l_log c_log k_log
  have b_log := F_log.binds (ps := ["_law_box_here", "_law_folk", "_law_size_so", "_law_thick", "_law_most"]) fun _ _ _ _ _ _ us hl => match us, hl with | [_, _, _, _, _], _ => rfl
  have F_order := fun_mk (st := s_Lorder) l_order c_order k_order
  have b_order := F_order.binds (ps := ["_law_log_so"]) fun _ _ _ _ _ _ us hl => match us, hl with | [_], _ => rfl
  have F_marked_come := fun_mk (st := s_Lmarked_come) l_marked_come c_marked_come k_marked_come
  have b_marked_come := F_marked_come.binds (ps := ["_law_log_so", "_law_order_so"]) fun _ _ _ _ _ _ us hl => match us, hl with | [_, _], _ => rfl
  have F_rows := fun_mk (st := s_Lrows) l_rows c_rows k_rows
  have b_rows := F_rows.binds (ps := ["_law_told"]) fun _ _ _ _ _ _ us hl => match us, hl with | [_], _ => rfl
  have F_bounds := fun_mk (st := s_Lbounds) l_bounds c_bounds k_bounds
  have b_bounds := F_bounds.binds (ps := ["_law_log_so", "_law_told", "_law_costs_so"]) fun _ _ _ _ _ _ us hl => match us, hl with | [_, _, _], _ => rfl
  have F_moment := fun_mk (st := s_Lmoment) l_moment c_moment k_moment
  have b_moment := F_moment.binds (ps := ["_law_box_here", "_law_log_so", "_law_order_so", "_law_told", "_law_costs_so"]) fun _ _ _ _ _ _ us hl => match us, hl with | [_, _, _, _, _], _ => rfl
  have F_right := fun_mk (st := s_Lright) l_right c_right k_right
  have b_right := F_right.binds (ps := ["_law_box_here"]) fun _ _ _ _ _ _ us hl => match us, hl with | [_], _ => rfl
  have F_law := fun_mk (st := s_law) l_law c_law k_law
  have b_law := F_law.binds (ps := ["_law_script"]) fun _ _ _ _ _ _ us hl => match us, hl with | [_], _ => rfl
  have F_Oinit := fun_mk (st := s_Oinit) l_Oinit c_Oinit k_Oinit
  have b_Oinit := F_Oinit.binds (ps := ["self", "log"]) fun _ _ _ _ _ _ us hl => match us, hl with | [_, _], _ => rfl
  have F_Oiter := fun_mk (st := s_Oiter) l_Oiter c_Oiter k_Oiter
  have b_Oiter := F_Oiter.binds (ps := ["self"]) fun _ _ _ _ _ _ us hl => match us, hl with | [_], _ => rfl
  have F_Olead := fun_mk (st := s_Olead) l_Olead c_Olead k_Olead
  have b_Olead := F_Olead.binds (ps := ["self", "event"]) fun _ _ _ _ _ _ us hl => match us, hl with | [_, _], _ => rfl
  have F_Omarked := fun_mk (st := s_Omarked) l_Omarked c_Omarked k_Omarked
  have b_Omarked := F_Omarked.binds (ps := ["self"]) fun _ _ _ _ _ _ us hl => match us, hl with | [_], _ => rfl
  have F_Oahead := fun_mk (st := s_Oahead) l_Oahead c_Oahead k_Oahead
  have b_Oahead := F_Oahead.binds (ps := ["self", "one", "other"]) fun _ _ _ _ _ _ us hl => match us, hl with | [_, _, _], _ => rfl
  have F_Cinit := fun_mk (st := s_Cinit) l_Cinit c_Cinit k_Cinit
  have b_Cinit := F_Cinit.binds (ps := ["self", "order", "some"]) fun _ _ _ _ _ _ us hl => match us, hl with | [_, _, _], _ => rfl
  have F_Citer := fun_mk (st := s_Citer) l_Citer c_Citer k_Citer
  have b_Citer := F_Citer.binds (ps := ["self"]) fun _ _ _ _ _ _ us hl => match us, hl with | [_], _ => rfl
  have F_Cpull := fun_mk (st := s_Cpull) l_Cpull c_Cpull k_Cpull
  have b_Cpull := F_Cpull.binds (ps := ["self", "event", "taken", "seen"]) fun _ _ _ _ _ _ us hl => match us, hl with | [_, _, _, _], _ => rfl
  have F_Cwidth := fun_mk (st := s_Cwidth) l_Cwidth c_Cwidth k_Cwidth
  have b_Cwidth := F_Cwidth.binds (ps := ["self"]) fun _ _ _ _ _ _ us hl => match us, hl with | [_], _ => rfl
  have F_Ginit := fun_mk (st := s_Ginit) l_Ginit c_Ginit k_Ginit
  have b_Ginit := F_Ginit.binds (ps := ["self", "log", "stand", "counters"]) fun _ _ _ _ _ _ us hl => match us, hl with | [_, _, _, _], _ => rfl
  have F_Gelder := fun_mk (st := s_Gelder) l_Gelder c_Gelder k_Gelder
  have b_Gelder := F_Gelder.binds (ps := ["self"]) fun _ _ _ _ _ _ us hl => match us, hl with | [_], _ => rfl
  have F_Gopen := fun_mk (st := s_Gopen) l_Gopen c_Gopen k_Gopen
  have b_Gopen := F_Gopen.binds (ps := ["self", "number", "event"]) fun _ _ _ _ _ _ us hl => match us, hl with | [_, _, _], _ => rfl
  have F_Gahead := fun_mk (st := s_Gahead) l_Gahead c_Gahead k_Gahead
  have b_Gahead := F_Gahead.binds (ps := ["self", "one", "other"]) fun _ _ _ _ _ _ us hl => match us, hl with | [_, _, _], _ => rfl
  have F_Gcrowd := fun_mk (st := s_Gcrowd) l_Gcrowd c_Gcrowd k_Gcrowd
  have b_Gcrowd := F_Gcrowd.binds (ps := ["self"]) fun _ _ _ _ _ _ us hl => match us, hl with | [_], _ => rfl
  have F_Sinit := fun_mk (st := s_Sinit) l_Sinit c_Sinit k_Sinit
  have b_Sinit := F_Sinit.binds (ps := ["self", "order"]) fun _ _ _ _ _ _ us hl => match us, hl with | [_, _], _ => rfl
  have F_Sbegin := fun_mk (st := s_Sbegin) l_Sbegin c_Sbegin k_Sbegin
  have b_Sbegin := F_Sbegin.binds (ps := ["self"]) fun _ _ _ _ _ _ us hl => match us, hl with | [_], _ => rfl
  have F_Sfit := fun_mk (st := s_Sfit) l_Sfit c_Sfit k_Sfit
  have b_Sfit := F_Sfit.binds (ps := ["self", "step", "event"]) fun _ _ _ _ _ _ us hl => match us, hl with | [_, _, _], _ => rfl
  have F_Sput := fun_mk (st := s_Sput) l_Sput c_Sput k_Sput
  have b_Sput := F_Sput.binds (ps := ["self", "event"]) fun _ _ _ _ _ _ us hl => match us, hl with | [_, _], _ => rfl
  have F_Srows := fun_mk (st := s_Srows) l_Srows c_Srows k_Srows
  have b_Srows := F_Srows.binds (ps := ["self"]) fun _ _ _ _ _ _ us hl => match us, hl with | [_], _ => rfl
  refine ⟨_, fun s v => ?_, fun base _ _ => join (cO := cO) (cC := cC) (cG := cG) (cS := cS) T UO UC UG US nlO nhO nlC nhC
    ⟨F_tupled, PySem.W.mg_of X G a_tupled, b_tupled⟩ ⟨F_coming, PySem.W.mg_of X G a_coming, b_coming⟩ ⟨F_crowd_of, PySem.W.mg_of X G a_crowd_of, b_crowd_of⟩ ⟨F_width, PySem.W.mg_of X G a_width, b_width⟩ ⟨F_are_marked, PySem.W.mg_of X G a_are_marked, b_are_marked⟩ ⟨F_is_one_of, PySem.W.mg_of X G a_is_one_of, b_is_one_of⟩ ⟨F_is_row_of, PySem.W.mg_of X G a_is_row_of, b_is_row_of⟩ ⟨F_are_counters, PySem.W.mg_of X G a_are_counters, b_are_counters⟩ ⟨F_counted, PySem.W.mg_of X G a_counted, b_counted⟩ ⟨F_elder_log, PySem.W.mg_of X G a_elder_log, b_elder_log⟩ ⟨F_fewest_on, PySem.W.mg_of X G a_fewest_on, b_fewest_on⟩ ⟨F_stairs, PySem.W.mg_of X G a_stairs, b_stairs⟩ ⟨F_stair_costs, PySem.W.mg_of X G a_stair_costs, b_stair_costs⟩ ⟨F_box, PySem.W.mg_of X G a_box, b_box⟩ ⟨F_take, PySem.W.mg_of X G a_take, b_take⟩ ⟨F_of, PySem.W.mg_of X G a_of, b_of⟩ ⟨F_events, PySem.W.mg_of X G a_events, b_events⟩ ⟨F_as_come, PySem.W.mg_of X G a_as_come, b_as_come⟩ ⟨F_lmarked, PySem.W.mg_of X G a_lmarked, b_lmarked⟩ ⟨F_names, PySem.W.mg_of X G a_names, b_names⟩ ⟨F_log, PySem.W.mg_of X G a_log, b_log⟩ ⟨F_order, PySem.W.mg_of X G a_order, b_order⟩ ⟨F_marked_come, PySem.W.mg_of X G a_marked_come, b_marked_come⟩ ⟨F_rows, PySem.W.mg_of X G a_rows, b_rows⟩ ⟨F_bounds, PySem.W.mg_of X G a_bounds, b_bounds⟩ ⟨F_moment, PySem.W.mg_of X G a_moment, b_moment⟩ ⟨F_right, PySem.W.mg_of X G a_right, b_right⟩ ⟨F_law, PySem.W.mg_of X G a_law, b_law⟩
    ⟨F_Oinit, ⟨a_Oinit, i_Oinit, k_Oinit⟩, b_Oinit⟩ ⟨F_Oiter, ⟨a_Oiter, i_Oiter, k_Oiter⟩, b_Oiter⟩ ⟨F_Olead, ⟨a_Olead, i_Olead, k_Olead⟩, b_Olead⟩ ⟨F_Omarked, ⟨a_Omarked, i_Omarked, k_Omarked⟩, b_Omarked⟩ ⟨F_Oahead, ⟨a_Oahead, i_Oahead, k_Oahead⟩, b_Oahead⟩ ⟨F_Cinit, ⟨a_Cinit, i_Cinit, k_Cinit⟩, b_Cinit⟩ ⟨F_Citer, ⟨a_Citer, i_Citer, k_Citer⟩, b_Citer⟩ ⟨F_Cpull, ⟨a_Cpull, i_Cpull, k_Cpull⟩, b_Cpull⟩ ⟨F_Cwidth, ⟨a_Cwidth, i_Cwidth, k_Cwidth⟩, b_Cwidth⟩ ⟨F_Ginit, ⟨a_Ginit, i_Ginit, k_Ginit⟩, b_Ginit⟩ ⟨F_Gelder, ⟨a_Gelder, i_Gelder, k_Gelder⟩, b_Gelder⟩ ⟨F_Gopen, ⟨a_Gopen, i_Gopen, k_Gopen⟩, b_Gopen⟩ ⟨F_Gahead, ⟨a_Gahead, i_Gahead, k_Gahead⟩, b_Gahead⟩ ⟨F_Gcrowd, ⟨a_Gcrowd, i_Gcrowd, k_Gcrowd⟩, b_Gcrowd⟩ ⟨F_Sinit, ⟨a_Sinit, i_Sinit, k_Sinit⟩, b_Sinit⟩ ⟨F_Sbegin, ⟨a_Sbegin, i_Sbegin, k_Sbegin⟩, b_Sbegin⟩ ⟨F_Sfit, ⟨a_Sfit, i_Sfit, k_Sfit⟩, b_Sfit⟩ ⟨F_Sput, ⟨a_Sput, i_Sput, k_Sput⟩, b_Sput⟩ ⟨F_Srows, ⟨a_Srows, i_Srows, k_Srows⟩, b_Srows⟩⟩
  exact .of_eq rfl
theorem walk {l : PySem.W.OpenLaw} {q : Program} {loose : List Str} {XP : (Str → Option Value) → Heap → Prop} {YP : World → Heap → Prop} {d : DefRec} {K : Params → PySem.W.Frag} (hn : l.most = some 63) (hdf : d.params.defaults = [])
    (hY : ∀ (w : World) (h : Heap), YP w h → (K w.params).In h)
    (F : ∀ (w : World) (mg : Str → Option Value) (fa : Addr) (h : Heap), (K w.params).In h → h.Ns mainGlobals mg → mg d.name = some (.ref fa) →
      ∃ fd : FuncData, (∀ (s : Shared) (u : Value), BindsTo s fd ⟨[u], []⟩ [("_law_script", u)]) ∧ ∀ base : Heap, (K w.params).In base → base.Ns mainGlobals mg → FnOk l.prog w (K w.params) mg base CX0 41 fa fd ["_law_script"] (spLaw (K w.params))) :
    PySem.W.WalkO q loose XP YP l.row.toRowW d [] (fun f vs => PySem.call f vs) :=
  L2.walk_of (n := 63) (k := 41) (x := "_law_script") (CX := fun _ => CX0) (sp := fun w => spLaw (K w.params)) hn (by decide) hdf ⟨rfl, by decide, by decide⟩ hY F (fun w H a ns hl _ hS => ⟨ns, (show ns.length ≤ 1000 by omega), ⟨.ref a, [], rfl, ⟨a, ns.map V.int, rfl, hS, ints_imL⟩, rfl⟩, fun v H' _ r => r⟩) fun _ _ _ _ _ z => z
end Fs

open PySem PySem.W PyProof.Rows in
set_option maxRecDepth 100000 in
set_option maxHeartbeats 0 in
theorem PySem.Challenge.cw_fewstamps_k63_whole_what_the_stairs_keep_holds : PySem.Challenge.rw_fewstamps_k63_whole_what_the_stairs_keep.Holds := by
  w_on; o_law; k_head; (case hw => w_witness2)
  k_fill
  refine Fs.walk (l := PySem.Challenge.rw_fewstamps_k63_whole_what_the_stairs_keep) rfl rfl (fun w h Y => PySem.W.kIn_of Y) ?F
  case F =>
    intro w mg fa h KX G hmg
    refine' Fs.all_mk KX G hmg ?aCO ?pgO ?icO ?poO ?saO ?mkO ?kcO ?tO0a ?tO0g ?tO0t ?tO0y ?tO0x ?tO1a ?tO1g ?tO1t ?tO1y ?tO1x ?tO2a ?tO2g ?tO2t ?tO2y ?tO2x ?tO3a ?tO3g ?tO3t ?tO3y ?tO3x ?aCC ?pgC ?icC ?poC ?saC ?mkC ?kcC ?tC0a ?tC0g ?tC0t ?tC0y ?tC0x ?tC1a ?tC1g ?tC1t ?tC1y ?tC1x ?aCG ?pgG ?icG ?poG ?saG ?mkG ?kcG ?tG0a ?tG0g ?tG0t ?tG0y ?tG0x ?tG1a ?tG1g ?tG1t ?tG1y ?tG1x ?tG2a ?tG2g ?tG2t ?tG2y ?tG2x ?aCS ?pgS ?icS ?poS ?saS ?mkS ?kcS ?tS0a ?tS0g ?tS0t ?tS0y ?tS0x ?tS1a ?tS1g ?tS1t ?tS1y ?tS1x ?tS2a ?tS2g ?tS2t ?tS2y ?tS2x ?nlO ?nhO ?nlC ?nhC ?a_tupled ?l_tupled ?c_tupled ?k_tupled ?a_coming ?l_coming ?c_coming ?k_coming ?a_crowd_of ?l_crowd_of ?c_crowd_of ?k_crowd_of ?a_width ?l_width ?c_width ?k_width ?a_are_marked ?l_are_marked ?c_are_marked ?k_are_marked ?a_is_one_of ?l_is_one_of ?c_is_one_of ?k_is_one_of ?a_is_row_of ?l_is_row_of ?c_is_row_of ?k_is_row_of ?a_are_counters ?l_are_counters ?c_are_counters ?k_are_counters ?a_counted ?l_counted ?c_counted ?k_counted ?a_elder_log ?l_elder_log ?c_elder_log ?k_elder_log ?a_fewest_on ?l_fewest_on ?c_fewest_on ?k_fewest_on ?a_stairs ?l_stairs ?c_stairs ?k_stairs ?a_stair_costs ?l_stair_costs ?c_stair_costs ?k_stair_costs ?a_box ?l_box ?c_box ?k_box ?a_take ?l_take ?c_take ?k_take ?a_of ?l_of ?c_of ?k_of ?a_events ?l_events ?c_events ?k_events ?a_as_come ?l_as_come ?c_as_come ?k_as_come ?a_lmarked ?l_lmarked ?c_lmarked ?k_lmarked ?a_names ?l_names ?c_names ?k_names ?a_log ?l_log ?c_log ?k_log ?a_order ?l_order ?c_order ?k_order ?a_marked_come ?l_marked_come ?c_marked_come ?k_marked_come ?a_rows ?l_rows ?c_rows ?k_rows ?a_bounds ?l_bounds ?c_bounds ?k_bounds ?a_moment ?l_moment ?c_moment ?k_moment ?a_right ?l_right ?c_right ?k_right ?a_law ?l_law ?c_law ?k_law ?a_Oinit ?i_Oinit ?l_Oinit ?c_Oinit ?k_Oinit ?a_Oiter ?i_Oiter ?l_Oiter ?c_Oiter ?k_Oiter ?a_Olead ?i_Olead ?l_Olead ?c_Olead ?k_Olead ?a_Omarked ?i_Omarked ?l_Omarked ?c_Omarked ?k_Omarked ?a_Oahead ?i_Oahead ?l_Oahead ?c_Oahead ?k_Oahead ?a_Cinit ?i_Cinit ?l_Cinit ?c_Cinit ?k_Cinit ?a_Citer ?i_Citer ?l_Citer ?c_Citer ?k_Citer ?a_Cpull ?i_Cpull ?l_Cpull ?c_Cpull ?k_Cpull ?a_Cwidth ?i_Cwidth ?l_Cwidth ?c_Cwidth ?k_Cwidth ?a_Ginit ?i_Ginit ?l_Ginit ?c_Ginit ?k_Ginit ?a_Gelder ?i_Gelder ?l_Gelder ?c_Gelder ?k_Gelder ?a_Gopen ?i_Gopen ?l_Gopen ?c_Gopen ?k_Gopen ?a_Gahead ?i_Gahead ?l_Gahead ?c_Gahead ?k_Gahead ?a_Gcrowd ?i_Gcrowd ?l_Gcrowd ?c_Gcrowd ?k_Gcrowd ?a_Sinit ?i_Sinit ?l_Sinit ?c_Sinit ?k_Sinit ?a_Sbegin ?i_Sbegin ?l_Sbegin ?c_Sbegin ?k_Sbegin ?a_Sfit ?i_Sfit ?l_Sfit ?c_Sfit ?k_Sfit ?a_Sput ?i_Sput ?l_Sput ?c_Sput ?k_Sput ?a_Srows ?i_Srows ?l_Srows ?c_Srows ?k_Srows ?z_isinstance ?z_list ?z_tuple ?z_len ?z_range ?z_iter ?z_all ?z_any ?z_zip ?z_sum ?z_sorted ?z_set ?z_dict ?z_int ?z_abs ?z_max ?z_min ?z_bool ?z_BARE
    (case aCO => k_is)
    (case pgO => k_is)
    (case icO => k_is)
    (case poO => k_is)
    (case saO => k_is)
    (case mkO => k_is)
    (case kcO => k_is)
    (case tO0a => k_is)
    (case tO0g => k_is)
    (case tO0t => k_is)
    (case tO0y => k_is)
    (case tO0x => k_is)
    (case tO1a => k_is)
    (case tO1g => k_is)
    (case tO1t => k_is)
    (case tO1y => k_is)
    (case tO1x => k_is)
    (case tO2a => k_is)
    (case tO2g => k_is)
    (case tO2t => k_is)
    (case tO2y => k_is)
    (case tO2x => k_is)
    (case tO3a => k_is)
    (case tO3g => k_is)
    (case tO3t => k_is)
    (case tO3y => k_is)
    (case tO3x => k_is)
    (case aCC => k_is)
    (case pgC => k_is)
    (case icC => k_is)
    (case poC => k_is)
    (case saC => k_is)
    (case mkC => k_is)
    (case kcC => k_is)
    (case tC0a => k_is)
    (case tC0g => k_is)
    (case tC0t => k_is)
    (case tC0y => k_is)
    (case tC0x => k_is)
    (case tC1a => k_is)
    (case tC1g => k_is)
    (case tC1t => k_is)
    (case tC1y => k_is)
    (case tC1x => k_is)
    (case aCG => k_is)
    (case pgG => k_is)
    (case icG => k_is)
    (case poG => k_is)
    (case saG => k_is)
    (case mkG => k_is)
    (case kcG => k_is)
    (case tG0a => k_is)
    (case tG0g => k_is)
    (case tG0t => k_is)
    (case tG0y => k_is)
    (case tG0x => k_is)
    (case tG1a => k_is)
    (case tG1g => k_is)
    (case tG1t => k_is)
    (case tG1y => k_is)
    (case tG1x => k_is)
    (case tG2a => k_is)
    (case tG2g => k_is)
    (case tG2t => k_is)
    (case tG2y => k_is)
    (case tG2x => k_is)
    (case aCS => k_is)
    (case pgS => k_is)
    (case icS => k_is)
    (case poS => k_is)
    (case saS => k_is)
    (case mkS => k_is)
    (case kcS => k_is)
    (case tS0a => k_is)
    (case tS0g => k_is)
    (case tS0t => k_is)
    (case tS0y => k_is)
    (case tS0x => k_is)
    (case tS1a => k_is)
    (case tS1g => k_is)
    (case tS1t => k_is)
    (case tS1y => k_is)
    (case tS1x => k_is)
    (case tS2a => k_is)
    (case tS2g => k_is)
    (case tS2t => k_is)
    (case tS2y => k_is)
    (case tS2x => k_is)
    (case nlO => k_is)
    (case nhO => k_is)
    (case nlC => k_is)
    (case nhC => k_is)
    (case a_tupled => k_is)
    (case l_tupled => k_is)
    (case c_tupled => k_is)
    (case k_tupled => k_is)
    (case a_coming => k_is)
    (case l_coming => k_is)
    (case c_coming => k_is)
    (case k_coming => k_is)
    (case a_crowd_of => k_is)
    (case l_crowd_of => k_is)
    (case c_crowd_of => k_is)
    (case k_crowd_of => k_is)
    (case a_width => k_is)
    (case l_width => k_is)
    (case c_width => k_is)
    (case k_width => k_is)
    (case a_are_marked => k_is)
    (case l_are_marked => k_is)
    (case c_are_marked => k_is)
    (case k_are_marked => k_is)
    (case a_is_one_of => k_is)
    (case l_is_one_of => k_is)
    (case c_is_one_of => k_is)
    (case k_is_one_of => k_is)
    (case a_is_row_of => k_is)
    (case l_is_row_of => k_is)
    (case c_is_row_of => k_is)
    (case k_is_row_of => k_is)
    (case a_are_counters => k_is)
    (case l_are_counters => k_is)
    (case c_are_counters => k_is)
    (case k_are_counters => k_is)
    (case a_counted => k_is)
    (case l_counted => k_is)
    (case c_counted => k_is)
    (case k_counted => k_is)
    (case a_elder_log => k_is)
    (case l_elder_log => k_is)
    (case c_elder_log => k_is)
    (case k_elder_log => k_is)
    (case a_fewest_on => k_is)
    (case l_fewest_on => k_is)
    (case c_fewest_on => k_is)
    (case k_fewest_on => k_is)
    (case a_stairs => k_is)
    (case l_stairs => k_is)
    (case c_stairs => k_is)
    (case k_stairs => k_is)
    (case a_stair_costs => k_is)
    (case l_stair_costs => k_is)
    (case c_stair_costs => k_is)
    (case k_stair_costs => k_is)
    (case a_box => k_is)
    (case l_box => k_is)
    (case c_box => k_is)
    (case k_box => k_is)
    (case a_take => k_is)
    (case l_take => k_is)
    (case c_take => k_is)
    (case k_take => k_is)
    (case a_of => k_is)
    (case l_of => k_is)
    (case c_of => k_is)
    (case k_of => k_is)
    (case a_events => k_is)
    (case l_events => k_is)
    (case c_events => k_is)
    (case k_events => k_is)
    (case a_as_come => k_is)
    (case l_as_come => k_is)
    (case c_as_come => k_is)
    (case k_as_come => k_is)
    (case a_lmarked => k_is)
    (case l_lmarked => k_is)
    (case c_lmarked => k_is)
    (case k_lmarked => k_is)
    (case a_names => k_is)
    (case l_names => k_is)
    (case c_names => k_is)
    (case k_names => k_is)
    (case a_log => k_is)
    (case l_log => k_is)
    (case c_log => k_is)
    (case k_log => k_is)
    (case a_order => k_is)
    (case l_order => k_is)
    (case c_order => k_is)
    (case k_order => k_is)
    (case a_marked_come => k_is)
    (case l_marked_come => k_is)
    (case c_marked_come => k_is)
    (case k_marked_come => k_is)
    (case a_rows => k_is)
    (case l_rows => k_is)
    (case c_rows => k_is)
    (case k_rows => k_is)
    (case a_bounds => k_is)
    (case l_bounds => k_is)
    (case c_bounds => k_is)
    (case k_bounds => k_is)
    (case a_moment => k_is)
    (case l_moment => k_is)
    (case c_moment => k_is)
    (case k_moment => k_is)
    (case a_right => k_is)
    (case l_right => k_is)
    (case c_right => k_is)
    (case k_right => k_is)
    (case a_law => k_is)
    (case l_law => k_is)
    (case c_law => k_is)
    (case k_law => k_is)
    (case a_Oinit => k_is)
    (case i_Oinit => k_is)
    (case l_Oinit => k_is)
    (case c_Oinit => k_is)
    (case k_Oinit => k_is)
    (case a_Oiter => k_is)
    (case i_Oiter => k_is)
    (case l_Oiter => k_is)
    (case c_Oiter => k_is)
    (case k_Oiter => k_is)
    (case a_Olead => k_is)
    (case i_Olead => k_is)
    (case l_Olead => k_is)
    (case c_Olead => k_is)
    (case k_Olead => k_is)
    (case a_Omarked => k_is)
    (case i_Omarked => k_is)
    (case l_Omarked => k_is)
    (case c_Omarked => k_is)
    (case k_Omarked => k_is)
    (case a_Oahead => k_is)
    (case i_Oahead => k_is)
    (case l_Oahead => k_is)
    (case c_Oahead => k_is)
    (case k_Oahead => k_is)
    (case a_Cinit => k_is)
    (case i_Cinit => k_is)
    (case l_Cinit => k_is)
    (case c_Cinit => k_is)
    (case k_Cinit => k_is)
    (case a_Citer => k_is)
    (case i_Citer => k_is)
    (case l_Citer => k_is)
    (case c_Citer => k_is)
    (case k_Citer => k_is)
    (case a_Cpull => k_is)
    (case i_Cpull => k_is)
    (case l_Cpull => k_is)
    (case c_Cpull => k_is)
    (case k_Cpull => k_is)
    (case a_Cwidth => k_is)
    (case i_Cwidth => k_is)
    (case l_Cwidth => k_is)
    (case c_Cwidth => k_is)
    (case k_Cwidth => k_is)
    (case a_Ginit => k_is)
    (case i_Ginit => k_is)
    (case l_Ginit => k_is)
    (case c_Ginit => k_is)
    (case k_Ginit => k_is)
    (case a_Gelder => k_is)
    (case i_Gelder => k_is)
    (case l_Gelder => k_is)
    (case c_Gelder => k_is)
    (case k_Gelder => k_is)
    (case a_Gopen => k_is)
    (case i_Gopen => k_is)
    (case l_Gopen => k_is)
    (case c_Gopen => k_is)
    (case k_Gopen => k_is)
    (case a_Gahead => k_is)
    (case i_Gahead => k_is)
    (case l_Gahead => k_is)
    (case c_Gahead => k_is)
    (case k_Gahead => k_is)
    (case a_Gcrowd => k_is)
    (case i_Gcrowd => k_is)
    (case l_Gcrowd => k_is)
    (case c_Gcrowd => k_is)
    (case k_Gcrowd => k_is)
    (case a_Sinit => k_is)
    (case i_Sinit => k_is)
    (case l_Sinit => k_is)
    (case c_Sinit => k_is)
    (case k_Sinit => k_is)
    (case a_Sbegin => k_is)
    (case i_Sbegin => k_is)
    (case l_Sbegin => k_is)
    (case c_Sbegin => k_is)
    (case k_Sbegin => k_is)
    (case a_Sfit => k_is)
    (case i_Sfit => k_is)
    (case l_Sfit => k_is)
    (case c_Sfit => k_is)
    (case k_Sfit => k_is)
    (case a_Sput => k_is)
    (case i_Sput => k_is)
    (case l_Sput => k_is)
    (case c_Sput => k_is)
    (case k_Sput => k_is)
    (case a_Srows => k_is)
    (case i_Srows => k_is)
    (case l_Srows => k_is)
    (case c_Srows => k_is)
    (case k_Srows => k_is)
    (case z_isinstance => k_is)
    (case z_list => k_is)
    (case z_tuple => k_is)
    (case z_len => k_is)
    (case z_range => k_is)
    (case z_iter => k_is)
    (case z_all => k_is)
    (case z_any => k_is)
    (case z_zip => k_is)
    (case z_sum => k_is)
    (case z_sorted => k_is)
    (case z_set => k_is)
    (case z_dict => k_is)
    (case z_int => k_is)
    (case z_abs => k_is)
    (case z_max => k_is)
    (case z_min => k_is)
    (case z_bool => k_is)
    (case z_BARE => k_is)
#print axioms PySem.Challenge.cw_fewstamps_k63_whole_what_the_stairs_keep_holds
